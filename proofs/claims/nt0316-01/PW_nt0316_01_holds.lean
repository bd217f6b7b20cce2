import PyProof.Rows.All
import Wide.All
import OpenK.AllK
import Wide.FinOn
import KE.KDictLaws
import PyProof.CallStr
import Lean
import PySem.Challenge.RW_nt0316_01
open PySem PySem.W PyProof.Rows PySem.Calls
set_option Elab.async false
set_option maxRecDepth 100000
set_option linter.all false
set_option maxHeartbeats 0
set_option genInjectivity false
set_option genSizeOf false
set_option bootstrap.genMatcherCode false
set_option compiler.extract_closed false
open And renaming left→f7,right→vC
open _root_.Array renaming length_toList→mI,getElem?_eq_getElem→pb,getElem?_toList→vp,mem_toList_iff→AB,toList_push→ET,getD_eq_getD_getElem?→Lc,toList_map→Zg,all_toList→Zi,getElem?_eq_none→alC
open _root_.Bool renaming and_eq_true_iff→cK,false_ne_true→gY,not_eq_true'→mK,false_eq_true→pe,not_eq_false'→rE,and_eq_true→rI,eq_iff_iff→rL,or_eq_true→L8,not_and→Mo,or_eq_false_iff→YO
open Decidable renaming byContradiction→YF
open ForInStep renaming yield→E1
open Function renaming comp→Mi
open _root_.Int renaming ofNat_lt→dN,natCast_nonneg→fY,ofNat_le→ko,not_lt→nZ,toNat_natCast→pf,lt_trans→ph,le_trans→rO,lt_of_lt_of_le→tm,add_le_add_right→Az,lt_of_le_of_lt→Lu,ofNat_sub→Mb,sub_zero→Mk,ne_of_gt→Mn,toNat_of_nonneg→YS,lt_trichotomy→Y6,fmod_eq_emod_of_nonneg→alg,fdiv_eq_ediv_of_nonneg→alh,add_neg_cancel_right→alm
open Int.ofNat renaming inj→AR
open LawfulBEq renaming eq_of_beq→n9
open LawfulMonad renaming pure_bind→A7
open Lean renaming Syntax→A0
open _root_.List renaming length_map→aZ,getElem?_eq_getElem→bS,length_append→bW,mem_singleton→cL,map_append→cR,range→cS,map_map→dp,mem_map→dD,getD_eq_getElem?_getD→dG,getElem?_map→dM,mem_cons→eO,append_nil→fj,append_assoc→fK,mem_append→fZ,map_cons→gC,all_eq_true→iz,getElem?_eq_some_iff→iL,length_cons→jP,lookup_cons→kj,foldl_cons→km,mem_append_right→kY,length_singleton→mH,filter_cons→mM,nodup_cons→mN,range'→mQ,nodup_append→nT,map_congr_left→pd,replicate→qr,not_mem_nil→rJ,mem_filter→rK,find?_cons→rM,mem_of_getElem?→tj,length_nil→tv,dropLast_concat_getLast→vi,append_cancel_left→vm,take_of_length_le→vn,contains_iff_mem→vo,map_reverse→vr,getElem_mem→vt,any_eq_true→vv,nil_append→vx,getElem?_append_left→xD,head_eq_of_cons_eq→xE,map_eq_nil_iff→xG,size_toArray→xJ,cons_append→xK,any_cons→xO,eq_nil_of_length_eq_zero→Av,flatten_cons→AH,getElem?_append_right→EC,filter_cons_of_neg→EE,filter_cons_of_pos→EF,length_filter_le→EH,mem_append_left→EJ,filter_eq_self→EK,length_reverse→EL,length_pos_iff→ER,length_range'→ES,zipIdx_cons→EV,mem_flatMap→EX,length_set→E5,nodup_nil→E8,mem_range→E9,map_nil→Fc,drop_eq_getElem_cons→Lf,filter_eq_nil_iff→Ln,pairwise_append→Lq,find?_eq_none→Lv,filter_append→Lw,take_add_one→Lx,length_take→L0,drop_length→L1,isEmpty_iff→L3,forIn_cons→L6,toArray→Mm,getElem?_eq_none_iff→YE,length_erase_of_mem→YG,getElem?_of_mem→YN,length_eraseIdx→YR,getElem?_range→YU,mem_map_of_mem→YW,filterMap_map→YZ,map_inj_left→Y2,pairwise_map→Y3,foldl_append→Y8,mem_range'_1→Y9,flatten_nil→Zj,mem_reverse→Zk,perm_ext_iff_of_nodup→ali,mem_of_find?_eq_some→alj,getElem?_cons_succ→aly
open List.Pairwise renaming nil→Y4
open List.Perm renaming eq_of_pairwise→YH
open List.cons renaming injEq→L9
open _root_.Nat renaming le_trans→aR,le_of_ble_eq_true→cG,le_refl→cP,zero_le→dE,lt_of_lt_of_le→ey,mul_le_mul_left→eN,add_le_add→gk,add_le_add_right→iN,ne_of_lt→iP,le_of_lt→iQ,lt_of_le_of_lt→je,lt_trans→jQ,lt_succ_self→kZ,blt→lg,le_add_right→mL,zero_add→mO,succ_pos→nU,le_succ→nW,succ_le_succ→qn,le_antisymm→qq,le_succ_of_le→rG,le_of_eq→rN,beq→rQ,add_comm→tC,ne_of_gt→vz,lt_succ_of_lt→xI,not_lt_zero→xM,add_le_add_left→AD,le_of_lt_succ→AE,le_of_succ_le→AG,lt_irrefl→AU,add_assoc→AV,succ_add→AX,sub_le→A3,le_of_succ_le_succ→EG,le_of_not_lt→EY,sub_lt→Fk,mod_lt→Fl,sub_lt_sub_left→Ls,mod_eq_of_lt→Lz,lt_of_succ_lt_succ→YI,eq_zero_of_not_pos→YK,le_of_sub_eq_zero→YL,lt_of_sub_eq_succ→YM,lt_or_eq_of_le→YX,add_right_comm→Y1,lt_succ_of_le→Za,succ_ne_self→Zd,not_lt_of_le→Zf
open _root_.Option renaming map_eq_some_iff→tg,bind_eq_some_iff→vj,isNone_iff_eq_none→ED,isSome_iff_exists→Lh,map_eq_none_iff→YJ,isSome_some→YY,getD_some→Zc
open Option.some renaming inj→bt
open PLift renaming down→Fm
open Prod.mk renaming inj→k8
open PyProof.Rows renaming seqObj→jS,subscriptTail→Mh
open PyProof.Rows.F renaming plain_set_update_loop→YA,entry_set_update_loop→ak4
open PySem renaming Value→ak,Shared→aw,wpAny_bind→aC,wpAny→aM,wpAny_pure→aO,Around→bj,Str→bx,wpAny_mono→b0,World→cM,starEach→cU,Program→dv,backTo→dZ,wpAny_of_eq→eF,NameKind→fy,Model→fA,SetTable→fN,argsOk→gp,builtinLookup_eq_fast→iM,typeLookup_type→iO,wpAny_holding→jf,Operator→jw,entryFor→jx,cellsFrom→jR,wpAny_standAt→k0,Result→lj,isSubtype_type→lT,keywordEach→lU,callWith→lW,backToKw→lX,call_meets→mR,swapsWith→mS,sizeLine→mT,pyNext→mV,rawInt→mW,mainGlobals→nV,standAt→oe,signature?_of→pg,FuncData→pj,entryFor_of_tree→qo,entryFor_of_fast→qp,swappedStores→qt,assignEach→qw,wpAny_newObj_type→rF,wpAny_call_entry→rH,wpAny_rule→rP,BindsTo→rR,codeAny→rS,typeLookup→tD,wpAny_load→tE,getMethod→tF,wpAny_ite→tG,scanBound→tH,wpAny_specialOf→vw,sysModules→vB,foldedSetIterable→xH,plainId_quiet→xP,wpAny_typeOf→xQ,seqItems?→xS,pickOrder→xT,relayAll→xU,wpAny_callSpecial?_slot→Aw,wpAny_truthy_bool→AF,wpAny_setState_of→AI,wpAny_isInstance→AJ,wpAny_loadPart'→AL,codeAny_builtin→AN,wpAny_setField→AP,strKind→AS,wpAny_attempt→AW,assign→AY,codeAny_mono→AZ,sizeLine_eq→A2,strKind_is→A4,seqIndex?→A5,wpAny_setEntries_of→EO,wpAny_eqBool_int→EU,checkBuiltinCall→EW,wpAny_execs_nil→EZ,wpAny_ite_split→E4,methodCallForm→E6,wpAny_seqItems→E7,wpAny_mkInt→Fj,builtinsNs→Fp,intKind_is→Fq,letOwnedTupleGo→L5,theTreesLotGoes→L7,wpAny_fieldsOf→Ma,behindInMarks→Mc,wpAny_mkBytes→Mj,bootBuiltins→Ml,wpAny_setItem_pairs→YT,wpAny_pyIter_list→Y5,wpAny_getItem_of→Zb,wpAny_Dict_empty→Ze,wpAny_askSetting→Zh,wpAny_newFunctionEnv_cells→ale,richCompare_meets_room→alz
open PySem.Around renaming under_plainId→xF
open PySem.AutoSeq1 renaming sub_tuple_tuple→aln
open PySem.Builtin renaming bitAnd→vy,bitOr→Md
open PySem.Builtin.Bytes renaming buffer?→Ay,occurrences→Lg,containsIn→Li,find?→Lr,takeBufferQuiet?→YB,joined→YQ,order→YV,bindOptional→alf,searchArgs→alp,ownRelease→alr,exportsOf→alv,slotIsOwn→alw,exported→alB
open PySem.Builtin.Bytes.Kind renaming bytes→alq
open PySem.Builtin.Bytes.joinM renaming match_1→alb
open PySem.Builtin.List renaming listExtendWith→YC,listLengthHint→alc,listSameRef→als
open PySem.Builtin.Range renaming rangeSize→alu
open PySem.Builtin.Slice renaming slicePlaces→Ld,sliceAdjust→YD,sliceApplied→ald
open PySem.Builtin.Tuple renaming tupleExact→Lk
open PySem.Challenge renaming rw_nt0316_01→ak9
open PySem.Data renaming noConfusion→Ax
open PySem.F renaming plainAttrs_list→Ly,plain_extend_loop→alk,plain_list_iadd→alx,slot_dict_setdefault→alA
open PySem.Heap renaming get?_push_of_some→dY,get?_push_size→fX,SameBut→ju,lt_size→mP,get?_update_self→rD,size_push→tz,ExtBut→A1,get?_none_of_le→EI,get?_update_other→Lo
open PySem.Heap.IsSliceOf renaming new→Y0
open PySem.Heap.SameBut renaming update→mJ
open PySem.NameKind renaming free→qu,cell→Fb
open PySem.Obj renaming mapSeq→jv,mapFields→tA,data_mapFields→vq,putName→Fh,isFreed_of_fields→Lp,cls_mapFields→Y7
open PySem.Sem renaming wp_mono→vA,wp_bind'→Ff
open PySem.SeqRoads2 renaming notIn_meets→ala,in_meets→alo
open PySem.SetTable renaming grown→xN,below→AQ
open PySem.Str renaming ofString→ax,ofString→fL
open PySem.Value renaming none→kq,type→k9,isInt→xR,ref→A6,bytes→Fi
open PySem.W renaming bytesKind→fM,typeIs_bytes→f6,emptyDict→lV,instObj→mU,enumItems→qx,kas_sort→qy,SharedT→tJ,isBytes→tK,bytesKind_is→Fd
open PySem.W.FB renaming owner_bytes→AO,plainAttrs_bytes→EN,args_bytes_contains_2→Lj,entry_bytes_contains→Ll,slot_bytes_contains→Lm
open PySem.W.Fast renaming te14364793385576792824→ak5,te10156331382660048174→ak6,te11892475500146522536→ak7,te6613529449190102663→ak8
open PySem.W.KBy renaming ite_no→Fs,buffer_eq→Mf
open Subtype renaming property→eZ
namespace Internal
set_option tactic.hygienic false
def aA:A0:=PySem.W.name_B._auto_3
def aI:A0:=PySem.wpAny_For._auto_3
def aJ:A0:=PySem.Subscript_Name._auto_1
def aW:A0:=PySem.W.kim_tup._auto_3
def aK:A0:=PySem.ldc._auto_1
def aX:A0:=PySem.wpAny_run._auto_3
theorem aB(h:True:=by first |assumption |rfl):True:=h
theorem aG(h:True:=by exact cG rfl):True:=h
theorem xV(n:Nat):((n+1:Nat):Int)- 1=n:=Int.add_sub_cancel (n:Int) 1
theorem jy{α:Type}{a:α}{P:Prop}(h:some a=none):P:=nomatch h
theorem bo{α:Type}{a:α}{P:Prop}(h:none=some a):P:=nomatch h
theorem iR{P:Prop}(h:true=false):P:=nomatch h
theorem eP{P:Prop}(h:false=true):P:=nomatch h
theorem og{α:Type}{a:α}{l:List α}{P:Prop}(h:a::l=[]):P:=nomatch h
theorem vD{α:Type}{a:α}{l:List α}{P:Prop}(h:[]=a::l):P:=nomatch h
theorem cA{α:Type}{a:α}{P:Prop}(h:a∈([]:List α)):P:=nomatch h
theorem rT{n:Nat}{P:Prop}(h:0=n+1):P:=nomatch h
theorem A8{n:Nat}{P:Prop}(h:n+1=0):P:=nomatch h
theorem tL{n:Nat}{P:Prop}(h:n<0):P:=nomatch h
theorem el{a b:Nat}(h:a=b):a<=b:=rN h
theorem er{a b:Nat}(h:a=b):b<=a:=rN h.symm
theorem lz{x m k n:Nat}(h:x<=m)(e:Nat.ble (m+k) n=true):x+k<=n:=aR (iN h k) (cG e)
theorem cB{x m n:Nat}(h:x<=m)(e:Nat.ble m n=true):x<=n:=aR h (cG e)
theorem jT{x y m n:Nat}(h:x<=y)(g:y<=m)(e:Nat.ble m n=true):x<=n:=aR h (aR g (cG e))
theorem xW{x y m n:Nat}(h:x=y)(g:y<=m)(e:Nat.ble m n=true):x<=n:=jT (el h) g e
theorem Zl{x y m n:Nat}(h:y=x)(g:y<=m)(e:Nat.ble m n=true):x<=n:=jT (er h) g e
theorem l1{a b c d:Nat}(h:a<=b)(e:c+b<=d+a):c<=d:=Nat.le_of_add_le_add_right (aR e (AD h d))
theorem l2{a b a2 b2 c d:Nat}(h:a<=b)(h2:a2<=b2)(e:c+(b+b2)<=d+(a+a2)):c<=d:=l1 (gk h h2) e
theorem l3{a b a2 b2 a3 b3 c d:Nat}(h:a<=b)(h2:a2<=b2)(h3:a3<=b3)(e:c+(b+b2+b3)<=d+(a+a2+a3)):c<=d:=l1 (gk (gk h h2) h3) e
theorem l4{a b a2 b2 a3 b3 a4 b4 c d:Nat}(h:a<=b)(h2:a2<=b2)(h3:a3<=b3)(h4:a4<=b4)(e:c+(b+b2+b3+b4)<=d+(a+a2+a3+a4)):c<=d:=l1 (gk (gk (gk h h2) h3) h4) e
theorem l5{a b a2 b2 a3 b3 a4 b4 a5 b5 c d:Nat}(h:a<=b)(h2:a2<=b2)(h3:a3<=b3)(h4:a4<=b4)(h5:a5<=b5)(e:c+(b+b2+b3+b4+b5)<=d+(a+a2+a3+a4+a5)):c<=d:=l1 (gk (gk (gk (gk h h2) h3) h4) h5) e
theorem q1{a b c d:Nat}(h:a=b)(e:c+b=d+a):c=d:=Nat.add_right_cancel (h▸e)
theorem f1{a b:Nat}(h:a<=b)(e:b+1<=a):False:=Nat.not_succ_le_self _ (aR e h)
theorem l6{a b a2 b2 a3 b3 a4 b4 a5 b5 a6 b6 c d:Nat}(h:a<=b)(h2:a2<=b2)(h3:a3<=b3)(h4:a4<=b4)(h5:a5<=b5)(h6:a6<=b6)(e:c+(b+b2+b3+b4+b5+b6)<=d+(a+a2+a3+a4+a5+a6)):c<=d:=l1 (gk (gk (gk (gk (gk h h2) h3) h4) h5) h6) e
theorem Zm{i:Nat}(h:i<1000):-2^62<=(i:Int)/\(i:Int)<2^62:=⟨rO (by decide) (fY _),ph (dN.2 h) (by decide)⟩
theorem Zn{i:Int}{n:Nat}(h:-(n:Int)<=i):0<=i+n:=Int.add_left_neg (n:Int)▸Az h n
theorem Zo{i:Int}(h:-2^62<=i/\i<2^62):-9223372036854775808<=i/\i<9223372036854775808:=⟨rO (by decide) h.1,ph h.2 (by decide)⟩
theorem Zp(k:Nat):((k:Int)- 0- 1+1).toNat=k:=congrArg Int.toNat ((Int.sub_add_cancel ((k:Int)- 0) 1).trans (Mk k))
theorem Zq{k:Nat}(h:¬(k:Int)>0):Int.toNat 0=k:=by induction k with
 |zero=>rfl
 |succ n=>exact(h (dN.2 (nU n))).elim
theorem Zr(k:Nat):((k:Int)- 1- -1- -1- 1).toNat=k:=congrArg Int.toNat ((alm ((k:Int)+-1+1) 1).trans (Int.neg_add_cancel_right (k:Int) 1))
theorem Zt{k:Nat}(h:¬(k:Int)- 1>-1):Int.toNat 0=k:=by induction k with
 |zero=>rfl
 |succ n=>exact(h (xV n▸tm (by decide) (fY n))).elim
theorem Zu(n:Nat):(-1+((n:Int)+1)).toNat=n:=congrArg Int.toNat ((Int.add_comm ..).trans (alm (n:Int) 1))
theorem Zv{s m:Nat}(h:m+1<=s):s- 1- m<s:=je (A3 ..) (Fk (ey (nU m) h) Nat.one_pos)
theorem Zw{s m:Nat}(h:m+1<=s):((s:Int)- 1+-1*(m:Int)).toNat=s- 1- m:=by
 rw[Int.neg_mul,Int.one_mul,<-Int.sub_eq_add_neg,show(s:Int)- 1=((s- 1:Nat):Int)from(Mb (aR (qn (dE m)) h)).symm,<-Mb (Nat.le_sub_of_add_le h)];rfl
theorem Zx(a:Int)(y:Nat):a- ((y+1:Nat):Int)=a- (y:Int)- 1:=(Int.sub_sub a y 1).symm
theorem Mp{n:Nat}(h:2<=n)(k:n<=4):n=2\/n=3\/n=4:=(YX h).elim (λa=>(YX k).elim (λb=>.inr (.inl (qq (AE b) a))) λb=>.inr (.inr b)) λa=>.inl a.symm
theorem zo{n:Nat}(h:n<=1):n=0\/n=1:=(YX h).elim (λa=>.inl (Nat.lt_one_iff.1 a)) .inr
theorem Zy{a b c:Int}(h:a<c):a<b\/b<c:=(Decidable.em (a<b)).imp id λx=>Lu (nZ.1 x) h
theorem Zz{i x:Nat}:0+min i x<=i:=aR (el (mO _)) (Nat.min_le_left ..)
theorem Mq{n:Nat}(h:n<256):n/16<16:=Nat.div_lt_of_lt_mul (show n<16*16 from h)
theorem ZA{k n:Nat}(h:n<256)(g:k=0\/k=0\/k=0\/k=n):k<256:=by
 have z:k=0->k<256:=λe=>e▸cG rfl;exact g.elim z λg=>g.elim z λg=>g.elim z λe=>e▸h
theorem ZC{k:Nat}(h:48<=k/\k<=57)(e:k%256=0):False:=Nat.not_succ_le_zero 47 (((Lz (je h.2 (cG rfl))).symm.trans e)▸h.1)
theorem ZD{i k:Nat}(h:k+1=i+1+k+1):False:=iP (Nat.succ_lt_succ (Nat.lt_add_of_pos_left (nU i))) h
theorem ZE(n:Nat):¬(n:Int)+1=0:=λh=>Nat.succ_ne_zero n (AR h)
theorem ZF(n:Nat):48+((n%8:Nat):Int)<256:=dN.2 (ey (Nat.add_lt_add_left (Fl n (nU 7)) 48) (cG rfl))
theorem ZG{r b:Int}(h:0<b)(g:r<b):(r.toNat:Int)<b:=by induction r with
 |ofNat n=>exact g
 |negSucc n=>exact h
theorem ZH{a b k:Nat}(h:a+b=k)(g:0<a):a- 1+(b+1)=k:=by induction a with
 |zero=>exact tL g
 |succ a=>exact(AX a b).symm.trans h
theorem ZI{k n:Nat}(h:k<0+n)(g:n<=4):900- 10*(k:Int)=((900- 10*k:Nat):Int):=(Mb (m:=10*k) (n:=900) (cB (eN 10 (iQ (ey (mO n▸h) g))) rfl)).symm
theorem Mr{a:Nat}(h:0<a):(a- 1)/2<a:=je (Nat.div_le_self ..) (Fk h Nat.one_pos)
theorem Ms{a:Nat}(h:0<a):((a:Int)- 1)/2=(((a- 1)/2:Nat):Int):=by induction a with
 |zero=>exact tL h
 |succ n=>rw[xV];rfl
theorem Mt{a b:Nat}(h:b+1<=a):a- (b+1)+1<=a- b:=rN (Nat.succ_pred_eq_of_pos (Nat.sub_pos_of_lt h))
theorem Mu(t f:Nat):(t:Int)<f↔¬f<=t:=Int.ofNat_lt.trans Nat.not_le.symm
theorem Mv{a:Nat}{b k:Nat}(h:a- b=k+1):a- (b+1)=k:=(Nat.sub_succ a b).trans (congrArg Nat.pred h)
theorem xa{A:Prop}{B:Prop}{G:Prop}(h:A/\B)(k:A->B->G):G:=h.elim λa1 h=>k a1 h
theorem pq{A:Prop}{B:Prop}{C:Prop}{G:Prop}(h:A/\B/\C)(k:A->B->C->G):G:=h.elim λa1 h=>h.elim λb1 h=>k a1 b1 h
theorem xX{A:Prop}{B:Prop}{C:Prop}{D:Prop}{G:Prop}(h:A/\B/\C/\D)(k:A->B->C->D->G):G:=h.elim λa1 h=>h.elim λb1 h=>h.elim λc1 h=>k a1 b1 c1 h
theorem Mw{T0:Type}{A:Prop}{B:T0->Prop}{C:T0->Prop}{D:T0->Prop}{E:T0->Prop}{F:T0->Prop}{G:Prop}(h:A/\∃x,B x/\C x/\D x/\E x/\F x)(k:A->∀x,B x->C x->D x->E x->F x->G):G:=h.elim λa1 h=>h.elim λx h=>h.elim λb1 h=>h.elim λc1 h=>h.elim λd1 h=>h.elim λe1 h=>k a1 x b1 c1 d1 e1 h
theorem xe{T0:Type}{A:T0->Prop}{G:Prop}(h:∃x,A x)(k:∀x,A x->G):G:=h.elim λx h=>k x h
theorem a9{T0:Type}{A:T0->Prop}{B:T0->Prop}{G:Prop}(h:∃x,A x/\B x)(k:∀x,A x->B x->G):G:=h.elim λx h=>h.elim λa1 h=>k x a1 h
theorem bF{T0:Type}{A:T0->Prop}{B:T0->Prop}{C:T0->Prop}{G:Prop}(h:∃x,A x/\B x/\C x)(k:∀x,A x->B x->C x->G):G:=h.elim λx h=>h.elim λa1 h=>h.elim λb1 h=>k x a1 b1 h
theorem cz{T0:Type}{A:T0->Prop}{B:T0->Prop}{C:T0->Prop}{D:T0->Prop}{G:Prop}(h:∃x,A x/\B x/\C x/\D x)(k:∀x,A x->B x->C x->D x->G):G:=h.elim λx h=>h.elim λa1 h=>h.elim λb1 h=>h.elim λc1 h=>k x a1 b1 c1 h
theorem rU{T0:Type}{A:T0->Prop}{B:T0->Prop}{C:T0->Prop}{D:T0->Prop}{E:T0->Prop}{G:Prop}(h:∃x,A x/\B x/\C x/\D x/\E x)(k:∀x,A x->B x->C x->D x->E x->G):G:=h.elim λx h=>h.elim λa1 h=>h.elim λb1 h=>h.elim λc1 h=>h.elim λd1 h=>k x a1 b1 c1 d1 h
theorem gF{T0 T1:Type}{A:T0->T1->Prop}{G:Prop}(h:∃x,∃y,A x y)(k:∀x,∀y,A x y->G):G:=h.elim λx h=>h.elim λy h=>k x y h
theorem gH{T0 T1:Type}{A:T0->T1->Prop}{B:T0->T1->Prop}{G:Prop}(h:∃x,∃y,A x y/\B x y)(k:∀x,∀y,A x y->B x y->G):G:=h.elim λx h=>h.elim λy h=>h.elim λa1 h=>k x y a1 h
theorem jg{T0 T1:Type}{A:T0->T1->Prop}{B:T0->T1->Prop}{C:T0->T1->Prop}{G:Prop}(h:∃x,∃y,A x y/\B x y/\C x y)(k:∀x,∀y,A x y->B x y->C x y->G):G:=h.elim λx h=>h.elim λy h=>h.elim λa1 h=>h.elim λb1 h=>k x y a1 b1 h
theorem xY{T0 T1:Type}{A:T0->T1->Prop}{B:T0->T1->Prop}{C:T0->T1->Prop}{D:T0->T1->Prop}{G:Prop}(h:∃x,∃y,A x y/\B x y/\C x y/\D x y)(k:∀x,∀y,A x y->B x y->C x y->D x y->G):G:=h.elim λx h=>h.elim λy h=>h.elim λa1 h=>h.elim λb1 h=>h.elim λc1 h=>k x y a1 b1 c1 h
theorem mX{T0 T1:Type}{A:T0->T1->Prop}{B:T0->T1->Prop}{C:T0->T1->Prop}{D:T0->T1->Prop}{E:T0->T1->Prop}{G:Prop}(h:∃x,∃y,A x y/\B x y/\C x y/\D x y/\E x y)(k:∀x,∀y,A x y->B x y->C x y->D x y->E x y->G):G:=h.elim λx h=>h.elim λy h=>h.elim λa1 h=>h.elim λb1 h=>h.elim λc1 h=>h.elim λd1 h=>k x y a1 b1 c1 d1 h
theorem Ft{T0 T1 T2:Type}{A:T0->T1->T2->Prop}{G:Prop}(h:∃x,∃y,∃z,A x y z)(k:∀x,∀y,∀z,A x y z->G):G:=h.elim λx h=>h.elim λy h=>h.elim λz h=>k x y z h
theorem f9{T0 T1 T2:Type}{A:T0->T1->T2->Prop}{B:T0->T1->T2->Prop}{C:T0->T1->T2->Prop}{G:Prop}(h:∃x,∃y,∃z,A x y z/\B x y z/\C x y z)(k:∀x,∀y,∀z,A x y z->B x y z->C x y z->G):G:=h.elim λx h=>h.elim λy h=>h.elim λz h=>h.elim λa1 h=>h.elim λb1 h=>k x y z a1 b1 h
theorem Fu{T0 T1 T2:Type}{A:T0->T1->T2->Prop}{B:T0->T1->T2->Prop}{C:T0->T1->T2->Prop}{D:T0->T1->T2->Prop}{E:T0->T1->T2->Prop}{G:Prop}(h:∃x,∃y,∃z,A x y z/\B x y z/\C x y z/\D x y z/\E x y z)(k:∀x,∀y,∀z,A x y z->B x y z->C x y z->D x y z->E x y z->G):G:=h.elim λx h=>h.elim λy h=>h.elim λz h=>h.elim λa1 h=>h.elim λb1 h=>h.elim λc1 h=>h.elim λd1 h=>k x y z a1 b1 c1 d1 h
theorem My{T0 T1 T2:Type}{A:T0->T1->T2->Prop}{B:T0->T1->T2->Prop}{C:T0->T1->T2->Prop}{D:T0->T1->T2->Prop}{E:T0->T1->T2->Prop}{F:T0->T1->T2->Prop}{G:Prop}(h:∃x,∃y,∃z,A x y z/\B x y z/\C x y z/\D x y z/\E x y z/\F x y z)(k:∀x,∀y,∀z,A x y z->B x y z->C x y z->D x y z->E x y z->F x y z->G):G:=h.elim λx h=>h.elim λy h=>h.elim λz h=>h.elim λa1 h=>h.elim λb1 h=>h.elim λc1 h=>h.elim λd1 h=>h.elim λe1 h=>k x y z a1 b1 c1 d1 e1 h
theorem A9{T0 T1 T2:Type}{A:T0->T1->T2->Prop}{B:T0->T1->T2->Prop}{C:T0->T1->T2->Prop}{D:T0->T1->T2->Prop}{E:T0->T1->T2->Prop}{F:T0->T1->T2->Prop}{H:T0->T1->T2->Prop}{G:Prop}(h:∃x,∃y,∃z,A x y z/\B x y z/\C x y z/\D x y z/\E x y z/\F x y z/\H x y z)(k:∀x,∀y,∀z,A x y z->B x y z->C x y z->D x y z->E x y z->F x y z->H x y z->G):G:=h.elim λx h=>h.elim λy h=>h.elim λz h=>h.elim λa1 h=>h.elim λb1 h=>h.elim λc1 h=>h.elim λd1 h=>h.elim λe1 h=>h.elim λf1 h=>k x y z a1 b1 c1 d1 e1 f1 h
theorem Mz{T0 T1 T2:Type}{A:T0->T1->T2->Prop}{B:T0->T1->T2->Prop}{C:T0->T1->T2->Prop}{D:T0->T1->T2->Prop}{E:T0->T1->T2->Prop}{F:T0->T1->T2->Prop}{H:T0->T1->T2->Prop}{I:T0->T1->T2->Prop}{J:T0->T1->T2->Prop}{G:Prop}(h:∃x,∃y,∃z,A x y z/\B x y z/\C x y z/\D x y z/\E x y z/\F x y z/\H x y z/\I x y z/\J x y z)(k:∀x,∀y,∀z,A x y z->B x y z->C x y z->D x y z->E x y z->F x y z->H x y z->I x y z->J x y z->G):G:=h.elim λx h=>h.elim λy h=>h.elim λz h=>h.elim λa1 h=>h.elim λb1 h=>h.elim λc1 h=>h.elim λd1 h=>h.elim λe1 h=>h.elim λf1 h=>h.elim λh1 h=>h.elim λi1 h=>k x y z a1 b1 c1 d1 e1 f1 h1 i1 h
theorem tM{T0 T1 T2 T3:Type}{A:T0->T1->T2->T3->Prop}{B:T0->T1->T2->T3->Prop}{C:T0->T1->T2->T3->Prop}{D:T0->T1->T2->T3->Prop}{G:Prop}(h:∃x,∃y,∃z,∃u,A x y z u/\B x y z u/\C x y z u/\D x y z u)(k:∀x,∀y,∀z,∀u,A x y z u->B x y z u->C x y z u->D x y z u->G):G:=h.elim λx h=>h.elim λy h=>h.elim λz h=>h.elim λu h=>h.elim λa1 h=>h.elim λb1 h=>h.elim λc1 h=>k x y z u a1 b1 c1 h
theorem Fv{T0 T1 T2 T3:Type}{A:T0->T1->T2->T3->Prop}{B:T0->T1->T2->T3->Prop}{C:T0->T1->T2->T3->Prop}{D:T0->T1->T2->T3->Prop}{E:T0->T1->T2->T3->Prop}{F:T0->T1->T2->T3->Prop}{G:Prop}(h:∃x,∃y,∃z,∃u,A x y z u/\B x y z u/\C x y z u/\D x y z u/\E x y z u/\F x y z u)(k:∀x,∀y,∀z,∀u,A x y z u->B x y z u->C x y z u->D x y z u->E x y z u->F x y z u->G):G:=h.elim λx h=>h.elim λy h=>h.elim λz h=>h.elim λu h=>h.elim λa1 h=>h.elim λb1 h=>h.elim λc1 h=>h.elim λd1 h=>h.elim λe1 h=>k x y z u a1 b1 c1 d1 e1 h
theorem MJ{T0 T1 T2 T3:Type}{A:T0->T1->T2->T3->Prop}{B:T0->T1->T2->T3->Prop}{C:T0->T1->T2->T3->Prop}{D:T0->T1->T2->T3->Prop}{E:T0->T1->T2->T3->Prop}{F:T0->T1->T2->T3->Prop}{H:T0->T1->T2->T3->Prop}{I:T0->T1->T2->T3->Prop}{J:T0->T1->T2->T3->Prop}{G:Prop}(h:∃x,∃y,∃z,∃u,A x y z u/\B x y z u/\C x y z u/\D x y z u/\E x y z u/\F x y z u/\H x y z u/\I x y z u/\J x y z u)(k:∀x,∀y,∀z,∀u,A x y z u->B x y z u->C x y z u->D x y z u->E x y z u->F x y z u->H x y z u->I x y z u->J x y z u->G):G:=h.elim λx h=>h.elim λy h=>h.elim λz h=>h.elim λu h=>h.elim λa1 h=>h.elim λb1 h=>h.elim λc1 h=>h.elim λd1 h=>h.elim λe1 h=>h.elim λf1 h=>h.elim λh1 h=>h.elim λi1 h=>k x y z u a1 b1 c1 d1 e1 f1 h1 i1 h
theorem MK{T0 T1 T2 T3 T4:Type}{A:T0->T1->T2->T3->T4->Prop}{B:T0->T1->T2->T3->T4->Prop}{C:T0->T1->T2->T3->T4->Prop}{D:T0->T1->T2->T3->T4->Prop}{E:T0->T1->T2->T3->T4->Prop}{G:Prop}(h:∃x,∃y,∃z,∃u,∃v,A x y z u v/\B x y z u v/\C x y z u v/\D x y z u v/\E x y z u v)(k:∀x,∀y,∀z,∀u,∀v,A x y z u v->B x y z u v->C x y z u v->D x y z u v->E x y z u v->G):G:=h.elim λx h=>h.elim λy h=>h.elim λz h=>h.elim λu h=>h.elim λv h=>h.elim λa1 h=>h.elim λb1 h=>h.elim λc1 h=>h.elim λd1 h=>k x y z u v a1 b1 c1 d1 h
theorem ZJ{T0 T1 T2 T3 T4 T5 T6:Type}{A:T0->T1->T2->T3->T4->T5->T6->Prop}{B:T0->T1->T2->T3->T4->T5->T6->Prop}{C:T0->T1->T2->T3->T4->T5->T6->Prop}{D:T0->T1->T2->T3->T4->T5->T6->Prop}{E:T0->T1->T2->T3->T4->T5->T6->Prop}{G:Prop}(h:∃x,∃y,∃z,∃u,∃v,∃w,∃r,A x y z u v w r/\B x y z u v w r/\C x y z u v w r/\D x y z u v w r/\E x y z u v w r)(k:∀x,∀y,∀z,∀u,∀v,∀w,∀r,A x y z u v w r->B x y z u v w r->C x y z u v w r->D x y z u v w r->E x y z u v w r->G):G:=h.elim λx h=>h.elim λy h=>h.elim λz h=>h.elim λu h=>h.elim λv h=>h.elim λw h=>h.elim λr h=>h.elim λa1 h=>h.elim λb1 h=>h.elim λc1 h=>h.elim λd1 h=>k x y z u v w r a1 b1 c1 d1 h
theorem ML{T0 T1 T2 T3 T4 T5 T6 T7:Type}{A:T0->T1->T2->T3->T4->T5->T6->T7->Prop}{B:T0->T1->T2->T3->T4->T5->T6->T7->Prop}{C:T0->T1->T2->T3->T4->T5->T6->T7->Prop}{G:Prop}(h:∃x,∃y,∃z,∃u,∃v,∃w,∃r,∃s,A x y z u v w r s/\B x y z u v w r s/\C x y z u v w r s)(k:∀x,∀y,∀z,∀u,∀v,∀w,∀r,∀s,A x y z u v w r s->B x y z u v w r s->C x y z u v w r s->G):G:=h.elim λx h=>h.elim λy h=>h.elim λz h=>h.elim λu h=>h.elim λv h=>h.elim λw h=>h.elim λr h=>h.elim λs h=>h.elim λa1 h=>h.elim λb1 h=>k x y z u v w r s a1 b1 h
theorem MM{T0 T1 T2 T3:Type}{A:T0->T1->T2->T3->Prop}{B:T0->T1->T2->T3->Prop}{G:Prop}(h:∃x,∃y,∃z,∃u,A x y z u/\B x y z u)(k:∀x,∀y,∀z,∀u,A x y z u->B x y z u->G):G:=h.elim λx h=>h.elim λy h=>h.elim λz h=>h.elim λu h=>h.elim λa1 h=>k x y z u a1 h
theorem ZK{T0 T1:Type}{A:T0->Prop}{B:T0->Prop}{C:T0->T1->Prop}{D:T0->T1->Prop}{E:T0->T1->Prop}{F:T0->T1->Prop}{H:T0->T1->Prop}{I:T0->T1->Prop}{G:Prop}(h:∃x,A x/\B x/\∃y,C x y/\D x y/\E x y/\F x y/\H x y/\I x y)(k:∀x,A x->B x->∀y,C x y->D x y->E x y->F x y->H x y->I x y->G):G:=h.elim λx h=>h.elim λa1 h=>h.elim λb1 h=>h.elim λy h=>h.elim λc1 h=>h.elim λd1 h=>h.elim λe1 h=>h.elim λf1 h=>h.elim λh1 h=>k x a1 b1 y c1 d1 e1 f1 h1 h
variable {A:bj}{C I a aa ad al cd cl d dX da fa iJ il it l la nO na oa qd ra rl sl td tl wa wd:Addr}{E:ak->aw->Prop}{G:Prop}{K:Frag}{S:Nat->Heap->Prop}{T' a4 b2 b3 b4 b9 ep i j k' slot tk way:Nat}{Y:Addr->Prop}{args ifs ts:List Expr}{b c' content dT kind msg:List UInt8}{bg bq cg s s':aw}{body orelse:List Stmt}{c0 items:Array ak}{c9 fp:List Addr}{cf:Nat->Nat}{counts:List ( Option Nat )}{elt iter slice target value:Expr}{env:Env}{es:Array ( Int×ak )}{f v:ak}{fd:pj}{first vs:List ak}{h':Heap}{hs is ls ps r times:List Nat}{kn:Bool}{kv:List ( bx×ak )}{op:jw}{prog:dv}{scope:Scope}{sh:Nat->Bool}{t:Nat->Int}{u:Tok}{w:cM}
noncomputable def yq(th ok:Thread->Bool)(st:tJ->Thread->Option (tJ×Thread)):Nat->tJ->Thread->Option tJ
 |0,_,_=>none
 |n+1,s,t=>match th t with
  |true=>some s
  |false=>match ok t with
   |false=>none
   |true=>match st s t with
    |some (s',t')=>yq th ok st n s' t'
    |none=>none
theorem Pm{tb:String->Option Builtin}{p:dv}{yr:Nat}{ann:Option ak}:∀{n:Nat} {s s':tJ} {t:Thread},
  yq through (stepOk yr ann) (stepT (denote tb) p w) n s t=some s'->topRun tb p w yr ann n s.abs t=some s'.abs
 |0,_,_,_,h=>by exact bo h
 |n+1,s,s',t,h=>by
  have h:(match through t with
   |true=>some s
   |false=>match stepOk yr ann t with
    |false=>none
    |true=>match stepT (denote tb) p w s t with
     |some (s',t')=>yq through (stepOk yr ann) (stepT (denote tb) p w) n s' t'
     |none=>none)=some s':=h
  unfold topRun
  cases ht:through t with
  |true=>rw[ht]at h;cases h;rfl
  |false=>
   rw[ht]at h
   cases hk:stepOk yr ann t with
   |false=>rw[hk]at h;exact bo h
   |true=>
    rw[hk]at h
    cases hs:stepT (denote tb) p w s t with
    |none=>rw[hs]at h;exact bo h
    |some r=>obtain⟨bg,alF⟩:=r;rw[hs]at h;rw[stepT_spec hs];exact Pm h
noncomputable def GR{α:Type}(p q:dv)(loose:List bx)(Xt:aw->Bool)(g0:Bool)(Yf:aw->α)(h₀:Heap)(s:aw):=
 (staticsOk (importedModules p.main.body) h₀ s.heap&&namesBound p s.heap&&gensDone s&&laidKept h₀ s.heap,openSeen q loose (importedModules p.main.body) Xt g0 s,Yf s)
theorem acz{p q:dv}{loose:List bx}{Xt:aw->Bool}{α:Type}{Yf:aw->α}{Ya:cM->α}{N:Nat}{g0:Bool}{ou:Params->Heap}{GS:Params->BT}{yt:Nat}{life:Life}{BG:Array GenState}{GU:Drawn}{GV:Nat}{ann:Option ak}
  (acR:∀w:cM,(fencedOpening treeTable p w N).map (λs=>(s.heap,s.gens,s.drawn,s.toks))=some (ou w.params,BG,GU,GV))
  (size:∀w:cM,((ou w.params).isNs nV&&BG.size==0,(ou w.params).objs.size,(ou w.params).nsMap nV "__annotations__")=(true,yt,ann))
  (tree:∀P,ou P=absHeap (GS P) yt life)
  (run:∀(w:cM) (os:OsState),(yq through (stepOk yt ann) (stepT (denote treeTable) p w) N ⟨GS w.params,yt,life,BG,GU,GV,os⟩ (topStub p)).map (λS=>GR p q loose Xt g0 Yf (ou w.params) S.abs)=some (true,openGood q loose,Ya w)):
  LeftO p q loose Xt Yf Ya N g0:=λw=>by
 obtain⟨⟨h,gs,d,k,os⟩,e,e'⟩:=Option.map_eq_some_iff.mp (acR w)
 obtain⟨rfl,rfl,rfl,rfl⟩:h=ou w.params/\gs=BG/\d=GU/\k=GV:=by simpa using e'
 obtain⟨z1,z2,z3⟩:_/\_/\_:=by simpa only[Prod.mk.injEq]using size w
 refine a9 (Option.map_eq_some_iff.mp (run w os)) λS hS hl=>?_;refine xa (k8 hl) λl1 l2=>?_;have r:=Pm hS
 have eS:(⟨GS w.params,yt,life,gs,d,k,os⟩:tJ).abs=⟨ou w.params,gs,d,k,os⟩:=by rw[tree];rfl
 rw[eS]at r
 have t:topFrom treeTable p w N ⟨ou w.params,gs,d,k,os⟩=some S.abs:=by
  unfold topFrom;dsimp only;rw[z1,z2,z3,r]
  show(match staticsOk (importedModules p.main.body) (ou w.params) S.abs.heap&&namesBound p S.abs.heap&&gensDone S.abs&&laidKept (ou w.params) S.abs.heap with |true=>_ |false=>_)=_
  rw[l1]
 unfold openEnds;rw[e];show(topFrom treeTable p w N _).map _=_;rw[t];exact congrArg some l2
noncomputable def Pn(P:Params):BT:=((((((((((BT.nil.ins 0 (boot_o_0 P)).ins 1 (boot_o_1 P)).ins 2 (boot_o_2 P)).ins 3 (boot_o_3 P)).ins 4 (boot_o_4 P)).ins 5 (boot_o_5 P)).ins 6 (boot_o_6 P)).ins 7 (boot_o_7 P)).ins 8 (boot_o_8 P)).ins 9 (boot_o_9 P)).ins 10 (boot_o_10 P)
theorem acB(P:Params):boot_heap P=absHeap (Pn P) 11 {}:=by kernel_rfl
theorem acA(w:cM):((boot_heap w.params).isNs nV&&(Array.mk ([]:List GenState)).size==0,(boot_heap w.params).objs.size,(boot_heap w.params).nsMap nV "__annotations__")=(true,11,some (.ref 6)):=by kernel_rfl
noncomputable abbrev ot:dv:=PySem.Challenge.rw_nt0316_01.row.prog
noncomputable def qv:dv:=view ot [71]
noncomputable def BB:List bx:=ot.boundNames
noncomputable def vN(w:cM)(os:OsState):Option tJ:=yq through (stepOk 11 (some (.ref 6))) (stepT (denote treeTable) ot w) 8000 ⟨Pn w.params,11,{},#[],boot_drawn,boot_toks,os⟩ (topStub ot)
theorem acC(w:cM)(os:OsState):(vN w os).map (λS=>GR ot qv BB (λz=>true) true (λz=>()) (boot_heap w.params) S.abs)=some (true,openGood qv BB,()):=by
 unfold vN GR;rw[ak5,ak6,ak7,ak8,PySem.W.Fast.te4187177175401517315,PySem.W.Fast.te5923862056798008813]
 kernel_rfl
theorem la1:namesResolve ot=true:=by kernel_rfl
theorem la2:namesMeet ot ot.main.body (λz n=>attrL n)=true:=by kernel_rfl
theorem la3:looksOpen ot=true:=by
 unfold looksOpen;rw[la1,la2,Bool.and_true,Bool.and_true]
 kernel_rfl
theorem acP:OpenLaw.wellSaid ak9=true:=by
 unfold OpenLaw.wellSaid OpenRow.wellSaid OpenRow.partSaid;rw[show looksOpen (OpenLaw.row ak9).prog=true from la3]
 kernel_rfl
noncomputable def ud:List bx:=[ax "j",ax "k",ax "x",ax ".0",ax "at",ax "DIR",ax "SUB",ax "all",ax "due",ax "end",ax "far",ax "fit",ax "get",ax "has",ax "ids",ax "int",ax "key",ax "law",ax "len",ax "max",ax "odd",ax "oid",ax "old",ax "one",ax "ord",ax "pop",ax "put",ax "row",ax "set",ax "str",ax "tag",ax "top",ax "way",ax "who",ax "BLOB",ax "EXEC",ax "FILE",ax "LINK",ax "TREE",ax "Tree",ax "Walk",ax "anew",ax "blob",ax "came",ax "cell",ax "date",ax "deck",ax "find",ax "fits",ax "full",ax "grep",ax "here",ax "join",ax "keep",ax "kept",ax "kind",ax "last",ax "left",ax "list",ax "lots",ax "mail",ax "many",ax "mine",ax "mode",ax "more",ax "most",ax "name",ax "near",ax "note",ax "olds",ax "pair",ax "part",ax "path",ax "peel",ax "rank",ax "read",ax "rows",ax "seen",ax "self",ax "sign",ax "sink",ax "size",ax "some",ax "take",ax "text",ax "told",ax "topo",ax "tree",ax "turn",ax "walk",ax "what",ax "when",ax "wish",ax "zone",ax "Entry",ax "_wall",ax "above",ax "ahead",ax "asked",ax "begun",ax "below",ax "bytes",ax "cells",ax "count",ax "dated",ax "email",ax "entry",ax "extra",ax "first",ax "flags",ax "found",ax "index",ax "known",ax "least",ax "level",ax "lower",ax "marks",ax "mixed",ax "octet",ax "order",ax "other",ax "parts",ax "paths",ax "queue",ax "range",ax "roots",ax "shown",ax "sides",ax "signs",ax "split",ax "start",ax "store",ax "thing",ax "times",ax "tuple",ax "value",ax "write",ax "COMMIT",ax "Commit",ax "HIDDEN",ax "Orders",ax "Person",ax "WANTED",ax "append",ax "author",ax "bottom",ax "commit",ax "counts",ax "digest",ax "digits",ax "extend",ax "figure",ax "groups",ax "hasher",ax "hex_of",ax "hidden",ax "levels",ax "listed",ax "log_of",ax "merges",ax "number",ax "octets",ax "others",ax "parent",ax "passed",ax "person",ax "row_of",ax "script",ax "sorted",ax "walked",ax "wanted",ax "between",ax "by_date",ax "by_path",ax "commits",ax "content",ax "entries",ax "is_tree",ax "log_ids",ax "message",ax "missing",ax "numbers",ax "objects",ax "of_kind",ax "painted",ax "parents",ax "pickaxe",ax "reached",ax "reverse",ax "shallow",ax "subject",ax "waiting",ax "Ancestry",ax "GitError",ax "__dict__",ax "__init__",ax "__name__",ax "boundary",ax "by_lines",ax "changing",ax "children",ax "entry_at",ax "followed",ax "is_known",ax "shortlog",ax "sort_key",ax "subjects",ax "BadObject",ax "Exception",ax "HEX_SIGNS",ax "LogFilter",ax "RankQueue",ax "__class__",ax "__debug__",ax "_law_deck",ax "_law_draw",ax "_law_pick",ax "_law_wish",ax "bytearray",ax "committer",ax "enumerate",ax "fits_date",ax "octets_of",ax "rewritten",ax "write_tag",ax "MergeBases",ax "_law_notes",ax "_law_times",ax "_law_world",ax "big_endian",ax "check_tree",ax "entries_at",ax "fits_texts",ax "fork_point",ax "setdefault",ax "write_tree",ax "MemoryStore",ax "_law_people",ax "best_common",ax "independent",ax "is_ancestor",ax "merge_bases",ax "object_rows",ax "peeled_tags",ax "tree_faults",ax "walked_once",ax "OBJECT_MODES",ax "WalkedCommit",ax "_law_by_date",ax "_law_reached",ax "ahead_behind",ax "first_parent",ax "history_blob",ax "like_parents",ax "passed_first",ax "passed_whole",ax "put_contents",ax "write_commit",ax "MissingObject",ax "OBJECT_BLANKS",ax "__classdict__",ax "ancestry_path",ax "children_left",ax "law_nt0316_01",ax "next_changing",ax "object_octets",ax "sorted_starts",ax "CountingHasher",ax "_law_is_wished",ax "by_lines_dated",ax "hidden_objects",ax "object_are_all",ax "object_cut_end",ax "object_subject",ax "_law_drawn_rows",ax "log_occurrences",ax "object_has_sign",ax "object_head_row",ax "shortlog_counts",ax "_law_short_right",ax "merge_bases_many",ax "object_by_eights",ax "object_name_fault"]
noncomputable def code(s:bx):Nat:=s.cps.toList.foldl (λa x=>a*128+x) 1
noncomputable def x5:List Nat:=[234,235,248,22320,28916,3220690,3467970,3700332,3750629,3766116,3780850,3781876,3797748,3813619,3830387,3831668,3863289,3879159,3879662,3895544,3928676,3929316,3929700,3929957,3930468,3946480,3947252,3979255,3994356,3996274,4010215,4012016,4059385,4060271,408102850,414589635,416441925,429025099,445948613,446477029,452490859,473674487,475740130,477656805,477722220,479754853,479818219,484079460,484080243,484275820,486322928,488208741,492565742,494498544,494499956,494565220,496531956,496595828,496663028,496761459,498627820,498628473,498759525,498856549,498858341,498858484,500725477,500789490,500955749,503001715,504919282,504920436,504920680,504984300,509114219,509178084,509344755,511275758,511276646,511341550,511342443,511343973,511440613,513308133,513375348,513537636,513538159,513585893,513636718,519599723,519713012,519713518,519731688,526120805,53114386809,60112270956,60605332325,60617748708,60640916196,60879928046,60880009207,60922082035,61148444275,61169563508,61408621284,61701911788,61704321401,61725292897,61962238452,61968249843,61974869860,62777799416,63314852846,63564184052,63564526316,63585514226,63824508403,63841383140,64365605620,64396800754,64401060594,64629815923,64629847155,64939981541,65166619621,65195997811,65449753582,65451668211,65451718515,65466479860,65474689396,65474918757,65718089575,65720251123,65745466981,66240330469,66544368229,6721518134484,6730175706356,6891687191246,7143278868851,7174178535406,7404957016772,7761242453860,7762593069042,7795342391277,7829687334132,7829704129139,7862423747060,7862423812723,7900837279588,7931143485797,7967935920243,7997740430066,7998824511462,7999856390894,8136259368563,8137327063780,8138912167910,8170610750195,8209254888178,8238797519475,8243335756147,8272616191860,8272618517220,8273690163182,8345104152550,8376232343668,8379453747940,8513121874660,8513126216420,997460234826478,998141752539749,998141777705576,1002199978769011,1002200261818228,1010963601584883,1028721953518309,1041780757394035,1045838469559269,1045975908644711,1050784625686899,1054529038121587,1054663536965476,1058892475609828,1058894872558195,1059165736303717,1067823836836580,1067829478341093,1072324981503991,1072771922227700,1089678813591399,109136555095701881,112492840107161586,125959118400597983,125959291554050015,125959459871223775,127718922464557433,127762146489250547,128250398904055655,128250673238946542,129403341036318964,129970412527153892,131676407626202094,137258080296187879,137288970193793785,137314806045145715,14034221934440968692,14263338927130310638,14450752669074188115,14762692060953522930,15187188377045269221,16122762859770605535,16122767017571381215,16130072790460625387,16130072790460838135,16130072790485856747,16130072790500538856,16353646866943750393,16420044452151505650,16563631873567783525,16632870524310551141,17278010695563605990,17495323015450014446,17862867829984669927,1898133717334796071667,2064649317181665653491,2064649317183263568627,2064649317184081540708,2092106532862855639278,2101256739200117289701,2120144338990942122228,2129007427116053969523,2129438611594949588852,2248622967450708571764,2286447082238038029029,242960760093543969323365,264275112599319228462693,267753619204612304893934,276099681664641229485940,276145435976188303325170,280740047682807722210035,283072983213404461988851,284280888611158263100403,289123154963538326010483,292508640308241024922085,31359562169090962709619411,32605402680995372416595188,33827214412651971466525285,33827214412721653550822116,34124758812094604672399204,34881639250855316350924660,35183879998457726321244130,35788268031408020626586227,36383361007357058522855924,36383361007357063084111461,36406980620914560595638899,37461148995387430163674356,3981280676071020050152780276,4014023957643642848062711251,4327921200242386726876426207,4368873499115823995672885864,4406659578010062356787852148,4579703495042726426198923313,4618994957372449193591469927,4637867756968418598918388339,4717213097099283061404383859,484961479059663615134845776626,554225080937390926621075714788,561903862618206533764297601764,576450404176817162063678339699,593647072891957519600259200620,593647072891957528503458035556,593647072891957598867393442292,70940810359939850815785737649139,75068214899897705745491699495667,75986825330170566375197134975982,75986825330170566392172146112503,77269429909437669309213270850163,9080423726089918551028922070987892,9646154587801117986786851075684217,9726313642261832077102710471146099,1244968146209514614828110081121154676]
theorem QQ:ud.map code=x5:=by decide+kernel
noncomputable def wB:Nat->List Nat->Bool
 |_,[]=>true
 |a,b::r=>lg a b&&wB b r
theorem adD{l:List Nat}:∀{a:Nat},wB a l=true->∀{j y:Nat},l[j]?=some y->a<y:=by
 induction l with
 |nil=>exact λz u y q=>bo q
 |cons b r ih=>
  intro a h j y q;refine xa (cK.1 (show(lg a b&&wB b r)=true from h)) λu v=>?_
  cases j with
  |zero=>exact bt q▸cG u
  |succ j=>exact jQ (cG u) (ih v q)
theorem QR{l:List Nat}:∀{a:Nat},wB a l=true->∀{i j x y:Nat},i<j->l[i]?=some x->l[j]?=some y->x<y:=by
 induction l with
 |nil=>exact λz i j x y hl e q=>bo q
 |cons b r ih=>
  intro a h i j x y hl e q;refine xa (cK.1 (show(lg a b&&wB b r)=true from h)) λu v=>?_
  cases j with
  |zero=>exact tL hl
  |succ j=>
   cases i with
   |zero=>exact bt e▸adD v q
   |succ i=>exact ih v (YI hl) e q
theorem QT:wB 0 x5=true:=by decide+kernel
noncomputable def nm(i:Nat):bx:=(ud[i]?).getD PySem.Str.empty
noncomputable abbrev nN:Nat:=283
theorem QU:ud.length=283:=by decide+kernel
theorem oE(hi:i<nN)(hj:j<nN)(e:nm i=nm j):i=j:=by
 have ff:i<ud.length:=by rw[QU];exact hi
 have wz:j<ud.length:=by rw[QU];exact hj
 unfold nm at e;rw[bS ff,bS wz,Zc,Zc]at e
 have ci:x5[i]?=some (code ud[i]):=by rw[<-QQ,dM,bS ff];rfl
 have cj:x5[j]?=some (code ud[j]):=by rw[<-QQ,dM,bS wz];rfl
 rcases Nat.lt_trichotomy i j with h |h |h
 ·have:=QR QT h ci cj;rw[e]at this;exact absurd this (AU _)
 ·exact h
 ·have:=QR QT h cj ci;rw[e]at this;exact absurd this (AU _)
noncomputable abbrev rW:Nat:=213
noncomputable abbrev tO:Nat:=260
theorem cps{P:Prop}(h:∀G:Prop,(P->G)->G):P:=h P id
noncomputable def yn:List (Nat×Nat):=[(108,81),(108,112),(163,50),(163,144),(163,171),(163,186),(163,159),(232,66),(232,105),(232,91),(232,93),(274,63),(274,66),(274,21),(323,176),(391,87),(391,185),(391,144),(391,219),(391,107),(391,179),(539,153),(539,54),(588,76),(588,43),(609,185),(609,87),(609,45),(958,131),(958,189),(958,112),(958,156)]
noncomputable def yo:List ((Nat×Nat)×Nat):=[((108,148),105),((163,232),148),((163,221),155),((163,48),160),((232,161),229),((274,205),257),((274,161),271),((323,161),313),((323,47),320),((391,161),381),((391,190),388),((539,53),423),((539,136),430),((539,235),437),((539,257),444),((539,166),479),((539,183),500),((539,42),507),((539,87),514),((539,146),521),((588,61),564),((588,26),571),((588,83),578),((588,80),585),((958,169),657),((958,185),664),((958,45),671),((958,87),678),((958,114),683),((958,184),690),((958,126),775),((958,202),782),((958,172),789),((958,174),815),((958,201),915)]
noncomputable def yp:List (Nat×Nat):=[(108,98),(163,141),(232,222),(274,250),(323,306),(391,374),(539,416),(588,557),(609,606),(958,650)]
inductive CV where
 |none
 |bool (b:Bool)
 |int (i:Int)
 |str (s:bx)
 |bytes (b:List UInt8)
 |tup (vs:List CV)
 |loc (a:Addr)
 |ty (n:String)
 |bi (n:String)
inductive CO where
 |list (vs:List CV)
 |ro (vs:List CV)
 |dI (es:List (Int×CV))
 |dS (es:List (bx×CV))
 |dB (es:List (List UInt8×CV))
 |inst (C d:Addr)
 |iV (fs:List (Nat×CV))
 |ba (b:List UInt8)
 |set (bs:List (List UInt8))
noncomputable def CO.fc:CO->Bool
 |.ro _=>true
 |.inst ..=>true
 |_=>false
noncomputable abbrev St:=Addr->Option CO
noncomputable def upd(σ:St)(a:Addr)(o:CO):St:=λb=>if b=a then some o else σ b
theorem eJ(σ:St)(a:Addr)(o:CO):upd σ a o a=some o:=by simp[upd]
theorem iU{σ:St}{b:Addr}{o:CO}(h:b≠a):upd σ a o b=σ b:=by simp[upd,h]
structure Cx where
 prog:dv
 w:cM
 H0:Heap
 K:Frag
 mg:bx->Option ak
 mb:bx->Option ak
 jY:K.In H0
 ng:H0.Ns nV mg
 nb:H0.Ns Fp mb
 GN:H0.NoLimit
 blt:∀x:bx,x≠"__name__"->mb x=Ml x
 sys:∃o,H0.get? vB=some o
 fld:∀C i,(C,i)∈yn->i<nN/\plainGet K C (nm i)=true/\hasDictIn K C=true/\(∃attr,findIn K (.ref C) (nm i)=some attr/\noGet K attr=true)/\
  findIn K (.ref C) "__setattr__"=some (some (.builtin "object.__setattr__"))/\plainOver K C=true/\takerIn K C (nm i)=some none
 BC:∀C i f,((C,i),f)∈yo->i<nN/\plainGet K C (nm i)=true/\findIn K (.ref C) (nm i)=some (some (.ref f))/\isFn K (.ref f)=true/\keepIn K (.ref f)=true
 FN:∀C f,(C,f)∈yp->makesIn K C=true/\findIn K (.ref C) "__init__"=some (some (.ref f))/\isFn K (.ref f)=true/\keepIn K (.ref C)=true
noncomputable abbrev Cx.M(c:Cx):fA:=model c.prog c.w
noncomputable abbrev d7(items:Array ak)(n:Nat):Obj:={cls:=.type "tuple",data:=.seq items n}
mutual
inductive aV(h:Heap):CV->ak->Prop
 |none:aV h .none .none
 |bool (b:Bool):aV h (.bool b) (.bool b)
 |int (i:Int) (t:Tok):aV h (.int i) (.int i t)
 |str (s:bx) (t:Tok):aV h (.str s) (.str s t)
 |bytes (b:List UInt8) (t:Tok):aV h (.bytes b) (.bytes b.toArray t)
 |loc (a:Addr):aV h (.loc a) (.ref a)
 |ty (n:String):aV h (.ty n) (.type n)
 |bi (n:String):aV h (.bi n) (.builtin n)
 |tup {vs:List CV} {a:Addr} {items:Array ak} {n:Nat} (e:h.get? a=some (d7 items n)) (r:aN h vs items.toList):aV h (.tup vs) (.ref a)
inductive aN(h:Heap):List CV->List ak->Prop
 |nil:aN h [] []
 |cons {x:CV} {v:ak} {xs:List CV} {vs:List ak} (e:aV h x v) (r:aN h xs vs):aN h (x::xs) (v::vs)
end
section
variable{h:Heap}{v:ak}
theorem aV.PX(r:aV h .none v):v=.none:=by cases r;rfl
theorem aV.Hy{b:Bool}(r:aV h (.bool b) v):v=.bool b:=by cases r;rfl
theorem aV.bZ{i:Int}(r:aV h (.int i) v):∃t,v=.int i t:=by cases r;exact⟨_,rfl⟩
theorem aV.pR{x:bx}(r:aV h (.str x) v):∃t,v=.str x t:=by cases r;exact⟨_,rfl⟩
theorem aV.fQ(r:aV h (.bytes b) v):∃t,v=.bytes b.toArray t:=by cases r;exact⟨_,rfl⟩
theorem aV.dj(r:aV h (.loc a) v):v=.ref a:=by cases r;rfl
theorem aV.PY{n:String}(r:aV h (.ty n) v):v=.type n:=by cases r;rfl
theorem aV.vbi{n:String}(r:aV h (.bi n) v):v=.builtin n:=by cases r;rfl
theorem aV.jl{xs:List CV}(r:aV h (.tup xs) v):∃a items n,v=.ref a/\h.get? a=some (d7 items n)/\aN h xs items.toList:=by
 cases r with |tup e r=>exact⟨_,_,_,rfl,e,r⟩
theorem aN.jX{vs:List ak}(r:aN h [] vs):vs=[]:=by cases r;rfl
theorem aN.iT{x:CV}{xs:List CV}{vs:List ak}(r:aN h (x::xs) vs):∃v ws,vs=v::ws/\aV h x v/\aN h xs ws:=by
 cases r with |cons e r=>exact⟨_,_,rfl,e,r⟩
end
noncomputable def gr(h h':Heap):Prop:=∀b items n,h.get? b=some (d7 items n)->h'.get? b=some (d7 items n)
section
variable{h h':Heap}(k:gr h h')
include k
theorem aV.bQ{c:CV}{v:ak}(r:aV h c v):aV h' c v:=
 aV.rec (motive_1:=λc v z=>aV h' c v) (motive_2:=λc v z=>aN h' c v) .none .bool .int .str .bytes .loc .ty .bi (λe z ih=>.tup (k _ _ _ e) ih) .nil (λz z i1 i2=>.cons i1 i2) r
theorem aN.bQ{c:List CV}{v:List ak}(r:aN h c v):aN h' c v:=
 aN.rec (motive_1:=λc v z=>aV h' c v) (motive_2:=λc v z=>aN h' c v) .none .bool .int .str .bytes .loc .ty .bi (λe z ih=>.tup (k _ _ _ e) ih) .nil (λz z i1 i2=>.cons i1 i2) r
end
section
variable{h:Heap}{xs ys:List CV}{vs ws:List ak}{y:CV}{w:ak}
theorem aN.ind{P:List CV->List ak->Prop}(h0:P [] [])(h1:∀{x v xs vs},aV h x v->aN h xs vs->P xs vs->P (x::xs) (v::vs))(r:aN h xs vs):P xs vs:=
 aN.rec (motive_1:=λz z z=>True) (motive_2:=λc v z=>P c v) trivial (λz=>trivial) (λz z=>trivial) (λz z=>trivial) (λz z=>trivial) (λz=>trivial) (λz=>trivial) (λz=>trivial) (λz z z=>trivial) h0 (λe r z i=>h1 e r i) r
theorem aN.length(r:aN h xs vs):xs.length=vs.length:=r.ind (P:=λxs vs=>xs.length=vs.length) rfl λz z i=>congrArg (·+1) i
theorem aN.get(r:aN h xs vs):∀{i:Nat} {x:CV},xs[i]?=some x->∃v,vs[i]?=some v/\aV h x v:=
 r.ind (P:=λxs vs=>∀{i:Nat} {x:CV},xs[i]?=some x->∃v,vs[i]?=some v/\aV h x v) (λe=>bo e) λe z ih i x q=>match i with
  |0=>⟨_,rfl,bt q▸e⟩
  |_+1=>ih q
theorem aN.append(r:aN h xs vs)(q:aN h ys ws):aN h (xs++ys) (vs++ws):=r.ind (P:=λxs vs=>aN h (xs++ys) (vs++ws)) q λe z ih=>.cons e ih
theorem aN.snoc(r:aN h xs vs)(e:aV h y w):aN h (xs++[y]) (vs++[w]):=r.append (.cons e .nil)
theorem aN.drop(k:Nat)(r:aN h xs vs):aN h (xs.drop k) (vs.drop k):=
 r.ind (P:=λxs vs=>∀k,aN h (xs.drop k) (vs.drop k)) (λk=>by rw[List.drop_nil,List.drop_nil];exact .nil) (λe r ih k=>match k with
  |0=>.cons e r
  |k+1=>ih k) k
theorem aN.take(k:Nat)(r:aN h xs vs):aN h (xs.take k) (vs.take k):=
 r.ind (P:=λxs vs=>∀k,aN h (xs.take k) (vs.take k)) (λk=>by rw[List.take_nil,List.take_nil];exact .nil) (λe r ih k=>match k with
  |0=>.nil
  |k+1=>.cons e (ih k)) k
theorem aN.reverse(r:aN h xs vs):aN h xs.reverse vs.reverse:=
 r.ind (P:=λxs vs=>aN h xs.reverse vs.reverse) .nil λe z ih=>by rw[List.reverse_cons,List.reverse_cons];exact ih.snoc e
theorem aN.set(k:Nat)(r:aN h xs vs)(e:aV h y w):aN h (xs.set k y) (vs.set k w):=
 r.ind (P:=λxs vs=>∀k,aN h (xs.set k y) (vs.set k w)) (λz=>.nil) (λe' r ih k=>match k with
  |0=>.cons e r
  |k+1=>.cons e' (ih k)) k
theorem aN.eraseIdx(k:Nat)(r:aN h xs vs):aN h (xs.eraseIdx k) (vs.eraseIdx k):=
 r.ind (P:=λxs vs=>∀k,aN h (xs.eraseIdx k) (vs.eraseIdx k)) (λz=>.nil) (λe r ih k=>match k with
  |0=>r
  |k+1=>.cons e (ih k)) k
end
inductive cZ{κ:Type}(h:Heap):List (κ×CV)->List (κ×ak)->Prop
 |nil:cZ h [] []
 |cons {k:κ} {x:CV} {v:ak} {xs vs} (e:aV h x v) (r:cZ h xs vs):cZ h ((k,x)::xs) ((k,v)::vs)
theorem cZ.bQ{κ:Type}{h h':Heap}(k:gr h h'){xs:List (κ×CV)}{vs:List (κ×ak)}(r:cZ h xs vs):cZ h' xs vs:=by
 induction r with
 |nil=>exact .nil
 |cons e _ ih=>exact .cons (e.bQ k) ih
theorem cZ.length{κ:Type}{h:Heap}{xs:List (κ×CV)}{vs:List (κ×ak)}(r:cZ h xs vs):xs.length=vs.length:=by
 induction r with
 |nil=>rfl
 |cons e _ ih=>simp[ih]
theorem cZ.keys{κ:Type}{h:Heap}{xs:List (κ×CV)}{vs:List (κ×ak)}(r:cZ h xs vs):xs.map (λx=>x.1)=vs.map (λx=>x.1):=by
 induction r with
 |nil=>rfl
 |cons e _ ih=>simp[ih]
noncomputable def gN:List (Nat×CV)->Nat->Option CV
 |[],_=>none
 |(j,x)::r,i=>if i=j then some x else gN r i
noncomputable def j2:List (Nat×CV)->Nat->CV->List (Nat×CV)
 |[],i,v=>[(i,v)]
 |(j,x)::r,i,v=>if i=j then(j,v)::r else(j,x)::j2 r i v
theorem PZ:∀(fs:List (Nat×CV)) (i j:Nat) (v:CV),gN (j2 fs i v) j=if j=i then some v else gN fs j
 |[],i,j,v=>rfl
 |(k,x)::r,i,j,v=>by
  by_cases h:i=k
  ·subst h
   rw[show j2 ((i,x)::r) i v=(i,v)::r from if_pos rfl]
   show(if j=i then some v else gN r j)=if j=i then some v else(if j=i then some x else gN r j)
   by_cases q:j=i
   ·rw[if_pos q,if_pos q]
   ·rw[if_neg q,if_neg q,if_neg q]
  ·rw[show j2 ((k,x)::r) i v=(k,x)::j2 r i v from if_neg h]
   show(if j=k then some x else gN (j2 r i v) j)=if j=i then some v else(if j=k then some x else gN r j)
   rw[PZ r i j v]
   by_cases q:j=k
   ·rw[if_pos q,if_pos q,if_neg λe=>h (e.symm.trans q)]
   ·rw[if_neg q,if_neg q]
noncomputable def CV.tX:CV->Bool
 |.bi _=>true
 |_=>false
noncomputable def sD(h:Heap)(fs:List (Nat×CV))(m:bx->Option ak):Prop:=
 ∀i,i<nN->match gN fs i with
  |some x=>∃v,m (nm i)=some v/\aV h x v/\x.tX=false
  |none=>m (nm i)=none
theorem sD.bQ{h h':Heap}(k:gr h h'){fs:List (Nat×CV)}{m}(r:sD h fs m):sD h' fs m:=λi hi=>by
 have:=r i hi
 cases q:gN fs i with
 |none=>rw[q]at this;exact this
 |some x=>rw[q]at this;obtain⟨v,a,b,z⟩:=this;exact⟨v,a,b.bQ k,z⟩
theorem sD.set{h:Heap}{fs:List (Nat×CV)}{m}(r:sD h fs m)(hi:i<nN){x:CV}{v:ak}(e:aV h x v)(z:x.tX=false):sD h (j2 fs i x) (λy=>if y=nm i then some v else m y):=λj hj=>by
 rw[PZ]
 by_cases q:j=i
 ·subst q;simp;exact⟨e,z⟩
 ·have:nm j≠nm i:=λz=>q (oE hj hi z)
  rw[if_neg q];simp only[this,if_false];exact r j hj
noncomputable def eK(c:Cx)(h:Heap)(a:Addr):CO->Prop
 |.list vs=>c.H0.get? a=none/\∃items n,h.get? a=some (listOf items n)/\aN h vs items.toList
 |.ro vs=>(∃o,c.H0.get? a=some o)/\∃items n,h.get? a=some (listOf items n)/\aN h vs items.toList
 |.dI es=>c.H0.get? a=none/\∃kvs,h.DictOf (intKind c.prog c.w) a kvs/\cZ h es kvs
 |.dS es=>c.H0.get? a=none/\∃kvs,h.DictOf (AS c.prog c.w) a kvs/\cZ h es kvs
 |.dB es=>c.H0.get? a=none/\∃kvs,h.DictOf (fM c.prog c.w) a kvs/\cZ h es kvs
 |.inst C d=>c.H0.get? a=none/\h.get? a=some (mU C d)
 |.iV fs=>c.H0.get? a=none/\∃m,h.Ns a m/\sD h fs m/\h.DictLe a fs.length
 |.ba b=>c.H0.get? a=none/\h.get? a=some {cls:=.type "bytearray",data:=.bytearray b.toArray}
 |.set bs=>c.H0.get? a=none/\∃(o:Obj) (es:Array (Int×ak)) (ep:Nat) (t:fN) (ks:List (List UInt8)),h.get? a=some o/\o.ExactSet/\o.data=.set es ep t/\t.fits es.size=true/\ks.Perm bs/\aN h (ks.map .bytes) (es.toList.map (λx=>x.2))/\(c.w.params.followText "set-order"=false->t.led=true/\(2<=es.size->t.plain=false))
theorem kJ{x:Obj}(h:x.cls≠.type "tuple"):∀items n,x≠d7 items n:=λz z e=>h (by rw[e])
theorem wm{h:Heap}{x:Obj}(e:h.get? a=some x)(n:x.cls≠.type "tuple"):∃x,h.get? a=some x/\∀items n,x≠d7 items n:=⟨x,e,kJ n⟩
theorem qH{n:String}(h:n≠"tuple"):k9 n≠.type "tuple":=λz=>h (Value.type.inj z)
theorem Hz{κ:Type}[DecidableEq κ]{p:dv}{u:cM}{K:PySem.KeyKind p u κ}{h:Heap}{kvs:List (κ×ak)}(D:h.DictOf K a kvs):∃x,h.get? a=some x/\∀items n,x≠d7 items n:=
 let⟨_,_,_,ho,hc,_⟩:=D;wm ho (by rw[hc.1];exact qH (by decide))
theorem eK.there{c:Cx}{h:Heap}{o:CO}(r:eK c h a o):∃x,h.get? a=some x/\∀items n,x≠d7 items n:=by
 induction o with
 |list _=>exact r.2.elim λy h=>h.elim λy h=>wm h.1 (qH (by decide))
 |ro _=>exact r.2.elim λy h=>h.elim λy h=>wm h.1 (qH (by decide))
 |dI _=>exact r.2.elim λy h=>Hz h.1
 |dS _=>exact r.2.elim λy h=>Hz h.1
 |dB _=>exact r.2.elim λy h=>Hz h.1
 |inst _ _=>exact wm r.2 (λz=>nomatch z)
 |iV _=>obtain⟨_,m,⟨o,es,ep,ho,hd,_⟩,_⟩:=r;exact⟨_,ho,λitems n e=>by rw[e]at hd;cases hd⟩
 |ba _=>exact wm r.2 (qH (by decide))
 |set _=>obtain⟨_,o,es,ep,t,ks,ho,hc,_⟩:=r;exact wm ho (by rw[hc.1];exact qH (by decide))
theorem HA{κ:Type}[DecidableEq κ]{p:dv}{u:cM}{K:PySem.KeyKind p u κ}{h h':Heap}{kvs:List (κ×ak)}(D:h.DictOf K a kvs)(e:∀x,h.get? a=some x->h'.get? a=some x):h'.DictOf K a kvs:=
 let⟨o,es,ep,ho,q⟩:=D;⟨o,es,ep,e _ ho,q⟩
theorem eK.move{c:Cx}{h h':Heap}{o:CO}(r:eK c h a o)(k:gr h h')(e:∀x,h.get? a=some x->h'.get? a=some x):eK c h' a o:=by
 induction o with
 |list _=>exact⟨r.1,r.2.imp λy=>.imp λy h=>⟨e _ h.1,h.2.bQ k⟩⟩
 |ro _=>exact⟨r.1,r.2.imp λy=>.imp λy h=>⟨e _ h.1,h.2.bQ k⟩⟩
 |dI _=>exact⟨r.1,r.2.imp λy h=>⟨HA h.1 e,h.2.bQ k⟩⟩
 |dS _=>exact⟨r.1,r.2.imp λy h=>⟨HA h.1 e,h.2.bQ k⟩⟩
 |dB _=>exact⟨r.1,r.2.imp λy h=>⟨HA h.1 e,h.2.bQ k⟩⟩
 |inst _ _=>exact⟨r.1,e _ r.2⟩
 |iV _=>exact⟨r.1,r.2.imp λm h=>⟨h.1.imp λy=>.imp λy=>.imp λy q=>⟨e _ q.1,q.2⟩,h.2.1.bQ k,h.1.elim λy z=>z.elim λy z=>z.elim λy z=>h.2.2.of_same z.1 (e _ z.1)⟩⟩
 |ba _=>exact⟨r.1,e _ r.2⟩
 |set _=>exact⟨r.1,r.2.imp λy=>.imp λy=>.imp λy=>.imp λy=>.imp λy q=>⟨e _ q.1,q.2.1,q.2.2.1,q.2.2.2.1,q.2.2.2.2.1,q.2.2.2.2.2.1.bQ k,q.2.2.2.2.2.2⟩⟩
theorem eK.out{c:Cx}{h:Heap}{o:CO}(r:eK c h a o)(hi:o.fc=false):c.H0.get? a=none:=by
 cases o<;>first |exact r.1 |exact iR hi
structure Rel(c:Cx)(σ:St)(h:Heap):Prop where
 base:∀b o,c.H0.get? b=some o->h.get? b=some o
 objs:∀a o,σ a=some o->eK c h a o
theorem Rel.fresh{c:Cx}{σ:St}{h:Heap}(R:Rel c σ h)(e:h.get? a=none):σ a=none:=by
 cases q:σ a with
 |none=>rfl
 |some o=>refine a9 (eK.there (R.objs a o q)) λx hx zz=>?_;exact jy (hx.symm.trans e)
theorem kK(h:Heap):h.get? h.objs.size=none:=by
 cases e:h.get? h.objs.size with
 |none=>rfl
 |some o=>exact absurd (mP e) (AU _)
theorem Rel.out{c:Cx}{σ:St}{h:Heap}(R:Rel c σ h)(e:h.get? a=none):c.H0.get? a=none:=by
 cases q:c.H0.get? a with
 |none=>rfl
 |some o=>exact jy ((R.base _ _ q).symm.trans e)
structure Ext(σ:St)(h:Heap)(ae:St)(h':Heap):Prop where
 keep:∀b o,h.get? b=some o->(∀x,σ b=some x->x.fc=true)->h'.get? b=some o
 gg:∀b o,h.get? b=some o->σ b=none->ae b=none
 fc:∀b x,σ b=some x->x.fc=true->ae b=some x
 more:∀b o,h.get? b=some o->∃o',h'.get? b=some o'
theorem Ext.refl(σ:St)(h:Heap):Ext σ h σ h:=⟨λz z e z=>e,λz z z e=>e,λz z e z=>e,λz o e=>⟨o,e⟩⟩
theorem Ext.trans{b7 bT fD:St}{d8 dP gR:Heap}(x:Ext b7 d8 bT dP)(y:Ext bT dP fD gR):Ext b7 d8 fD gR:=by
 refine⟨λb o e k=>?_,λb o e n=>?_,λb z e i=>y.fc b z (x.fc b z e i) i,λb o e=>let⟨o',e'⟩:=x.more b o e;y.more b o' e'⟩
 ·have e2:=x.keep b o e k
  refine y.keep b o e2 λz hz=>?_
  cases q:b7 b with
  |none=>exact bo ((x.gg b o e q).symm.trans hz)
  |some z1=>have y1:=k z1 q;obtain rfl:=(bt ((x.fc b z1 q y1).symm.trans hz)).symm;exact y1
 ·have e2:=x.keep b o e (λz hz=>by exact bo (n.symm.trans hz))
  exact y.gg b o e2 (x.gg b o e n)
theorem Ext.lD{c:Cx}{σ ae:St}{h h':Heap}(R:Rel c σ h)(x:Ext σ h ae h'):gr h h':=λb items n e=>
 x.keep b _ e λz hz=>by
  refine a9 (eK.there (R.objs b z hz)) λy hy ht=>?_;obtain rfl:=bt (e.symm.trans hy);exact absurd rfl (ht _ _)
theorem Ext.at{σ ae:St}{h h':Heap}(x:Ext σ h ae h'){b:Addr}{o:Obj}(e:h.get? b=some o)(n:σ b=none):h'.get? b=some o:=x.keep b o e λz hz=>by exact bo (n.symm.trans hz)
theorem Ext.kept{σ:St}{h h':Heap}(k:∀b o,h.get? b=some o->h'.get? b=some o):Ext σ h σ h':=⟨λb o e z=>k b o e,λz z z e=>e,λz z e z=>e,λb o e=>⟨o,k b o e⟩⟩
theorem Rel.kept{c:Cx}{σ:St}{h h':Heap}(R:Rel c σ h)(k:∀b o,h.get? b=some o->h'.get? b=some o):Rel c σ h':=
 ⟨λb o e=>k _ _ (R.base b o e),λa o e=>eK.move (R.objs a o e) (λb z z e=>k b _ e) (λx q=>k _ _ q)⟩
theorem Rel.but{c:Cx}{σ:St}{h h':Heap}{x:Addr}(R:Rel c σ h)(hs:A1 x h h')(hn:σ x=none)(hb:c.H0.get? x=none)(ht:∀items n,h.get? x≠some (d7 items n)):Rel c σ h':=by
 have key:∀b o,h.get? b=some o->b≠x->h'.get? b=some o:=λb o e n=>hs b o n e
 refine⟨λb o e=>key b o (R.base b o e) (λq=>by subst q;exact bo (hb.symm.trans e)),λa o e=>eK.move (R.objs a o e) (λb u u e=>?_) (λy q=>key a y q λz=>by subst z;exact bo (hn.symm.trans e))⟩
 exact key b _ e λq=>by subst q;exact ht _ _ e
theorem Rel.push{c:Cx}{σ:St}{h:Heap}(R:Rel c σ h)(o:Obj):Rel c σ (h.push o):=R.kept λz z e=>dY o e
theorem Ext.push{σ:St}{h:Heap}(o:Obj):Ext σ h σ (h.push o):=.kept λz z e=>dY o e
theorem Rel.new{c:Cx}{σ:St}{h':Heap}{x:CO}(R:Rel c σ h')(q:eK c h' a x):Rel c (upd σ a x) h':=
 ⟨R.base,λb o e=>by
  by_cases n:b=a
  ·subst n;rw[eJ]at e;obtain rfl:=bt e;exact q
  ·rw[iU n]at e;exact R.objs b o e⟩
theorem Ext.new{σ ae:St}{h h':Heap}{x:CO}(k:Ext σ h ae h')(hn:h.get? a=none)(hσ:σ a=none):Ext σ h (upd ae a x) h':=
 ⟨k.keep,λb o e n=>by rw[iU (λq=>by subst q;exact bo (hn.symm.trans e))];exact k.gg b o e n,
  λb z e i=>by rw[iU (λq=>by subst q;exact bo ((hσ).symm.trans e))];exact k.fc b z e i,k.more⟩
theorem Rel.set{c:Cx}{σ:St}{h h':Heap}{x y:CO}(R:Rel c σ h)(e:σ a=some x)(hi:x.fc=false)(hs:ju a h h')(q:gr h h'->eK c h' a y):Rel c (upd σ a y) h':=by
 have r:=R.objs a x e;refine a9 (eK.there r) λo ho ht=>?_
 have tu:gr h h':=λb u u eb=>(hs.2 b λz=>by subst z;obtain rfl:=bt (ho.symm.trans eb);exact ht _ _ rfl).trans eb
 refine⟨λb ob eb=>(hs.2 b λz=>by subst z;exact bo ((eK.out r hi).symm.trans eb)).trans (R.base b ob eb),λb ob eb=>?_⟩
 by_cases n:b=a
 ·subst n;rw[eJ]at eb;obtain rfl:=bt eb;exact q tu
 ·rw[iU n]at eb
  exact eK.move (R.objs b ob eb) tu λz hz=>(hs.2 b n).trans hz
theorem Ext.set{σ:St}{h h':Heap}{x y:CO}(e:σ a=some x)(hi:x.fc=false)(hs:ju a h h')(hy:∃o,h'.get? a=some o):Ext σ h (upd σ a y) h':=
 ⟨λb o eb k=>(hs.2 b λz=>by subst z;rw[k x e]at hi;exact iR hi).trans eb,
  λb o eb n=>by rw[iU (λz=>by subst z;exact jy (e.symm.trans n))];exact n,
  λb z eb i=>by rw[iU (λq=>by subst q;obtain rfl:=bt (e.symm.trans eb);rw[i]at hi;exact iR hi)];exact eb,
  λb o eb=>by
   by_cases n:b=a
   ·subst n;exact hy
   ·exact⟨o,(hs.2 b n).trans eb⟩⟩
structure bK(c:Cx)(σ:St)(s:aw)(ae:St)(s':aw):Prop where
 rel:Rel c ae s'.heap
 ext:Ext σ s.heap ae s'.heap
 gens:s'.gens=s.gens
 os:s'.os=s.os
theorem bK.refl{c:Cx}{σ:St}(R:Rel c σ s.heap):bK c σ s σ s:=⟨R,.refl _ _,rfl,rfl⟩
theorem bK.trans{c:Cx}{b7 bT fD:St}{fu:aw}(x:bK c b7 bq bT bg)(y:bK c bT bg fD fu):bK c b7 bq fD fu:=
 ⟨y.rel,x.ext.trans y.ext,y.gens.trans x.gens,y.os.trans x.os⟩
theorem bK.tok{c:Cx}{σ ae:St}(x:bK c σ s ae s')(t:Nat):bK c σ s ae {s' with toks:=t}:=⟨x.rel,x.ext,x.gens,x.os⟩
theorem bK.HB{c:Cx}{σ:St}(R:Rel c σ s.heap)(t:Nat):bK c σ s σ {s with toks:=t}:=(bK.refl R).tok t
noncomputable def cC(c:Cx)(σ:St)(s:aw)(Q:CV->St->Prop):ak->aw->Prop:=
 λv s'=>∃x ae,aV s'.heap x v/\bK c σ s ae s'/\Q x ae
theorem cC.after{c:Cx}{b7 bT:St}{Q:CV->St->Prop}(w:bK c b7 bq bT bg):∀v s',cC c bT bg Q v s'->cC c b7 bq Q v s':=
 λ_ _ ⟨x,ae,r,w',q⟩=>⟨x,ae,r,w.trans w',q⟩
noncomputable abbrev No:ak->aw->Prop:=λz z=>False
theorem aV.bu{c:Cx}{σ ae:St}(R:Rel c σ s.heap)(w:bK c σ s ae s'){x:CV}{v:ak}(r:aV s.heap x v):aV s'.heap x v:=r.bQ (w.ext.lD R)
theorem aN.bu{c:Cx}{σ ae:St}(R:Rel c σ s.heap)(w:bK c σ s ae s'){x:List CV}{v:List ak}(r:aN s.heap x v):aN s'.heap x v:=r.bQ (w.ext.lD R)
noncomputable abbrev VM:=St->(CV->St->Prop)->Prop
structure fe(n:Nat)(A:bj):Prop where
 d:A.depth+n<recursionLimit
 u:A.units+20*n<cLine
 h:A.handled=none
theorem fe.le{n m:Nat}(r:fe n A)(h:m<=n):fe m A:=⟨by have:=r.d;exact l2 h this (by simp+arith only),by have:=r.u;exact l2 (eN 20 h) this (by simp+arith only),r.h⟩
theorem fe.depth{n:Nat}(r:fe n A):A.depth<recursionLimit:=by have:=r.d;exact je (mL ..) this
theorem fe.units{n:Nat}(r:fe n A):A.units<cLine:=by have:=r.u;exact je (mL ..) this
theorem fe.deeper{n:Nat}{e:Env}(r:fe (n+1) A):fe n (A.deeper e):=⟨by have:=r.d;show A.depth+1+n<_;exact l1 this (by simp+arith only),by have:=r.u;show A.units+3+20*n<_;exact l1 this (by simp+arith only),r.h⟩
section
variable{prog:dv}{w:cM}{A:bj}{E:ak->aw->Prop}{s:aw}
theorem wp_choose{M:fA}{src:Source}{n:Nat}{Q:Nat->aw->Prop}(hn:n≠0)(h:∀i,i<n->Q i {s with drawn:=s.drawn.bump src}):aM M A (choose src n) Q E s:=
 λΓ p _=>⟨hn,h _ (Fl _ (Nat.pos_of_ne_zero hn))⟩
theorem Jd{α:Type}:∀{l:List α} {i:Nat} (h:i<l.length),(l[i]::l.eraseIdx i).Perm l
 |x::l,0,h=>.refl _
 |x::l,i+1,h=>(List.Perm.swap _ _ _).trans ((Jd (l:=l) (i:=i) (by simpa using h)).cons x)
theorem Uh{α:Type}:∀(n:Nat) (xs:List α) {s:aw} {Q:List α->aw->Prop},xs.length=n->(∀ys d,ys.Perm xs->Q ys {s with drawn:=d})->aM (model prog w) A (drawOrder n xs) Q E s
 |0,xs,s,Q,hl,q=>by
  rw[List.length_eq_zero_iff.mp hl]at q;show aM _ _ (pure []) _ _ _
  exact aO (q [] s.drawn (.refl _))
 |n+1,[],s,Q,hl,q=>by exact rT hl
 |n+1,x::xs,s,Q,hl,q=>by
  show aM _ _ (choose .order (x::xs).length >>= _) _ _ _
  refine aC (wp_choose (by simp) λi hi=>?_)
  rw[bS hi];dsimp only
  refine aC (Uh n _ (by rw[YR,if_pos hi];simp at hl ⊢;exact hl) λys d hp=>aO (q _ _ ?_))
  exact(hp.cons _).trans (Jd hi)
theorem C9{M:fA}{Q:Bool->aw->Prop}(h:Q (M.w.params.followText "set-order") s):aM M A setsByText Q E s:=by
 unfold setsByText;exact aC (Zh (aO h))
theorem oJ:Slot "set_iterator" "__next__" "set_iterator.__next__":=
 .of (owner:="set_iterator") (n:="__next__") (by rw[iO,iM];kernel_rfl) (by decide+kernel) (by decide+kernel) (by decide+kernel)
  (by first |exact .inl (by decide+kernel) |exact .inr (by decide+kernel)) (by rw[lT];kernel_rfl)
theorem Dc:jx table "set_iterator.__next__"=some Builtin.«set_iterator.__next__»:=by first |exact qo (by kernel_rfl) |exact qp (by kernel_rfl)
theorem Ui:Manifest.owners.lookup (String.ofList ['r','o','t','a','r','e','t','i','_','t','e','s'].reverse)=some Manifest.sig_set_iterator:=by kernel_rfl
theorem Dd(a:ak):gp "set_iterator.__next__" ⟨[a],[]⟩:=by
 unfold gp;rw[pg (id:="set_iterator.__next__") (n:=['_','_','t','x','e','n','_','_']) (o:=['r','o','t','a','r','e','t','i','_','t','e','s']) (by kernel_rfl) Ui];kernel_rfl
theorem agi:jx table "set.__iter__"=some Builtin.«frozenset.__iter__»:=
 entryFor_alias (id':="frozenset.__iter__") (by kernel_rfl) rfl (by decide+kernel) (by kernel_rfl)
noncomputable def kO(h:Heap)(it:Addr)(f:ak)(i:Nat)(a:ak)(n ep:Nat):Prop:=∃o,h.get? it=some o/\o.cls=.type "set_iterator"/\o.data=.fields #[f,.int i 0,a,.int n 0,.int ep 0]
theorem kO.typeIs{s:aw}{a:ak}{n:Nat}(x:kO s.heap it f i a n ep):s.TypeIs (.ref it) "set_iterator":=let⟨o,ho,hc,_⟩:=x;⟨o,ho,hc⟩
theorem kO.at{h:Heap}{a:ak}{n:Nat}(x:kO h it f i a n ep)(e:∀o,h.get? it=some o->h'.get? it=some o):kO h' it f i a n ep:=let⟨o,ho,r⟩:=x;⟨o,e _ ho,r⟩
structure gU(h:Heap)(a:Addr)(es:Array (Int×ak))(ep:Nat)(t:fN):Prop where
 ex:∃o,h.get? a=some o/\o.ExactSet/\o.data=.set es ep t
 ft:t.fits es.size=true
theorem gU.at{h:Heap}{t:fN}(x:gU h a es ep t)(e:∀o,h.get? a=some o->h'.get? a=some o):gU h' a es ep t:=
 let⟨o,ho,r⟩:=x.ex;⟨⟨o,e _ ho,r⟩,x.ft⟩
theorem Uj{M:fA}{P:Addr}{m:Nat}{Q:Option (Array ak)->aw->Prop}(hP:s.heap.get? P=some {cls:=.type "tuple",data:=.seq c0 m})(h:Q (some c0) s):aM M A (xS (.ref P)) Q E s:=by
 unfold xS;refine aC (tE hP ?_);exact aO h
theorem agj{P:Addr}{n:Nat}{t:fN}{m p:Nat}{tk:Tok}{x:Int×ak}{Q:Option ak->aw->Prop}
  (hit:kO s.heap it (.ref P) i (.ref a) n ep)(hs:gU s.heap a es ep t)(hn:es.size=n)(hP:s.heap.get? P=some {cls:=.type "tuple",data:=.seq c0 m})(hi:c0[i]?=some (.int (p:Nat) tk))(hp:es[p]?=some x)
  (h:∀h',kO h' it (.ref P) (i+1) (.ref a) n ep->ju it s.heap h'->Q (some x.2) {s with heap:=h'}):aM (model prog w) A (mV (.ref it)) Q E s:=by
 obtain⟨o,ho,hc,hd⟩:=id hit;refine bF hs.ex λso jq sN jr=>?_;unfold mV;refine aC (AW (Aw (name:=fL "__next__") hit.typeIs oJ (rH oJ hit.typeIs Dc ?_ (Dd _))));unfold Builtin.«set_iterator.__next__» slotArgs;refine aC (aO ?_);refine aC (Ma ho hd ?_);dsimp only;refine aC (EO jq jr hs.ft ?_)
 rw[if_neg (by rw[hn];simp)]
 refine aC (Uj hP ?_);dsimp only;rw[pf,hi];dsimp only;unfold setNextDrawn;refine aC (aC (AI jq jr hs.ft ?_));dsimp only
 rw[if_neg (by simp),pf]
 refine aC (aO ?_);rw[hp];refine aO ?_
 refine aC (AP ho hd (by simp) ?_)
 exact aO ⟨_,rfl,aO (h _ ⟨_,rD _ ho (Lp (vq hd _)),(Y7 ..).trans hc,by rw[vq hd];simp[mW]⟩ (mJ ..))⟩
theorem Uk{Q:Option ak->aw->Prop}{R:PySem.Fin->aw->Prop}(hh:A.handled=none)(hQ:∀h',(∀b o,s.heap.get? b=some o->h'.get? b=some o)->Q none {s with heap:=h'}):
  aM (model prog w) A.in1 (do let x <-newExc (.type "StopIteration") [];raiseNew x) R (λe s'=>aM (model prog w) A (do let b <-isInstance e (.type "StopIteration");if b=true then pure none else throw e) Q E s') s:=by
 refine aC ?_;unfold newExc newTuple
 refine aC (rF ?_ (by size_fits))
 refine aC (m:=firstArgMember _ _) (eF (a:=kq) (by first |rfl |(simp only[firstArgMember];rfl)) ?_)
 refine rF ?_ (by size_fits)
 unfold raiseNew;refine aC (wpAny_handled ?_);rw[show A.in1.handled=none from hh];refine aC (aO (wpAny_throw ?_));refine aC (AJ (T:="StopIteration") (b:=true) ⟨_,fX _ rfl,rfl⟩ isSubtype_stop ?_);exact aO (hQ _ λb o e=>dY _ (dY _ e))
theorem agk{P:Addr}{n:Nat}{t:fN}{m:Nat}{Q:Option ak->aw->Prop}(hh:A.handled=none)
  (hit:kO s.heap it (.ref P) i (.ref a) n ep)(hs:gU s.heap a es ep t)(hn:es.size=n)(hP:s.heap.get? P=some {cls:=.type "tuple",data:=.seq c0 m})(hi:c0[i]?=none)
  (h:∀h',A1 it s.heap h'->Q none {s with heap:=h'}):aM (model prog w) A (mV (.ref it)) Q E s:=by
 obtain⟨o,ho,hc,hd⟩:=id hit;refine bF hs.ex λso jq sN jr=>?_;unfold mV;refine aC (AW (Aw (name:=fL "__next__") hit.typeIs oJ (rH oJ hit.typeIs Dc ?_ (Dd _))));unfold Builtin.«set_iterator.__next__» slotArgs;refine aC (aO ?_);refine aC (Ma ho hd ?_);dsimp only;refine aC (EO jq jr hs.ft ?_)
 rw[if_neg (by rw[hn];simp)]
 refine aC (Uj hP ?_);dsimp only;rw[pf,hi];dsimp only
 refine aC (AP ho hd (by simp) ?_)
 have iZ:=rD (tA (·.setIfInBounds 0 (mW 0))) ho (Lp (vq hd _));have s1:=mJ s.heap it (tA (·.setIfInBounds 0 (mW 0)))
 refine aC (AP iZ (vq hd _) (by simp) ?_)
 have s2:=mJ (s.heap.update it (tA (·.setIfInBounds 0 (mW 0)))) it (tA (·.setIfInBounds 2 kq));refine Uk hh λh' k=>h _ λb o hb e=>k _ _ (s2.extBut b o hb (s1.extBut b o hb e))
noncomputable def De(prog:dv)(w:cM)(A:bj)(a:Addr)(slot i ep:Nat)(s:aw)(r:Option (ak×Nat)):Prop:=
 ∀(E:ak->aw->Prop) (R:Option (ak×Nat)->aw->Prop),R r s->aM (model prog w) A (setNext a slot i ep) R E s
theorem Ul{t:fN}(hT:w.params.followText "set-order"=true)(hs:gU s.heap a es ep t):
  De prog w A a slot i ep s (((xT (w.params.setOrder a ep) es)[i]?).map λe=>(e.2,slot)):=λE R h=>by
 refine bF hs.ex λso jq sN jr=>?_;unfold setNext;refine aC (AI jq jr hs.ft ?_);dsimp only;refine aC (C9 ?_)
 show aM _ _ (if w.params.followText "set-order"=true then _ else _) _ _ _
 rw[if_pos hT,if_neg (by simp)]
 refine aC ?_;unfold setWalk;refine aC (AI jq jr hs.ft ?_);dsimp only;refine aC (C9 ?_)
 show aM _ _ (if w.params.followText "set-order"=true then _ else _) _ _ _
 rw[if_pos hT];exact aC (Zh (aO (aO h)))
theorem Um{t:fN}(hT:w.params.followText "set-order"=false)(hl:t.led=true)(h1:es.size<=1)(hs:gU s.heap a es ep t):
  De prog w A a slot i ep s (match es[AQ t.place slot]?,t.place[AQ t.place slot]? with |some (_,x),some j=>some (x,j+1) |_,_=>none):=λE R h=>by
 refine bF hs.ex λso jq sN jr=>?_;unfold setNext;refine aC (AI jq jr hs.ft ?_);dsimp only;refine aC (C9 ?_)
 show aM _ _ (if w.params.followText "set-order"=true then _ else _) _ _ _
 rw[if_neg (by rw[hT];decide)]
 refine E4 (λkP=>?_) (λz=>?_)
 ·have:(!t.plain&&decide (es.size>1))=true:=kP
  simp at this
  exact absurd this.2 (Zf h1)
 ·refine aC ?_
  show aM _ _ (if(!t.led&&!es.isEmpty)=true then _ else _) _ _ _
  rw[if_neg (by rw[hl];simp)]
  exact aO (aO h)
theorem Un{n nx:Nat}{t:fN}{x:ak}{Q:Option ak->aw->Prop}
  (hit:kO s.heap it (.int (slot:Nat) 0) i (.ref a) n ep)(hs:gU s.heap a es ep t)(hn:es.size=n)(hx:De prog w A.in1 a slot i ep s (some (x,nx)))
  (h:∀h',kO h' it (.int (nx:Nat) 0) (i+1) (.ref a) n ep->ju it s.heap h'->Q (some x) {s with heap:=h'}):aM (model prog w) A (mV (.ref it)) Q E s:=by
 obtain⟨o,ho,hc,hd⟩:=id hit;refine bF hs.ex λso jq sN jr=>?_;unfold mV;refine aC (AW (Aw (name:=fL "__next__") hit.typeIs oJ (rH oJ hit.typeIs Dc ?_ (Dd _))));unfold Builtin.«set_iterator.__next__» slotArgs;refine aC (aO ?_);refine aC (Ma ho hd ?_);dsimp only;refine aC (EO jq jr hs.ft ?_)
 rw[if_neg (by rw[hn];simp)]
 simp only[pf];refine aC (hx _ _ ?_);dsimp only
 refine aC (AP ho hd (by simp) ?_)
 have iZ:=rD (tA (·.setIfInBounds 0 (mW nx))) ho (Lp (vq hd _));have s1:=mJ s.heap it (tA (·.setIfInBounds 0 (mW nx)));have hd2:=vq hd (·.setIfInBounds 0 (mW nx))
 refine aC (AP iZ hd2 (by simp) ?_)
 have s2:=mJ (s.heap.update it (tA (·.setIfInBounds 0 (mW nx)))) it (tA (·.setIfInBounds 1 (mW ((i:Int)+1))))
 exact aO ⟨_,rfl,aO (h _ ⟨_,rD _ iZ (Lp (vq hd2 _)),(Y7 ..).trans ((Y7 ..).trans hc),by rw[vq hd2];simp[mW]⟩ (s1.trans s2))⟩
theorem Uo{n:Nat}{t:fN}{Q:Option ak->aw->Prop}(hh:A.handled=none)
  (hit:kO s.heap it (.int (slot:Nat) 0) i (.ref a) n ep)(hs:gU s.heap a es ep t)(hn:es.size=n)(hx:De prog w A.in1 a slot i ep s none)
  (h:∀h',A1 it s.heap h'->Q none {s with heap:=h'}):aM (model prog w) A (mV (.ref it)) Q E s:=by
 obtain⟨o,ho,hc,hd⟩:=id hit;refine bF hs.ex λso jq sN jr=>?_;unfold mV;refine aC (AW (Aw (name:=fL "__next__") hit.typeIs oJ (rH oJ hit.typeIs Dc ?_ (Dd _))));unfold Builtin.«set_iterator.__next__» slotArgs;refine aC (aO ?_);refine aC (Ma ho hd ?_);dsimp only;refine aC (EO jq jr hs.ft ?_)
 rw[if_neg (by rw[hn];simp)]
 simp only[pf];refine aC (hx _ _ ?_);dsimp only
 refine aC (AP ho hd (by simp) ?_)
 have s1:=mJ s.heap it (tA (·.setIfInBounds 2 kq));refine Uk hh λh' k=>h _ λb o hb e=>k _ _ (s1.extBut b o hb e)
theorem Up:Slot "set_iterator" "__iter__" "set_iterator.__iter__":=
 .of (owner:="set_iterator") (n:="__iter__") (by rw[iO,iM];kernel_rfl) (by decide+kernel) (by decide+kernel) (by decide+kernel)
  (by first |exact .inl (by decide+kernel) |exact .inr (by decide+kernel)) (by rw[lT];kernel_rfl)
theorem agl:jx table "set_iterator.__iter__"=some Builtin.«dict_keyiterator.__iter__»:=
 entryFor_alias (id':="dict_keyiterator.__iter__") (by kernel_rfl) rfl (by decide+kernel) (by kernel_rfl)
theorem agm(a:ak):gp "set_iterator.__iter__" ⟨[a],[]⟩:=by
 unfold gp;rw[pg (id:="set_iterator.__iter__") (n:=['_','_','r','e','t','i','_','_']) (o:=['r','o','t','a','r','e','t','i','_','t','e','s']) (by kernel_rfl) Ui];kernel_rfl
theorem Je{n:Nat}{Q:ak->aw->Prop}(hit:kO s.heap it f i (.ref a) n ep)(h:Q (.ref it) s):aM (model prog w) A (pyIter (.ref it)) Q E s:=by
 refine wpAny_pyIter_slot hit.typeIs Up (rH Up hit.typeIs agl ?_ (agm _));show aM _ _ (ret (.ref it)) _ _ s;exact aO ⟨_,rfl,"set_iterator",_,hit.typeIs,oJ.lookup,h⟩
theorem Uq{α:Type}{next:Nat->Nat}:∀(fuel k:Nat) (left:List α) (out:Array α),left.length=fuel->(pickOrder.go next fuel k left out).toList.Perm (out.toList++left)
 |0,k,left,out,hl=>by rw[List.length_eq_zero_iff.mp hl,fj];exact .refl _
 |fuel+1,k,left,out,hl=>by
  have hm:next k%left.length<left.length:=Fl _ (je (dE _) (er hl))
  show(match left[next k%left.length]? with |some x=>pickOrder.go next fuel (k+1) (left.eraseIdx (next k%left.length)) (out.push x) |none=>out).toList.Perm _
  rw[bS hm]
  refine(Uq fuel (k+1) _ _ (by rw[YR,if_pos hm];rw[hl];rfl)).trans ?_
  rw[ET,fK];exact List.Perm.append_left _ (Jd hm)
theorem Jf{α:Type}(next:Nat->Nat)(xs:Array α):(xT next xs).toList.Perm xs.toList:=by
 have:=Uq (next:=next) xs.size 0 xs.toList #[] (by simp)
 exact this
theorem agn{t:fN}(hh:A.handled=none)(hT:w.params.followText "set-order"=true)(ne:a≠I):
  Walks prog w A I [I,a] [I] es.size (λi v=>((xT (w.params.setOrder a ep) es)[i]?).map (λx=>x.2)=some v) (λi h=>kO h I (.int (0:Nat) 0) i (.ref a) es.size ep/\gU h a es ep t) where
 sub:=λb hb=>by simp at hb;simp[hb]
 frame:=λz z z st hk=>⟨st.1.at λo e=>hk I (by simp) o e,st.2.at λo e=>hk a (by simp) o e⟩
 item:=λi s Q E hi st hQ=>by
  have dK:(xT (w.params.setOrder a ep) es).size=es.size:=by rw[<-mI,(Jf _ _).length_eq];simp
  have hx:=Ul (prog:=prog) (A:=A.in1) (slot:=0) (i:=i) hT st.2
  obtain⟨x,Ur⟩:∃x,(xT (w.params.setOrder a ep) es)[i]?=some x:=⟨_,pb (by rw[dK];exact hi)⟩
  rw[Ur]at hx
  refine Un st.1 st.2 rfl hx λh' pV cH=>hQ _ h' s.toks (by rw[Ur];rfl) ⟨pV,st.2.at λo e=>cH.extBut a o ne e⟩ λb o hb e=>cH.extBut b o (λh=>hb (by simp[h])) e
 done:=λs Q E st hQ=>by
  have dK:(xT (w.params.setOrder a ep) es).size=es.size:=by rw[<-mI,(Jf _ _).length_eq];simp
  have hx:=Ul (prog:=prog) (A:=A.in1) (slot:=0) (i:=es.size) hT st.2;rw[alC ((el dK))]at hx
  exact Uo hh st.1 st.2 rfl hx λh' he=>hQ h' s.toks λb o hb e=>he b o (λh=>hb (by simp[h])) e
 self:=λz z z z st hQ=>Je st.1 hQ
theorem ago{P:Addr}{m:Nat}{t:fN}(hh:A.handled=none)(hp:ps.Perm (cS es.size))(ne:a≠I)(nP:P≠I):
  Walks prog w A I [I,a,P] [I] es.size (λi v=>(ps[i]?.bind λp=>es[p]?).map (λx=>x.2)=some v) (λi h=>(kO h I (.ref P) i (.ref a) es.size ep/\gU h a es ep t)/\h.get? P=some {cls:=.type "tuple",data:=.seq (ps.map λ(i:Nat)=>mW i).toArray m}) where
 sub:=λb hb=>by simp at hb;simp[hb]
 frame:=λz z z st hk=>⟨⟨st.1.1.at λo e=>hk I (by simp) o e,st.1.2.at λo e=>hk a (by simp) o e⟩,hk P (by simp) _ st.2⟩
 item:=λi s Q E hi st hQ=>by
  have hl:i<ps.length:=by rw[hp.length_eq];simpa using hi
  have Us:ps[i]<es.size:=List.mem_range.mp (hp.mem_iff.mp (vt hl))
  refine agj (p:=ps[i]) (x:=es[ps[i]]) (tk:=0) st.1.1 st.1.2 rfl st.2 (by simp[hl,mW]) (by simp[Us]) λh' pV cH=>hQ _ h' s.toks (by simp[hl,Us]) ⟨⟨pV,st.1.2.at λo e=>cH.extBut a o ne e⟩,cH.extBut P _ nP st.2⟩ λb o hb e=>cH.extBut b o (λh=>hb (by simp[h])) e
 done:=λs Q E st hQ=>by
  have hl:ps.length=es.size:=by rw[hp.length_eq];simp
  exact agk hh st.1.1 st.1.2 rfl st.2 (by simp[hl]) λh' he=>hQ h' s.toks λb o hb e=>he b o (λh=>hb (by simp[h])) e
 self:=λz z z z st hQ=>Je st.1.1 hQ
theorem Ut{xs:Array Nat}(h:xs.size=1):AQ xs j=if xs.getD 0 j<j then 1 else 0:=by
 unfold AQ;rw[h];exact if_pos Nat.zero_lt_one
theorem agp{t:fN}(hh:A.handled=none)(hT:w.params.followText "set-order"=false)(hl:t.led=true)(h1:es.size<=1)(ne:a≠I):
  Walks prog w A I [I,a] [I] es.size (λi v=>es[i]?.map (λx=>x.2)=some v) (λi h=>∃k:Nat,(i=0->k=0)/\(i=1->k=t.place.getD 0 0+1)/\kO h I (.int k 0) i (.ref a) es.size ep/\gU h a es ep t) where
 sub:=λb hb=>by simp at hb;simp[hb]
 frame:=λ_ _ _ ⟨k,z1,z2,st⟩ hk=>⟨k,z1,z2,st.1.at λo e=>hk I (by simp) o e,st.2.at λo e=>hk a (by simp) o e⟩
 item:=λi s Q E hi ⟨k,z1,z2,st⟩ hQ=>by
  have hi0:i=0:=Nat.lt_one_iff.1 (ey hi h1);subst hi0
  have zy:es.size=1:=by exact qq h1 hi
  have hp:t.place.size=1:=by have:=st.2.ft;simp[SetTable.fits]at this;exact this.1.trans (qq h1 hi)
  have hk:=z1 rfl;subst hk;have hx:=Um (prog:=prog) (A:=A.in1) (slot:=0) (i:=0) hT hl h1 st.2
  have hb:AQ t.place 0=0:=by rw[Ut hp];simp
  rw[hb,pb (hi),pb ((er hp))]at hx;dsimp only at hx
  refine Un st.1 st.2 rfl hx λh' pV cH=>hQ _ h' s.toks (by simp[zy]) ⟨_,(λh=>by exact A8 h),(λy=>by simp[Lc,hp]),pV,st.2.at λo e=>cH.extBut a o ne e⟩ λb o hb e=>cH.extBut b o (λh=>hb (by simp[h])) e
 done:=λs Q E ⟨k,z1,z2,st⟩ hQ=>by
  have hp:t.place.size=es.size:=by have:=st.2.ft;simp[SetTable.fits]at this;exact this.1
  have hx:=Um (prog:=prog) (A:=A.in1) (slot:=k) (i:=es.size) hT hl h1 st.2
  have hge:es.size<=AQ t.place k:=by
   have:es.size=0\/es.size=1:=zo h1
   rcases this with z |z
   ·exact cB (el z) rfl
   ·have hk:=z2 z
    rw[Ut (hp.trans z),if_pos]
    ·exact h1
    ·rw[Lc,pb (aR (er z) (er hp))]
     rw[Lc,pb (aR (er z) (er hp))]at hk;simp only[Zc]at hk ⊢;exact(er hk)
  rw[alC hge]at hx
  exact Uo hh st.1 st.2 rfl hx λh' he=>hQ h' s.toks λb o hb e=>he b o (λh=>hb (by simp[h])) e
 self:=λ_ _ _ _ ⟨_,_,_,st⟩ hQ=>Je st.1 hQ
end
section
variable{prog:dv}{w:cM}{A:bj}{E:ak->aw->Prop}{s:aw}
noncomputable abbrev Led(w:cM)(t:fN)(n:Nat):Prop:=w.params.followText "set-order"=false->t.led=true/\(2<=n->t.plain=false)
theorem gU.typeIs{t:fN}(x:gU s.heap a es ep t):s.TypeIs (.ref a) "set":=let⟨o,ho,hc,_⟩:=x.ex;⟨o,ho,hc.1⟩
theorem gU.lt{h:Heap}{t:fN}(x:gU h a es ep t):a<h.objs.size:=let⟨o,ho,_⟩:=x.ex;mP ho
structure SGo(prog:dv)(w:cM)(A:bj)(s:aw)(a:Addr)(es:Array (Int×ak))(I:Addr)(h':Heap)(fp:List Addr)(P:Nat->ak->Prop)(St:Nat->Heap->Prop)(xs:Array ak):Prop where
 walks:Walks prog w A I fp [I] es.size P St
 st:St 0 h'
 keep:∀b o,s.heap.get? b=some o->h'.get? b=some o
 fresh:s.heap.objs.size<=I
 Df:∀b∈fp,b=a\/s.heap.objs.size<=b
 perm:xs.toList.Perm (es.toList.map (λx=>x.2))
 items:∀i v,P i v->xs[i]?=some v
theorem agq{A':bj}{t:fN}{Q:ak->aw->Prop}(hh:A'.handled=none)(hs:gU s.heap a es ep t)(hl:Led w t es.size)(hz:es.size<=mT)
  (h:∀I h' d fp P St xs,SGo prog w A' s a es I h' fp P St xs->Q (.ref I) {s with heap:=h',drawn:=d}):aM (model prog w) A (pyIter (.ref a)) Q E s:=by
 refine bF hs.ex λso jq sN jr=>?_;have ck:=hs.lt;refine wpAny_pyIter_slot hs.typeIs PySem.F.slot_set_iter (rH PySem.F.slot_set_iter hs.typeIs agi ?_ (PySem.F.args_set_iter_1 _));unfold Builtin.«frozenset.__iter__» Builtin.Frozenset.slot0 slotArgs Builtin.Frozenset.addrOf Builtin.Frozenset.sizeOf;refine aC (aC (aO (aO ?_)));refine aC (aC (EO jq jr hs.ft (aO ?_)));dsimp only;refine aC ?_;unfold setDrawn;refine aC (AI jq jr hs.ft ?_);dsimp only;refine aC (C9 (aO ?_))
 refine E4 (λhd=>?_) (λhd=>?_)
 ·have fR:(!w.params.followText "set-order"&&(!t.plain&&decide (es.size>1)))=true:=hd
  refine aC (Uh _ _ (by simp) λps d hp=>?_)
  refine aC (wpAny_newTuple ?_ (by simp[hp.length_eq];exact hz))
  refine aC (wpAny_setEpoch_of (dY _ jq) jr hs.ft ?_);refine aC (rF (aO ⟨_,rfl,"set_iterator",_,⟨_,fX _ rfl,rfl⟩,oJ.lookup,?_⟩))
  have e1:s.heap.objs.size≠(s.heap.push {cls:=.type "tuple",data:=.seq (ps.map λ(i:Nat)=>mW i).toArray}).objs.size:=by simp[tz]
  refine h _ _ d _ _ _ ((ps.filterMap λp=>es[p]?).map (λx=>x.2)).toArray ⟨ago (m:=0) (ps:=ps) (ep:=ep) (t:=t) hh hp (by rw[tz];exact iP (xI ck)) e1,⟨⟨⟨_,fX _ rfl,rfl,rfl⟩,hs.at λo e=>dY _ (dY _ e)⟩,dY _ (fX _ rfl)⟩,λb o e=>dY _ (dY _ e),by simp[tz],λb hb=>?_,?_,λi v hv=>?_⟩
  ·simp at hb
   rcases hb with rfl |rfl |rfl
   ·right;simp[tz]
   ·left;rfl
   ·right;exact cP _
  ·have:=(hp.filterMap λp=>es[p]?).map (λx=>x.2)
   rw[filterMap_getElem?_range]at this
   simpa using this
  ·have sM:∀p∈ps,∃x,es[p]?=some x:=λp qb=>⟨_,pb (List.mem_range.mp (hp.mem_iff.mp qb))⟩
   clear hp;simp only[List.getElem?_toArray,dM];rw[<-hv]
   congr 1
   clear hv h e1
   induction ps generalizing i with
   |nil=>simp
   |cons p ps ih=>
    refine xe (sM p (.head _)) λx hx=>?_;rw[List.filterMap_cons_some hx]
    induction i with
    |zero=>simp[hx]
    |succ i=>simpa using ih i λq hq=>sM q (.tail _ hq)
 ·have fR:¬(!w.params.followText "set-order"&&(!t.plain&&decide (es.size>1)))=true:=hd
  refine aC (aO ?_);refine aC (wpAny_setEpoch_of jq jr hs.ft ?_);refine aC (rF (aO ⟨_,rfl,"set_iterator",_,⟨_,fX _ rfl,rfl⟩,oJ.lookup,?_⟩))
  have Df:∀b∈[s.heap.objs.size,a],b=a\/s.heap.objs.size<=b:=λb hb=>by
   simp at hb
   rcases hb with rfl |rfl
   ·right;exact cP _
   ·left;rfl
  cases hT:w.params.followText "set-order" with
  |true=>
   exact h _ _ s.drawn _ _ _ ((xT (w.params.setOrder a ep) es).map (λx=>x.2)) ⟨agn (ep:=ep) (t:=t) hh hT (iP ck),⟨⟨_,fX _ rfl,rfl,rfl⟩,hs.at λo e=>dY _ e⟩,λb o e=>dY _ e,cP _,Df,by
    rw[Zg];exact(Jf _ _).map _,λi v hv=>by rw[Array.getElem?_map];exact hv⟩
  |false=>
   refine xa (hl hT) λl1 l2=>?_
   have h1:es.size<=1:=by
    refine EY λUu=>fR ?_;rw[hT,l2 Uu];simp;exact Uu
   exact h _ _ s.drawn _ _ _ (es.map (λx=>x.2)) ⟨agp (ep:=ep) (t:=t) hh hT l1 h1 (iP ck),⟨0,λz=>rfl,(λh=>by exact rT h),⟨_,fX _ rfl,rfl,rfl⟩,hs.at λo e=>dY _ e⟩,λb o e=>dY _ e,cP _,Df,by
    rw[Zg],λi v hv=>by rw[Array.getElem?_map];exact hv⟩
theorem agr{Q:Bool->aw->Prop}(hT:s.TypeIs (.ref a) "set")(h:Q false s):aM (model prog w) A (alc (.ref a)) Q E s:=by
 unfold alc;refine aC (vw hT PySem.F.slot_set_len.lookup ?_);generalize Uv:("set.__len__":String)=id0
 wp_delta
 rw[show splitId id0=some ("set","__len__")from by subst Uv;decide+kernel]
 subst Uv
 refine aC (AJ (T:="set") (b:=true) hT (by rw[lT];kernel_rfl) ?_)
 refine E4 (λkP=>absurd kP (by decide)) (λz=>?_)
 refine E4 (λz=>?_) (λkP=>absurd (by decide+kernel) kP)
 refine aC (xQ hT ?_);exact aO h
theorem ags{R:lj->aw->Prop}{t:fN}(hh:A.handled=none)(hs:gU s.heap a es ep t)(hl:Led w t es.size)(hn:es.size<=mT)(S:Addr)(Uw:S≠a)(res:ak)(c₀:Nat)
  (hS:s.heap.get? S=some {cls:=.type "list",data:=.seq #[] c₀})
  (hR:∀h' tk d kQ c',(∀b o,b≠S->s.heap.get? b=some o->h'.get? b=some o)->h'.get? S=some {cls:=.type "list",dict:=none,data:=.seq kQ c',slots:=#[]}->kQ.toList.Perm (es.toList.map (λx=>x.2))->R (.ok (.ret res)) {s with heap:=h',toks:=tk,drawn:=d}):
  aM (model prog w) A.in1 (YC (.ref S) (.ref a) res)
   (λfin s'=>match fin with |.done f=>R (.ok f) s' |.again c'=>c'.quiet=true/\rS (model prog w) A c' R s') (λe s'=>R (.error e) s') s:=by
 have Dg:=mP hS;unfold YC;refine aC (xQ (T:="set") hs.typeIs ?_)
 have h1:als (.ref S) (.ref a)=false:=by simp[als,Uw]
 have h2:(k9 "set"==k9 "list")=false:=by decide
 have h3:(k9 "set"==k9 "tuple")=false:=by decide
 refine wpAny_ite_false (by rw[h1,h2,h3];rfl) ?_
 refine aC (agq (A':=A.in1) hh hs hl hn λI h0 d fp P St xs G=>?_);have hSI:S≠I:=iP (ey Dg G.fresh)
 have zA:S∉fp:=λhm=>by
  rcases G.Df S hm with z |z
  ·exact Uw z
  ·exact AU _ (ey Dg z)
 have key:∀(h:Heap) (c₁ tk:Nat),St 0 h->(∀b o,b≠S->s.heap.get? b=some o->h.get? b=some o)->
   h.get? S=some {cls:=.type "list",data:=.seq #[] c₁}->rS (model prog w) A (.builtin "list.extend.loop" ⟨[.ref S,.ref I,res],[]⟩) R {s with heap:=h,toks:=tk,drawn:=d}:=by
  intro h c₁ tk zB hk uy;refine codeAny_extend_loopS G.walks.toS hn S zA res es.size 0 _ #[] c₁ rfl (dE _) zB uy (ItemsOf.nil _) λs' kQ c' hm gu mr=>?_;rw[Moved.eq_with hm]
  have hx:kQ=xs:=by
   have wN:xs.size=es.size:=by rw[<-mI,G.perm.length_eq];simp
   apply Array.ext
   ·rw[wN];exact mr.1
   ·intro j hj1 hj2
    have:=G.items j _ (mr.2 j kQ[j] (pb hj1));rw[pb hj2]at this;exact(bt this).symm
  refine hR s'.heap s'.toks d kQ c' (λb o hb e=>hm.heap b o (λJg=>?_) (hk b o hb e)) gu (hx▸G.perm)
  rcases List.mem_cons.mp Jg with e' |Jg
  ·exact hb e'
  ·have:=mP e
   rw[List.mem_singleton.mp Jg]at this;exact AU _ (ey this G.fresh)
 have uy:=G.keep _ _ hS;have zy:=hs.at λo e=>G.keep _ _ e;refine aC (jf (agr zy.typeIs ?_));refine E4 (λy=>?_) (λy=>aO ⟨xP alk _,key _ c₀ _ G.st (λb o y e=>G.keep b o e) uy⟩);refine aC (rP ?_);refine aC ?_;show aM _ _ (updateSeq S (·.push .none) >>= λy=>updateSeq S (λx=>x.pop)) _ _ _;refine aC (wpAny_updateSeq uy rfl ?_);have Ux:=rD (jv (·.push kq)) uy rfl
 refine wpAny_updateSeq (hz:=by seq_fits) Ux rfl ?_
 have agt:=rD (jv (λx=>x.pop)) Ux rfl
 refine aO ⟨xP alk _,key _ _ _ ?_ (λb o hb e=>?_) agt⟩
 ·refine G.walks.frame 0 _ _ G.st λb hb o e=>?_
  have Uy:b≠S:=λh=>zA (h▸hb)
  exact(Lo _ _ (Ne.symm Uy)).trans ((Lo _ _ (Ne.symm Uy)).trans e)
 ·exact(Lo _ _ (Ne.symm hb)).trans ((Lo _ _ (Ne.symm hb)).trans (G.keep _ _ e))
theorem agu{R:List ak->aw->Prop}{t:fN}(hh:A.handled=none)(hs:gU s.heap a es ep t)(hl:Led w t es.size)(hn:es.size<=mT)
  (h:∀(h':Heap) (tk:Nat) (d:Drawn) (acc:List ak),(∀b o,s.heap.get? b=some o->h'.get? b=some o)->acc.Perm (es.toList.map (λx=>x.2))->R acc {s with heap:=h',toks:=tk,drawn:=d}):
  aM (model prog w) A (collect (.ref a)) R E s:=by
 have ck:=hs.lt;unfold collect;refine aC (wpAny_runValue (AN entry_proto_collect' ?_));rw[xF PySem.F.plain_proto_collect _];show aM _ A.in1 (newList [] >>= λl=>again (.builtin "list.__iadd__" ⟨[l,.ref a],[]⟩)) _ _ s;refine aC (rF ?_);refine aO ⟨xP alx _,AN entry_list_iadd' ?_⟩;rw[xF alx _];have uy:(s.heap.push {cls:=.type "list",data:=.seq ([]:List ak).toArray}).get? s.heap.objs.size=some {cls:=.type "list",data:=.seq #[]}:=fX _ rfl;show aM _ A.in1 (YC (.ref s.heap.objs.size) (.ref a) (.ref s.heap.objs.size)) _ _ _
 have key:=ags (prog:=prog) (A:=A) (s:={s with heap:=s.heap.push {cls:=.type "list",data:=.seq ([]:List ak).toArray}})
  (R:=λ(q:lj) (s':aw)=>∃(h':Heap) (tk:Nat) (d:Drawn) (kQ:Array ak) (c':Nat),q=.ok (.ret (.ref s.heap.objs.size))/\s'={s with heap:=h',toks:=tk,drawn:=d}/\
   (∀b o,s.heap.get? b=some o->h'.get? b=some o)/\h'.get? s.heap.objs.size=some {cls:=.type "list",dict:=none,data:=.seq kQ c',slots:=#[]}/\kQ.toList.Perm (es.toList.map (λx=>x.2)))
  hh (hs.at λo e=>dY _ e) hl hn s.heap.objs.size (vz ck) (.ref s.heap.objs.size) 0 uy
  (λh' tk d kQ c' hk gu mr=>⟨h',tk,d,kQ,c',rfl,rfl,λb o e=>hk b o (iP (mP e)) (dY _ e),gu,mr⟩)
 refine b0 key (λfin s' x=>?_) λe s' x=>?_
 ·induction fin with
  |done f=>
   refine MK x λh' tk d kQ c' e aq hk gu mr=>?_;clear x;subst aq;obtain rfl:=Except.ok.inj e;show aM _ A (load s.heap.objs.size >>= _) _ _ _;refine aC (tE gu ?_)
   exact aO (h h' tk d kQ.toList hk mr)
  |again c₁=>
   refine⟨x.1,AZ x.2 λq bg y=>?_⟩;refine MK y λh' tk d kQ c' aq qN hk gu mr=>?_;clear y;subst aq;subst qN;show aM _ A (load s.heap.objs.size >>= _) _ _ _;refine aC (tE gu ?_)
   exact aO (h h' tk d kQ.toList hk mr)
 ·obtain⟨_,_,_,_,_,e',_⟩:=x
  cases e'
end
variable {Q:CV->St->Prop}{W' W0 W1 ae ao b7 bL bT fD σ σ₀:St}{cW x y:CV}{fs:List ( Nat×CV )}{o:CO}{vf:Nat->CV}{ws xs ys:List CV}
set_option tactic.hygienic true
noncomputable abbrev Ks:=List (Nat×fy)
noncomputable abbrev aL:=Nat->Option CV
noncomputable def bA(e:aL)(i:Nat)(v:CV):aL:=λj=>match rQ j i with
 |true=>some v
 |false=>e j
theorem hJ(e:aL)(i:Nat)(v:CV):bA e i v i=some v:=by unfold bA;rw[Nat.beq_refl]
theorem ox{e:aL}{v:CV}(h:j≠i):bA e i v j=e j:=by
 unfold bA
 cases q:rQ j i with
 |false=>rfl
 |true=>exact absurd (Nat.eq_of_beq_eq_true q) h
structure jj(c:Cx)(env:Env)(ks:Ks):Prop where
 names:env.scope.names=ks.map λp=>(nm p.1,p.2)
 small:∀p∈ks,p.1<nN
 kind:env.scope.kind=.function
 glob:env.globals=nV
 blt:env.builtins=Fp
 apart:∀i j a,i<nN->j<nN->env.cells.lookup (nm i)=some a->env.cells.lookup (nm j)=some a->i=j
theorem yQ:∀{ks:Ks},(∀p∈ks,p.1<nN)->∀{i:Nat},i<nN->(ks.map λp=>(nm p.1,p.2)).lookup (nm i)=ks.lookup i
 |[],_,_,_=>rfl
 |(j,k)::r,h,i,hi=>by
  rw[gC,kj,kj]
  by_cases q:i=j
  ·subst q;simp
  ·have:nm i≠nm j:=λe=>q (oE hi (h _ (.head _)) e)
   rw[beq_eq_false_iff_ne.mpr this,beq_eq_false_iff_ne.mpr q];exact yQ (λp hp=>h p (.tail _ hp)) hi
theorem lookup_mem{α β:Type}[BEq α][LawfulBEq α]:∀{l:List (α×β)} {i:α} {k:β},l.lookup i=some k->(i,k)∈l
 |(j,k')::r,i,k,h=>by
  rw[kj]at h
  split at h
  ·rename_i q;obtain rfl:=bt h;rw[n9 q];exact .head _
  ·exact .tail _ (lookup_mem h)
theorem jj.kindOf{c:Cx}{env:Env}{ks:Ks}(ok:jj c env ks)(hi:i<nN):env.kindOf (nm i)=ks.lookup i:=by
 unfold Env.kindOf;rw[ok.names];exact yQ ok.small hi
theorem jj.lt{c:Cx}{env:Env}{ks:Ks}(ok:jj c env ks){k:fy}(h:ks.lookup i=some k):i<nN:=ok.small _ (lookup_mem h)
structure eY(c:Cx)(env:Env)(ks:Ks)(e:aL)(σ:St)(h:Heap):Prop where
 ns:∃m,h.Ns env.locals m/\∀i v,ks.lookup i=some .local->e i=some v->∃x,m (nm i)=some x/\aV h v x
 t4:σ env.locals=none
 yR:c.H0.get? env.locals=none
 cells:∀i,(ks.lookup i=some .cell\/ks.lookup i=some .free)->∃a x,env.cells.lookup (nm i)=some a/\h.IsCell a x/\σ a=none/\c.H0.get? a=none/\∀v,e i=some v->∃y,x=some y/\aV h v y
theorem eY.bu{c:Cx}{env:Env}{ks:Ks}{e:aL}{σ:St}{h:Heap}(F:eY c env ks e σ h)(R:Rel c σ h)(x:Ext σ h ae h'):eY c env ks e ae h':=by
 obtain⟨m,⟨o,es,ep,ho,hd,hk,hf⟩,hm⟩:=F.ns
 refine⟨⟨m,⟨o,es,ep,x.at ho F.t4,hd,hk,hf⟩,λi v a b=>?_⟩,x.gg _ _ ho F.t4,F.yR,λi hi=>?_⟩
 ·refine a9 (hm i v a b) λy h1 h2=>?_;exact⟨y,h1,h2.bQ (x.lD R)⟩
 ·obtain⟨a,y,h1,⟨o',c7,fR⟩,h3,h4,h5⟩:=F.cells i hi
  refine⟨a,y,h1,⟨o',x.at c7 h3,fR⟩,x.gg _ _ c7 h3,h4,λv hv=>?_⟩;refine a9 (h5 v hv) λz hz hr=>?_;exact⟨z,hz,hr.bQ (x.lD R)⟩
structure cO(c:Cx)(n:Nat)(A:bj)(env:Env)(ks:Ks)(e:aL)(σ:St)(s:aw):Prop where
 room:fe n A
 ok:jj c env ks
 fr:eY c env ks e σ s.heap
 rel:Rel c σ s.heap
theorem cO.bu{c:Cx}{n:Nat}{A:bj}{env:Env}{ks:Ks}{e:aL}{σ:St}{s:aw}(N:cO c n A env ks e σ s)(w:bK c σ s ae s'):cO c n A env ks e ae s':=
 ⟨N.room,N.ok,N.fr.bu N.rel w.ext,w.rel⟩
noncomputable abbrev EM:=aL->St->(CV->St->Prop)->Prop
noncomputable abbrev cV:=aL->St->(List CV->St->Prop)->Prop
noncomputable abbrev TM:=aL->St->(Bool->St->Prop)->Prop
noncomputable def mf(c:Cx)(σ:St)(s:aw)(Q:Bool->St->Prop):Bool->aw->Prop:=λb s'=>∃ae,bK c σ s ae s'/\Q b ae
noncomputable def yS(c:Cx)(σ:St)(s:aw)(Q:List CV->St->Prop):List ak->aw->Prop:=λvs s'=>∃xs ae,aN s'.heap xs vs/\bK c σ s ae s'/\Q xs ae
theorem mf.after{c:Cx}{Q:Bool->St->Prop}(w:bK c b7 bq bT bg):∀v s',mf c bT bg Q v s'->mf c b7 bq Q v s':=
 λ_ _ ⟨ae,w',q⟩=>⟨ae,w.trans w',q⟩
noncomputable def aH(c:Cx)(n:Nat)(ks:Ks)(x:Expr)(m:EM):Prop:=
 ∀⦃A:bj⦄ ⦃env:Env⦄ ⦃e:aL⦄ ⦃σ:St⦄ ⦃s:aw⦄ ⦃Q:CV->St->Prop⦄,cO c n A env ks e σ s->m e σ Q->aM c.M A (eval x env) (cC c σ s Q) No s
noncomputable def gZ(c:Cx)(n:Nat)(ks:Ks)(xs:List Expr)(m:cV):Prop:=
 ∀⦃A:bj⦄ ⦃env:Env⦄ ⦃e:aL⦄ ⦃σ:St⦄ ⦃s:aw⦄ ⦃Q:List CV->St->Prop⦄ (pos:Pos),cO c n A env ks e σ s->m e σ Q->aM c.M A (spliced (dZ pos (cU xs env))) (yS c σ s Q) No s
noncomputable def gI(c:Cx)(n:Nat)(ks:Ks)(x:Expr)(m:TM):Prop:=
 ∀⦃A:bj⦄ ⦃env:Env⦄ ⦃e:aL⦄ ⦃σ:St⦄ ⦃s:aw⦄ ⦃Q:Bool->St->Prop⦄ (whole:Sem ak),whole=eval x env->cO c n A env ks e σ s->m e σ Q->aM c.M A (isTrue x env whole) (mf c σ s Q) No s
section
variable{c:Cx}{n:Nat}{ks:Ks}{A:bj}{env:Env}{e:aL}{σ:St}{s:aw}
theorem wp_step{t:Sem ak}{Q1:CV->St->Prop}{R:ak->aw->Prop}(h:aM c.M A t (cC c σ s Q1) No s)
  (k:∀x v ae s',aV s'.heap x v->bK c σ s ae s'->Q1 x ae->R v s'):aM c.M A t R No s:=
 b0 h (λv s' ⟨x,ae,r,w,q⟩=>k x v ae s' r w q) λo o z=>z
theorem t5{t:Sem (List ak)}{Q1:List CV->St->Prop}{R:List ak->aw->Prop}(h:aM c.M A t (yS c σ s Q1) No s)
  (k:∀x v ae s',aN s'.heap x v->bK c σ s ae s'->Q1 x ae->R v s'):aM c.M A t R No s:=
 b0 h (λv s' ⟨x,ae,r,w,q⟩=>k x v ae s' r w q) λo o z=>z
theorem yT{t:Sem Bool}{Q1:Bool->St->Prop}{R:Bool->aw->Prop}(h:aM c.M A t (mf c σ s Q1) No s)
  (k:∀b ae s',bK c σ s ae s'->Q1 b ae->R b s'):aM c.M A t R No s:=
 b0 h (λv s' ⟨ae,w,q⟩=>k v ae s' w q) λo o z=>z
theorem iE{t:Sem ak}(w:bK c σ s bT bg)(h:aM c.M A t (cC c bT bg Q) No bg):aM c.M A t (cC c σ s Q) No bg:=
 b0 h (cC.after w) λo o z=>z
theorem Qa{t:Sem Bool}{Q:Bool->St->Prop}(w:bK c σ s bT bg)(h:aM c.M A t (mf c bT bg Q) No bg):aM c.M A t (mf c σ s Q) No bg:=
 b0 h (mf.after w) λo o z=>z
theorem pS(R:Rel c σ s.heap)(r:aV s.heap x v)(q:Q x σ):cC c σ s Q v s:=⟨x,σ,r,.refl R,q⟩
theorem dq{t:Nat}(R:Rel c σ s.heap)(r:aV s.heap x v)(q:Q x σ):cC c σ s Q v {s with toks:=t}:=⟨x,σ,r,.HB R t,q⟩
noncomputable def isVar:Option fy->Bool
 |some .local |some .cell |some .free=>true
 |_=>false
noncomputable def af(i:Nat):EM:=λe σ Q=>match e i with
 |some v=>Q v σ
 |none=>False
theorem BH{e:aL}{σ:St}{v:CV}(h:e i=some v)(q:Q v σ):af i e σ Q:=by unfold af;rw[h];exact q
theorem ac4{e:aL}{σ:St}(q:af i e σ Q):∃v,e i=some v/\Q v σ:=by
 unfold af at q
 split at q
 ·exact⟨_,‹_›,q⟩
 ·exact q.elim
theorem HC(hi:i<nN)(hj:j<nN)(h:i≠j){x:bx}(ej:nm j=x):(nm i==x)=false:=by
 subst ej;exact beq_eq_false_iff_ne.mpr λe=>h (oE hi hj e)
theorem Qb:nm rW=("__debug__":bx):=rfl
theorem ac5:nm tO=("__classdict__":bx):=rfl
theorem Qc{x:bx}(hx:nm i=x)(hk:isVar (ks.lookup i)=true)(hd2:i≠tO)
  (N:cO c n A env ks e σ s)(q:af i e σ Q):aM c.M A (loadName env x) (cC c σ s Q) No s:=by
 subst hx;refine a9 (ac4 q) λv hv q=>?_
 cases hl:ks.lookup i with
 |none=>rw[hl]at hk;exact eP hk
 |some k=>
  have hi:=N.ok.lt hl;have jm:=N.ok.kindOf hi;rw[hl]at jm;have fin:∀y,aV s.heap v y->cC c σ s Q y s:=λy r=>pS N.rel r q
  induction k with
  |«local»=>
   refine a9 N.fr.ns λm hm B6=>?_;refine a9 (B6 i v hl hv) λy hy r=>?_
   exact wpAny_loadName_local N.ok.kind jm hm hy (fin y r)
  |cell=>
   obtain⟨a,y,h1,h2,_,_,h5⟩:=N.fr.cells i (.inl hl);refine a9 (h5 v hv) λz aq r=>?_;subst aq
   exact wpAny_loadName_cell N.ok.kind jm h1 h2 (fin z r)
  |free=>
   obtain⟨a,y,h1,h2,_,_,h5⟩:=N.fr.cells i (.inr hl);refine a9 (h5 v hv) λz aq r=>?_;subst aq
   exact wpAny_loadName_free N.ok.kind jm h1 h2 (fin z r) (HC hi (by decide) hd2 ac5)
  |globalImplicit=>rw[hl]at hk;exact eP hk
  |globalExplicit=>rw[hl]at hk;exact eP hk
theorem aH.var{x:bx}{pos:Pos}(i:Nat)(hx:nm i=x)(hk:isVar (ks.lookup i)=true)(hd:i≠rW)(hd2:i≠tO):aH c n ks (.Name x pos) (af i):=by
 intro A env e σ s Q N q
 have hi:i<nN:=by
  cases hl:ks.lookup i with
  |none=>rw[hl]at hk;exact eP hk
  |some k=>exact N.ok.lt hl
 exact wpAny_Name (Qc hx hk hd2 N q) (hx▸HC hi (by decide) hd Qb)
noncomputable def x3(c:Cx)(i:Nat)(x:CV):Prop:=∃v,(c.mg (nm i)=some v\/(c.mg (nm i)=none/\c.mb (nm i)=some v))/\aV c.H0 x v
noncomputable def fm(x:CV):EM:=λz σ Q=>Q x σ
theorem Rel.ac6{c:Cx}{σ:St}{h:Heap}(R:Rel c σ h):gr c.H0 h:=λb z z e=>R.base b _ e
theorem aH.glob{x:bx}{pos:Pos}{v:CV}(i:Nat)(hx:nm i=x)(hk:ks.lookup i=some .globalImplicit)(hd:i≠rW)(hg:x3 c i v):aH c n ks (.Name x pos) (fm v):=by
 intro A env e σ s Q N q;subst hx;have hi:=N.ok.lt hk;have jm:=N.ok.kindOf hi;rw[hk]at jm;obtain⟨y,hy,r⟩:=hg;have fin:cC c σ s Q y s:=pS N.rel (r.bQ N.rel.ac6) q
 have ng:s.heap.Ns env.globals c.mg:=by rw[N.ok.glob];exact c.ng.keeps N.rel.base
 refine Name_function_global N.ok.kind jm ?_ (HC hi (by decide) hd Qb)
 rcases hy with hy |⟨h1,h2⟩
 ·exact loadGlobal_global ng hy fin
 ·exact loadGlobal_builtin ng h1 (by rw[N.ok.blt];exact c.nb.keeps N.rel.base) h2 fin
noncomputable def au(x:CV):EM:=λz σ Q=>Q x σ
theorem aH.cInt{i:Int}{k:Nat}{pos:Pos}:aH c n ks (.Constant (.int i) k pos) (au (.int i)):=λA env e σ s Q N q=>wpAny_Constant_int (dq N.rel (.int _ _) q)
theorem aH.Z8{b:List UInt8}{k:Nat}{pos:Pos}:aH c n ks (.Constant (.bytes b) k pos) (au (.bytes b)):=λA env e σ s Q N q=>Constant_bytes (dq N.rel (.bytes _ _) q)
theorem aH.Z7{k:Nat}{pos:Pos}:aH c n ks (.Constant .none k pos) (au .none):=λA env e σ s Q N q=>λz z z=>pS N.rel .none q
theorem aH.cBool{b:Bool}{k:Nat}{pos:Pos}:aH c n ks (.Constant (.bool b) k pos) (au (.bool b)):=λA env e σ s Q N q=>λz z z=>pS N.rel (.bool _) q
theorem aH.cStr{x:bx}{k:Nat}{pos:Pos}:aH c n ks (.Constant (.str x) k pos) (au (.str x)):=λA env e σ s Q N q=>λz z z=>dq N.rel (.str _ _) q
end
section
variable{prog:dv}{w:cM}{A:bj}{E:ak->aw->Prop}{s:aw}
theorem agv(t:fN)(es:Array (Int×ak))(h:Int)(x:ak):(layNew t es h x).2.1.led=t.led:=by
 unfold layNew
 split
 ·dsimp only
  unfold SetTable.orStandIn
  split
  ·rfl
  ·rfl
 ·rfl
theorem agw(t:fN)(es:Array (Int×ak))(n:Nat):(xU t es n).2.1.led=t.led/\(t.plain=false->(xU t es n).2.1.plain=false):=by
 unfold xU
 split
 ·rename_i t' order he
  have hz:t'.led=t.led/\t'.plain=t.plain:=by
   unfold SetTable.relaid SetTable.laid at he;simp only[bind,vj,pure,Option.some.injEq,Prod.mk.injEq]at he;refine bF he λow h1 h2 h3=>?_;rw[<-h2];exact⟨rfl,rfl⟩
  dsimp only
  split
  ·exact⟨hz.1,λh=>hz.2.trans h⟩
  ·exact⟨rfl,λz=>rfl⟩
 ·exact⟨rfl,λz=>rfl⟩
structure SL(prog:dv)(w:cM)(h:Heap)(a:Addr)(ks:List (List UInt8))(es:Array (Int×ak))(ep:Nat)(t:fN):Prop where
 ob:gU h a es ep t
 el:ElemsOf (fM prog w) es.toList
 mem:∀k,k∈ks↔∃e∈es.toList,(fM prog w).is k e.2=true
 sz:es.size=ks.length
 lt:es.size<tH
 led:w.params.followText "set-order"=false->t.led=true/\(1<=es.size->t.plain=false)
theorem Uz{h:Heap}{t:fN}(x:gU h a es ep t){iG:Array (Int×ak)}{t':fN}(hf:t'.fits iG.size=true):gU (h.update a (Obj.putSet iG t')) a iG (ep+1) t':=by
 refine bF x.ex λo ho hex hd=>?_
 have hg:(h.update a (Obj.putSet iG t')).get? a=some {o with data:=.set iG (ep+1) t'}:=by
  have:=rD (Obj.putSet iG t') ho (by rw[putSet_of iG t' hd];rfl)
  rw[putSet_of iG t' hd]at this;exact this
 exact⟨⟨_,hg,hex,rfl⟩,hf⟩
theorem add_sl{ks:List (List UInt8)}{t:fN}{k:List UInt8}{tk:Tok}{Q:Bool->aw->Prop}(S:SL prog w s.heap a ks es ep t)(ml:ks.length+1<tH)
  (h:∀h' iG Cc t' b,ju a s.heap h'->SL prog w h' a (if k∈ks then ks else ks++[k]) iG Cc t'->Q b {s with heap:=h'}):
  aM (model prog w) A (setAddHashed a (.bytes k.toArray tk) ((fM prog w).hash k)) Q E s:=by
 refine bF S.ob.ex λo ho hex hd=>?_
 have Jh:(fM prog w).is k (.bytes k.toArray tk)=true:=by simp[fM,tK]
 have oG:(Fi k.toArray tk).scannable=true:=rfl;unfold setAddHashed setAddHashedIn;refine jf (aC (AI ho hd S.ob.ft ?_));dsimp only;rw[byScan_of oG S.lt S.el];simp only[↓reduceIte];unfold setAddByScan;refine aC ?_;refine aC (rP ?_);refine aC (wpAny_setScan_of Jh ho hd S.ob.ft S.el ?_)
 cases hr:List.findIdx? (λe=>(fM prog w).is k e.2) es.toList with
 |some j=>
  dsimp only;obtain⟨hj,hpj,_⟩:=List.findIdx?_eq_some_iff_getElem.mp hr;have hk:k∈ks:=(S.mem k).mpr ⟨es.toList[j],vt hj,hpj⟩;refine aO (aO ?_)
  have:=h s.heap es ep t false (Heap.SameBut.refl a s.heap) (by rw[if_pos hk];exact S)
  exact this
 |none=>
  dsimp only
  have hk:k∉ks:=λhk=>by
   refine a9 ((S.mem k).mp hk) λe he hp=>?_;have:=List.findIdx?_eq_none_iff.mp hr e he;rw[hp]at this;exact Bool.noConfusion this
  rw[if_neg hk]at h
  have hgw:∀(b:Bool) {bq:aw} {Q':Unit->aw->Prop},Q' () bq->aM (model prog w) A (match b with |true=>rule "set.scan.the-table-gave-way" |false=>pure ()) Q' E bq:=
   λb bq Q' hq=>by cases b<;>first |exact aO hq |exact rP hq
  have sO:=layNew_perm t es ((fM prog w).hash k) (.bytes k.toArray tk);have Dh:=layNew_fits t es ((fM prog w).hash k) (.bytes k.toArray tk);have qc:=agv t es ((fM prog w).hash k) (.bytes k.toArray tk);generalize layNew t es ((fM prog w).hash k) (.bytes k.toArray tk)=L at sO Dh qc ⊢;obtain⟨gv,t1,agx,alM⟩:=L;dsimp only at sO Dh qc ⊢;rw[ET]at sO;have UA:ElemsOf (fM prog w) gv.toList:=(S.el.push Jh oG).perm sO
  have Ji:gv.size=(ks++[k]).length:=by rw[<-mI,sO.length_eq,bW,mI,S.sz];simp
  have Di:gv.size<tH:=by rw[Ji];simpa using ml
  have UB:∀k',k'∈ks++[k]↔∃e∈gv.toList,(fM prog w).is k' e.2=true:=λk'=>by
   have:=mem_push_iff (knd:=fM prog w) (S:=λk'=>decide (k'∈ks)) (k:=k) Jh (λk'=>by simpa using S.mem k') sO k'
   rw[<-this];simp
  have tail:∀t2:fN,t2.fits gv.size=true->t2.led=t1.led->t2.plain=false->∀{g:Bool->Sem Unit},(∀(b:Bool) {bq:aw} {Q':Unit->aw->Prop},Q' () bq->aM (model prog w) A (g b) Q' E bq)->aM (model prog w) A (do
    storeSet a gv t2
    if(!agx&&t2.tooFull)=true then do
      g (xU t2 gv (xN gv.size)).2.2
      storeSet a (xU t2 gv (xN gv.size)).1 (xU t2 gv (xN gv.size)).2.1
      pure (some true)
     else pure (some true)) (λr s'=>aM (model prog w) A (match r with |some added=>pure added |none=>setAddHashedIn a (.bytes k.toArray tk) ((fM prog w).hash k) 99999) Q E s') E s:=by
   intro t2 sP lH uz g hg;refine aC (wpAny_storeSet_of ho hd ?_ (fits_of_scanBound Di));have o1:=Uz S.ob sP;have UC:=mJ s.heap a (Obj.putSet gv t2)
   split
   ·have hp:=relayAll_perm t2 gv (xN gv.size)
    have zl:=relayAll_fits t2 gv (xN gv.size);have gi:=agw t2 gv (xN gv.size);generalize xU t2 gv (xN gv.size)=Rl at hp zl gi ⊢;obtain⟨yY,t3,alN⟩:=Rl;dsimp only at hp zl gi ⊢
    have dK:yY.size=gv.size:=by rw[<-mI,hp.length_eq,mI]
    refine aC (hg _ ?_);refine bF o1.ex λo' c7 alO fR=>?_;refine aC (wpAny_storeSet_of c7 fR ?_ (fits_of_scanBound (je (el dK) Di)));have o2:=Uz o1 zl
    refine aO (aO (h _ yY _ t3 true (UC.trans (mJ _ a _)) ⟨o2,UA.perm hp,λk'=>(UB k').trans ⟨λ⟨e,he,q⟩=>⟨e,hp.mem_iff.mpr he,q⟩,λ⟨e,he,q⟩=>⟨e,hp.mem_iff.mp he,q⟩⟩,dK.trans Ji,by exact je (el dK) Di,λhT=>⟨by rw[gi.1,lH,qc];exact(S.led hT).1,λz=>gi.2 uz⟩⟩))
   ·exact aO (aO (h _ gv _ t2 true UC ⟨o1,UA,UB,Ji,Di,λhT=>⟨by rw[lH,qc];exact(S.led hT).1,λz=>uz⟩⟩))
  refine aC (hgw _ ?_)
  split
  ·refine aC ?_
   rw[hashByValue_scannable 8 oG];refine aO ?_;rw[show plainKind (Fi k.toArray tk)=false from rfl];simp only[pe,if_false]
   exact tail {t1 with plain:=false} (SetTable.fits_plain_off Dh) rfl rfl (λb z z hq=>by cases b<;>first |exact aO hq |exact rP hq)
  ·refine aC (aO ?_)
   simp only[↓reduceIte]
   exact tail t1 Dh rfl (by simpa using‹¬t1.plain=true›) (λb z z hq=>by cases b<;>first |exact aO hq |exact rP hq)
theorem SL.at{h:Heap}{ks:List (List UInt8)}{t:fN}(S:SL prog w h a ks es ep t)(e:∀o,h.get? a=some o->h'.get? a=some o):SL prog w h' a ks es ep t:=
 ⟨S.ob.at e,S.el,S.mem,S.sz,S.lt,S.led⟩
noncomputable def zC(acc:List (List UInt8))(x:List UInt8):List (List UInt8):=if x∈acc then acc else acc++[x]
noncomputable def lI(l:List (List UInt8)):List (List UInt8):=l.foldl zC []
theorem agy(l acc:List (List UInt8)):(l.foldl zC acc).length<=acc.length+l.length:=by
 induction l generalizing acc with
 |nil=>exact cP _
 |cons x l ih=>
  rw[km];refine aR (ih _) ?_;unfold zC
  split<;>simp<;>exact(by simp+arith only)
theorem agz{l:List (List UInt8)}(h:l[i]?=some b):lI (l.take (i+1))=if b∈lI (l.take i)then lI (l.take i)else lI (l.take i)++[b]:=by
 unfold lI;rw[Lx,h,Option.toList_some,Y8]
 rfl
theorem agA{R:lj->aw->Prop}{wr:List Addr}{G:Array GenState->Array GenState->Prop}{n:Nat}{P:Nat->ak->Prop}{St:Nat->aw->Prop}(W:WalksS prog w A.in1 I fp wr G n P St)(S:Addr)(zA:S∉fp)
  (bs:List (List UInt8))(hn:bs.length=n)(agB:∀i v,P i v->∃b t,bs[i]?=some b/\v=.bytes b.toArray t)(hb:n+1<tH):
  ∀(k i:Nat) (s:aw) (es:Array (Int×ak)) (ep:Nat) (t:fN),n- i=k->i<=n->St i s->SL prog w s.heap S (lI (bs.take i)) es ep t->
   (∀s' es ep t,Moved (S::wr) G s s'->SL prog w s'.heap S (lI bs) es ep t->R (.ok (.ret .none)) s')->
   rS (model prog w) A (.builtin "set.update.loop" ⟨[.ref S,.ref I],[]⟩) R s:=by
 have UD:S∉wr:=λh=>zA (W.sub _ h);have zp:∀b∈wr,b∈S::wr:=λb hb=>List.mem_cons_of_mem _ hb;intro k
 induction k with
 |zero=>
  intro i s es ep t hk hi zB hS hR;have I4:i=n:=qq hi (YL hk);subst I4;refine AN ak4 ?_;rw[xF YA _];show aM _ A.in1 (mV (.ref I) >>= _) _ _ s;refine aC (W.done s _ _ zB λs' hm=>?_);show aM _ A.in1 (ret kq) _ _ s';rw[vn ((el hn))]at hS
  exact aO (hR s' es ep t (hm.mono zp) (hS.at λo e=>hm.heap S o UD e))
 |succ k ih=>
  intro i s es ep t hk hi zB hS hR;have ck:i<n:=YM hk;refine AN ak4 ?_;rw[xF YA _];show aM _ A.in1 (mV (.ref I) >>= _) _ _ s;refine aC (W.item i s _ _ ck zB λv s' hP agC hm=>?_);refine gH (agB i v hP) λb tk UE aq=>?_;subst aq;have gu:=hS.at λo e=>hm.heap S o UD e;show aM _ A.in1 (holding [Fi b.toArray tk] (setAdd S (.bytes b.toArray tk)) >>= _) _ _ s';refine aC (jf ?_);unfold setAdd;refine jf ?_
  refine aC ((fM prog w).pyHash (k:=b) (by simp[fM,tK]) ?_)
  have ml:(lI (bs.take i)).length+1<tH:=by
   have:=agy (bs.take i) [];unfold lI;rw[L0]at this;simp only[tv]at this;exact je (qn (aR this Zz)) (je (qn (iQ ck)) hb)
  refine add_sl (s:={s' with toks:=s'.toks+1}) gu ml λh' yY QL t2 bb UG UH=>?_
  rw[<-agz UE]at UH
  refine aO ⟨xP YA _,ih (i+1) _ yY QL t2 (Mv hk) ck (W.frame _ s' _ _ agC (nW _) λb hb o e=>?_) UH λj4 es3 ep3 t3 agD agE=>?_⟩
  ·rw[UG.2 b (λh:b=S=>zA (by rw[<-h];exact hb))];exact e
  ·refine hR j4 es3 ep3 t3 (Moved.trans W.gtrans ((hm.mono zp).then_heap (nW _) λb o hb e=>?_) agD) agE
   rw[UG.2 b (λh:b=S=>hb (by rw[h];exact List.mem_cons_self))];exact e
theorem agF(a:ak){Q₁:ak->aw->Prop}
  (h:∀led:Bool,led=!w.params.followText "set-order"->Q₁ (.ref s.heap.objs.size) {s with heap:=s.heap.push {cls:=.type "set",dict:=none,data:=.set #[] 0 (.fresh 0 0 led)}}):
  rS (model prog w) A (.call (.builtin "set.__new__") ⟨[.type "set",a],[]⟩) (wants Q₁ E) s:=by
 refine codeAny_of_tree ?_
 show aM _ A.in1 (do EW "set.__new__" ⟨[.type "set",a],[]⟩;again (.builtin "set.__new__" ⟨[.type "set",a],[]⟩)) _ _ s
 refine aC (eF (PySem.F.newCall_set_1 a) (aO ⟨xP PySem.F.plain_set_new _,AN PySem.F.entry_set_new ?_⟩));rw[xF PySem.F.plain_set_new _];unfold Builtin.«set.__new__» Builtin.Frozenset.newClass;have zp:=sub_set_self;obtain⟨hp,g,d,tk,os⟩:=s;dsimp only;wp_walk;refine Zh (aO ?_);dsimp only;simp only[newObj];refine aC (wpAny_alloc (aO ?_));exact aO (h _ rfl)
theorem agG{S:Addr}{bs:List (List UInt8)}{led:Bool}{R:lj->aw->Prop}(hh:A.handled=none)
  (hS:s.heap.get? S=some {cls:=.type "set",dict:=none,data:=.set #[] 0 (.fresh 0 0 led)})(qc:led=(!w.params.followText "set-order"))(hl:s.heap.IsList l items)(hlS:S≠l)(hn:bs.length=items.size)(hi:∀(i:Nat) (v:ak),items[i]?=some v->∃b t,bs[i]?=some b/\v=.bytes b.toArray t)(hb:items.size+1<tH)
  (q:∀(h':Heap) (tk:Nat) es ep t,SL prog w h' S (lI bs) es ep t->(∀b o,b≠S->s.heap.get? b=some o->h'.get? b=some o)->R (.ok (.ret .none)) {s with heap:=h',toks:=tk}):
  aM (model prog w) A.in1.in1 (Builtin.«set.__init__» ⟨[.ref S,.ref l],[]⟩) (λfin s'=>match fin with |.done f=>R (.ok f) s' |.again c'=>c'.quiet=true/\rS (model prog w) A.in1 c' R s') (λe s'=>R (.error e) s') s:=by
 have hT:s.TypeIs (.ref S) "set":=⟨_,hS,rfl⟩;have j8:=hl;obtain⟨ol,rZ,hG,nl,lp⟩:=hl;obtain⟨alP,alQ,alR,alS⟩:=ol;simp only at hG lp;subst hG;subst lp;have alT:=PySem.F.sub_list_set;have alU:=PySem.F.sub_list_frozenset
 have jH:(k9 "list"==k9 "dict")=false:=by decide
 unfold Builtin.«set.__init__» noKeywords Builtin.Frozenset.updateFrom;generalize hPI:pyIter=PI;wp_walk;subst hPI;refine Y5 j8 ?_;refine aC (wpAny_runValue ?_);have Dg:=iP (mP hS)
 refine agA ((Walks.list (show A.in1.in1.in1.handled=none by simp[hh]) _ l (iP (mP rZ)) items).toS) S (λz=>(eO.1 z).elim Dg λz=>hlS (cL.1 z)) bs hn hi hb (items.size- 0) 0 _ #[] 0 (.fresh 0 0 led) rfl (dE _)
  ⟨⟨_,fX _ rfl,rfl,rfl⟩,(j8.push _)⟩ ?hS0 ?hR
 case hS0=>
  exact⟨⟨⟨_,dY _ hS,⟨rfl,rfl,rfl⟩,rfl⟩,rfl⟩,λe he=>by simp at he,λk=>by simp[lI],rfl,by unfold tH;simp,λhT=>⟨by rw[show(SetTable.fresh 0 0 led).led=led from rfl,qc,hT];rfl,λh=>by simp at h⟩⟩
 case hR=>
  intro s' es ep t hm gu;obtain⟨h',g',d',HP,os'⟩:=s';have eg:g'=s.gens:=hm.gens;have ed:d'=s.drawn:=hm.drawn;have eo:os'=s.os:=hm.os;subst eg;subst ed;subst eo;refine aO ?_;refine aO (q h' HP es ep t gu λb o e z=>?_);exact hm.heap b o (λx=>(eO.1 x).elim e λx=>iP (mP z) (cL.1 x)) (dY _ z)
theorem agH{bs:List (List UInt8)}{Q:ak->aw->Prop}
  (hh:A.handled=none)(hl:s.heap.IsList l items)(hn:bs.length=items.size)(hi:∀(i:Nat) (v:ak),items[i]?=some v->∃b t,bs[i]?=some b/\v=.bytes b.toArray t)(hb:items.size+1<tH)
  (h:∀(h':Heap) (tk:Nat) es ep t,SL prog w h' s.heap.objs.size (lI bs) es ep t->(∀b o,s.heap.get? b=some o->h'.get? b=some o)->Q (.ref s.heap.objs.size) {s with heap:=h',toks:=tk}):
  aM (model prog w) A (call (.type "set") [.ref l]) Q E s:=by
 refine gF PySem.F.called_set.mro λc tl TQ=>?_;have TR:=PySem.F.called_set.made;have zp:=PySem.F.called_set.sub;refine wpAny_call (codeAny_of_tree ?_);show aM _ _ (callAny (.type "set") _) _ _ _
 refine aO ⟨Code.quiet_builtin _ (by decide+kernel),AN PySem.F.entry_type_call ?_⟩
 rw[Around.under_plain (weight_type_call_type "set" [.ref l] []) rfl];have h1:=PySem.F.called_set.notType;have h2:=PySem.F.called_set.canCreate;have hct:=PySem.F.typeCall_set_1 (.ref l)
 repeat (any_goals (first |assumption |wp_step))
 refine AZ (agF (.ref l) (E:=E) (Q₁:=λobj bq=>∃led:Bool,led=(!w.params.followText "set-order")/\obj=.ref s.heap.objs.size/\bq={s with heap:=s.heap.push {cls:=.type "set",dict:=none,data:=.set #[] 0 (.fresh 0 0 led)}}) λled qc=>⟨led,qc,rfl,rfl⟩) λr bq hr=>?_
 cases r with
 |error e=>exact hr
 |ok fl=>
  cases fl with
  |ret obj=>
   refine bF hr λled qc aq qN=>?_;clear hr;subst aq;subst qN;have hS:(s.heap.push {cls:=.type "set",dict:=none,data:=.set #[] 0 (.fresh 0 0 led)}).get? s.heap.objs.size=some {cls:=.type "set",dict:=none,data:=.set #[] 0 (.fresh 0 0 led)}:=fX _ rfl
   have hT:Shared.TypeIs {s with heap:=s.heap.push {cls:=.type "set",dict:=none,data:=.set #[] 0 (.fresh 0 0 led)}} (.ref s.heap.objs.size) "set":=⟨_,hS,rfl⟩
   have Ms:=PySem.F.called_set.init.lookup;have UE:=PySem.F.called_set.init.bind (.ref s.heap.objs.size)
   repeat (any_goals (first |assumption |wp_step))
   refine AZ (codeAny_call_builtin (R:=wants (λr bg=>r=.none/\∃h' tk es ep t,bg={s with heap:=h',toks:=tk}/\SL prog w h' s.heap.objs.size (lI bs) es ep t/\
     (∀b o,s.heap.get? b=some o->h'.get? b=some o)) E) PySem.F.called_set.init.plain PySem.F.entry_set_init (check_set_init_1 hT ?_)) λagI bg Jj=>?_
   ·exact agG hh hS qc (hl.push _) (λz=>by refine a9 hl λo ho zz=>?_;exact vz (mP ho) z) hn hi hb λh' tk es ep t gu hk=>⟨rfl,h',tk,es,ep,t,rfl,gu,λb o e=>hk b o (iP (mP e)) (dY _ e)⟩
   ·cases agI with
    |error e=>exact Jj
    |ok agJ=>
     cases agJ with
     |ret r=>
      obtain⟨rfl,h',tk,es,ep,t,rfl,gu,c4⟩:=Jj
      repeat (any_goals (first |assumption |wp_step))
      exact h _ _ _ _ _ gu c4
     |_=>exact Jj.elim
  |_=>exact hr.elim
end
variable {e e0 za:aL}{ks raw:Ks}{m1 m2 m3:EM}{ms:cV}
set_option tactic.hygienic false
section
open PySem.SeqAt
section
variable{c:Cx}{n:Nat}{ks:Ks}{A:bj}{env:Env}{e:aL}{σ:St}{s:aw}
theorem dJ{h:Heap}{n:Nat}(e:h.get? a=some (listOf items n)):h.IsList a items:=⟨_,e,rfl,n,rfl⟩
theorem wq{h:Heap}{n:Nat}(e:h.get? a=some (d7 items n)):h.IsTuple a items:=⟨_,e,rfl,n,rfl⟩
noncomputable def ar:cV:=λz σ Q=>Q [] σ
noncomputable def ag(m:EM)(r:cV):cV:=λe σ Q=>m e σ λx ao=>r e ao λxs ay=>Q (x::xs) ay
theorem gZ.nil:gZ c n ks [] ar:=λA env e σ s Q pos N q=>spliced_none ⟨[],_,.nil,.refl N.rel,q⟩
theorem gZ.cons{x:Expr}{r:List Expr}{m:EM}{ms:cV}(h1:aH c n ks x m)(h2:gZ c n ks r ms)
  (he:autoParam (∀env,cU (x::r) env=(false,eval x env)::cU r env) aI):gZ c n ks (x::r) (ag m ms):=λA wu e σ s Q pos N q=>
 spliced_more (wp_step (h1 N q) λx v ao s1 r1 w1 q1=>t5 (h2 pos (N.bu w1) q1) λxs vs ay s2 r2 w2 q2=>
  ⟨x::xs,ay,.cons (r1.bu w1.rel w2) r2,w1.trans w2,q2⟩) (he _)
noncomputable def St.new(σ:St)(o:CO)(Q:CV->St->Prop):Prop:=∀a,σ a=none->Q (.loc a) (upd σ a o)
noncomputable def eList(ms:cV):EM:=λe σ Q=>ms e σ λxs ao=>xs.length<=1000/\ao.new (.list xs) Q
noncomputable def b8(ms:cV):EM:=λe σ Q=>ms e σ λxs ao=>xs.length<=1000/\Q (.tup xs) ao
theorem t6{o:Obj}(R:Rel c σ s.heap):bK c σ s σ {s with heap:=s.heap.push o}:=⟨R.push o,.push o,rfl,rfl⟩
theorem wx{o:Obj}{x:CO}(R:Rel c σ s.heap)(hf:o.isFreed=false)(q:σ.new x Q)
  (r:(s.heap.push o).get? s.heap.objs.size=some o->c.H0.get? s.heap.objs.size=none->eK c (s.heap.push o) s.heap.objs.size x):cC c σ s Q (.ref s.heap.objs.size) {s with heap:=s.heap.push o}:=by
 have hn:=kK s.heap;exact⟨_,_,.loc _,⟨(R.push o).new (r (fX _ hf) (R.out hn)),(Ext.push o).new hn (R.fresh hn),rfl,rfl⟩,q _ (R.fresh hn)⟩
theorem HD(R:Rel c σ s.heap)(r:aN s.heap xs vs)(q:σ.new (.list xs) Q):
  cC c σ s Q (.ref s.heap.objs.size) {s with heap:=s.heap.push {cls:=.type "list",data:=.seq vs.toArray}}:=
 wx R rfl q λe z=>⟨z,_,_,e,by simpa using r.bQ ((Ext.push _).lD R)⟩
theorem HE(R:Rel c σ s.heap)(r:aN s.heap xs vs)(q:Q (.tup xs) σ):
  cC c σ s Q (.ref s.heap.objs.size) {s with heap:=s.heap.push {cls:=.type "tuple",data:=.seq vs.toArray}}:=
 ⟨_,_,.tup (fX _ rfl) (by simpa using r.bQ ((Ext.push _).lD R)),t6 R,q⟩
theorem yU{Q:ak->aw->Prop}{M:fA}(h:Q (.ref s.heap.objs.size) {s with heap:=s.heap.push {cls:=.type "list",data:=.seq vs.toArray}})
  (dK:vs.length<=mT):aM M A (newList vs) Q E s:=rF h (by show vs.toArray.size<=mT;rw[xJ];exact dK)
theorem dQ{k:Nat}(h:k<=1000):k<=mT:=aR h (by decide)
theorem B7{k:Nat}(h:k<=1000):(k:Int)<2^63:=by exact ko.2 (lz h rfl)
theorem aH.list{xs:List Expr}{pos:Pos}{ms:cV}(h:gZ c n ks xs ms):aH c n ks (.List xs pos) (eList ms):=λA env e σ s Q N q=>
 List_ (t5 (h pos N q) λxs vs ao s1 r1 w1 q1=>yU (cC.after w1 _ _ (HD w1.rel r1 q1.2)) (r1.length▸dQ q1.1))
theorem aH.tup{xs:List Expr}{k:Nat}{pos:Pos}{ms:cV}(h:gZ c n ks xs ms):aH c n ks (.Tuple xs k pos) (b8 ms):=λA env e σ s Q N q=>
 Tuple_ (t5 (h pos N q) λxs vs ao s1 r1 w1 q1=>wpAny_newTuple (cC.after w1 _ _ (HE w1.rel r1 q1.2)) (r1.length▸dQ q1.1))
theorem Qd(a b:Array ak):a++b=(a.toList++b.toList).toArray:=by simp
inductive lE(σ:St)(Q:CV->St->Prop):jw->CV->CV->Prop
 |add {a b:Int} (q:Q (.int (a+b)) σ):lE σ Q .Add (.int a) (.int b)
 |lu {a b:List UInt8} (h:a.length+b.length<=16777216) (q:Q (.bytes (a++b)) σ):lE σ Q .Add (.bytes a) (.bytes b)
 |BJ {a b:List CV} (h1:a≠[]) (h2:b≠[]) (h:a.length+b.length<=1000) (q:Q (.tup (a++b)) σ):lE σ Q .Add (.tup a) (.tup b)
 |PO {a b:Addr} {xs ys:List CV} (h1:σ a=some (.list xs)) (h2:σ b=some (.list ys)) (h:xs.length+ys.length<=1000) (q:σ.new (.list (xs++ys)) Q):lE σ Q .Add (.loc a) (.loc b)
 |sub {a b:Int} (q:Q (.int (a- b)) σ):lE σ Q .Sub (.int a) (.int b)
 |mul {a b:Int} (h1:-(2^64)<a) (h2:a<2^64) (q:Q (.int (a*b)) σ):lE σ Q .Mult (.int a) (.int b)
 |BK {a:List UInt8} {b:Int} (h1:a≠[]) (h2:a.length<=16) (h3:0<=b) (h4:b<=1000) (q:Q (.bytes (qr b.toNat a).flatten) σ):lE σ Q .Mult (.bytes a) (.int b)
 |fdiv {a b:Int} (h:b≠0) (h1:b.natAbs<1073741824) (q:Q (.int (a.fdiv b)) σ):lE σ Q .FloorDiv (.int a) (.int b)
 |mod {a b:Int} (h:b≠0) (q:Q (.int (a.fmod b)) σ):lE σ Q .Mod (.int a) (.int b)
 |shr {a b:Int} (h:0<=b) (q:Q (.int (a.fdiv (2^b.toNat))) σ):lE σ Q .RShift (.int a) (.int b)
 |and {a b:Int} (q:Q (.int (vy a b)) σ):lE σ Q .BitAnd (.int a) (.int b)
 |or {a b:Int} (q:Q (.int (Md a b)) σ):lE σ Q .BitOr (.int a) (.int b)
noncomputable def tV(op:jw)(x y:CV):VM:=λσ Q=>lE σ Q op x y
theorem aN.size{h:Heap}(r:aN h xs items.toList):xs.length=items.size:=r.length
theorem aN.full{h:Heap}(r:aN h xs items.toList)(h:xs≠[]):¬items.isEmpty=true:=λz=>h (List.length_eq_zero_iff.1 (by rw[r.size];exact of_decide_eq_true z))
theorem Qe{w:ak}(R:Rel c σ s.heap)(r:aV s.heap x v)(r':aV s.heap y w)(q:tV op x y σ Q):
  aM c.M A (binaryOp op v w) (cC c σ s Q) No s:=by
 change lE σ Q op x y at q
 induction q with
 |add q=>refine xe r.bZ λt aq=>?_;subst aq;refine xe r'.bZ λu aq=>?_;subst aq;exact P.add_int (dq R (.int _ _) q)
 |lu h q=>
  refine xe r.fQ λt aq=>?_;subst aq;refine xe r'.fQ λu aq=>?_;subst aq;refine KBy.add_bytes h λt' k=>?_;rw[List.append_toArray]
  exact dq R (.bytes _ _) q
 |PO h1 h2 h q=>
  obtain rfl:=r.dj;obtain rfl:=r'.dj;obtain⟨_,i1,n1,e1,r1⟩:=R.objs _ _ h1;obtain⟨_,i2,n2,e2,r2⟩:=R.objs _ _ h2
  refine P.add_list e1 e2 ?_ (dQ (by rw[<-r1.size,<-r2.size];exact h))
  rw[Qd]
  exact HD R (r1.append r2) q
 |BJ h1 h2 h q=>
  refine f9 r.jl λa1 i1 n1 aq e1 r1=>?_;subst aq;refine f9 r'.jl λa2 i2 n2 aq e2 r2=>?_;subst aq
  refine P.add_tuple e1 e2 (r1.full h1) (r2.full h2) ?_ (dQ (by rw[<-r1.size,<-r2.size];exact h))
  rw[Qd]
  exact HE R (r1.append r2) q
 |sub q=>refine xe r.bZ λt aq=>?_;subst aq;refine xe r'.bZ λu aq=>?_;subst aq;exact P.sub_int (dq R (.int _ _) q)
 |mul h1 h2 q=>refine xe r.bZ λt aq=>?_;subst aq;refine xe r'.bZ λu aq=>?_;subst aq;exact P.mul_int (dq R (.int _ _) q) (.of_left (intBits_le_64 h1 h2))
 |BK h1 h2 h3 h4 q=>refine xe r.fQ λt aq=>?_;subst aq;refine xe r'.bZ λu aq=>?_;subst aq;exact bytes_mul_any h1 (rO (by decide) h3) (rO h4 (by decide)) h2 λt' k=>dq R (.bytes _ _) q
 |fdiv h1 h2 q=>refine xe r.bZ λt aq=>?_;subst aq;refine xe r'.bZ λu aq=>?_;subst aq;exact floordiv_int h1 (dq R (.int _ _) q) (.inl (PyProof.noPylong_small h2))
 |mod h q=>refine xe r.bZ λt aq=>?_;subst aq;refine xe r'.bZ λu aq=>?_;subst aq;exact mod_int' h (dq R (.int _ _) q)
 |shr h q=>refine xe r.bZ λt aq=>?_;subst aq;refine xe r'.bZ λu aq=>?_;subst aq;exact rshift_int h (dq R (.int _ _) q)
 |and q=>refine xe r.bZ λt aq=>?_;subst aq;refine xe r'.bZ λu aq=>?_;subst aq;exact and_int (dq R (.int _ _) q)
 |or q=>refine xe r.bZ λt aq=>?_;subst aq;refine xe r'.bZ λu aq=>?_;subst aq;exact or_int (dq R (.int _ _) q)
noncomputable def be(op:jw)(m1 m2:EM):EM:=λe σ Q=>m1 e σ λx ao=>m2 e ao λy ay=>tV op x y ay Q
theorem aH.bin{op:jw}{l r:Expr}{pos:Pos}{m1 m2:EM}(h1:aH c n ks l m1)(h2:aH c n ks r m2):aH c n ks (.BinOp l op r pos) (be op m1 m2):=λA env e σ s Q N q=>
 wpAny_BinOp (wp_step (h1 N q) λx v ao s1 r1 w1 q1=>wp_step (h2 (N.bu w1) q1) λy w ay s2 r2 w2 q2=>
  iE (w1.trans w2) (Qe w2.rel (r1.bu w1.rel w2) r2 q2))
end
end
section
open PySem.SeqAt
noncomputable def bB{κ:Type}[DecidableEq κ](es:List (κ×CV))(k:κ):Option CV:=(es.find? λkv=>kv.1=k).map (λx=>x.2)
theorem cZ.at{κ:Type}[DecidableEq κ]{h:Heap}{es:List (κ×CV)}{kvs:List (κ×ak)}(r:cZ h es kvs)(k:κ):
  (bB es k=none/\valueAt kvs k=none)\/∃x v,bB es k=some x/\valueAt kvs k=some v/\aV h x v:=by
 induction r with
 |nil=>exact .inl ⟨rfl,rfl⟩
 |@cons k' x v xs vs e r ih=>
  unfold bB valueAt
  by_cases q:k'=k
  ·subst q;simp;exact e
  ·simpa[q,bB,valueAt]using ih
theorem cZ.isSome{κ:Type}[DecidableEq κ]{h:Heap}{es:List (κ×CV)}{kvs:List (κ×ak)}(r:cZ h es kvs)(k:κ):(valueAt kvs k).isSome=(bB es k).isSome:=by
 rcases r.at k with⟨a,b⟩ |⟨x,v,a,b,_⟩<;>rw[a,b]<;>rfl
inductive m9(R:CV->CV->Prop):List CV->List CV->Prop
 |nil:m9 R [] []
 |cons {x y:CV} {xs ys:List CV} (h:R x y) (r:m9 R xs ys):m9 R (x::xs) (y::ys)
inductive DN(R:CV->CV->Prop)(σ:St):CV->CV->Prop
 |int {a:Int}:DN R σ (.int a) (.int a)
 |kF {a:List UInt8}:DN R σ (.bytes a) (.bytes a)
 |tup {xs ys:List CV} (h:m9 R xs ys):DN R σ (.tup xs) (.tup ys)
 |ll {a b:Addr} {xs ys:List CV} (n:a≠b) (h1:σ a=some (.list xs)) (h2:σ b=some (.list ys)) (h:m9 R xs ys):DN R σ (.loc a) (.loc b)
noncomputable def DE(σ:St):Nat->CV->CV->Prop
 |0=>λz z=>False
 |n+1=>DN (DE σ n) σ
section
variable{c:Cx}{σ:St}{s:aw}{A:bj}
noncomputable def HF(A:bj)(s:aw)(vs ws:List ak):Prop:=vs.length=ws.length/\∀j (h1:j<vs.length) (h2:j<ws.length),EqAt A s vs[j] ws[j] true
theorem Qf{R:CV->CV->Prop}(hf:∀{x y v w},aV s.heap x v->aV s.heap y w->R x y->EqAt A s v w true)(h:m9 R xs ys):∀{vs ws:List ak},aN s.heap xs vs->aN s.heap ys ws->HF A s vs ws:=by
 induction h with
 |nil=>
  intro vs ws r1 r2;rw[r1.jX,r2.jX]
  exact⟨rfl,λj h=>absurd h (xM _)⟩
 |cons h _ ih=>
  intro vs ws r1 r2;obtain⟨v,vs,rfl,a1,r1⟩:=r1.iT;obtain⟨w,ws,rfl,a2,r2⟩:=r2.iT;obtain⟨hl,hz⟩:=ih r1 r2
  exact⟨congrArg (·+1) hl,λj h1 h2=>match j with
   |0=>hf a1 a2 h
   |j+1=>hz j (YI h1) (YI h2)⟩
theorem HG{n:Nat}:(cS n).all (λz=>true)=true:=iz.2 λz z=>rfl
theorem HF.arr{i1 i2:Array ak}(h:HF A s i1.toList i2.toList):i1.size=i2.size/\∀j (h1:j<i1.size) (h2:j<i2.size),EqAt A s i1[j] i2[j] true:=h
theorem HH(R:Rel c σ s.heap)(hz:A.units<cLine){D:CV->CV->Prop}{b:Addr}(h1:σ a=some (.list xs))(h2:σ b=some (.list ys))(e:m9 D xs ys)(hf:∀{x y v w},aV s.heap x v->aV s.heap y w->D x y->EqAt A.in1 s v w true):
  RcAt A s (.ref a) (.ref b) true/\RcNeAt A s (.ref a) (.ref b) false:=by
 obtain⟨_,i1,n1,e1,r1⟩:=R.objs _ _ h1;obtain⟨_,i2,n2,e2,r2⟩:=R.objs _ _ h2;refine xa ((Qf hf e r1 r2).arr) λhl hg=>?_;have z1:=RcAt.lists (dJ e1) (dJ e2) hl hz (e:=λz=>true) hg;have z2:=RcNeAt.lists (dJ e1) (dJ e2) hl hz (e:=λz=>true) hg;rw[HG]at z1 z2;exact⟨z1,z2⟩
theorem ac7(a:List UInt8)(t u:Tok):EqAt A s (.bytes a.toArray t) (.bytes a.toArray u) true:=λprog w E Q hq=>eqBool_bytes (by rw[decide_eq_true rfl];exact hq)
theorem ac8(a:Int)(t u:Tok):EqAt A s (.int a t) (.int a u) true:=by
 have:=(MeetsSeq.EqGives.int a a t u).at A s;rwa[beq_self_eq_true]at this
theorem Qg(R:Rel c σ s.heap)(n:Nat):∀{A:bj} (hu:A.units+n<=cLine) {x y:CV} {v w:ak},aV s.heap x v->aV s.heap y w->DE σ n x y->EqAt A s v w true:=by
 induction n with
 |zero=>intro _ _ _ _ _ _ _ _ e;exact False.elim e
 |succ n ih=>
  intro A hu x y v w r r' e;have hz:A.units<cLine:=ey (Nat.lt_add_of_pos_right (nU n)) hu
  have ih:∀{x y v w},aV s.heap x v->aV s.heap y w->DE σ n x y->EqAt A.in1 s v w true:=λa b h=>ih (A:=A.in1) (by rw[tC n,<-AV]at hu;exact hu) a b h
  change DN (DE σ n) σ x y at e
  induction e with
  |int=>refine xe r.bZ λt aq=>?_;subst aq;refine xe r'.bZ λu aq=>?_;subst aq;exact ac8 _ t u
  |kF=>refine xe r.fQ λt aq=>?_;subst aq;refine xe r'.fQ λu aq=>?_;subst aq;exact ac7 _ t u
  |ll ne h1 h2 h=>
   obtain rfl:=r.dj;obtain rfl:=r'.dj
   exact EqAt.of_refs ne (HH R hz h1 h2 h ih).1
  |tup h=>
   refine f9 r.jl λa1 i1 n1 aq e1 r1=>?_;subst aq;refine f9 r'.jl λa2 i2 n2 aq e2 r2=>?_;subst aq
   by_cases ne:a1=a2
   ·rw[ne];exact EqAt.same _
   ·refine xa ((Qf ih h r1 r2).arr) λhl hg=>?_
    have z:=RcAt.tuples (wq e1) (wq e2) hz (e:=λo=>true) hg;rw[HG,hl,beq_self_eq_true]at z;exact EqAt.of_refs ne z
end
end
section
open PySem.SeqAt
noncomputable def lexLt(a b a' b':Int):Bool:=decide (a<a')||(decide (a=a')&&decide (b<b'))
noncomputable def lexLe(a b a' b':Int):Bool:=decide (a<a')||(decide (a=a')&&decide (b<=b'))
noncomputable def vS(a b:List UInt8):Bool:=(Lr b.toArray a.toArray 0 b.length).isSome
noncomputable def isNone:CV->Bool
 |.none=>true
 |_=>false
inductive Mem:CV->CV->St->Bool->Prop
 |li {k:Int} {l:Addr} {σ:St} {is:List Int} (h:σ l=some (.list (is.map .int))):Mem (.int k) (.loc l) σ (decide (k∈is))
 |dI {k:Int} {l:Addr} {σ:St} {es:List (Int×CV)} (h:σ l=some (.dI es)):Mem (.int k) (.loc l) σ (bB es k).isSome
 |dS {k:Str} {l:Addr} {σ:St} {es:List (Str×CV)} (h:σ l=some (.dS es)):Mem (.str k) (.loc l) σ (bB es k).isSome
 |dB {k:List UInt8} {l:Addr} {σ:St} {es:List (List UInt8×CV)} (h:σ l=some (.dB es)):Mem (.bytes k) (.loc l) σ (bB es k).isSome
 |tI {k:Int} {is:List Int} {σ:St}:Mem (.int k) (.tup (is.map .int)) σ (decide (k∈is))
 |tB {k:List UInt8} {is:List (List UInt8)} {σ:St}:Mem (.bytes k) (.tup (is.map .bytes)) σ (decide (k∈is))
 |iB {k:UInt8} {b:List UInt8} {σ:St}:Mem (.int k.toNat) (.bytes b) σ (b.contains k)
 |bb {a b:List UInt8} {σ:St}:Mem (.bytes a) (.bytes b) σ (vS a b)
inductive Cm:CmpOp->CV->CV->St->Bool->Prop
 |eq {a b:Int} {σ:St}:Cm .Eq (.int a) (.int b) σ (decide (a=b))
 |t7 {a b:List UInt8} {σ:St}:Cm .Eq (.bytes a) (.bytes b) σ (decide (a=b))
 |B9 {a b:Str} {σ:St}:Cm .Eq (.str a) (.str b) σ (decide (a=b))
 |Qh {a b:Addr} {σ:St} {xs ys:List CV} (h1:σ a=some (.list xs)) (h2:σ b=some (.list ys)) (h:m9 (DE σ 4) xs ys):Cm .Eq (.loc a) (.loc b) σ true
 |Qi {a b:Addr} {σ:St} {xs:List CV} (h1:σ a=some (.list xs)) (h2:σ b=some (.list [])):Cm .Eq (.loc a) (.loc b) σ xs.isEmpty
 |ne {a b:Int} {σ:St}:Cm .NotEq (.int a) (.int b) σ (!decide (a=b))
 |Ca {a b:List UInt8} {σ:St}:Cm .NotEq (.bytes a) (.bytes b) σ (!decide (a=b))
 |HI {a b:Bool} {σ:St}:Cm .NotEq (.bool a) (.bool b) σ (a !=b)
 |HJ {a b:Addr} {σ:St} {xs ys:List CV} (h1:σ a=some (.list xs)) (h2:σ b=some (.list ys)) (h:m9 (DE σ 4) xs ys):Cm .NotEq (.loc a) (.loc b) σ false
 |tL {a b:Addr} {σ:St} {xs:List CV} (h1:σ a=some (.list xs)) (h2:σ b=some (.list [])):Cm .NotEq (.loc a) (.loc b) σ (!xs.isEmpty)
 |lt {a b:Int} {σ:St}:Cm .Lt (.int a) (.int b) σ (decide (a<b))
 |le {a b:Int} {σ:St}:Cm .LtE (.int a) (.int b) σ (decide (a<=b))
 |gt {a b:Int} {σ:St}:Cm .Gt (.int a) (.int b) σ (decide (b<a))
 |ge {a b:Int} {σ:St}:Cm .GtE (.int a) (.int b) σ (decide (b<=a))
 |Qj {a b a' b':Int} {σ:St}:Cm .Lt (.tup [.int a,.int b]) (.tup [.int a',.int b']) σ (lexLt a b a' b')
 |lex {a b a' b':Int} {σ:St}:Cm .LtE (.tup [.int a,.int b]) (.tup [.int a',.int b']) σ (lexLe a b a' b')
 |is {x:CV} {σ:St}:Cm .Is x .none σ (isNone x)
 |iY {x:CV} {σ:St}:Cm .IsNot x .none σ (!isNone x)
 |mem {x y:CV} {σ:St} {b:Bool} (h:Mem x y σ b):Cm .In x y σ b
 |oy {x y:CV} {σ:St} {b:Bool} (h:Mem x y σ b):Cm .NotIn x y σ (!b)
noncomputable def v9(op:CmpOp)(x y:CV)(σ:St)(Q:Bool->Prop):Prop:=∃b,Cm op x y σ b/\Q b
noncomputable def gM(op:CmpOp)(m1 m2:EM):EM:=λe σ Q=>m1 e σ λx ao=>m2 e ao λy ay=>v9 op x y ay λb=>Q (.bool b) ay
noncomputable def aT(op:CmpOp)(m1 m2:EM):TM:=λe σ Q=>m1 e σ λx ao=>m2 e ao λy ay=>v9 op x y ay λb=>Q b ay
noncomputable abbrev HK(c:Cx)(σ:St)(s:aw)(b:Bool):ak->aw->Prop:=λr s'=>r=.bool b/\bK c σ s σ s'
noncomputable abbrev HL(c:Cx)(A:bj)(σ:St)(s:aw)(op:CmpOp)(v w:ak)(b:Bool):Prop:=aM c.M A (compareOp op v w) (HK c σ s b) No s
section
variable{c:Cx}{A:bj}{σ:St}{s:aw}{P:ak->aw->Prop}
theorem fG{b:Bool}(R:Rel c σ s.heap):HK c σ s b (.bool b) s:=⟨rfl,.refl R⟩
theorem wy{b:Bool}{t:Nat}(R:Rel c σ s.heap):HK c σ s b (.bool b) {s with toks:=t}:=⟨rfl,.HB R t⟩
theorem t8{α:Type}[BEq α][LawfulBEq α][DecidableEq α](a b:α):(a==b)=decide (a=b):=by rw[rL];simp
theorem Qk{α:Type}[BEq α][LawfulBEq α][DecidableEq α](a b:α):(a !=b)=!decide (a=b):=by unfold bne;rw[t8]
theorem aN.any{α:Type}[DecidableEq α]{h:Heap}{f:α->CV}{p:ak->Bool}{k:α}{I:ak->Prop}(hf:∀{a v},aV h (f a) v->p v=decide (k=a)/\I v):∀{is:List α} {vs:List ak},aN h (is.map f) vs->vs.any p=decide (k∈is)/\∀v∈vs,I v
 |[],_,r=>by rw[aN.jX r];exact⟨rfl,λz h=>cA h⟩
 |i::is,_,r=>by
  obtain⟨v,vs,rfl,a,r⟩:=aN.iT r;refine xa (aN.any hf r) λh1 h2=>?_;refine xa (hf a) λh3 h4=>?_
  refine⟨?_,λw hw=>?_⟩
  ·rw[xO,h1,h3,<-Bool.decide_or]
   exact decide_eq_decide.2 List.mem_cons.symm
  ·rcases eO.1 hw with rfl |hw
   ·exact h4
   ·exact h2 w hw
theorem Cb{k:Int}{t:Tok}(hv:∃i u,v=.int i u):EqAt A s v (.int k t) (xR k v):=by
 refine gF hv λi u aq=>?_;clear hv;subst aq;exact(MeetsSeq.EqGives.int i k u t).at A s
theorem Ql{k:Array UInt8}{t:Tok}(hv:∃i u,v=.bytes i u):EqAt A s v (.bytes k t) (tK k.toList v):=by
 refine gF hv λi u aq=>?_;clear hv;subst aq;intro prog w E Q hq
 exact eqBool_bytes (by rw[<-t8];exact hq)
theorem aV.Qn{h:Heap}{k a:Int}(r:aV h (.int a) v):xR k v=decide (k=a)/\∃i u,v=.int i u:=by
 obtain⟨t,rfl⟩:=r.bZ;exact⟨(t8 a k).trans (decide_eq_decide.2 eq_comm),_,_,rfl⟩
theorem aV.Qo{h:Heap}{k a:List UInt8}(r:aV h (.bytes a) v):tK k v=decide (k=a)/\∃i u,v=.bytes i u:=by
 obtain⟨t,rfl⟩:=r.fQ;exact⟨(t8 a k).trans (decide_eq_decide.2 eq_comm),_,_,rfl⟩
theorem qI(R:Rel c σ s.heap)(e:σ a=some o)(hi:o.fc=false):(a==vB)=false:=by
 refine beq_eq_false_iff_ne.mpr λq=>?_;subst q;have h1:=eK.out (R.objs _ _ e) hi;refine xe c.sys λo ho=>?_;exact jy (ho.symm.trans h1)
theorem HM{p:ak->Bool}{b:Bool}(h:items.toList.any p=b):items.any p=b:=by rw[<-h,Array.any_toList]
theorem aN.ac9{h:Heap}{i1 i2:Array ak}(r1:aN h xs i1.toList)(r2:aN h [] i2.toList):(i1.size=i2.size/\i1.size=0/\xs.isEmpty=true)\/((i1.size !=i2.size)=true/\xs.isEmpty=false):=by
 have h2:i2.size=0:=(aN.length r2).symm;have h1:xs.length=i1.size:=aN.length r1
 induction xs with
 |nil=>exact .inl ⟨h1.symm.trans h2.symm,h1.symm,rfl⟩
 |cons x xs=>exact .inr ⟨by rw[h2,<-h1];rfl,rfl⟩
theorem Qp(R:Rel c σ s.heap)(hz:A.units<cLine){b:Addr}(h1:σ a=some (.list xs))(h2:σ b=some (.list [])):RcAt A s (.ref a) (.ref b) xs.isEmpty/\RcNeAt A s (.ref a) (.ref b) (!xs.isEmpty):=by
 obtain⟨_,i1,n1,e1,r1⟩:=R.objs _ _ h1;obtain⟨_,i2,n2,e2,r2⟩:=R.objs _ _ h2
 rcases r1.ac9 r2 with⟨g,g0,e⟩ |⟨g,e⟩<;>rw[e]
 ·have hg:∀j (h1:j<i1.size) (h2:j<i2.size),EqAt A.in1 s i1[j] i2[j] true:=λj h=>absurd h (by rw[g0];exact xM _)
  have z1:=RcAt.lists (dJ e1) (dJ e2) g hz (e:=λz=>true) hg;have z2:=RcNeAt.lists (dJ e1) (dJ e2) g hz (e:=λz=>true) hg;rw[HG]at z1 z2
  exact⟨z1,z2⟩
 ·exact⟨RcAt.lists_lengths (dJ e1) (dJ e2) g hz,RcNeAt.lists_lengths (dJ e1) (dJ e2) g hz⟩
theorem aV.isNone{h:Heap}(r:aV h x v):(v==.none)=Internal.isNone x:=by cases r<;>rfl
end
end
section
open PySem.SeqAt PySem.Builtin
open AutoSeq1 (wpAny_loadPart')
open MeetsSeq MeetsSeq2 MeetsSeq3
section
variable{c:Cx}{A:bj}{σ:St}{s:aw}{Q:Bool->Prop}{P:ak->aw->Prop}
theorem Qq{A:bj}{s:aw}{a b:Int}{t:Tok}{Q:ak->aw->Prop}(h:Q (.bool (decide (a<b))) s):aM (model prog w) A (richCompare .Lt (.int a t) (.int b u)) Q E s:=PySem.P.lt_int h
theorem Qr{A:bj}{s:aw}{a b:Int}{t:Tok}{Q:ak->aw->Prop}(h:Q (.bool (decide (a<=b))) s):aM (model prog w) A (richCompare .LtE (.int a t) (.int b u)) Q E s:=PySem.P.le_int h
open PySem.Builtin.Tuple
theorem ada(l b:Addr)(a1 a2 b1 b2:Int)(t1 t2 u1 u2:Tok)(n n2:Nat):
  Meets (Builtin.«tuple.__lt__» ⟨[.ref l,.ref b],[]⟩)
   (λA R s=>s.heap.get? l=some (d7 #[.int a1 t1,.int a2 t2] n)/\s.heap.get? b=some (d7 #[.int b1 u1,.int b2 u2] n2)/\R (.ok (.ret (.bool (lexLt a1 a2 b1 b2)))) s):=
 .of_wp λprog w A R s h=>by
  obtain⟨hp,g,d,tk,os⟩:=s;refine pq h λhl hb h=>?_;have f2:=aln
  wp_walk using AL hl,AL hb,wpAny_forIn_list _ (λrest b s'=>b.1=none/\s'=⟨hp,g,d,tk,os⟩/\
   ((rest=[(.int a1 t1,.int b1 u1),(.int a2 t2,.int b2 u2)])\/(rest=[(.int a2 t2,.int b2 u2)]/\a1=b1)\/(rest=[]/\a1=b1/\a2=b2))) _
  case turn=>
   rintro⟨y,x⟩ rest b s' ⟨jn,rfl,hz⟩
   rcases hz with hz |⟨hz,h1⟩ |⟨hz,_,_⟩
   ·injection hz with t9 ua
    injection t9 with hy hx
    subst hy hx ua;refine aC (EU ?_)
    by_cases h1:a1=b1
    ·rw[show(a1==b1)=true by simpa using h1]
     wp_walk
     exact⟨rfl,rfl,.inr (.inl ⟨rfl,h1⟩)⟩
    ·rw[show(a1==b1)=false by simpa using h1]
     wp_walk using Qq;refine⟨_,rfl,?_⟩
     rw[show decide (a1<b1)=lexLt a1 a2 b1 b2 by unfold lexLt;rw[rL];simp[h1]]
     exact h
   ·injection hz with t9 ua
    injection t9 with hy hx
    subst hy hx ua h1;refine aC (EU ?_)
    by_cases h2:a2=b2
    ·rw[show(a2==b2)=true by simpa using h2]
     wp_walk
     exact⟨rfl,rfl,.inr (.inr ⟨rfl,rfl,h2⟩)⟩
    ·rw[show(a2==b2)=false by simpa using h2]
     wp_walk using Qq;refine⟨_,rfl,?_⟩
     rw[show decide (a2<b2)=lexLt a1 a2 a1 b2 by unfold lexLt;rw[rL];simp]
     exact h
   ·exact og hz
  case fin=>
   rintro⟨b1',b2'⟩ s' ⟨jn,rfl,hz⟩;simp only at jn;subst jn
   rcases hz with hz |⟨hz,h1⟩ |⟨_,rfl,rfl⟩
   ·exact vD hz
   ·exact vD hz
   ·wp_walk
    refine⟨_,rfl,?_⟩
    rw[show(tupleCompareSizes .Lt _ _)=.bool (lexLt a1 a2 a1 a2) by simp[tupleCompareSizes,lexLt]]
    exact h
  case h=>
   exact⟨rfl,rfl,.inl rfl⟩
theorem adb(l b:Addr)(a1 a2 b1 b2:Int)(t1 t2 u1 u2:Tok)(n n2:Nat):
  Meets (Builtin.«tuple.__le__» ⟨[.ref l,.ref b],[]⟩)
   (λA R s=>s.heap.get? l=some (d7 #[.int a1 t1,.int a2 t2] n)/\s.heap.get? b=some (d7 #[.int b1 u1,.int b2 u2] n2)/\R (.ok (.ret (.bool (lexLe a1 a2 b1 b2)))) s):=
 .of_wp λprog w A R s h=>by
  obtain⟨hp,g,d,tk,os⟩:=s;refine pq h λhl hb h=>?_;have f2:=aln
  wp_walk using AL hl,AL hb,wpAny_forIn_list _ (λrest b s'=>b.1=none/\s'=⟨hp,g,d,tk,os⟩/\
   ((rest=[(.int a1 t1,.int b1 u1),(.int a2 t2,.int b2 u2)])\/(rest=[(.int a2 t2,.int b2 u2)]/\a1=b1)\/(rest=[]/\a1=b1/\a2=b2))) _
  case turn=>
   rintro⟨y,x⟩ rest b s' ⟨jn,rfl,hz⟩
   rcases hz with hz |⟨hz,h1⟩ |⟨hz,_,_⟩
   ·injection hz with t9 ua
    injection t9 with hy hx
    subst hy hx ua;refine aC (EU ?_)
    by_cases h1:a1=b1
    ·rw[show(a1==b1)=true by simpa using h1]
     wp_walk
     exact⟨rfl,rfl,.inr (.inl ⟨rfl,h1⟩)⟩
    ·rw[show(a1==b1)=false by simpa using h1]
     wp_walk using Qr;refine⟨_,rfl,?_⟩
     rw[show decide (a1<=b1)=lexLe a1 a2 b1 b2 by unfold lexLe;rw[rL];simp[h1];exact⟨λh=>Int.lt_iff_le_and_ne.2 ⟨h,h1⟩,Int.le_of_lt⟩]
     exact h
   ·injection hz with t9 ua
    injection t9 with hy hx
    subst hy hx ua h1;refine aC (EU ?_)
    by_cases h2:a2=b2
    ·rw[show(a2==b2)=true by simpa using h2]
     wp_walk
     exact⟨rfl,rfl,.inr (.inr ⟨rfl,rfl,h2⟩)⟩
    ·rw[show(a2==b2)=false by simpa using h2]
     wp_walk using Qr;refine⟨_,rfl,?_⟩
     rw[show decide (a2<=b2)=lexLe a1 a2 a1 b2 by unfold lexLe;rw[rL];simp]
     exact h
   ·exact og hz
  case fin=>
   rintro⟨b1',b2'⟩ s' ⟨jn,rfl,hz⟩;simp only at jn;subst jn
   rcases hz with hz |⟨hz,h1⟩ |⟨_,rfl,rfl⟩
   ·exact vD hz
   ·exact vD hz
   ·wp_walk
    refine⟨_,rfl,?_⟩
    rw[show(tupleCompareSizes .LtE _ _)=.bool (lexLe a1 a2 a1 a2) by simp[tupleCompareSizes,lexLe]]
    exact h
  case h=>
   exact⟨rfl,rfl,.inl rfl⟩
end
end
section
open PySem.SeqAt PySem.Builtin
open AutoSeq1 (wpAny_loadPart')
open MeetsSeq MeetsSeq2 MeetsSeq3
theorem ade:tD (.type "bytes") "__index__"=pure none:=by rw[iO,iM];kernel_rfl
theorem HN{A:bj}{s:aw}{id:String}{b:Array UInt8}{t:Tok}{Q:Option (Array UInt8)->aw->Prop}(h:Q (some b) s):
  aM (model prog w) A (Ay id (.bytes b t)) Q E s:=by rw[Mf];exact aO h
theorem Qt(b x:Array UInt8)(t u:Tok):Meets (Builtin.«bytes.__contains__» ⟨[.bytes b t,.bytes x u],[]⟩)
  (λA R s=>A.handled=none/\∀h' tk,(∀a o,s.heap.get? a=some o->h'.get? a=some o)->R (.ok (.ret (.bool (Lr b x 0 b.size).isSome))) {s with heap:=h',toks:=tk}):=
 .of_wp λprog w A R s h=>by
  obtain⟨hp,g,d,tk,os⟩:=s;have h1:=f6 ⟨hp,g,d,tk,os⟩ x u;have h2:=ade;obtain⟨hh,h⟩:=h;show aM _ _ (Li "bytes.__contains__" (.bytes b t) (.bytes x u) >>= λr=>ret (.bool r)) _ _ _;refine aC ?_;unfold Li;refine aC (AW ?_);unfold asIndex;wp_walk using HN;refine wpAny_raiseErrorMade plainExc_TypeError hh (λh' HP e x=>?_);wp_walk using HN;exact⟨_,rfl,h h' HP x.keeps⟩
theorem adf(b:Array UInt8)(k:Int)(t u:Tok)(h0:0<=k)(h1:k<256):Meets (Builtin.«bytes.__contains__» ⟨[.bytes b t,.int k u],[]⟩)
  (λA R s=>R (.ok (.ret (.bool (b.contains k.toNat.toUInt8)))) s):=
 .of_wp λprog w A R s h=>by
  obtain⟨hp,g,d,tk,os⟩:=s;show aM _ _ (Li "bytes.__contains__" (.bytes b t) (.int k u) >>= λr=>ret (.bool r)) _ _ _;refine aC ?_;unfold Li;refine aC (AW ?_);unfold asIndex
  have e1:decide (k<0)=false:=by simp;exact rO (by decide) h0
  have e2:decide (k≥256)=false:=by simp;exact tm h1 (by decide)
  wp_walk using HN;exact⟨_,rfl,h⟩
section
variable{c:Cx}{A:bj}{σ:St}{s:aw}
theorem yV(R:Rel c σ s.heap)(k:∀a o,s.heap.get? a=some o->h'.get? a=some o):bK c σ s σ {s with heap:=h',toks:=tk}:=⟨R.kept k,.kept k,rfl,rfl⟩
theorem adg(b:List UInt8)(x:UInt8):b.toArray.contains x=b.contains x:=by simp
theorem Qu(hu:fe 1 A)(R:Rel c σ s.heap){w:ak}{b:Bool}(r:aV s.heap x v)(r':aV s.heap y w)(q:Mem x y σ b):HL c A σ s .In v w b/\HL c A σ s .NotIn v w (!b):=by
 induction q with
 |@li k l _ is h1=>
  refine xe r.bZ λt aq=>?_;subst aq;obtain rfl:=r'.dj;obtain⟨_,i1,n1,e1,r1⟩:=R.objs _ _ h1;refine xa (aN.any (k:=k) aV.Qn r1) λz zz=>?_;have z:=HM z
  exact⟨in_listAt (xR k) (dJ e1) (λy hy=>Cb (zz y (AB.2 hy))) (by rw[z];exact fG R),notIn_listAt (xR k) (dJ e1) (λy hy=>Cb (zz y (AB.2 hy))) (by rw[z];exact fG R)⟩
 |dI h1=>
  refine xe r.bZ λt aq=>?_;subst aq;obtain rfl:=r'.dj;obtain⟨_,kvs,D,r1⟩:=R.objs _ _ h1
  exact⟨wpAny_in_of (knd:=intKind c.prog c.w) (Fq _ _ _ _) (qI R h1 rfl) D.mapOf (by rw[r1.isSome];exact wy R),wpAny_notIn_of (knd:=intKind c.prog c.w) (Fq _ _ _ _) (qI R h1 rfl) D.mapOf (by rw[r1.isSome];exact wy R)⟩
 |dS h1=>
  refine xe r.pR λt aq=>?_;subst aq;obtain rfl:=r'.dj;obtain⟨_,kvs,D,r1⟩:=R.objs _ _ h1
  exact⟨wpAny_in_of (knd:=AS c.prog c.w) (A4 _ _ _ _) (qI R h1 rfl) D.mapOf (by rw[r1.isSome];exact wy R),wpAny_notIn_of (knd:=AS c.prog c.w) (A4 _ _ _ _) (qI R h1 rfl) D.mapOf (by rw[r1.isSome];exact wy R)⟩
 |dB h1=>
  refine xe r.fQ λt aq=>?_;subst aq;obtain rfl:=r'.dj;obtain⟨_,kvs,D,r1⟩:=R.objs _ _ h1
  exact⟨wpAny_in_of (knd:=fM c.prog c.w) (Fd _ _ _ _) (qI R h1 rfl) D.mapOf (by rw[r1.isSome];exact wy R),wpAny_notIn_of (knd:=fM c.prog c.w) (Fd _ _ _ _) (qI R h1 rfl) D.mapOf (by rw[r1.isSome];exact wy R)⟩
 |@tI k is _=>
  refine xe r.bZ λt aq=>?_;subst aq;refine f9 r'.jl λa i1 n1 aq e1 r1=>?_;subst aq;refine xa (aN.any (k:=k) aV.Qn r1) λz zz=>?_;have z:=HM z
  exact⟨in_tupleAt (xR k) (wq e1) (λy hy=>Cb (zz y (AB.2 hy))) (by rw[z];exact fG R),notIn_tupleAt (xR k) (wq e1) (λy hy=>Cb (zz y (AB.2 hy))) (by rw[z];exact fG R)⟩
 |@tB k is _=>
  refine xe r.fQ λt aq=>?_;subst aq;refine f9 r'.jl λa i1 n1 aq e1 r1=>?_;subst aq;refine xa (aN.any (k:=k) aV.Qo r1) λz zz=>?_;have z:i1.any (tK k)=decide (k∈is):=(HM z).trans (decide_eq_decide.2 Iff.rfl)
  exact⟨in_tupleAt (tK k) (wq e1) (λy hy=>Ql (k:=k.toArray) (zz y (AB.2 hy))) (by rw[z];exact fG R),notIn_tupleAt (tK k) (wq e1) (λy hy=>Ql (k:=k.toArray) (zz y (AB.2 hy))) (by rw[z];exact fG R)⟩
 |@iB k b _=>
  refine xe r.bZ λt aq=>?_;subst aq;refine xe r'.fQ λu aq=>?_;subst aq
  have z:b.toArray.contains (k.toNat:Int).toNat.toUInt8=b.contains k:=by rw[adg,pf,show k.toNat.toUInt8=k from UInt8.ofNat_toNat]
  have f:=adf b.toArray (k.toNat:Int) u t (fY _) (dN.2 k.toNat_lt)
  exact⟨alo (f6 s _ _) Lm Ll (Lj _ _) f ⟨_,rfl,by rw[z];exact fG R⟩,ala (f6 s _ _) Lm Ll (Lj _ _) f ⟨_,rfl,by rw[z];exact fG R⟩⟩
 |@bb a b _=>
  refine xe r.fQ λt aq=>?_;subst aq;refine xe r'.fQ λu aq=>?_;subst aq;exact⟨alo (f6 s _ _) Lm Ll (Lj _ _) (Qt b.toArray a.toArray u t) ⟨hu.h,λh' tk k=>⟨_,rfl,rfl,yV R k⟩⟩,ala (f6 s _ _) Lm Ll (Lj _ _) (Qt b.toArray a.toArray u t) ⟨hu.h,λh' tk k=>⟨_,rfl,rfl,yV R k⟩⟩⟩
end
end
section
open PySem.SeqAt
theorem aN.two{h:Heap}{a b:Int}(r:aN h [.int a,.int b] items.toList):∃t u,items=#[.int a t,.int b u]:=by
 refine jg r.iT λv vs e r1 r'=>?_;refine jg r'.iT λw ws aq r2 r0=>?_;subst aq;obtain⟨t,rfl⟩:=r1.bZ;obtain⟨u,rfl⟩:=r2.bZ;obtain rfl:=r0.jX;exact⟨t,u,Array.toList_inj.1 e⟩
section
variable{c:Cx}{A:bj}{σ:St}{s:aw}
theorem Qv{op:CmpOp}{w:ak}{b:Bool}(hu:fe 1 A)(R:Rel c σ s.heap)(r:aV s.heap x v)(r':aV s.heap y w)(q:Cm op x y σ b):HL c A σ s op v w b:=by
 have hz:=hu.units
 have h5:A.in1.units+4<=cLine:=by have:=hu.u;simp;exact l1 this (by simp+arith only)
 induction q with
 |eq=>refine xe r.bZ λt aq=>?_;subst aq;refine xe r'.bZ λu aq=>?_;subst aq;exact P.eq_int (by rw[t8];exact fG R)
 |t7=>refine xe r.fQ λt aq=>?_;subst aq;refine xe r'.fQ λu aq=>?_;subst aq;exact eq_bytes (by rw[t8];exact fG R)
 |B9=>refine xe r.pR λt aq=>?_;subst aq;refine xe r'.pR λu aq=>?_;subst aq;exact PyProof.Rows.eq_str (by rw[t8];exact fG R)
 |Qh h1 h2 h=>obtain rfl:=r.dj;obtain rfl:=r'.dj;exact(HH R hz h1 h2 h (Qg R 4 h5)).1 c.prog c.w No _ (fG R)
 |Qi h1 h2=>obtain rfl:=r.dj;obtain rfl:=r'.dj;exact(Qp R hz h1 h2).1 c.prog c.w No _ (fG R)
 |ne=>refine xe r.bZ λt aq=>?_;subst aq;refine xe r'.bZ λu aq=>?_;subst aq;exact P.ne_int (by rw[Qk];exact fG R)
 |Ca=>refine xe r.fQ λt aq=>?_;subst aq;refine xe r'.fQ λu aq=>?_;subst aq;exact ne_bytes (by rw[Qk];exact fG R)
 |HI=>obtain rfl:=r.Hy;obtain rfl:=r'.Hy;exact ne_bool (fG R)
 |HJ h1 h2 h=>obtain rfl:=r.dj;obtain rfl:=r'.dj;exact(HH R hz h1 h2 h (Qg R 4 h5)).2 c.prog c.w No _ (fG R)
 |tL h1 h2=>obtain rfl:=r.dj;obtain rfl:=r'.dj;exact(Qp R hz h1 h2).2 c.prog c.w No _ (fG R)
 |lt=>refine xe r.bZ λt aq=>?_;subst aq;refine xe r'.bZ λu aq=>?_;subst aq;exact P.lt_int (fG R)
 |le=>refine xe r.bZ λt aq=>?_;subst aq;refine xe r'.bZ λu aq=>?_;subst aq;exact P.le_int (fG R)
 |gt=>refine xe r.bZ λt aq=>?_;subst aq;refine xe r'.bZ λu aq=>?_;subst aq;exact P.gt_int (fG R)
 |ge=>refine xe r.bZ λt aq=>?_;subst aq;refine xe r'.bZ λu aq=>?_;subst aq;exact P.ge_int (fG R)
 |Qj=>
  refine f9 r.jl λa i1 n1 aq e1 r1=>?_;subst aq;refine f9 r'.jl λb i2 n2 aq e2 r2=>?_;subst aq;refine gF r1.two λt1 t2 aq=>?_;subst aq;refine gF r2.two λu1 u2 aq=>?_;subst aq
  exact alz (op:=.Lt) ⟨_,e1,rfl⟩ ⟨_,e2,rfl⟩ PySem.F.slot_tuple_lt PySem.F.entry_tuple_lt (PySem.F.args_tuple_lt_2 _ _) (ada _ _ _ _ _ _ t1 t2 u1 u2 _ _) ⟨e1,e2,(λx=>nomatch x),fG R⟩ hz
 |lex=>
  refine f9 r.jl λa i1 n1 aq e1 r1=>?_;subst aq;refine f9 r'.jl λb i2 n2 aq e2 r2=>?_;subst aq;refine gF r1.two λt1 t2 aq=>?_;subst aq;refine gF r2.two λu1 u2 aq=>?_;subst aq
  exact alz (op:=.LtE) ⟨_,e1,rfl⟩ ⟨_,e2,rfl⟩ PySem.F.slot_tuple_le PySem.F.entry_tuple_le (PySem.F.args_tuple_le_2 _ _) (adb _ _ _ _ _ _ t1 t2 u1 u2 _ _) ⟨e1,e2,(λx=>nomatch x),fG R⟩ hz
 |is=>obtain rfl:=r'.PX;exact is_none (by rw[r.isNone];exact fG R)
 |iY=>obtain rfl:=r'.PX;exact isNot_none (by rw[r.isNone];exact fG R)
 |mem h=>exact(Qu hu R r r' h).1
 |oy h=>exact(Qu hu R r r' h).2
end
end
section
open PySem.SeqAt
section
variable{c:Cx}{n:Nat}{ks:Ks}{A:bj}{env:Env}{e:aL}{σ:St}{s:aw}
theorem aH.cmp{op:CmpOp}{l r:Expr}{pos:Pos}{m1 m2:EM}(h1:aH c (n+1) ks l m1)(h2:aH c (n+1) ks r m2)(hm:autoParam (Mc op r=false) aA):
  aH c (n+1) ks (.Compare l [op] [r] pos) (gM op m1 m2):=λA env e σ s Q N q=>
 wpAny_Compare1 (wp_step (h1 N q) λx v ao s1 r1 w1 q1=>wp_step (h2 (N.bu w1) q1) λy w ay s2 r2 w2 q2=>
  let⟨b,q2,q'⟩:=q2;b0 (Qv (N.room.le (Nat.le_add_left ..)) w2.rel (r1.bu w1.rel w2) r2 q2) (λv s' ⟨hb,w'⟩=>by
   subst hb;exact⟨.bool b,ay,.bool b,(w1.trans w2).trans w',q'⟩) λo o z=>z) hm
theorem gI.cmp{op:CmpOp}{l r:Expr}{pos:Pos}{m1 m2:EM}(h1:aH c (n+1) ks l m1)(h2:aH c (n+1) ks r m2)(hm:autoParam (Mc op r=false) aA):
  gI c (n+1) ks (.Compare l [op] [r] pos) (aT op m1 m2):=λA env e σ s Q whole hw N q=>
 wpAny_isTrue_Compare1 (wp_step (h1 N q) λx v ao s1 r1 w1 q1=>wp_step (h2 (N.bu w1) q1) λy w ay s2 r2 w2 q2=>
  let⟨b,q2,q'⟩:=q2;b0 (Qv (N.room.le (Nat.le_add_left ..)) w2.rel (r1.bu w1.rel w2) r2 q2) (λv s' ⟨hb,w'⟩=>by
   subst hb;exact AF ⟨ay,(w1.trans w2).trans w',q'⟩) λo o z=>z) hm
noncomputable def jh(m:EM):TM:=λe σ Q=>m e σ λx ao=>∃b,x=.bool b/\Q b ao
theorem gI.plain{x:Expr}{m:EM}(h:aH c n ks x m)(he:autoParam (∀env whole,isTrue x env whole=(do let v <-whole;oe x.pos;holding [v] (truthy v))) aJ):gI c n ks x (jh m):=λA wu e σ s Q whole hw N q=>by
 subst hw;refine isTrue_plain (wp_step (h N q) λx v ao s1 r1 w1 q1=>?_) (he _ _);obtain⟨b,rfl,q1⟩:=q1;cases r1;exact AF ⟨ao,w1,q1⟩
noncomputable def vR(m:TM):TM:=λe σ Q=>m e σ λb ao=>Q (!b) ao
theorem gI.not{x:Expr}{pos:Pos}{m:TM}(h:gI c n ks x m):gI c n ks (.UnaryOp .Not x pos) (vR m):=λA env e σ s Q whole hw N q=>
 isTrue_not (yT (h _ rfl N q) λb ao s1 w1 q1=>⟨ao,w1,q1⟩)
noncomputable def cQ(b:Bool):TM:=λz σ Q=>Q b σ
noncomputable def bR(m r:TM):TM:=λe σ Q=>m e σ λb ao=>if b then r e ao Q else Q false ao
noncomputable def hH(m r:TM):TM:=λe σ Q=>m e σ λb ao=>if b then Q true ao else r e ao Q
noncomputable def jz(c:Cx)(n:Nat)(ks:Ks)(op:BoolOp)(xs:List Expr)(m:TM):Prop:=
 ∀⦃A:bj⦄ ⦃env:Env⦄ ⦃e:aL⦄ ⦃σ:St⦄ ⦃s:aw⦄ ⦃Q:Bool->St->Prop⦄ (pos:Pos) (whole:Sem ak),cO c n A env ks e σ s->m e σ Q->aM c.M A (isTrue (.BoolOp op xs pos) env whole) (mf c σ s Q) No s
theorem jz.aac:jz c n ks .And [] (cQ true):=λA env e σ s Q pos whole N q=>isTrue_and_nil ⟨_,.refl N.rel,q⟩
theorem jz.aad:jz c n ks .Or [] (cQ false):=λA env e σ s Q pos whole N q=>isTrue_or_nil ⟨_,.refl N.rel,q⟩
theorem jz.and{x:Expr}{xs:List Expr}{m r:TM}(h1:gI c n ks x m)(h2:jz c n ks .And xs r):jz c n ks .And (x::xs) (bR m r):=λA env e σ s Q pos whole N q=>
 isTrue_and (yT (h1 _ rfl N q) λb ao s1 w1 q1=>by
  induction b with
  |true=>exact Qa w1 (h2 pos whole (N.bu w1) q1)
  |false=>exact⟨ao,w1,q1⟩)
theorem jz.or{x:Expr}{xs:List Expr}{m r:TM}(h1:gI c n ks x m)(h2:jz c n ks .Or xs r):jz c n ks .Or (x::xs) (hH m r):=λA env e σ s Q pos whole N q=>
 isTrue_or (yT (h1 _ rfl N q) λb ao s1 w1 q1=>by
  induction b with
  |false=>exact Qa w1 (h2 pos whole (N.bu w1) q1)
  |true=>exact⟨ao,w1,q1⟩)
theorem gI.bool{op:BoolOp}{xs:List Expr}{pos:Pos}{m:TM}(h:jz c n ks op xs m):gI c n ks (.BoolOp op xs pos) m:=λA env e σ s Q whole hw N q=>h pos whole N q
noncomputable def GX(m r:EM):EM:=λe σ Q=>m e σ λx ao=>∃b,x=.bool b/\if b then r e ao Q else Q (.bool false) ao
noncomputable def yv(m r:EM):EM:=λe σ Q=>m e σ λx ao=>∃b,x=.bool b/\if b then Q (.bool true) ao else r e ao Q
theorem aH.MU{op:BoolOp}{x:Expr}{pos:Pos}{m:EM}(h:aH c n ks x m):aH c n ks (.BoolOp op [x] pos) m:=λA env e σ s Q N q=>BoolOp_one (h N q)
theorem aH.and{x y:Expr}{xs:List Expr}{pos:Pos}{m r:EM}(h1:aH c n ks x m)(h2:aH c n ks (.BoolOp .And (y::xs) pos) r):aH c n ks (.BoolOp .And (x::y::xs) pos) (GX m r):=λA env e σ s Q N q=>
 BoolOp_and (wp_step (h1 N q) λx v ao s1 r1 w1 q1=>by
  obtain⟨b,rfl,q1⟩:=q1;cases r1;refine AF ?_
  induction b with
  |true=>exact iE w1 (h2 (N.bu w1) q1)
  |false=>exact⟨_,ao,.bool _,w1,q1⟩)
theorem aH.or{x y:Expr}{xs:List Expr}{pos:Pos}{m r:EM}(h1:aH c n ks x m)(h2:aH c n ks (.BoolOp .Or (y::xs) pos) r):aH c n ks (.BoolOp .Or (x::y::xs) pos) (yv m r):=λA env e σ s Q N q=>
 BoolOp_or (wp_step (h1 N q) λx v ao s1 r1 w1 q1=>by
  obtain⟨b,rfl,q1⟩:=q1;cases r1;refine AF ?_
  induction b with
  |false=>exact iE w1 (h2 (N.bu w1) q1)
  |true=>exact⟨_,ao,.bool _,w1,q1⟩)
noncomputable def eH(t:TM)(m1 m2:EM):EM:=λe σ Q=>t e σ λb ao=>if b then m1 e ao Q else m2 e ao Q
theorem aH.tR{t x y:Expr}{pos:Pos}{mt:TM}{m1 m2:EM}(h:gI c n ks t mt)(h1:aH c n ks x m1)(h2:aH c n ks y m2):aH c n ks (.IfExp t x y pos) (eH mt m1 m2):=λA env e σ s Q N q=>
 IfExp_ (yT (h _ rfl N q) λb ao s1 w1 q1=>by
  induction b with
  |true=>exact iE w1 (h1 (N.bu w1) q1)
  |false=>exact iE w1 (h2 (N.bu w1) q1))
noncomputable def adh(x:CV):VM:=λσ Q=>∃a,x=.int a/\Q (.int (-a)) σ
noncomputable def qD(m:EM):EM:=λe σ Q=>m e σ λx ao=>adh x ao Q
theorem aH.neg{x:Expr}{pos:Pos}{m:EM}(h:aH c n ks x m):aH c n ks (.UnaryOp .USub x pos) (qD m):=λA env e σ s Q N q=>
 UnaryOp_ (wp_step (h N q) λx v ao s1 r1 w1 q1=>by
  obtain⟨a,rfl,q1⟩:=q1;refine xe r1.bZ λt aq=>?_;subst aq
  exact P.neg_int (cC.after w1 _ _ (dq w1.rel (.int _ _) q1)))
end
end
set_option tactic.hygienic true
section
open PySem.SeqAt
theorem adi{h:Heap}{m:bx->Option ak}(n:h.Ns d m)(name:bx):∃o,h.get? d=some o/\lookIn name o=some (m name):=by
 obtain⟨o,es,ep,ho,hd,hk,hf⟩:=n;refine⟨o,ho,?_⟩;unfold lookIn;rw[hd];rw[<-hf name];unfold nsFind findBy;rw[<-Array.find?_toList];dsimp only
 split
 ·rename_i en he;rw[he];rfl
 ·rename_i he
  rw[he]
  have:es.toList.any (λx=>x.refKey)=false:=by
   rw[Array.any_toList,Array.any_eq_false'];intro e he;refine gF (hk e he) λn t h=>?_;simp[DictEntry.refKey,h]
  rw[this];rfl
theorem adj{name:bx}{j3:Int}{key:ak}{o:Obj}{es iG:Array DictEntry}{Cc k:Nat}(hd:o.data=.dict es ep)(hk:es.size<=k)
  (h1:nsFind es name=none->k+1<=k')(h2:k<=k')(fR:(Fh name j3 key v o).data=.dict iG Cc):iG.size<=k':=by
 obtain⟨cl,dd,dt,sl⟩:=o;simp only at hd;subst hd;rw[Obj.putName_eq]at fR;simp only[Obj.putNameByArray]at fR
 split at fR<;>cases fR
 ·simpa using aR hk h2
 ·rename_i hn
  have:nsFind es name=none:=by
   unfold nsFind findBy
   have:es.find? (·.key.isStr name)=none:=by
    rw[Array.findIdx?_eq_none_iff]at hn;rw[Array.find?_eq_none];intro x hx;simp[hn x hx]
   rw[this];rfl
  have:=h1 this;simp;exact je hk this
theorem adk{M:fA}{Γ:Ctx}{E:ak->Pos->aw->Prop}{p:Pos}{s:aw}{m}(hn:s.heap.Ns a m)(name:bx)(v:ak):∃j3 key,
  ∀Q:Unit->Pos->aw->Prop,Sem.wp M Γ (nsSet a name v) Q E p s=Q () p {s with heap:=s.heap.update a (Fh name j3 key v),toks:=s.toks+1}:=by
 obtain⟨o,es,ep,ho,hd,hk,hm⟩:=hn
 have adl:es.any (λx=>x.refKey)=false:=by
  rw[Array.any_eq_false'];intro e he;refine gF (hk e he) λn t h=>?_;simp[DictEntry.refKey,h]
 refine⟨if name.cps.isEmpty then 0 else reduceHash (M.w.params.strHash name.cps),.str name s.toks,λQ=>?_⟩
 simp only[nsSet,strHash,Ff,Sem.wp_cmd_ask,Sem.wp_pure',Sem.wp_cmd_mkText]
 rw[Sem.wp_loadPart_of M Γ E p {s with toks:=s.toks+1} (o:=o) _ ho]
 simp only[hd,aRefKeyMayBeTheName_eq,aRefKeyMayBeTheNameByArray,adl,Bool.and_false,pe,if_false,Sem.wp_cmd_updatePart];rw[ho];simp only[YY,true_and]
theorem adm{M:fA}{A:bj}{s:aw}{m}{name:bx}{k:Nat}{Q:Unit->aw->Prop}(hn:s.heap.Ns a m)(hl:s.heap.DictLe a k)(HR:m name=none->k+1<=k')(hk2:k<=k')
  (h:∀h',h'.Ns a (λx=>if x=name then some v else m x)->ju a s.heap h'->h'.DictLe a k'->Q () {s with heap:=h',toks:=s.toks+1}):
  aM M A (nsSet a name v) Q E s:=λΓ p _=>by
 refine gF (adk (M:=M) (Γ:=Γ) (E:=λe u s'=>E e s') (p:=p) hn name v) λj3 key e=>?_
 have q:=Sem.wp_nsSet M Γ (λe u s'=>E e s') p s hn name v (λu u s'=>s'.heap.Ns a (λx=>if x=name then some v else m x)/\ju a s.heap s'.heap) (λh' x y=>⟨x,y⟩)
 rw[e]at q ⊢;refine h _ q.1 q.2 λo es ep ho hd=>?_;obtain⟨HS,alG,alH,Qw,Ce,_,adn⟩:=hn;obtain⟨Qx,alI,alJ,Qy,alL,_⟩:=q.1;have eo:Qx=o:=bt (Qy.symm.trans ho);subst eo
 have:Qx=Fh name j3 key v HS:=by
  have z:=rD (Fh name j3 key v) Qw (by
   cases f:(Fh name j3 key v HS).isFreed with
   |false=>rfl
   |true=>
    obtain⟨cl,dd,dt,sl⟩:=HS;simp only at Ce;subst Ce;rw[Obj.putName_eq]at f;simp only[Obj.putNameByArray]at f
    split at f<;>simp[Obj.isFreed]at f)
  exact bt (Qy.symm.trans z)
 subst this
 exact adj Ce (hl _ _ _ Qw Ce) (λz=>HR (by rw[<-adn,z])) hk2 hd
theorem HT(fs:List (Nat×CV))(i:Nat)(v:CV):(j2 fs i v).length=if gN fs i=none then fs.length+1 else fs.length:=by
 induction fs with
 |nil=>exact(if_pos rfl).symm
 |cons p r ih=>
  obtain⟨j,x⟩:=p
  by_cases h:i=j
  ·rw[show j2 ((j,x)::r) i v=(j,v)::r from if_pos h,show gN ((j,x)::r) i=some x from if_pos h]
   exact(if_neg λz=>jy z).symm
  ·rw[show j2 ((j,x)::r) i v=(j,x)::j2 r i v from if_neg h,show gN ((j,x)::r) i=gN r i from if_neg h,jP,ih,jP]
   split<;>rfl
section
variable{c:Cx}{n:Nat}{ks:Ks}{A:bj}{env:Env}{e:aL}{σ:St}{s:aw}
theorem HU(R:Rel c σ s.heap)(h1:σ a=some (.inst C d))(h2:σ d=some (.iV fs))(hi:i<nN):
  ∃od m,W.InstAt s.heap a (mU C d) C (some od)/\s.heap.Ns d m/\s.heap.get? d=some od/\lookIn (nm i) od=some (m (nm i))/\sD s.heap fs m:=by
 obtain⟨_,e1⟩:=R.objs _ _ h1;obtain⟨_,m,hn,hr,_⟩:=R.objs _ _ h2;refine a9 (adi hn (nm i)) λod ho hl=>?_;exact⟨od,m,⟨e1,rfl,rfl,ho⟩,hn,ho,hl,hr⟩
theorem ado{h:Heap}(r:aV h x v)(z:x.tX=false):handedIn v=true:=by
 cases r<;>first |rfl |exact iR z
noncomputable def isField(C i:Nat):Bool:=yn.contains (C,i)
theorem Qz{C:Nat}(h:isField C i=true):(C,i)∈yn:=by simpa[isField]using h
noncomputable def vQ(i:Nat)(x:CV):VM:=λσ Q=>∃a C d fs v,x=.loc a/\σ a=some (.inst C d)/\σ d=some (.iV fs)/\isField C i=true/\gN fs i=some v/\Q v σ
theorem QH{b:Bool}(R:Rel c σ s.heap)(r:aV s.heap x v)(q:vQ i x σ Q):
  aM c.M A (getAttr v (nm i) b) (cC c σ s Q) No s:=by
 obtain⟨a,C,d,fs,y,rfl,h1,h2,h3,h4,q⟩:=q;cases r;obtain⟨hi,k1,k2,⟨attr,k3,k4⟩,_⟩:=c.fld _ _ (Qz h3);refine mX (HU R h1 h2 hi) λod m I hn ho hl hr=>?_;have:=hr i hi;rw[h4]at this;obtain⟨z,e1,r1,nb⟩:=this;rw[e1]at hl;exact get_value (c.jY.keeps R.base) I (plainGet_of k1).1 (findObj_own k2 k3 k4 hl) (ado r1 nb) (dq R r1 q)
noncomputable def bf(i:Nat)(m:EM):EM:=λe σ Q=>m e σ λx ao=>vQ i x ao Q
theorem aH.attr{x:Expr}{name:bx}{pos:Pos}{m:EM}(i:Nat)(hx:nm i=name)(h:aH c n ks x m)
  (he:autoParam (∀env,eval (.Attribute x name pos) env=(do
   let o <-eval x env
   oe pos.atName
   let r <-holding [o] (getAttr o name true)
   letTemporaryGo x o r
   pure r)) aW):aH c n ks (.Attribute x name pos) (bf i m):=λA wu e σ s Q N q=>by
 subst hx;exact Attribute_any_ (wp_step (h N q) λx v ao s1 r1 w1 q1=>iE w1 (QH w1.rel r1 q1)) (he _)
noncomputable def yz(i:Nat)(x y:CV)(σ:St)(Q:St->Prop):Prop:=∃a C d fs,x=.loc a/\σ a=some (.inst C d)/\σ d=some (.iV fs)/\isField C i=true/\y.tX=false/\fs.length<=20/\Q (upd σ d (.iV (j2 fs i y)))
theorem QI{w:ak}{Q:St->Prop}(R:Rel c σ s.heap)(r:aV s.heap x v)(r':aV s.heap y w)(q:yz i x y σ Q):
  aM c.M A (setAttr v (nm i) w) (λo s'=>∃ae,bK c σ s ae s'/\Q ae) No s:=by
 obtain⟨a,C,d,fs,rfl,h1,h2,h3,h4',h5,q⟩:=q;cases r;obtain⟨hi,k1,k2,_,k5,k6,k7⟩:=c.fld _ _ (Qz h3);refine mX (HU R h1 h2 hi) λod m I hn ho hl hr=>?_;have X:=c.jY.keeps R.base;obtain⟨HV,m',yW,yX,hle⟩:=R.objs _ _ h2
 refine set_plain X I k5 (osa_open (s:={s with toks:=s.toks+1}) X I k6 k7 λb=>?_)
 refine a9 (any_some k2) λcd hc fR=>?_;obtain⟨hx,hG,QJ,-⟩:=I;refine aC (aO (aC (aC (wpAny_loadPart hx (aC (looks_clsIn X hc _ _ _ _ (λo o e=>e) ?_))))));rw[fR];refine aO (a:=some d) (aC (aO (aC ?_)))
 have nz:m' (nm i)=none->gN fs i=none:=λz=>by
  have:=yX i hi
  cases q:gN fs i with
  |none=>rfl
  |some x=>rw[q]at this;obtain⟨v,e,_⟩:=this;exact bo (z.symm.trans e)
 refine adm (s:={s with toks:=s.toks+1}) yW hle (k':=(j2 fs i y).length) (λz=>?_) (by rw[HT];split<;>(first |exact mL .. |exact cP _)) λh' lF hs QK=>?_
 ·rw[HT,if_pos (nz z)]
  exact cP _
 obtain⟨o2,yY,QL,iZ,hd2,_⟩:=id lF
 refine aC (wpAny_lookBehind iZ (by rw[hd2];exact pastItsLine_dict (aR (QK _ _ _ iZ hd2) (by rw[HT,A2];split<;>(first |exact lz h5 rfl |exact cB h5 rfl)))) (aO ?_))
 exact⟨_,⟨R.set (y:=.iV (j2 fs i y)) h2 rfl hs λtu=>⟨HV,_,lF,(yX.bQ tu).set hi (r'.bQ tu) h4',QK⟩,Ext.set h2 rfl hs ⟨_,iZ⟩,rfl,rfl⟩,q⟩
end
end
set_option tactic.hygienic false
structure lG(X:Addr->Prop)(σ:St)(h:Heap)(ae:St)(h':Heap):Prop where
 keep:∀b o,¬X b->h.get? b=some o->(∀x,σ b=some x->x.fc=true)->h'.get? b=some o
 gg:∀b o,¬X b->h.get? b=some o->σ b=none->ae b=none
 fc:∀b x,σ b=some x->x.fc=true->ae b=some x
 more:∀b o,h.get? b=some o->∃o',h'.get? b=some o'
theorem Ext.dA{σ:St}{h:Heap}(x:Ext σ h ae h')(X:Addr->Prop):lG X σ h ae h':=⟨λb o z=>x.keep b o,λb o z=>x.gg b o,x.fc,x.more⟩
theorem lG.trans{X:Addr->Prop}{d8 dP gR:Heap}(x:lG X b7 d8 bT dP)(y:lG X bT dP fD gR):lG X b7 d8 fD gR:=by
 refine⟨λb o nx e k=>?_,λb o nx e n=>?_,λb z e i=>y.fc b z (x.fc b z e i) i,λb o e=>let⟨o',e'⟩:=x.more b o e;y.more b o' e'⟩
 ·have e2:=x.keep b o nx e k
  refine y.keep b o nx e2 λz hz=>?_
  cases q:b7 b with
  |none=>exact bo ((x.gg b o nx e q).symm.trans hz)
  |some z1=>have y1:=k z1 q;obtain rfl:=(bt ((x.fc b z1 q y1).symm.trans hz)).symm;exact y1
 ·have e2:=x.keep b o nx e (λz hz=>by exact bo (n.symm.trans hz))
  exact y.gg b o nx e2 (x.gg b o nx e n)
theorem lG.mono{X:Addr->Prop}{σ:St}{h:Heap}(x:lG X σ h ae h')(k:∀b,X b->Y b):lG Y σ h ae h':=
 ⟨λb o n=>x.keep b o λq=>n (k b q),λb o n=>x.gg b o λq=>n (k b q),x.fc,x.more⟩
theorem lG.ext{X:Addr->Prop}{σ:St}{h₀ h:Heap}(y:Ext σ₀ h₀ σ h)(x:lG X σ h ae h')(n:∀b,X b->h₀.get? b=none):Ext σ₀ h₀ ae h':=by
 refine⟨λb o e k=>?_,λb o e k=>?_,λb z e i=>x.fc b z (y.fc b z e i) i,λb o e=>let⟨o',e'⟩:=y.more b o e;x.more b o' e'⟩
 ·have nx:¬X b:=λq=>by exact bo ((n b q).symm.trans e)
  refine x.keep b o nx (y.keep b o e k) λz hz=>?_
  cases q:σ₀ b with
  |none=>exact bo ((y.gg b o e q).symm.trans hz)
  |some z1=>have y1:=k z1 q;obtain rfl:=(bt ((y.fc b z1 q y1).symm.trans hz)).symm;exact y1
 ·have nx:¬X b:=λq=>by exact bo ((n b q).symm.trans e)
  exact x.gg b o nx (y.keep b o e λz hz=>by exact bo (k.symm.trans hz)) (y.gg b o e k)
structure c8(c:Cx)(X:Addr->Prop)(σ:St)(s:aw)(ae:St)(s':aw):Prop where
 rel:Rel c ae s'.heap
 ext:lG X σ s.heap ae s'.heap
 gens:s'.gens=s.gens
 os:s'.os=s.os
theorem bK.dA{c:Cx}{σ:St}{s:aw}(w:bK c σ s ae s')(X:Addr->Prop):c8 c X σ s ae s':=⟨w.rel,w.ext.dA X,w.gens,w.os⟩
theorem c8.trans{c:Cx}{X:Addr->Prop}{fu:aw}(x:c8 c X b7 bq bT bg)(y:c8 c X bT bg fD fu):c8 c X b7 bq fD fu:=
 ⟨y.rel,x.ext.trans y.ext,y.gens.trans x.gens,y.os.trans x.os⟩
theorem c8.mono{c:Cx}{X:Addr->Prop}(x:c8 c X b7 bq bT bg)(k:∀b,X b->Y b):c8 c Y b7 bq bT bg:=⟨x.rel,x.ext.mono k,x.gens,x.os⟩
noncomputable def eU(env:Env)(ks:Ks)(b:Addr):Prop:=b=env.locals\/∃i,ks.lookup i=some .cell/\env.cells.lookup (nm i)=some b
inductive dy where
 |next |brk |cont |ret (v:CV)
inductive ub(h:Heap):dy->Flow->Prop
 |next:ub h .next .next
 |brk:ub h .brk .brk
 |cont:ub h .cont .cont
 |ret {x:CV} {v:ak} (r:aV h x v):ub h (.ret x) (.ret v)
noncomputable abbrev SM:=aL->St->(dy->aL->St->Prop)->Prop
noncomputable abbrev AM:=CV->aL->St->(aL->St->Prop)->Prop
noncomputable def hU(c:Cx)(env:Env)(ks:Ks)(σ:St)(s:aw)(Q:dy->aL->St->Prop):Flow->aw->Prop:=
 λf s'=>∃fl e' ae,ub s'.heap fl f/\c8 c (eU env ks) σ s ae s'/\eY c env ks e' ae s'.heap/\Q fl e' ae
noncomputable def kM(c:Cx)(X:Addr->Prop)(env:Env)(ks:Ks)(σ:St)(s:aw)(Q:aL->St->Prop):Unit->aw->Prop:=
 λz s'=>∃e' ae,c8 c X σ s ae s'/\eY c env ks e' ae s'.heap/\Q e' ae
theorem hU.after{c:Cx}{env:Env}{ks:Ks}{Q:dy->aL->St->Prop}(w:c8 c (eU env ks) b7 bq bT bg):∀v s',hU c env ks bT bg Q v s'->hU c env ks b7 bq Q v s':=
 λ_ _ ⟨fl,e',ae,r,w',f,q⟩=>⟨fl,e',ae,r,w.trans w',f,q⟩
theorem kM.after{c:Cx}{X:Addr->Prop}{env:Env}{ks:Ks}{Q:aL->St->Prop}(w:c8 c X b7 bq bT bg):∀v s',kM c X env ks bT bg Q v s'->kM c X env ks b7 bq Q v s':=
 λ_ _ ⟨e',ae,w',f,q⟩=>⟨e',ae,w.trans w',f,q⟩
noncomputable def cF(c:Cx)(n:Nat)(ks:Ks)(x:Stmt)(m:SM):Prop:=
 ∀⦃A:bj⦄ ⦃env:Env⦄ ⦃e:aL⦄ ⦃σ:St⦄ ⦃s:aw⦄ ⦃Q:dy->aL->St->Prop⦄,cO c n A env ks e σ s->m e σ Q->aM c.M A (exec x env) (hU c env ks σ s Q) No s
noncomputable def eQ(c:Cx)(n:Nat)(ks:Ks)(x:List Stmt)(m:SM):Prop:=
 ∀⦃A:bj⦄ ⦃env:Env⦄ ⦃e:aL⦄ ⦃σ:St⦄ ⦃s:aw⦄ ⦃Q:dy->aL->St->Prop⦄,cO c n A env ks e σ s->m e σ Q->aM c.M A (execs x env) (hU c env ks σ s Q) No s
noncomputable def eG(c:Cx)(n:Nat)(ks:Ks)(X:Env->Addr->Prop)(t:Expr)(m:AM):Prop:=
 ∀⦃A:bj⦄ ⦃env:Env⦄ ⦃e:aL⦄ ⦃σ:St⦄ ⦃s:aw⦄ ⦃x:CV⦄ ⦃v:ak⦄ ⦃Q:aL->St->Prop⦄,cO c n A env ks e σ s->aV s.heap x v->m x e σ Q->aM c.M A (assign t env v) (kM c (X env) env ks σ s Q) No s
section
variable{c:Cx}{n:Nat}{ks:Ks}{A:bj}{env:Env}{e:aL}{σ:St}{s:aw}
theorem cO.moved{e':aL}(N:cO c n A env ks e σ s)(F:eY c env ks e' ae s'.heap)(R:Rel c ae s'.heap):cO c n A env ks e' ae s':=⟨N.room,N.ok,F,R⟩
theorem HW(N:cO c n A env ks e σ s){b:Addr}(hb:eU env ks b):∀items k,s.heap.get? b≠some (d7 items k):=by
 intro items k q
 rcases hb with rfl |⟨i,hi,hc⟩
 ·obtain⟨m,⟨o,es,ep,ho,hd,_⟩,_⟩:=N.fr.ns
  obtain rfl:=bt (ho.symm.trans q);exact Ax hd
 ·obtain⟨a,x,h1,⟨o,ho,hd⟩,_⟩:=N.fr.cells i (.inl hi)
  obtain rfl:=(bt (h1.symm.trans hc)).symm;obtain rfl:=bt (ho.symm.trans q);exact Ax hd
theorem bK.yZ(N:cO c n A env ks e σ s)(w:c8 c (eU env ks) σ s ae s'):gr s.heap s'.heap:=λb items k eb=>by
 by_cases q:eU env ks b
 ·exact absurd eb (HW N q items k)
 ·refine w.ext.keep b _ q eb λz hz=>?_
  refine a9 (eK.there (N.rel.objs b z hz)) λy hy ht=>?_;obtain rfl:=bt (eb.symm.trans hy);exact absurd rfl (ht _ _)
theorem Cf{X:Addr->Prop}{x:bx}{Q:aL->St->Prop}(hX:∀b,b=env.locals\/(ks.lookup i=some .cell/\env.cells.lookup (nm i)=some b)->X b)(hx:nm i=x)(hk:ks.lookup i=some .local\/ks.lookup i=some .cell)
  (N:cO c n A env ks e σ s)(r:aV s.heap y v)(q:Q (bA e i y) σ):aM c.M A (storeName env x v) (kM c X env ks σ s Q) No s:=by
 subst hx
 have hi:i<nN:=by rcases hk with hk |hk<;>exact N.ok.lt hk
 have jm:=N.ok.kindOf hi
 rcases hk with hl |hl
 ·rw[hl]at jm
  refine a9 N.fr.ns λm hm hv=>?_
  refine wpAny_storeName_local jm hm (λh' hn hs=>?_) (by rw[N.ok.kind];rfl)
  have tl:∀items k,s.heap.get? env.locals≠some (d7 items k):=HW N (.inl rfl)
  have tu:gr s.heap h':=λb items k eb=>hs.extBut b _ (λz=>by subst z;exact tl _ _ eb) eb
  refine⟨_,_,⟨N.rel.but hs.extBut N.fr.t4 N.fr.yR tl,⟨λb o nb eb u=>hs.extBut b o (λz=>nb (hX _ (.inl z))) eb,λu u u u z=>z,λu u z u=>z,λb o eb=>by
    by_cases z:b=env.locals
    ·obtain⟨o',_,_,c7,_⟩:=hn;exact⟨o',z▸c7⟩
    ·exact⟨o,hs.extBut b o z eb⟩⟩,rfl,rfl⟩,
   ⟨⟨_,hn,λj w hj hw=>?_⟩,N.fr.t4,N.fr.yR,λj hj=>?_⟩,q⟩
  ·by_cases z:j=i
   ·subst z;rw[hJ]at hw;obtain rfl:=bt hw;exact⟨v,by simp,r.bQ tu⟩
   ·rw[ox z]at hw
    refine a9 (hv j w hj hw) λy' h1 h2=>?_;have:nm j≠nm i:=λq=>z (oE (N.ok.lt hj) hi q)
    exact⟨y',by simp only[this,if_false];exact h1,h2.bQ tu⟩
  ·obtain⟨a,y',h1,⟨o,ho,hd⟩,h3,h4,h5⟩:=N.fr.cells j hj
   have na:a≠env.locals:=λz=>by
    obtain⟨o',es,ep,c7,fR,_⟩:=hm;subst z;obtain rfl:=bt (ho.symm.trans c7);rw[hd]at fR;exact Ax fR
   refine⟨a,y',h1,⟨o,hs.extBut _ _ na ho,hd⟩,h3,h4,λw hw=>?_⟩
   have ji:j≠i:=λz=>by subst z;rw[hl]at hj;rcases hj with hj |hj<;>cases hj
   rw[ox ji]at hw;refine a9 (h5 w hw) λy2 h6 h7=>?_
   exact⟨y2,h6,h7.bQ tu⟩
 ·rw[hl]at jm
  refine mX (N.fr.cells i (.inl hl)) λa y0 h1 hc h3 h4 h5=>?_;refine wpAny_storeName_cell N.ok.kind jm h1 hc λh' pT hs=>?_;obtain⟨oc,HX,Cg⟩:=id hc;have tl:∀items k,s.heap.get? a≠some (d7 items k):=HW N (.inr ⟨i,hl,h1⟩)
  have tu:gr s.heap h':=λb items k eb=>hs.extBut b _ (λz=>by subst z;exact tl _ _ eb) eb
  refine⟨_,_,⟨N.rel.but hs.extBut h3 h4 tl,⟨λb o nb eb u=>hs.extBut b o (λz=>nb (hX _ (.inr ⟨hl,z▸h1⟩))) eb,λu u u u z=>z,λu u z u=>z,λb o eb=>by
    by_cases z:b=a
    ·obtain⟨o2,iZ,_⟩:=pT;exact⟨o2,z▸iZ⟩
    ·exact⟨o,hs.extBut b o z eb⟩⟩,rfl,rfl⟩,
   ⟨?_,N.fr.t4,N.fr.yR,λj hj=>?_⟩,q⟩
  ·obtain⟨m,⟨o,es,ep,ho,hd,hr⟩,hv⟩:=N.fr.ns
   have na:env.locals≠a:=λz=>by
    rw[z,HX]at ho;obtain rfl:=bt ho;rw[hd]at Cg;exact Ax Cg
   refine⟨m,⟨o,es,ep,hs.extBut _ _ na ho,hd,hr⟩,λj w hj hw=>?_⟩
   have ji:j≠i:=λz=>by subst z;rw[hl]at hj;cases hj
   rw[ox ji]at hw;refine a9 (hv j w hj hw) λy' h6 h7=>?_
   exact⟨y',h6,h7.bQ tu⟩
  ·by_cases z:j=i
   ·subst z
    exact⟨a,_,h1,pT,h3,h4,λw hw=>by rw[hJ]at hw;obtain rfl:=bt hw;exact⟨v,rfl,r.bQ tu⟩⟩
   ·obtain⟨a',y',g1,⟨o,ho,hd⟩,g3,g4,g5⟩:=N.fr.cells j hj
    have wz:j<nN:=by rcases hj with hj |hj<;>exact N.ok.lt hj
    have na:a'≠a:=λq=>z (N.ok.apart j i a wz hi (q▸g1) h1);refine⟨a',y',g1,⟨o,hs.extBut _ _ na ho,hd⟩,g3,g4,λw hw=>?_⟩;rw[ox z]at hw;refine a9 (g5 w hw) λy2 h6 h7=>?_;exact⟨y2,h6,h7.bQ tu⟩
theorem HY{X:Addr->Prop}{t:Sem Unit}{Q:aL->St->Prop}(w:c8 c X σ s bT bg)(h:aM c.M A t (kM c X env ks bT bg Q) No bg):aM c.M A t (kM c X env ks σ s Q) No bg:=
 b0 h (kM.after w) λo o z=>z
theorem HZ{t:Sem Flow}{Q:dy->aL->St->Prop}(w:c8 c (eU env ks) σ s bT bg)(h:aM c.M A t (hU c env ks bT bg Q) No bg):aM c.M A t (hU c env ks σ s Q) No bg:=
 b0 h (hU.after w) λo o z=>z
theorem wA{X:Addr->Prop}{t:Sem Unit}{Q1:aL->St->Prop}{R:Unit->aw->Prop}(h:aM c.M A t (kM c X env ks σ s Q1) No s)
  (k:∀e' ae s',c8 c X σ s ae s'->eY c env ks e' ae s'.heap->Q1 e' ae->R () s'):aM c.M A t R No s:=
 b0 h (λv s' ⟨e',ae,w,f,q⟩=>k e' ae s' w f q) λo o z=>z
theorem adp{t:Sem Flow}{Q1:dy->aL->St->Prop}{R:Flow->aw->Prop}(h:aM c.M A t (hU c env ks σ s Q1) No s)
  (k:∀fl f e' ae s',ub s'.heap fl f->c8 c (eU env ks) σ s ae s'->eY c env ks e' ae s'.heap->Q1 fl e' ae->R f s'):aM c.M A t R No s:=
 b0 h (λv s' ⟨fl,e',ae,r,w,f,q⟩=>k fl v e' ae s' r w f q) λo o z=>z
noncomputable def fO:Option fy->Bool
 |some .local |some .cell=>true
 |_=>false
theorem oF{k:Option fy}(h:fO k=true):k=some .local\/k=some .cell:=by
 induction k with
 |none=>exact eP h
 |some k=>cases k<;>first |exact .inl rfl |exact .inr rfl |exact eP h
noncomputable def aName(i:Nat):AM:=λv e σ Q=>Q (bA e i v) σ
theorem H3:∀b,b=env.locals\/(ks.lookup i=some .cell/\env.cells.lookup (nm i)=some b)->eU env ks b:=λb h=>by
 rcases h with h |⟨h1,h2⟩
 ·exact .inl h
 ·exact .inr ⟨i,h1,h2⟩
noncomputable abbrev pv(ks:Ks):Env->Addr->Prop:=λenv=>eU env ks
noncomputable def jV(raw kc:Ks):Env->Addr->Prop:=λenv b=>b=env.locals\/∃i,fO (raw.lookup i)=true/\kc.lookup i=some .cell/\env.cells.lookup (nm i)=some b
theorem jV.FC{kc:Ks}:∀env b,jV raw kc env b->eU env kc b:=λenv b h=>by
 rcases h with h |⟨i,_,h1,h2⟩
 ·exact .inl h
 ·exact .inr ⟨i,h1,h2⟩
theorem eG.name{x:bx}{pos:Pos}(i:Nat)(hx:nm i=x)(hk:fO (ks.lookup i)=true):eG c n ks (pv ks) (.Name x pos) (aName i):=λA env e σ s x1 v Q N r q=>
 wpAny_assign_Name (Cf H3 hx (oF hk) N r q)
theorem eG.Z3{raw:Ks}{x:bx}{pos:Pos}(i:Nat)(hx:nm i=x)(hk:fO (ks.lookup i)=true)(hr:fO (raw.lookup i)=true):eG c n ks (jV raw ks) (.Name x pos) (aName i):=λA env e σ s x1 v Q N r q=>
 wpAny_assign_Name (Cf (λb h=>by
  rcases h with h |⟨h1,h2⟩
  ·exact .inl h
  ·exact .inr ⟨i,hr,h1,h2⟩) hx (oF hk) N r q)
noncomputable def az:SM:=λe σ Q=>Q .next e σ
noncomputable def ah(m1 m2:SM):SM:=λe σ Q=>m1 e σ λfl e' ae=>match fl with |.next=>m2 e' ae Q |f=>Q f e' ae
theorem eQ.nil:eQ c n ks [] az:=λA env e σ s Q N q=>EZ ⟨.next,_,_,.next,(bK.refl N.rel).dA _,N.fr,q⟩
theorem eQ.cons{x:Stmt}{xs:List Stmt}{m1 m2:SM}(h1:cF c n ks x m1)(h2:eQ c n ks xs m2):eQ c n ks (x::xs) (ah m1 m2):=λA env e σ s Q N q=>by
 refine wpAny_execs_cons (adp (h1 N q) λfl f e' ae s' r w F q'=>?_)
 induction r with
 |next=>exact HZ w (h2 (N.moved F w.rel) q')
 |brk=>exact⟨_,_,_,.brk,w,F,q'⟩
 |cont=>exact⟨_,_,_,.cont,w,F,q'⟩
 |ret r=>exact⟨_,_,_,.ret r,w,F,q'⟩
noncomputable def aP(m:EM)(a:AM):SM:=λe σ Q=>m e σ λv ao=>a v e ao λe' ae=>Q .next e' ae
theorem cF.assign{t x:Expr}{pos:Pos}{m:EM}{a:AM}(h:aH c n ks x m)(ha:eG c n ks (pv ks) t a)
  (hs:∀env,jj c env ks->swapsWithSole [t] x pos.line env=pure false)(hw:∀env,jj c env ks->qt [t] x env=pure none)(he:autoParam (∀env,qw [t] env=[(false,AY t env)]) aI):cF c n ks (.Assign [t] x pos) (aP m a):=λA env e σ s Q N q=>by
 rw[exec_Assign,hs _ N.ok];refine aC (k0 (aC (aO ?_)))
 rw[if_neg (by decide)]
 refine aC (wp_step (h N q) λy v ao s1 r w q1=>?_);rw[hw _ N.ok];refine aC (aO ?_)
 show aM c.M A (do assignAll v ((qw [t] env).map (λx=>x.2));pure Flow.next) _ _ _
 rw[he];exact aC (wA (ha (N.bu w) r q1) λe' ae s' w' f' q'=>aO ⟨_,_,_,.next,(w.dA _).trans w',f',q'⟩)
noncomputable def cw(m:EM):SM:=λe σ Q=>m e σ λz ao=>Q .next e ao
noncomputable def bh(m:EM):SM:=λe σ Q=>m e σ λv ao=>Q (.ret v) e ao
noncomputable def BS:SM:=λe σ Q=>Q (.ret .none) e σ
noncomputable def BR:SM:=λe σ Q=>Q .brk e σ
noncomputable def yD:SM:=λe σ Q=>Q .cont e σ
noncomputable def bC(t:TM)(a b:SM):SM:=λe σ Q=>t e σ λv ao=>if v=true then a e ao Q else b e ao Q
theorem QM(ok:jj c env ks):interactive env=false:=by
 unfold interactive;rw[ok.kind];rfl
theorem cF.expr{x:Expr}{pos:Pos}{m:EM}(h:aH c n ks x m)(hs:autoParam (∀env,mS x none pos.line env=pure false) aI):cF c n ks (.Expr x pos) (cw m):=λA wu e σ s Q N q=>
 wpAny_Expr_any (wp_step (h N q) λy v ao s1 r w q1=>⟨_,_,_,.next,w.dA _,(N.bu w).fr,q1⟩) (QM N.ok) (hs _)
theorem cF.ret{x:Expr}{pos:Pos}{m:EM}(h:aH c n ks x m):cF c n ks (.Return (some x) pos) (bh m):=λA env e σ s Q N q=>
 wpAny_Return_some (wp_step (h N q) λy v ao s1 r w q1=>⟨_,_,_,.ret r,w.dA _,(N.bu w).fr,q1⟩)
theorem cF.aaA{pos:Pos}:cF c n ks (.Return none pos) BS:=λA env e σ s Q N q=>
 wpAny_Return_none ⟨_,_,_,.ret .none,(bK.refl N.rel).dA _,N.fr,q⟩
theorem cF.brk{pos:Pos}:cF c n ks (.Break pos) BR:=λA env e σ s Q N q=>wpAny_Break ⟨_,_,_,.brk,(bK.refl N.rel).dA _,N.fr,q⟩
theorem cF.cont{pos:Pos}:cF c n ks (.Continue pos) yD:=λA env e σ s Q N q=>wpAny_Continue ⟨_,_,_,.cont,(bK.refl N.rel).dA _,N.fr,q⟩
theorem cF.ite{x:Expr}{a b:List Stmt}{pos:Pos}{t:TM}{ma mb:SM}(h:gI c n ks x t)(ha:eQ c n ks a ma)(hb:eQ c n ks b mb):cF c n ks (.If x a b pos) (bC t ma mb):=λA env e σ s Q N q=>by
 refine wpAny_If (yT (h _ rfl N q) λb ao s1 w q1=>?_)
 induction b with
 |true=>simp only[if_true]at q1 ⊢;exact HZ (w.dA _) (ha (N.bu w) q1)
 |false=>simp only[pe,if_false]at q1 ⊢;exact HZ (w.dA _) (hb (N.bu w) q1)
end
section
open PySem.SeqAt
noncomputable def iW{α:Type}(vs:List α)(i:Int):Option α:=if-(2^62)<=i/\i<2^62 then(if 0<=i then vs[i.toNat]? else if-(vs.length:Int)<=i then vs[(i+vs.length).toNat]? else none)else none
theorem Ci{α:Type}{vs:List α}{i:Int}{x:α}(h:iW vs i=some x):-(2^62)<=i/\i<2^62:=by
 unfold iW at h
 by_cases g:-(2^62)<=i/\i<2^62
 ·exact g
 ·exact bo ((if_neg g).symm.trans h)
theorem adq{α:Type}(vs:List α)(i:Nat)(h:i<1000):iW vs (i:Int)=vs[i]?:=by
 unfold iW;rw[if_pos (Zm (by assumption)),if_pos (fY _)];rfl
theorem QN{i:Int}{n:Nat}(e:(if i<0 then i+n else i)=j)(h:j<n):A5 i n=some j:=by
 unfold A5;simp only[e];rw[decide_eq_true (fY _),decide_eq_true (dN.2 h)];rfl
theorem QO{α:Type}{vs:List α}{i:Int}{x:α}(h:iW vs i=some x):∃j,A5 i vs.length=some j/\vs[j]?=some x:=by
 have g:=Ci h;unfold iW at h;rw[if_pos g]at h
 by_cases h0:0<=i
 ·rw[if_pos h0]at h
  exact⟨i.toNat,QN (by rw[if_neg (nZ.2 h0)];exact(YS h0).symm) (iL.1 h).1,h⟩
 ·rw[if_neg h0]at h
  by_cases h1:-(vs.length:Int)<=i
  ·rw[if_pos h1]at h
   exact⟨(i+vs.length).toNat,QN (by rw[if_pos (Int.not_le.1 h0)];exact(YS (Zn h1)).symm) (iL.1 h).1,h⟩
  ·exact bo ((if_neg h1).symm.trans h)
theorem ads(slice:Expr)(o i:ak):∃ops,subscripted slice false o i=operate ops (getItem o i):=by
 cases slice with
 |Slice l u st p=>cases st<;>exact⟨_,rfl⟩
 |_=>exact⟨_,rfl⟩
section
variable{c:Cx}{n:Nat}{ks:Ks}{A:bj}{env:Env}{e:aL}{σ:St}{s:aw}
theorem pU{o i:ak}{T id:String}{Q:ak->aw->Prop}(hT:s.TypeIs o T)
  (hl:tD (.type T) "__getitem__"=pure (some (.builtin id)))(hg:aM c.M A (getItem o i) Q No s):aM c.M A (Mh value slice o i) Q No s:=
 let⟨ops,e⟩:=ads slice o i
 tail_any (ops:=ops) hT hl hg e
inductive qJ(σ:St)(Q:CV->St->Prop):CV->CV->Prop
 |tup {vs:List CV} {i:Int} {v:CV} (h:iW vs i=some v) (q:Q v σ):qJ σ Q (.tup vs) (.int i)
 |kF {b:List UInt8} {i:Nat} {v:UInt8} (h1:b.length<=1099511627776) (h:b[i]?=some v) (q:Q (.int v.toNat) σ):qJ σ Q (.bytes b) (.int i)
 |str {b:Str} {i:Int} {v:Nat} (h:iW b.cps.toList i=some v) (q:Q (.str ⟨#[v]⟩) σ):qJ σ Q (.str b) (.int i)
 |li {a:Addr} {i:Int} {vs:List CV} {v:CV} (h1:σ a=some (.list vs)\/σ a=some (.ro vs)) (h:iW vs i=some v) (q:Q v σ):qJ σ Q (.loc a) (.int i)
 |dI {a:Addr} {i:Int} {es:List (Int×CV)} {v:CV} (h1:σ a=some (.dI es)) (h:bB es i=some v) (q:Q v σ):qJ σ Q (.loc a) (.int i)
 |dB {a:Addr} {i:List UInt8} {es:List (List UInt8×CV)} {v:CV} (h1:σ a=some (.dB es)) (h:bB es i=some v) (q:Q v σ):qJ σ Q (.loc a) (.bytes i)
 |dS {a:Addr} {i:Str} {es:List (Str×CV)} {v:CV} (h1:σ a=some (.dS es)) (h:bB es i=some v) (q:Q v σ):qJ σ Q (.loc a) (.str i)
noncomputable def vP(x y:CV):VM:=λσ Q=>qJ σ Q x y
theorem uc(R:Rel c σ s.heap){vs:List CV}(h:σ a=some (.list vs)\/σ a=some (.ro vs)):∃items n,s.heap.get? a=some (listOf items n)/\aN s.heap vs items.toList:=by
 rcases h with h |h
 ·obtain⟨_,r⟩:=R.objs _ _ h;exact r
 ·obtain⟨_,r⟩:=R.objs _ _ h;exact r
theorem cZ.val{κ:Type}[DecidableEq κ]{h:Heap}{es:List (κ×CV)}{kvs:List (κ×ak)}(r:cZ h es kvs){k:κ}(e:bB es k=some x):∃v,valueAt kvs k=some v/\aV h x v:=by
 rcases r.at k with⟨h1,_⟩ |⟨y,u,h1,h2,h3⟩
 ·exact bo (h1.symm.trans e)
 ·obtain rfl:=(bt (h1.symm.trans e)).symm;exact⟨u,h2,h3⟩
theorem adt{w:ak}(R:Rel c σ s.heap)(r:aV s.heap x v)(r':aV s.heap y w)(q:vP x y σ Q):
  aM c.M A (Mh value slice v w) (cC c σ s Q) No s:=by
 change qJ σ Q x y at q
 induction q with
 |tup hz q=>
  refine f9 r.jl λa items n aq eL rs=>?_;subst aq;refine xe r'.bZ λt aq=>?_;subst aq;have hZ:=Ci hz;refine a9 (QO hz) λj h1 h2=>?_;refine a9 (rs.get h2) λu h3 h4=>?_;have ht:IsTup s.heap a items:=⟨_,eL,rfl,n,rfl⟩
  exact pU ht.typeIs slot_tuple_getitem.lookup (PyProof.Rows.getItem_tuple ht (rO (by decide) hZ.1) (tm hZ.2 (by decide)) (rs.size▸h1) (by rw[<-vp];exact h3) (pS R h4 q))
 |kF h1 hz q=>
  refine xe r.fQ λt aq=>?_;subst aq;refine xe r'.bZ λu aq=>?_;subst aq;have hl:=(List.getElem?_eq_some_iff.mp hz).1;refine pU (f6 _ _ _) FB.slot_bytes_getitem.lookup (W.getItem_bytes h1 (fY _) (dN.2 hl) ?_);rw[pf,dG,hz]
  exact dq R (.int _ _) q
 |@str b i z hz q=>
  refine xe r.pR λt aq=>?_;subst aq;refine xe r'.bZ λu aq=>?_;subst aq;have hZ:=Ci hz;refine a9 (QO hz) λj h1 h2=>?_
  refine pU (typeIs_str _ _ _) slot_str_getitem.lookup (PyProof.Rows.getItem_str (by simp;exact Zo hZ) ?_ (dq R (.str _ _) q))
  rw[show A5 i b.length=some j from h1];exact(vp ..).symm.trans h2
 |@li a i vs z h0 hz q=>
  obtain rfl:=r.dj;refine xe r'.bZ λt aq=>?_;subst aq;refine gH (uc R h0) λitems n eL rs=>?_;have hZ:=Ci hz;have hl:=rs.size;have ht:=dJ eL;refine pU ht.typeIs slot_list_getitem.lookup ?_;unfold iW at hz;rw[if_pos hZ]at hz
  by_cases h0:0<=i
  ·rw[if_pos h0]at hz
   refine a9 (rs.get hz) λu h3 h4=>?_
   exact wpAny_getItem_list ht h0 (tm hZ.2 (by decide)) (by rw[<-vp];exact h3) (pS R h4 q)
  ·rw[if_neg h0]at hz
   split at hz
   ·refine a9 (rs.get hz) λu h3 h4=>?_
    exact wpAny_getItem_list_neg ht (Int.not_le.1 h0) (by rw[<-hl];assumption) (rO (by decide) hZ.1) (by rw[<-hl,<-vp];exact h3) (pS R h4 q)
   ·exact bo hz
 |dI h0 hz q=>
  obtain rfl:=r.dj;refine xe r'.bZ λt aq=>?_;subst aq;obtain⟨_,kvs,hd,hr⟩:=R.objs _ _ h0;refine a9 (hr.val hz) λu h2 h3=>?_
  exact pU hd.typeIs slot_dict_getitem.lookup (Zb (Fq _ _ _ _) hd.mapOf h2 (dq R h3 q))
 |dB h0 hz q=>
  obtain rfl:=r.dj;refine xe r'.fQ λt aq=>?_;subst aq;obtain⟨_,kvs,hd,hr⟩:=R.objs _ _ h0;refine a9 (hr.val hz) λu h2 h3=>?_
  exact pU hd.typeIs slot_dict_getitem.lookup (Zb (Fd _ _ _ _) hd.mapOf h2 (dq R h3 q))
 |dS h0 hz q=>
  obtain rfl:=r.dj;refine xe r'.pR λt aq=>?_;subst aq;obtain⟨_,kvs,hd,hr⟩:=R.objs _ _ h0;refine a9 (hr.val hz) λu h2 h3=>?_;exact pU hd.typeIs slot_dict_getitem.lookup (Zb (A4 _ _ _ _) hd.mapOf h2 (dq R h3 q))
noncomputable def bc(m1 m2:EM):EM:=λe σ Q=>m1 e σ λx ao=>m2 e ao λy ay=>vP x y ay Q
theorem aH.item{x y:Expr}{pos:Pos}{m1 m2:EM}(h1:aH c n ks x m1)(h2:aH c n ks y m2):aH c n ks (.Subscript x y pos) (bc m1 m2):=λA env e σ s Q N q=>
 Subscript_ (wp_step (h1 N q) λx v ao s1 r1 w1 q1=>wp_step (h2 (N.bu w1) q1) λy w ay s2 r2 w2 q2=>
  iE (w1.trans w2) (adt w2.rel (r1.bu w1.rel w2) r2 q2))
end
end
section
open PySem.SeqAt
theorem adu(k n:Nat)(hk:k<=n):YD none (some (k:Int)) 1 (n:Int)=(0,(k:Int)):=by
 unfold YD
 have h1:¬((1:Int)<0):=by exact by decide
 have h2:¬((k:Int)<0):=by exact nZ.2 (fY _)
 simp only[h1,h2,if_false]
 congr 1
 exact Int.min_eq_left (ko.2 hk)
theorem adv(k:Nat):Ld 0 (k:Int) 1=k:=by
 unfold Ld
 have h1:(1:Int)>0:=by exact fY _
 simp only[h1,if_true,Int.ediv_one]
 split
 ·exact Zp k
 ·exact Zq (by assumption)
theorem adw{A:bj}{s:aw}{k n:Nat}{Q:Int×Int×Nat->aw->Prop}(hs:s.heap.IsSliceOf sl .none (.int k u) .none)(hk:k<=n)(h:Q (0,1,k) s):
  aM (model prog w) A (ald (.ref sl) (pure (n:Int))) Q E s:=by
 obtain⟨os,sE,y4,qK⟩:=id hs;unfold ald Builtin.Slice.sliceFields;refine aC (aC (wpAny_field sE qK (x:=.none) rfl (aC (wpAny_field sE qK (x:=.int k u) rfl (aC (wpAny_field sE qK (x:=.none) rfl (aO ?_)))))));refine aC (slicePart_none ?_)
 show aM _ _ (if((1:Int)==0)=true then _ else _) _ _ s
 rw[if_neg (by decide)]
 refine aC (slicePart_none (aC (slicePart_int (aC (aO ?_)))))
 show aM _ _ (match YD none (some (k:Int)) 1 (n:Int)with |(lo,hi)=>pure (lo,(1:Int),Ld lo hi 1)) _ _ s
 rw[adu k n hk];show aM _ _ (pure ((0:Int),(1:Int),Ld 0 (k:Int) 1)) _ _ s;rw[adv k];exact aO h
theorem adx(xs:Array ak)(k:Nat):((cS k).filterMap λ(j:Nat)=>xs[((0:Int)+(j:Int)*1).toNat]?).toArray=(xs.toList.take k).toArray:=by
 have e:(λ(j:Nat)=>xs[((0:Int)+(j:Int)*1).toNat]?)=λj=>xs[0+j]?:=by
  funext j
  have:((0:Int)+(j:Int)*1).toNat=0+j:=by exact tC ..
  rw[this]
 rw[e];have:=pick_run xs 0 k;rw[YZ]at this;have e2:((λx=>xs[x]?)∘λx=>0+x)=λj=>xs[0+j]?:=rfl;rw[e2]at this;rw[this];simp
theorem ady{A:bj}{s:aw}{t:Addr}{k:Nat}{Q:ak->aw->Prop}(ht:IsTup s.heap t items)(hs:s.heap.IsSliceOf sl .none (.int k u) .none)(hk:k<items.size)
  (h:Q (.ref s.heap.objs.size) {s with heap:=s.heap.push {cls:=.type "tuple",data:=.seq (items.toList.take k).toArray}})
  (dK:items.size<=mT):aM (model prog w) A (getItem (.ref t) (.ref sl)) Q E s:=by
 have Cj:sizeOk (.seq (items.toList.take k).toArray):=by
  show(items.toList.take k).toArray.size<=mT;rw[xJ,L0,mI];exact aR (Nat.min_le_right ..) dK
 obtain⟨os,sE,y4,qK⟩:=id hs;have hTs:s.TypeIs (.ref sl) "slice":=⟨os,sE,y4⟩;unfold getItem
 try with_reducible refine jf ?_
 first |refine aC (aO ?_) |skip
 refine aC (wpAny_sequenceKey ht.typeIs (by decide) ?_)
 refine aC (Aw (name:=ax "__getitem__") ht.typeIs slot_tuple_getitem
  (rH slot_tuple_getitem ht.typeIs entry_tuple_getitem ?_ (args_tuple_getitem _ _)))
 show aM _ _ (Builtin.Tuple.tupleItemsOf (.ref t) >>= _) _ _ s;refine aC (tupleItemsOf_ ht ?_);refine aC (xQ hTs ?_)
 rw[if_pos (by decide)]
 refine aC (adw hs (iQ hk) ?_)
 have QJ:¬(((0:Int)==0&&(1:Int)==1&&k==items.size)=true):=by
  have:(k==items.size)=false:=by rw[beq_eq_false_iff_ne];exact iP hk
  rw[this];simp
 show aM _ _ (if((0:Int)==0&&(1:Int)==1&&k==items.size)=true then _ else _) _ _ s
 rw[if_neg QJ,adx items k]
 first
  |exact aC (m:=Lk _) (rF (aO ⟨_,rfl,aO h⟩) Cj)
  |exact aC (m:=Lk _) (rF (aC (aO (aO ⟨_,rfl,aO h⟩))) Cj)
  |exact aC (aC (m:=Lk _) (rF (aO (aO ⟨_,rfl,aO h⟩)) Cj))
  |exact aC (aC (m:=Lk _) (rF (aO ⟨_,rfl,aO h⟩) Cj))
theorem adz(items:Array ak)(m:Nat)(hm:m<=items.size):List.filterMap ((λx=>items[x]?)∘λ(i:Nat)=>((items.size:Int)- 1+-1*i).toNat) (cS m)=items.toList.reverse.take m:=by
 induction m with
 |zero=>rfl
 |succ m ih=>
  have hl:items.size- 1- m<items.size:=Zv hm;rw[List.range_succ,List.filterMap_append,ih (AG hm),Lx,List.getElem?_reverse hm,mI,vp,pb hl]
  have e2:items[((items.size:Int)- 1+-1*(m:Int)).toNat]?=some items[items.size- 1- m]:=by
   rw[show((items.size:Int)- 1+-1*(m:Int)).toNat=items.size- 1- m from Zw hm,pb hl]
  simp only[List.filterMap_cons,Mi,e2,List.filterMap_nil]
  rfl
theorem adA(items:Array ak):slicePick items none none (some (-1))=items.toList.reverse.toArray:=by
 show(List.filterMap (λ(i:Nat)=>items[i]?) ((cS (if((items.size:Int)- 1)>-1 then(((items.size:Int)- 1- -1- -1- 1)/ -(-1))else 0).toNat).map λ(i:Nat)=>((items.size:Int)- 1+-1*i).toNat)).toArray=_
 have hlen:(if((items.size:Int)- 1)>-1 then(((items.size:Int)- 1- -1- -1- 1)/ -(-1))else 0).toNat=items.size:=by
  rw[show(-(-1):Int)=1 from rfl,Int.ediv_one]
  split
  ·exact Zr _
  ·exact Zt (by assumption)
 rw[hlen,YZ,adz items _ (cP _),vn (by rw[EL];exact cP _)]
section
variable{c:Cx}{n:Nat}{ks:Ks}{A:bj}{env:Env}{e:aL}{σ:St}{s:aw}
inductive y5(σ:St)(Q:CV->St->Prop):CV->Int->Prop
 |tup {vs:List CV} {k:Nat} (h:k<vs.length) (hl:vs.length<=1000) (q:Q (.tup (vs.take k)) σ):y5 σ Q (.tup vs) k
 |li {a:Addr} {vs:List CV} {k:Nat} (h:σ a=some (.list vs)\/σ a=some (.ro vs)) (hl:vs.length<=1000) (q:σ.new (.list (vs.take k)) Q):y5 σ Q (.loc a) k
 |kF {b:List UInt8} {k:Nat} (hl:b.length<=16777216) (q:Q (.bytes (b.take k)) σ):y5 σ Q (.bytes b) k
noncomputable def yA(x:CV)(k:Int):VM:=λσ Q=>y5 σ Q x k
noncomputable def adB(x:CV)(j k:Nat):VM:=λσ Q=>∃a vs,x=.loc a/\σ a=some (.list vs)/\j<=k/\k<=vs.length/\vs.length<=1000/\σ.new (.list ((vs.drop j).take (k- j))) Q
noncomputable def QP(x:CV):VM:=λσ Q=>∃a vs,x=.loc a/\σ a=some (.list vs)/\vs.length<=1000/\σ.new (.list vs.reverse) Q
theorem H5{vs:List CV}{vl vu vk:ak}{lo hi st:Option Int}(R:Rel c σ s.heap)(h:σ a=some (.list vs)\/σ a=some (.ro vs))(hz:vs.length<=1000)
  (pl:IsPart vl lo)(pu:IsPart vu hi)(ps:IsPart vk st)(h0:st≠some 0)(hw:∀items:Array ak,aN s.heap vs items.toList->aN s.heap ws (slicePick items lo hi st).toList)(q:σ.new (.list ws) Q):
  aM c.M A (Mh value slice (.ref a) (.ref s.heap.objs.size)) (cC c σ s Q) No {s with heap:=s.heap.push {cls:=.type "slice",data:=.fields #[vl,vu,vk]}}:=by
 refine gH (uc R h) λitems n eL rs=>?_;have w1:=t6 (s:=s) (o:={cls:=.type "slice",data:=.fields #[vl,vu,vk]}) R;have hl:(s.heap.push {cls:=.type "slice",data:=.fields #[vl,vu,vk]}).IsList a items:=(dJ eL).push _
 have hs:items.size<=mT:=by
  have:vs.length=items.size:=by simpa using rs.length
  exact dQ (this▸hz)
 refine iE w1 (pU (Heap.IsList.typeIs (s:={s with heap:=s.heap.push {cls:=.type "slice",data:=.fields #[vl,vu,vk]}}) hl) slot_list_getitem.lookup
  (wpAny_getItem_list_slice (s:={s with heap:=s.heap.push {cls:=.type "slice",data:=.fields #[vl,vu,vk]}}) hl (Y0 ..) pl pu ps h0 ?_ hs))
 have:=HD (s:={s with heap:=s.heap.push {cls:=.type "slice",data:=.fields #[vl,vu,vk]}}) w1.rel ((hw items rs).bu R w1) q
 simpa using this
theorem adC{k:Int}(R:Rel c σ s.heap)(r:aV s.heap x v)(q:yA x k σ Q):
  aM c.M A (Mh value slice v (.ref s.heap.objs.size)) (cC c σ s Q) No {s with heap:=s.heap.push {cls:=.type "slice",data:=.fields #[.none,.int k u,.none]}}:=by
 have w1:=t6 (s:=s) (o:={cls:=.type "slice",data:=.fields #[.none,.int k u,.none]}) R;change y5 σ Q x k at q
 induction q with
 |@li a vs k h1 h3 q=>
  obtain rfl:=r.dj
  exact H5 R h1 h3 .none (.int _ _) .none (λz=>bo z) (λitems rs=>by rw[slicePick_upto'];exact rs.take k) q
 |@tup vs k h2 h3 q=>
  refine f9 r.jl λa items n aq eL rs=>?_;subst aq;have hl:=rs.size;have ht:IsTup (s.heap.push {cls:=.type "slice",data:=.fields #[.none,.int k u,.none]}) a items:=⟨_,dY _ eL,rfl,n,rfl⟩
  refine iE w1 (pU (IsTup.typeIs (s:={s with heap:=s.heap.push {cls:=.type "slice",data:=.fields #[.none,.int k u,.none]}}) ht) slot_tuple_getitem.lookup
   (ady (s:={s with heap:=s.heap.push {cls:=.type "slice",data:=.fields #[.none,.int k u,.none]}}) ht (Y0 ..) (hl▸h2) ?_ (hl▸dQ h3)))
  exact HE (s:={s with heap:=s.heap.push {cls:=.type "slice",data:=.fields #[.none,.int k u,.none]}}) w1.rel ((rs.take k).bu R w1) q
 |@kF b k h2 q=>
  refine xe r.fQ λt aq=>?_;subst aq
  refine iE w1 (pU (f6 _ _ _) FB.slot_bytes_getitem.lookup (getItem_meets (f6 _ _ _) (by decide) FB.slot_bytes_getitem FB.entry_bytes_getitem (FB.args_bytes_getitem_2 _ _) (KBc.meets_slice2 b.toArray t _ (lo:=none) (hi:=some (k:Int)) .none (.int _ _))
   ⟨Y0 _ _ _ _,aR (KBc.size_picked_le _ _ _) (by rw[A2];simpa using h2),λt' j=>?_⟩))
  have e:KBy.picked b.toArray none (some (k:Int))=(b.take k).toArray:=by
   rw[KBc.picked_eq];simp[clipAt_nat]
  rw[e]
  exact dq (s:={s with heap:=_}) w1.rel (.bytes _ _) q
noncomputable def jZ(m1 m2:EM):EM:=λe σ Q=>m1 e σ λx ao=>m2 e ao λy ay=>∃k,y=.int k/\yA x k ay Q
theorem aH.aab{x y:Expr}{pos p:Pos}{m1 m2:EM}(h1:aH c n ks x m1)(h2:aH c n ks y m2):aH c n ks (.Subscript x (.Slice none (some y) none p) pos) (jZ m1 m2):=λA env e σ s Q N q=>
 Subscript_ (wp_step (h1 N q) λx v ao s1 r1 w1 q1=>wpAny_Slice (aO (wp_step (h2 (N.bu w1) q1) λy w ay s2 r2 w2 q2=>aO (by
  obtain⟨k,rfl,q2⟩:=q2;refine xe r2.bZ λt aq=>?_;subst aq
  exact b0 (adC w2.rel (r1.bu w1.rel w2) q2) (cC.after (w1.trans w2)) λo o z=>z))))
noncomputable def Hi(m1 m2 m3:EM):EM:=λe σ Q=>m1 e σ λx ao=>m2 e ao λy ay=>m3 e ay λz aQ=>∃j k:Nat,y=.int j/\z=.int k/\adB x j k aQ Q
theorem aH.fromTo{x y z:Expr}{pos p:Pos}{m1 m2 m3:EM}(h1:aH c n ks x m1)(h2:aH c n ks y m2)(h3:aH c n ks z m3):aH c n ks (.Subscript x (.Slice (some y) (some z) none p) pos) (Hi m1 m2 m3):=λA env e σ s Q N q=>
 Subscript_ (wp_step (h1 N q) λx v ao s1 r1 w1 q1=>wpAny_Slice (wp_step (h2 (N.bu w1) q1) λy w ay s2 r2 w2 q2=>wp_step (h3 ((N.bu w1).bu w2) q2) λz w3 aQ s3 r3 w3 q3=>aO (by
  obtain⟨j,k,rfl,rfl,a,vs,rfl,g1,g3,g4,g5,q3⟩:=q3;refine xe r2.bZ λt aq=>?_;subst aq;refine xe r3.bZ λu aq=>?_;subst aq;obtain rfl:=r1.dj;refine b0 (H5 w3.rel (.inl g1) g5 (.int _ _) (.int _ _) .none (λz=>bo z) (λitems rs=>?_) q3) (cC.after ((w1.trans w2).trans w3)) λo o z=>z;rw[slicePick_run _ _ _ (rs.size▸g4) g3]
  exact(rs.drop j).take (k- j))))
noncomputable def yC(m1:EM):EM:=λe σ Q=>m1 e σ λx ao=>QP x ao Q
theorem aH.rev{x y:Expr}{pos p:Pos}{m1:EM}(h1:aH c n ks x m1)(h2:aH c n ks y (au (.int (-1)))):aH c n ks (.Subscript x (.Slice none none (some y) p) pos) (yC m1):=λA env e H6 s Q1 N q=>
 Subscript_ (wp_step (h1 N q) λx v ao s1 r1 w1 q1=>wpAny_Slice (aO (aO (wp_step (h2 (N.bu w1) (Q:=λv σ=>v=.int (-1)/\QP x σ _) ⟨rfl,q1⟩) λy w ay s2 r2 w2 q2=>by
  obtain⟨rfl,a,vs,rfl,g1,g5,q3⟩:=q2;refine xe r2.bZ λt aq=>?_;subst aq;obtain rfl:=r1.dj;refine b0 (H5 w2.rel (.inl g1) g5 .none .none (.int _ _) (λz=>nomatch z) (λitems rs=>?_) q3) (cC.after (w1.trans w2)) λo o z=>z;rw[adA]
  exact rs.reverse))))
end
end
section
open PySem.SeqAt
noncomputable def bY{κ:Type}[DecidableEq κ](es:List (κ×CV))(k:κ)(x:CV):List (κ×CV):=
 if es.any (λkv=>kv.1=k)then es.map (λkv=>if kv.1=k then(kv.1,x)else kv)else es++[(k,x)]
section
variable{κ:Type}[DecidableEq κ]{h:Heap}{es:List (κ×CV)}{kvs:List (κ×ak)}{k:κ}{x:CV}{v:ak}
theorem cZ.any(r:cZ h es kvs)(k:κ):es.any (λkv=>kv.1=k)=kvs.any (λkv=>kv.1=k):=by
 induction r with
 |nil=>rfl
 |cons e _ ih=>rw[xO,xO,ih]
theorem cZ.put(r:cZ h es kvs)(e:aV h x v):cZ h (es.map λkv=>if kv.1=k then(kv.1,x)else kv) (kvs.map λkv=>if kv.1=k then(kv.1,v)else kv):=by
 induction r with
 |nil=>exact .nil
 |@cons k2 y2 u2 xs2 vs2 e2 r2 ih=>
  rw[gC,gC]
  by_cases g:k2=k
  ·rw[if_pos g,if_pos g];exact .cons e ih
  ·rw[if_neg g,if_neg g];exact .cons e2 ih
theorem cZ.snoc(r:cZ h es kvs)(e:aV h x v):cZ h (es++[(k,x)]) (kvs++[(k,v)]):=by
 induction r with
 |nil=>exact .cons e .nil
 |cons e2 r2 ih=>exact .cons e2 ih
theorem cZ.bY(r:cZ h es kvs)(k:κ)(e:aV h x v):cZ h (bY es k x) (stored kvs k v):=by
 unfold Internal.bY stored;rw[r.any k]
 by_cases g:(kvs.any λkv=>decide (kv.1=k))=true
 ·rw[if_pos g,if_pos g];exact r.put e
 ·rw[if_neg g,if_neg g];exact r.snoc e
end
section
variable{M:fA}{A:bj}{E:ak->aw->Prop}{s:aw}{env:Env}
theorem adE{o i pos v}{Q:Unit->aw->Prop}
  (h:aM M A (eval o env) (λov bg=>aM M A (eval i env) (λiv fu=>aM M A (setItem ov iv v) Q E fu) E bg) E s):
  aM M A (assign (.Subscript o i pos) env v) Q E s:=by
 rw[assign_Subscript];refine aC (jf (b0 h (λov bg dP=>?_) λz z z=>z));refine aC (jf (b0 dP (λiv fu gR=>?_) λz z z=>z));exact aC (k0 (aC (jf (b0 gR (λz Ck y6=>wpAny_release y6) λz z z=>z))))
theorem adF{o attr pos v}{Q:Unit->aw->Prop}
  (h:aM M A (eval o env) (λov bg=>aM M A (setAttr ov attr v) Q E bg) E s):
  aM M A (assign (.Attribute o attr pos) env v) Q E s:=by
 rw[PySem.assign_Attribute];refine aC (jf (b0 h (λov bg dP=>?_) λz z z=>z));exact aC (k0 (aC (jf (b0 dP (λz Ck y6=>wpAny_release y6) λz z z=>z))))
end
section
variable{c:Cx}{n:Nat}{ks:Ks}{A:bj}{env:Env}{e:aL}{σ:St}{s:aw}
noncomputable def QV(c:Cx)(σ:St)(s:aw)(Q:St->Prop):Unit->aw->Prop:=λz s'=>∃ae,bK c σ s ae s'/\Q ae
inductive wC(σ:St)(Q:St->Prop)(v:CV):CV->CV->Prop
 |li {a:Addr} {vs:List CV} {i:Nat} (h:σ a=some (.list vs)) (hi:i<vs.length) (hl:vs.length<=1000) (q:Q (upd σ a (.list (vs.set i v)))):wC σ Q v (.loc a) (.int i)
 |dI {a:Addr} {es:List (Int×CV)} {i:Int} (h:σ a=some (.dI es)) (hl:es.length<=1000) (q:Q (upd σ a (.dI (bY es i v)))):wC σ Q v (.loc a) (.int i)
 |dB {a:Addr} {es:List (List UInt8×CV)} {i:List UInt8} (h:σ a=some (.dB es)) (hl:es.length<=1000) (q:Q (upd σ a (.dB (bY es i v)))):wC σ Q v (.loc a) (.bytes i)
 |dS {a:Addr} {es:List (Str×CV)} {i:Str} (h:σ a=some (.dS es)) (hl:es.length<=1000) (q:Q (upd σ a (.dS (bY es i v)))):wC σ Q v (.loc a) (.str i)
noncomputable def ly(x y v:CV)(σ:St)(Q:St->Prop):Prop:=wC σ Q v x y
theorem y7{x y:CO}{t:Nat}{Q:St->Prop}(R:Rel c σ s.heap)(e:σ a=some x)(hi:x.fc=false)(hs:ju a s.heap h')(q:gr s.heap h'->eK c h' a y)(hq:Q (upd σ a y)):
  QV c σ s Q () {s with heap:=h',toks:=t}:=
 have R':=R.set e hi hs q
 ⟨_,⟨R',Ext.set e hi hs (let⟨o,ho,_⟩:=eK.there (R'.objs a y (eJ _ _ _));⟨o,ho⟩),rfl,rfl⟩,hq⟩
theorem adG{E:ak->aw->Prop}{m:Nat}{k:Int}{t:Tok}{v:ak}{Q:Unit->aw->Prop}(hl:s.heap.get? l=some (listOf items m))
  (h0:0<=k)(y8:k<2^63)(hn:k<items.size)
  (hQ:∀h',(∃m',h'.get? l=some (listOf (items.setIfInBounds k.toNat v) m'))->ju l s.heap h'->Q () {s with heap:=h'}):
  aM (model prog w) A (setItem (.ref l) (.int k t) v) Q E s:=by
 have qL:s.heap.IsList l items:=dJ hl;obtain⟨o,ho,hc,ne,hd⟩:=id qL;have eo:o=listOf items m:=bt (ho.symm.trans hl);unfold setItem
 try with_reducible refine jf ?_
 first |refine aC (aO ?_) |skip
 refine aC (wpAny_sequenceKey qL.typeIs (by decide) ?_)
 refine aC (Aw (name:=ax "__setitem__") qL.typeIs slot_list_setitem
  (rH slot_list_setitem qL.typeIs entry_list_setitem ?_ (args_list_setitem _ _ _)))
 show aM _ _ (Builtin.List.listSubscript? (.int k t) >>= _) _ _ s;refine aC (wpAny_listSubscript_int (fitsIndex_of h0 y8) ?_);clear y8;obtain⟨j,rfl⟩:=Int.eq_ofNat_of_zero_le h0
 have hj:j<items.size:=by exact dN.1 hn
 have Cn:items[j]?=some items[j]:=pb hj;show aM _ _ ((seqItemAt l j >>= λr=>pure (r.map (j,·))) >>= _) _ _ s;refine aC (aC (wpAny_seqItemAt ho hd (aO ?_)));rw[Cn];show aM _ _ (setSeqItemAt l j v >>= _) _ _ s;refine xe (Obj.data_mapSeq hd (·.setIfInBounds j v)) λn' fR=>?_
 have QW:∃m',(s.heap.update l (jv (·.setIfInBounds j v))).get? l=some (listOf (items.setIfInBounds j v) m'):=by
  refine⟨n',(rD _ ho (Obj.isFreed_of_seq fR)).trans ?_⟩;subst eo;have:(jv (·.setIfInBounds j v) (listOf items m)).data=.seq (items.setIfInBounds j v) n':=fR
  congr 1
  simp only[jv]at this ⊢
  first |rfl |(cases this;rfl) |simp_all
 refine aC (wpAny_setSeqItemAt ho hd ?_)
 first
  |exact aC (aO (aO ⟨.none,rfl,aO (hQ _ QW (mJ ..))⟩))
  |exact aO ⟨.none,rfl,aO (hQ _ QW (mJ ..))⟩
theorem adH{x z:CV}{v w u:ak}{Q:St->Prop}(R:Rel c σ s.heap)(r:aV s.heap x v)(r':aV s.heap y w)(Co:aV s.heap z u)(q:ly x y z σ Q):
  aM c.M A (setItem v w u) (QV c σ s Q) No s:=by
 change wC σ Q z x y at q
 induction q with
 |@li a vs i h1 h3 h4 q=>
  obtain rfl:=r.dj;refine xe r'.bZ λt aq=>?_;subst aq;obtain⟨z0,items,m,eL,rs⟩:=R.objs _ _ h1;have hl:=rs.size
  exact adG eL (fY _) (dN.2 (jT h3 h4 rfl)) (dN.2 (ey h3 (el hl))) λh' ⟨_,g⟩ hs=>y7 (y:=.list (vs.set i _)) R h1 rfl hs (λtu=>⟨z0,_,_,g,by rw[Array.toList_setIfInBounds];exact(rs.bQ tu).set i (Co.bQ tu)⟩) q
 |@dI a es i h1 h2 q=>
  obtain rfl:=r.dj;refine xe r'.bZ λt aq=>?_;subst aq;obtain⟨z0,kvs,hd,hr⟩:=R.objs _ _ h1
  exact YT (k:=i) (Fq _ _ _ _) hd (λh' g hs=>y7 (y:=.dI (bY es i _)) R h1 rfl hs (λtu=>⟨z0,_,g,(hr.bQ tu).bY i (Co.bQ tu)⟩) q) (hr.length▸dQ h2)
 |@dB a es i h1 h2 q=>
  obtain rfl:=r.dj;refine xe r'.fQ λt aq=>?_;subst aq;obtain⟨z0,kvs,hd,hr⟩:=R.objs _ _ h1
  exact YT (k:=i) (Fd _ _ _ _) hd (λh' g hs=>y7 (y:=.dB (bY es i _)) R h1 rfl hs (λtu=>⟨z0,_,g,(hr.bQ tu).bY i (Co.bQ tu)⟩) q) (hr.length▸dQ h2)
 |@dS a es i h1 h2 q=>
  obtain rfl:=r.dj;refine xe r'.pR λt aq=>?_;subst aq;obtain⟨z0,kvs,hd,hr⟩:=R.objs _ _ h1;exact YT (k:=i) (A4 _ _ _ _) hd (λh' g hs=>y7 (y:=.dS (bY es i _)) R h1 rfl hs (λtu=>⟨z0,_,g,(hr.bQ tu).bY i (Co.bQ tu)⟩) q) (hr.length▸dQ h2)
noncomputable def dg(m1 m2:EM):AM:=λv e σ Q=>m1 e σ λx ao=>m2 e ao λy ay=>ly x y v ay λaQ=>Q e aQ
theorem eG.item{X:Env->Addr->Prop}{x y:Expr}{pos:Pos}{m1 m2:EM}(h1:aH c n ks x m1)(h2:aH c n ks y m2):eG c n ks X (.Subscript x y pos) (dg m1 m2):=λA env e σ s x1 v1 Q N r q=>
 adE (wp_step (h1 N q) λx v ao s1 r1 w1 q1=>wp_step (h2 (N.bu w1) q1) λy w ay s2 r2 w2 q2=>
  b0 (adH w2.rel (r1.bu w1.rel w2) r2 ((r.bu N.rel w1).bu w1.rel w2) q2) (λ_ s3 ⟨aQ,w3,q3⟩=>
   have w:=(w1.trans w2).trans w3
   ⟨_,aQ,w.dA _,(N.bu w).fr,q3⟩) λo o z=>z)
noncomputable def dx(i:Nat)(m1:EM):AM:=λv e σ Q=>m1 e σ λx ao=>yz i x v ao λaQ=>Q e aQ
theorem eG.attr{X:Env->Addr->Prop}{x:Expr}{name:bx}{pos:Pos}{m1:EM}(i:Nat)(hx:nm i=name)(h1:aH c n ks x m1):eG c n ks X (.Attribute x name pos) (dx i m1):=λA env e σ s x1 v1 Q N r q=>by
 subst hx
 exact adF (wp_step (h1 N q) λx v ao s1 r1 w1 q1=>
  b0 (QI w1.rel r1 (r.bu N.rel w1) q1) (λ_ s3 ⟨aQ,w3,q3⟩=>
   have w:=w1.trans w3
   ⟨_,aQ,w.dA _,(N.bu w).fr,q3⟩) λo o z=>z)
noncomputable def vW:List AM->List CV->aL->St->(aL->St->Prop)->Prop
 |m::ms,v::vs,e,σ,Q=>m v e σ λe' ae=>vW ms vs e' ae Q
 |_,_,e,σ,Q=>Q e σ
noncomputable def eB(ms:List AM):AM:=λv e σ Q=>∃vs,v=.tup vs/\vs.length=ms.length/\vW ms vs e σ Q
inductive oj(c:Cx)(n:Nat)(ks:Ks)(X:Env->Addr->Prop):List Expr->List AM->Prop
 |nil:oj c n ks X [] []
 |cons {t:Expr} {m:AM} {ts:List Expr} {ms:List AM} (h:eG c n ks X t m) (hs:oj c n ks X ts ms) (he:∀env,qw (t::ts) env=(false,AY t env)::qw ts env):oj c n ks X (t::ts) (m::ms)
theorem oj.length{X:Env->Addr->Prop}{ms:List AM}(h:oj c n ks X ts ms)(env:Env):(qw ts env).length=ms.length:=by
 induction h with
 |nil=>rfl
 |cons _ _ he ih=>rw[he];simp[ih]
theorem oj.noStar{X:Env->Addr->Prop}{ms:List AM}(h:oj c n ks X ts ms)(env:Env):(qw ts env).findIdx? (λx=>x.1)=none:=by
 induction h with
 |nil=>rfl
 |cons _ _ he ih=>rw[he];simp[List.findIdx?_cons,ih]
theorem oj.run{X:Env->Addr->Prop}(hX:∀env b,X env b->eU env ks b){ms:List AM}(h:oj c n ks X ts ms):∀{A:bj} {env:Env} {e:aL} {σ:St} {s:aw} {xs:List CV} {vs:List ak} {Q:aL->St->Prop},
  cO c n A env ks e σ s->aN s.heap xs vs->vW ms xs e σ Q->aM c.M A (assignInOrder ((qw ts env).map (λx=>x.2)) vs) (kM c (X env) env ks σ s Q) No s:=by
 induction h with
 |nil=>intro A env e σ s xs vs Q N r q;exact assignInOrder_nil ⟨_,_,(bK.refl N.rel).dA _,N.fr,by cases xs<;>exact q⟩
 |@cons t m ts ms h hs he ih=>
  intro A env e σ s xs vs Q N r q;rw[he]
  cases xs with
  |nil=>obtain rfl:=r.jX;exact aO ⟨_,_,(bK.refl N.rel).dA _,N.fr,q⟩
  |cons x xs=>
   refine jg r.iT λv vs aq r1 rs=>?_;subst aq;refine assignInOrder_cons (wA (h N r1 q) λe' ae s' w f q'=>?_);exact HY w (ih (N.moved f w.rel) (rs.bQ (bK.yZ N (w.mono (hX env)))) q')
theorem QX(R:Rel c σ s.heap)(he:A1 s.heap.objs.size s.heap h'):bK c σ s σ {s with heap:=h'}:=
 have k:∀b o,s.heap.get? b=some o->h'.get? b=some o:=λb o e=>he b o (λq=>by rw[q,kK]at e;exact bo e) e
 ⟨R.kept k,.kept k,rfl,rfl⟩
theorem eG.Z1{X:Env->Addr->Prop}(hX:∀env b,X env b->eU env ks b){k:Nat}{pos:Pos}{ms:List AM}(h:oj c n ks X ts ms):eG c n ks X (.Tuple ts k pos) (eB ms):=λA env e σ s x v Q N r q=>by
 obtain⟨vs,rfl,hl,q⟩:=q;refine f9 r.jl λa items m aq eL rs=>?_;subst aq
 refine assign_Tuple_tuple N.room.h ⟨_,eL,rfl,m,rfl⟩ (by rw[h.length env,<-hl,rs.size]) (h.noStar env) λh' he=>?_
 have w:=QX N.rel he;exact HY (w.dA _) (h.run hX (N.bu w) (rs.bu N.rel w) q)
noncomputable def eW:List Nat->List CV->aL->aL
 |[],_,e=>e
 |i::is,vs,e=>match vs with
  |[]=>e
  |v::vs=>eW is vs (bA e i v)
noncomputable def gP(is:List Nat)(m:EM):SM:=λe σ Q=>m e σ λv ao=>∃vs,v=.tup vs/\vs.length=is.length/\Q .next (eW is.reverse vs.reverse e) ao
theorem adI(is:List Nat)(hk:∀i∈is,fO (ks.lookup i)=true):∀{A:bj} {env:Env} {e:aL} {σ:St} {s:aw} {xs:List CV} {vs:List ak} {Q:aL->St->Prop},
  cO c n A env ks e σ s->aN s.heap xs vs->Q (eW is xs e) σ->aM c.M A (assignInOrder ((is.map nm).map λx=>bindName env x) vs) (kM c (eU env ks) env ks σ s Q) No s:=by
 induction is with
 |nil=>intro A env e σ s xs vs Q N r q;exact assignInOrder_nil ⟨_,_,(bK.refl N.rel).dA _,N.fr,by cases xs<;>exact q⟩
 |cons i is ih=>
  intro A env e σ s xs vs Q N r q
  cases xs with
  |nil=>obtain rfl:=r.jX;exact aO ⟨_,_,(bK.refl N.rel).dA _,N.fr,q⟩
  |cons x xs=>
   refine jg r.iT λv vs aq r1 rs=>?_;subst aq;refine assignInOrder_cons (wA (bindName_ (Cf H3 rfl (oF (hk i (.head _))) N r1 (Q:=λe' ae=>Q (eW is _ e') ae) q)) λe' ae s' w f q'=>?_);exact HY w (ih (λj hj=>hk j (.tail _ hj)) (N.moved f w.rel) (rs.bQ (bK.yZ N w)) q')
theorem cF.swap{ts:List Expr}{k:Nat}{H7 pos:Pos}{x:Expr}{m:EM}(is:List Nat)(h:aH c n ks x m)(hk:∀i∈is,fO (ks.lookup i)=true)
  (hs:∀env,jj c env ks->swapsWithSole [.Tuple ts k H7] x pos.line env=pure false)(hw:∀env,jj c env ks->qt [.Tuple ts k H7] x env=pure (some (is.map nm))):cF c n ks (.Assign [.Tuple ts k H7] x pos) (gP is m):=λA env e σ s Q N q=>by
 refine Assign_Tuple_swapped (names:=is.map nm) (wp_step (h N q) λy v ao s1 r w q1=>?_) (hs _ N.ok) (hw _ N.ok)
 obtain⟨vs,rfl,hl,q1⟩:=q1
 ·refine f9 r.jl λa items m' aq eL rs=>?_;subst aq
  have:=unpackItems_tuple (prog:=c.prog) (w:=c.w) (A:=A) (E:=No) (s:=s1) (t:=a) (items:=items) (Q:=λitems bg=>aM c.M A (assignInOrder ((is.map nm).reverse.map λx=>bindName env x) items.reverse) (λz=>hU c env ks σ s Q Flow.next) No bg) N.room.h ⟨_,eL,rfl,m',rfl⟩ (λh' he=>?_)
  ·rw[show(is.map nm).length=items.size by rw[aZ,<-hl,rs.size]];exact this
  ·have w2:=QX w.rel he
   have N2:=(N.bu w).bu w2;rw[<-vr];refine wA (adI is.reverse (λi hi=>hk i (List.mem_reverse.mp hi)) N2 ((rs.bu w.rel w2).reverse) (Q:=λe' ae=>Q .next e' ae) q1) λe' ae s' w' f q'=>?_;exact⟨_,_,_,.next,((w.trans w2).dA _).trans w',f,q'⟩
inductive vZ:jw->CV->CV->CV->Prop
 |add {a b:Int}:vZ .Add (.int a) (.int b) (.int (a+b))
 |sub {a b:Int}:vZ .Sub (.int a) (.int b) (.int (a- b))
theorem QY{x z:CV}{v w:ak}(R:Rel c σ s.heap)(r:aV s.heap x v)(r':aV s.heap y w)(q:vZ op x y z)(hq:Q z σ):
  aM c.M A (inplaceOp op v w) (cC c σ s Q) No s:=by
 induction q with
 |add=>refine xe r.bZ λt aq=>?_;subst aq;refine xe r'.bZ λu aq=>?_;subst aq;exact wpAny_iadd_int (dq R (.int _ _) hq)
 |sub=>refine xe r.bZ λt aq=>?_;subst aq;refine xe r'.bZ λu aq=>?_;subst aq;exact P.isub_int (dq R (.int _ _) hq)
noncomputable def v5(i:Nat)(op:jw)(m:EM):SM:=λe σ Q=>∃old,e i=some old/\m e σ λv ao=>∃r,vZ op old v r/\Q .next (bA e i r) ao
theorem cF.aay{x:bx}{p pos:Pos}{op:jw}{y:Expr}{m:EM}(i:Nat)(hx:nm i=x)(hk:fO (ks.lookup i)=true)(hd2:i≠tO)(h:aH c n ks y m):cF c n ks (.AugAssign (.Name x p) op y pos) (v5 i op m):=λA env e σ s Q1 N q=>by
 obtain⟨old,ho,q⟩:=q
 have hv:isVar (ks.lookup i)=true:=by rcases oF hk with h |h<;>rw[h]<;>rfl
 refine wpAny_AugAssign_Name (wp_step (Qc (Q:=λy ae=>y=old/\ae=_) hx hv hd2 N (BH ho ⟨rfl,rfl⟩)) λy0 v0 bL s0 r0 w0 q0=>?_);obtain⟨rfl,rfl⟩:=q0;refine wp_step (h (N.bu w0) q) λy1 v1 ao s1 r1 w1 q1=>?_;refine a9 q1 λr hr q1=>?_;refine wp_step (QY (Q:=λz ae=>z=r/\ae=ao) w1.rel (r0.bu w0.rel w1) r1 hr ⟨rfl,rfl⟩) λy2 v2 ay s2 r2 w2 q2=>?_;obtain⟨rfl,rfl⟩:=q2;have w:=(w0.trans w1).trans w2;exact wA (Cf H3 hx (oF hk) (N.bu w) r2 (Q:=λe' ae=>_) q1) λe' ae s' w' f q'=>⟨_,_,_,.next,(w.dA _).trans w',f,q'⟩
noncomputable def H8(i:Nat)(op:jw)(mo m:EM):SM:=λe σ Q=>mo e σ λo bL=>vQ i o bL λold ao=>m e ao λv ay=>∃r,vZ op old v r/\yz i o r ay λaQ=>Q .next e aQ
theorem cF.aaz{x:Expr}{name:bx}{p pos:Pos}{op:jw}{y:Expr}{mo m:EM}(i:Nat)(hx:nm i=name)(ho:aH c n ks x mo)(h:aH c n ks y m):cF c n ks (.AugAssign (.Attribute x name p) op y pos) (H8 i op mo m):=λA env e σ s Q1 N q=>by
 subst hx;refine wpAny_AugAssign_AttributeAny (wp_step (ho N q) λy0 v0 bL s0 r0 w0 q0=>wp_step (QH w0.rel r0 q0) λy1 v1 ao s1 r1 w1 q1=>wp_step (h ((N.bu w0).bu w1) q1) λy2 v2 ay s2 r2 w2 q2=>?_);refine a9 q2 λr hr q2=>?_;refine wp_step (QY (Q:=λz ae=>z=r/\ae=ay) w2.rel (r1.bu w1.rel w2) r2 hr ⟨rfl,rfl⟩) λy3 v3 aQ s3 r3 w3 q3=>?_;obtain⟨rfl,rfl⟩:=q3;have iI:=(w1.trans w2).trans w3;refine b0 (QI w3.rel (r0.bu w0.rel iI) r3 q2) (λ_ s4 ⟨bU,w4,q4⟩=>?_) λo o z=>z;have w:=(w0.trans iI).trans w4;exact⟨_,_,_,.next,w.dA _,(N.bu w).fr,q4⟩
end
end
section
open PySem.SeqAt
noncomputable def jE(t:TM)(b:SM):SM:=λe σ Q=>∃(I:Nat->aL->St->Prop) (n:Nat),I n e σ/\∀k e σ,I k e σ->t e σ λv ao=>
 if v=true then b e ao λfl e' ae=>match fl with |.next |.cont=>∃m,m<k/\I m e' ae |.brk=>Q .next e' ae |.ret x=>Q (.ret x) e' ae else Q .next e ao
noncomputable def gc(ok:St->Prop)(a:AM)(b:SM)(Q:dy->aL->St->Prop):List CV->aL->St->Prop
 |[],e,σ=>ok σ/\Q .next e σ
 |v::vs,e,σ=>ok σ/\a v e σ λe1 ao=>b e1 ao λfl e2 ay=>match fl with
  |.next |.cont=>gc ok a b Q vs e2 ay
  |.brk=>Q .next e2 ay
  |.ret x=>Q (.ret x) e2 ay
noncomputable abbrev IM:=aL->St->(List CV->(St->Prop)->St->Prop)->Prop
noncomputable def cY(it:IM)(a:AM)(b:SM):SM:=λe σ Q=>it e σ λitems ok ao=>gc ok a b Q items e ao
structure gT(c:Cx)(t:Expr)(I:Addr)(fp:List Addr)(items:List CV)(ok:St->Prop)(S:Nat->Heap->Prop):Prop where
 next:∀{A:bj} {s:aw} {σ:St} {k:Nat} {x:CV},A.handled=none->Rel c σ s.heap->ok σ->items[k]?=some x->S k s.heap->∀{Q:Option ak->aw->Prop} {E:ak->aw->Prop},
  (∀v h1 tk,(∀{Q2:Unit->aw->Prop} {E2:ak->aw->Prop},(∀h',aV h' x v->S (k+1) h'->(∀b o,b∉fp->s.heap.get? b=some o->h'.get? b=some o)->Q2 () {s with heap:=h',toks:=tk})->
   aM c.M A (L5 t (.ref I) v) Q2 E2 {s with heap:=h1,toks:=tk})->Q (some v) {s with heap:=h1,toks:=tk})->aM c.M A (mV (.ref I)) Q E s
 done:∀{A:bj} {s:aw} {σ:St},A.handled=none->Rel c σ s.heap->ok σ->S items.length s.heap->∀{Q:Option ak->aw->Prop} {E:ak->aw->Prop},
  (∀h' tk,(∀b o,b∉fp->s.heap.get? b=some o->h'.get? b=some o)->Q none {s with heap:=h',toks:=tk})->aM c.M A (mV (.ref I)) Q E s
 self:∀{A:bj} {s:aw} {k:Nat},S k s.heap->∀{Q:ak->aw->Prop} {E:ak->aw->Prop},Q (.ref I) s->aM c.M A (pyIter (.ref I)) Q E s
 move:∀{k:Nat} {h h':Heap},S k h->(∀b∈fp,∀o,h.get? b=some o->h'.get? b=some o)->gr h h'->S k h'
 here:∀{k:Nat} {h:Heap},S k h->∀b∈fp,∃o,h.get? b=some o/\∀items n,o≠d7 items n
noncomputable def H9(c:Cx)(t:Expr)(σ:St)(s:aw)(Q:List CV->(St->Prop)->St->Prop):ak->aw->Prop:=λit bg=>∃I fp items ok S ae,it=.ref I/\gT c t I fp items ok S/\S 0 bg.heap/\(∀b∈fp,s.heap.get? b=none/\ae b=none)/\bK c σ s ae bg/\Q items ok ae
theorem H9.in{c:Cx}{t:Expr}{σ:St}{s:aw}{Q:List CV->(St->Prop)->St->Prop}{items:List CV}{ok:St->Prop}(W:gT c t I fp items ok S)(h:S 0 bg.heap)(hf:∀b∈fp,s.heap.get? b=none/\ae b=none)(w:bK c σ s ae bg)(q:Q items ok ae):H9 c t σ s Q (.ref I) bg:=
 ⟨I,fp,items,ok,S,ae,rfl,W,h,hf,w,q⟩
noncomputable def jU(c:Cx)(n:Nat)(ks:Ks)(t x:Expr)(m:IM):Prop:=
 ∀⦃A:bj⦄ ⦃env:Env⦄ ⦃e:aL⦄ ⦃σ:St⦄ ⦃s:aw⦄ ⦃Q:List CV->(St->Prop)->St->Prop⦄,cO c n A env ks e σ s->m e σ Q->
  aM c.M A (eval x env) (λxv bq=>aM c.M A (pyIter xv) (H9 c t σ s Q) No bq) No s
section
variable{c:Cx}{n:Nat}{ks:Ks}{A:bj}{env:Env}{e:aL}{σ:St}{s:aw}
theorem cF.while{x:Expr}{b:List Stmt}{pos:Pos}{t:TM}{mb:SM}(h:gI c n ks x t)(hb:eQ c n ks b mb):cF c n ks (.While x b [] pos) (jE t mb):=λA env e σ s Q N q=>by
 obtain⟨I,k,h0,step⟩:=q;obtain⟨Inv,jF⟩:∃Inv:Nat->aw->Prop,∀k s',Inv k s'↔∃e' ae,c8 c (eU env ks) σ s ae s'/\eY c env ks e' ae s'.heap/\I k e' ae:=⟨_,λo o=>Iff.rfl⟩;refine wpAny_While (codeAny_whileLoop Inv (λk s' hI=>cps λG g=>?_) k ((jF _ _).2 ⟨e,σ,(bK.refl N.rel).dA _,N.fr,h0⟩));refine jg ((jF _ _).1 hI) λe' ae w f hI=>?_;refine g (b0 (Q:=mf c ae s' _) (E:=No) (h _ rfl (N.moved f w.rel) (step k e' ae hI)) (λv s2 q2=>cps λG2 g2=>?_) λo o z=>z.elim);clear g;obtain⟨ay,w2,q2⟩:=q2;have N2:=(N.moved f w.rel).bu w2;have nh:=w.trans (w2.dA (eU env ks));refine g2 ?_;clear g2
 induction v with
 |false=>exact EZ ⟨_,_,_,.next,nh,N2.fr,q2⟩
 |true=>
  refine b0 (Q:=hU c env ks ay s2 _) (E:=No) (hb N2 q2) (λfl s3 q3=>cps λG g=>?_) λo o z=>z.elim;obtain⟨Ia,e3,aQ,r3,w3,f3,q3⟩:=q3;have iI:=nh.trans w3;refine g ?_;clear g
  induction r3 with
  |next=>exact q3.imp λm z=>⟨z.1,(jF _ _).2 ⟨e3,aQ,iI,f3,z.2⟩⟩
  |cont=>exact q3.imp λm z=>⟨z.1,(jF _ _).2 ⟨e3,aQ,iI,f3,z.2⟩⟩
  |brk=>exact⟨_,_,_,.next,iI,f3,q3⟩
  |ret r=>exact⟨_,_,_,.ret r,iI,f3,q3⟩
theorem y9{h:Heap}(k:∀b o,b∉fp->h.get? b=some o->h'.get? b=some o)(nt:∀b∈fp,∀items n,h.get? b≠some (d7 items n)):gr h h':=
 λb items n e=>k b _ (λq=>nt b q items n e) e
theorem Rel.moved{h:Heap}(R:Rel c σ h)(k:∀b o,b∉fp->h.get? b=some o->h'.get? b=some o)(nt:∀b∈fp,∀items n,h.get? b≠some (d7 items n))
  (hn:∀b∈fp,σ b=none/\c.H0.get? b=none):Rel c σ h':=
 ⟨λb o e=>k b o (λq=>by exact bo (((hn b q).2).symm.trans e)) (R.base b o e),
  λa o e=>eK.move (R.objs a o e) (y9 k nt) λx q=>k a x (λz=>by exact bo (((hn a z).1).symm.trans e)) q⟩
theorem eY.moved{h:Heap}(F:eY c env ks e σ h)(k:∀b o,b∉fp->h.get? b=some o->h'.get? b=some o)(nt:∀b∈fp,∀items n,h.get? b≠some (d7 items n))
  (hn:∀b∈fp,b≠env.locals/\∀i,(ks.lookup i=some .cell\/ks.lookup i=some .free)->env.cells.lookup (nm i)≠some b):eY c env ks e σ h':=by
 have tu:=y9 k nt;obtain⟨m,⟨o,es,ep,ho,hr⟩,hm⟩:=F.ns
 refine⟨⟨m,⟨o,es,ep,k _ _ (λq=>(hn _ q).1 rfl) ho,hr⟩,λi v a b=>?_⟩,F.t4,F.yR,λi hi=>?_⟩
 ·refine a9 (hm i v a b) λy h1 h2=>?_;exact⟨y,h1,h2.bQ tu⟩
 ·obtain⟨a,y,h1,⟨o',c7,fR⟩,h3,h4,h5⟩:=F.cells i hi
  exact⟨a,y,h1,⟨o',k _ _ (λq=>(hn _ q).2 i hi h1) c7,fR⟩,h3,h4,λv hv=>let⟨z,hz,hr⟩:=h5 v hv;⟨z,hz,hr.bQ tu⟩⟩
structure Apart(cg:aw)(σ:St)(fp:List Addr):Prop where
 new:∀b∈fp,cg.heap.get? b=none
 out:∀b∈fp,σ b=none
theorem Apart.base(a:Apart cg σ fp)(R:Rel c σ₀ cg.heap):∀b∈fp,c.H0.get? b=none:=λb hb=>R.out (a.new b hb)
theorem Apart.cells(a:Apart cg σ fp)(N:cO c n A env ks za σ₀ cg):∀b∈fp,b≠env.locals/\∀i,(ks.lookup i=some .cell\/ks.lookup i=some .free)->env.cells.lookup (nm i)≠some b:=λb hb=>
 ⟨λq=>N.fr.ns.elim λm z=>z.1.elim λo z=>z.elim λes z=>z.elim λep z=>(nomatch (a.new b hb).symm.trans ((congrArg _ q).trans z.1)),λi hi q=>(N.fr.cells i hi).elim λa' z=>z.elim λx z=>z.2.1.elim λo y=>by
  cases q.symm.trans z.1
  exact(nomatch (a.new b hb).symm.trans y.1)⟩
theorem Apart.frame(a:Apart cg σ fp)(N:cO c n A env ks za σ₀ cg):∀b∈fp,b≠env.locals/\¬eU env ks b:=λb hb=>
 have z:=a.cells N b hb
 ⟨z.1,λq=>q.elim z.1 λq=>q.elim λi h=>z.2 i (.inl h.1) h.2⟩
theorem eY.Cp{h:Heap}(N:cO c n A env ks za σ₀ cg)(a:Apart cg σ fp)(F:eY c env ks e σ h)
  (k:∀b o,b∉fp->h.get? b=some o->h'.get? b=some o)(nt:∀b∈fp,∀items n,h.get? b≠some (d7 items n)):eY c env ks e σ h':=F.moved k nt (a.cells N)
theorem c8.moved{X:Addr->Prop}{t:Nat}(w:c8 c X σ₀ cg σ s)(R:Rel c σ h')(k:∀b o,b∉fp->s.heap.get? b=some o->h'.get? b=some o)
  (hn:∀b∈fp,cg.heap.get? b=none):c8 c X σ₀ cg σ {s with heap:=h',toks:=t}:=
 ⟨R,⟨λb o nx e z=>k b o (λq=>by exact bo ((hn b q).symm.trans e)) (w.ext.keep b o nx e z),w.ext.gg,w.ext.fc,λb o e=>let⟨o',e'⟩:=w.ext.more b o e;⟨o',k b o' (λq=>by exact bo ((hn b q).symm.trans e)) e'⟩⟩,w.gens,w.os⟩
theorem cF.for{t x:Expr}{b:List Stmt}{pos:Pos}{it:IM}{a:AM}{mb:SM}(hi:jU c n ks t x it)(ha:eG c n ks (pv ks) t a)(hb:eQ c n ks b mb)
  (hs:autoParam (∀env v,xH x env v=pure v) aJ):cF c n ks (.For t x b [] pos) (cY it a mb):=λA env e σ s Q N q=>by
 refine wpAny_For (b0 (hi N q) (λxv bq d8=>b0 d8 (λit bg dP=>?_) λu u z=>z) λu u z=>z) (hs _);obtain⟨I,fp,items,ok,S,ae,rfl,W,hS,mh,w,q⟩:=dP;have Ib:Apart s ae fp:=⟨λb hb=>(mh b hb).1,λb hb=>(mh b hb).2⟩;obtain⟨Inv,jF⟩:∃Inv:Nat->aw->Prop,∀k s',Inv k s'↔∃i e' ae,k=items.length- i/\i<=items.length/\S i s'.heap/\c8 c (eU env ks) σ s ae s'/\eY c env ks e' ae s'.heap/\Apart s ae fp/\gc ok a mb Q (items.drop i) e' ae:=⟨_,λu u=>Iff.rfl⟩;refine codeAny_forLoop_any Inv (λk s' hI=>cps λG g=>?_) items.length ((jF _ _).2 ⟨0,e,ae,rfl,dE _,hS,w.dA _,(N.bu w).fr,Ib,q⟩);refine A9 ((jF _ _).1 hI) λi e' ae aq ff hS w f ap q=>?_;subst aq;refine g ?_;clear g hI;have base:=ap.base (σ₀:=σ) N.rel
 have nt:∀b∈fp,∀items n,s'.heap.get? b≠some (d7 items n):=λb hb items n z=>by refine a9 (W.here hS b hb) λo ho hn=>?_;rw[ho]at z;exact hn _ _ (bt z)
 cases hx:items[i]? with
 |none=>
  have jG:i=items.length:=qq ff (YE.1 hx);subst jG;rw[L1]at q;refine W.done N.room.h w.rel q.1 hS λh' tk k=>?_;have R':=w.rel.moved k nt λb hb=>⟨ap.out b hb,base b hb⟩
  exact EZ ⟨_,_,_,.next,w.moved R' k ap.new,eY.Cp N ap f k nt,q.2⟩
 |some y=>
  obtain⟨ck,rfl⟩:=List.getElem?_eq_some_iff.mp hx;rw[Lf ck]at q;obtain⟨q0,q⟩:=q
  refine W.next N.room.h w.rel q0 hx hS λv h1 tk go=>go λh' rv gu k=>?_
  ·have R':=w.rel.moved k nt λb hb=>⟨ap.out b hb,base b hb⟩
   have w':=w.moved (t:=tk) R' k ap.new;have f':=eY.Cp N ap f k nt
   have N':cO c n A env ks e' ae {s' with heap:=h',toks:=tk}:=N.moved f' R'
   refine b0 (Q:=kM c (eU env ks) env ks ae _ _) (E:=No) (ha N' rv q) (λu s2 q2=>cps λG g=>?_) λu u z=>z.elim;obtain⟨e2,ay,w2,f2,q2⟩:=q2;refine g ?_;clear g;refine b0 (Q:=hU c env ks ay s2 _) (E:=No) (hb (N'.moved f2 w2.rel) q2) (λfl s3 q3=>cps λG g=>?_) λu u z=>z.elim;obtain⟨Ia,e3,aQ,r3,w3,f3,q3⟩:=q3;refine g ?_;clear g;have qM:=w2.trans w3;have iI:=w'.trans qM;have tu:=bK.yZ N' qM;have nf:=ap.frame N
   have keep:∀b∈fp,∀o,h'.get? b=some o->s3.heap.get? b=some o:=λb hb o eo=>qM.ext.keep b o (nf b hb).2 eo λz hz=>by exact bo ((ap.out b hb).symm.trans hz)
   have S3:S (i+1) s3.heap:=W.move gu keep tu
   have Ic:Apart s aQ fp:=⟨ap.new,λb hb=>by
     refine a9 (W.here gu b hb) λo ho zz=>?_
     exact qM.ext.gg b o (nf b hb).2 ho (ap.out b hb)⟩
   have again:gc ok a mb Q (items.drop (i+1)) e3 aQ->∃m,m<items.length- i/\Inv m s3:=
    λq=>⟨items.length- (i+1),Ls ck (kZ i),(jF _ _).2 ⟨i+1,e3,aQ,rfl,ck,S3,iI,f3,Ic,q⟩⟩
   induction r3 with
   |next=>exact again q3
   |cont=>exact again q3
   |brk=>exact⟨_,_,_,.next,iI,f3,q3⟩
   |ret r=>exact⟨_,_,_,.ret r,iI,f3,q3⟩
end
end
section
open PySem.SeqAt
noncomputable def QZ:List String:=["enumerate","zip","dict_itemiterator","dict_reverseitemiterator","odict_iterator","itertools.zip_longest","itertools.pairwise"]
section
variable{prog:dv}{w:cM}{A:bj}{E:ak->aw->Prop}{s:aw}
theorem zb{t:Expr}{o:Obj}{T:String}{Q:Unit->aw->Prop}(ho:s.heap.get? I=some o)(hc:o.cls=.type T)(hT:QZ.contains T=false)(h:Q () s):
  aM (model prog w) A (L5 t (.ref I) v) Q E s:=by
 obtain⟨cl,dd,dt,sl⟩:=o;simp only at hc;subst hc
 have key:aM (model prog w) A (match(A6 I,v)with
   |(.ref r,.ref a)=>(do
    let o <-load r
    match o.cls,o.data with
    |.type n,.fields vs=>
     if(QZ.contains n&&vs[0]?==some (mW a))=true then do
      rule "for.unpacks-the-owned-tuple"
      updateField r 0 .none
     else pure ()
    |_,_=>pure ())
   |_=>pure ()) Q E s:=by
  induction v with
  |ref a=>
   refine aC (tE ho ?_)
   cases dt<;>first |exact aO h |(simp only[hT,Bool.false_and,pe,if_false];exact aO h)
  |_=>exact aO h
 cases t<;>first |exact aO h |exact key
end
section
variable{c:Cx}{n:Nat}{ks:Ks}{A:bj}{env:Env}{e:aL}{σ:St}{s:aw}
theorem ue{h:Heap}(hs:ju I h h'):∀b o,b∉[I]->h.get? b=some o->h'.get? b=some o:=λb o nb e=>hs.extBut b o (λq=>nb (by simp[q])) e
theorem zc{h:Heap}(hs:A1 I h h'):∀b o,b∉[I]->h.get? b=some o->h'.get? b=some o:=λb o nb e=>hs b o (λq=>nb (by simp[q])) e
theorem Q0{h:Heap}{o:Obj}(ho:h.get? I=some o)(hc:o.cls≠.type "tuple")(hs:A1 I h h'):gr h h':=λb items n e=>hs b _ (λq=>by subst q;rw[ho]at e;obtain rfl:=bt e;exact hc rfl) e
theorem gT.list{t:Expr}(I a:Addr)(vs:List CV):gT c t I [I] vs (λσ=>σ a=some (.list vs)\/σ a=some (.ro vs)) (λk h=>h.IsListIter I a k) where
 next:=λ{A s σ k x} hh R ok hx hS {Q E} go=>by
  refine gH (uc R ok) λitems n eL rs=>?_;refine a9 (rs.get hx) λv hv rv=>?_;obtain⟨o,ho,hc,hd⟩:=id hS
  refine wpAny_pyNext_list_item hS (dJ eL) (by simpa using hv) λh' hit hs=>?_
  have tu:=Q0 ho (by rw[hc];simp) hs.extBut
  refine go v h' s.toks λ{Q2 E2} k=>?_;obtain⟨o',c7,pT,_⟩:=id hit
  exact zb (s:={s with heap:=h'}) c7 pT (by decide) (k h' (rv.bQ tu) hit (ue hs))
 done:=λ{A s σ} hh R ok hS {Q E} go=>by
  refine gH (uc R ok) λitems n eL rs=>?_
  have hl:vs.length=items.size:=by simpa using rs.length
  exact wpAny_pyNext_list_end hh hS (dJ eL) (by rw[hl];simp) λh' he=>go h' s.toks (zc he)
 self:=λ{A s k} hS {Q E} q=>wpAny_pyIter_listiter hS q
 move:=λhS k tu=>let⟨o,ho,r⟩:=hS;⟨o,k _ (by simp) o ho,r⟩
 here:=λhS b hb=>by
  obtain⟨o,ho,hc,_⟩:=hS;rw[List.mem_singleton.mp hb]
  exact⟨o,ho,kJ (by rw[hc];simp)⟩
theorem gT.tup{t:Expr}(I a:Addr)(vs:List CV)(items:Array ak)(m:Nat):gT c t I [I] vs (λz=>True) (λk h=>IsTupIter h I a k/\h.get? a=some (d7 items m)/\aN h vs items.toList) where
 next:=λ{A s σ k x} hh R ok hx hS {Q E} go=>by
  refine pq hS λhit eL rs=>?_;refine a9 (rs.get hx) λv hv rv=>?_;obtain⟨o,ho,hc,hd⟩:=id hit
  refine next_tuple_item hit ⟨_,eL,rfl,m,rfl⟩ (by simpa using hv) λh' pV hs=>?_
  have tu:=Q0 ho (by rw[hc];simp) hs.extBut
  refine go v h' s.toks λ{Q2 E2} k=>?_;obtain⟨o',c7,pT,_⟩:=id pV
  exact zb (s:={s with heap:=h'}) c7 pT (by decide) (k h' (rv.bQ tu) ⟨pV,tu _ _ _ eL,rs.bQ tu⟩ (ue hs))
 done:=λ{A s σ} hh R ok hS {Q E} go=>by
  refine pq hS λhit eL rs=>?_
  have hl:vs.length=items.size:=by simpa using rs.length
  exact next_tuple_end hh hit ⟨_,eL,rfl,m,rfl⟩ (by rw[hl];simp) λh' he=>go h' s.toks (zc he)
 self:=λ{A s k} hS {Q E} q=>wpAny_pyIter_tupleiter hS.1 q
 move:=λhS k tu=>let⟨⟨o,ho,r⟩,eL,rs⟩:=hS;⟨⟨o,k _ (by simp) o ho,r⟩,tu _ _ _ eL,rs.bQ tu⟩
 here:=λhS b hb=>by
  obtain⟨⟨o,ho,hc,_⟩,_⟩:=hS;rw[List.mem_singleton.mp hb]
  exact⟨o,ho,kJ (by rw[hc];simp)⟩
noncomputable def yK(b:List UInt8):List CV:=b.map λx=>.int x.toNat
theorem gT.bytes{t:Expr}(I:Addr)(b:List UInt8)(tk:Tok):gT c t I [I] (yK b) (λz=>True) (λk h=>KBw.IsBytesIter h I b.toArray tk k) where
 next:=λ{A s σ k x} hh R ok hx hS {Q E} go=>by
  unfold yK at hx;rw[dM]at hx
  cases hb:b[k]? with
  |none=>rw[hb]at hx;exact bo hx
  |some y=>
   rw[hb]at hx;obtain rfl:=bt hx;obtain⟨o,ho,hc,hd⟩:=id hS
   refine KBw.next_item hS (c:=y) (by simpa using hb) λh' hit hs=>?_
   refine go _ h' (s.toks+1) λ{Q2 E2} k=>?_;obtain⟨o',c7,pT,_⟩:=id hit
   exact zb (s:={s with heap:=h',toks:=s.toks+1}) c7 pT (by decide) (k h' (.int _ _) hit (ue hs))
 done:=λ{A s σ} hh R ok hS {Q E} go=>by
  exact KBw.next_end hh hS (by simp[yK]) λh' he=>go h' s.toks (zc he)
 self:=λ{A s k} hS {Q E} q=>KBw.pyIter_self hS q
 move:=λhS k tu=>let⟨o,ho,r⟩:=hS;⟨o,k _ (by simp) o ho,r⟩
 here:=λhS b hb=>by
  obtain⟨o,ho,hc,_⟩:=hS;rw[List.mem_singleton.mp hb]
  exact⟨o,ho,kJ (by rw[hc];simp)⟩
noncomputable def yO(x:bx):List CV:=x.cps.toList.map λy=>.str ⟨#[y]⟩
theorem gT.str{t:Expr}(I:Addr)(X:bx)(tk:Tok):gT c t I [I] (yO X) (λz=>True) (λk h=>h.IsStrIter I "str_ascii_iterator" X tk k) where
 next:=λ{A s σ k x} hh R ok hx hS {Q E} go=>by
  unfold yO at hx;rw[dM]at hx
  cases hb:X.cps.toList[k]? with
  |none=>rw[hb]at hx;exact bo hx
  |some y=>
   rw[hb]at hx;obtain rfl:=bt hx;obtain⟨o,ho,hc,hd⟩:=id hS
   refine wpAny_pyNext_ascii_item hS (c:=y) (by simpa using hb) λh' hit hs=>?_
   refine go _ h' (s.toks+1) λ{Q2 E2} k=>?_;obtain⟨o',c7,pT,_⟩:=id hit
   exact zb (s:={s with heap:=h',toks:=s.toks+1}) c7 pT (by decide) (k h' (.str _ _) hit (ue hs))
 done:=λ{A s σ} hh R ok hS {Q E} go=>by
  exact wpAny_pyNext_ascii_end hh hS (by simp[yO]) λh' he=>go h' s.toks (zc he)
 self:=λ{A s k} hS {Q E} q=>wpAny_pyIter_striter_ascii hS q
 move:=λhS k tu=>let⟨o,ho,r⟩:=hS;⟨o,k _ (by simp) o ho,r⟩
 here:=λhS b hb=>by
  obtain⟨o,ho,hc,_⟩:=hS;rw[List.mem_singleton.mp hb]
  exact⟨o,ho,kJ (by rw[hc];simp)⟩
noncomputable def m8(n:Int):List CV:=(cS n.toNat).map λ(i:Nat)=>.int i
theorem gT.range{t:Expr}(I:Addr)(n:Int):gT c t I [I] (m8 n) (λz=>True) (λk h=>IsRangeIter h I (k:Nat) ((n.toNat:Int)- (k:Nat)) 1) where
 next:=λ{A s σ k x} hh R ok hx hS {Q E} go=>by
  unfold m8 at hx;rw[dM]at hx
  cases hb:(cS n.toNat)[k]? with
  |none=>rw[hb]at hx;exact bo hx
  |some y=>
   rw[hb]at hx;obtain rfl:=bt hx
   have hk:k<n.toNat:=by
    have:=(List.getElem?_eq_some_iff.mp hb).1;simpa using this
   have hy:y=k:=by
    rw[YU hk]at hb;obtain rfl:=bt hb;rfl
   subst hy;refine wpAny_pyNext_range_item hS (Int.sub_pos_of_lt (dN.2 hk)) λh' hit hs=>?_;refine go _ h' (s.toks+1) λ{Q2 E2} k=>?_
   have adJ:IsRangeIter h' I ((y+1:Nat):Int) ((n.toNat:Int)- ((y+1:Nat):Int)) 1:=by
    have e1:((y+1:Nat):Int)=(y:Int)+1:=by exact rfl
    have e2:(n.toNat:Int)- ((y+1:Nat):Int)=(n.toNat:Int)- (y:Int)- 1:=Zx ..
    rw[e1]at*;rw[show(n.toNat:Int)- ((y:Int)+1)=(n.toNat:Int)- (y:Int)- 1 by exact e2];exact hit
   exact zb (s:={s with heap:=h',toks:=s.toks+1}) (T:="range_iterator") hit rfl (by decide) (k h' (.int _ _) adJ (ue hs))
 done:=λ{A s σ} hh R ok hS {Q E} go=>by
  exact wpAny_pyNext_range_end hh hS (by simp[m8]) λh' he=>go h' s.toks (zc he)
 self:=λ{A s k} hS {Q E} q=>wpAny_pyIter_rangeiter hS q
 move:=λhS k tu=>k _ (by simp) _ hS
 here:=λhS b hb=>by
  rw[List.mem_singleton.mp hb]
  exact⟨_,hS,kJ (by simp)⟩
noncomputable def qx:Nat->List CV->List CV
 |_,[]=>[]
 |i,v::vs=>.tup [.int i,v]::qx (i+1) vs
theorem enumItems_get(vs:List CV):∀(i k:Nat),(qx i vs)[k]?=vs[k]?.map λv=>.tup [.int ((i+k:Nat):Int),v]:=by
 induction vs with
 |nil=>intro i k;rfl
 |cons v vs ih=>
  intro i k
  induction k with
  |zero=>rfl
  |succ k=>refine(ih _ _).trans ?_;rw[show i+1+k=i+(k+1) by exact AX ..];rfl
theorem enumItems_length(vs:List CV):∀i,(qx i vs).length=vs.length:=by
 induction vs with
 |nil=>intro i;rfl
 |cons v vs ih=>intro i;exact congrArg Nat.succ (ih (i+1))
theorem gT.enum{elts:List Expr}{kk:Nat}{pp:Pos}(en it a:Addr)(vs:List CV)(Cq:en≠it)(Q6:a≠en)(Q7:a≠it):
  gT c (.Tuple elts kk pp) en [en,it] (qx 0 vs) (λσ=>σ a=some (.list vs)\/σ a=some (.ro vs)) (λk h=>(∃old,IsEnum h en it k old)/\h.IsListIter it a k) where
 next:=λ{A s σ k x} hh R ok hx hS {Q E} go=>by
  refine gH (uc R ok) λitems n eL rs=>?_;have W:=WalksT.enumerate (prog:=c.prog) (w:=c.w) hh en it a Cq Q6 Q7 items;rw[enumItems_get]at hx
  cases hv:vs[k]? with
  |none=>rw[hv]at hx;exact bo hx
  |some y=>
   rw[hv]at hx;obtain rfl:=bt hx
   have hl:vs.length=items.size:=by simpa using rs.length
   have hk:k<items.size:=hl▸(List.getElem?_eq_some_iff.mp hv).1;obtain⟨⟨old,he⟩,hit⟩:=hS;obtain⟨oi,hoi,hci,_⟩:=id hit;have Ie:items[k]?=some items[k]:=pb hk;refine a9 (rs.get hv) λu hu ru=>?_
   have hxu:items[k]=u:=by rw[show items[k]?=some u by simpa using hu]at Ie;exact(bt Ie).symm
   refine wpAny_pyNext_enum_item he hit (dJ eL) Ie Cq λh' ho pV hT dK HR=>?_;refine go _ h' (s.toks+1) λ{Q2 E2} kk2=>?_
   have nt:∀b∈[en,it],∀items n,s.heap.get? b≠some (d7 items n):=λb hb items n q=>by
    rcases List.mem_cons.mp hb with rfl |hb
    ·rw[he]at q;exact kJ (by simp) _ _ (bt q)
    ·rw[List.mem_singleton.mp hb,hoi]at q;exact kJ (by rw[hci];simp) _ _ (bt q)
   refine wpAny_letOwnedTupleGo_enum (s:={s with heap:=h',toks:=s.toks+1}) ho λIg zd cH=>?_
   have adK:en<s.heap.objs.size:=mP he
   have Q8:∀b o,b∉[en,it]->s.heap.get? b=some o->Ig.get? b=some o:=λb o nb e=>by
    have n1:b≠en:=λq=>nb (by simp[q])
    have n2:b≠it:=λq=>nb (by simp[q])
    exact cH.extBut b o n1 (HR b o n1 n2 e)
   have tu:=y9 Q8 nt;have hT2:Ig.get? s.heap.objs.size=some (d7 #[.int (k:Int) s.toks,items[k]] 0):=cH.extBut _ _ (vz adK) hT
   refine kk2 Ig (.tup hT2 (.cons (by rw[mO];exact .int _ _) (.cons (by rw[hxu];exact ru.bQ tu) .nil))) ⟨⟨_,by simpa using zd⟩,?_⟩ Q8
   exact pV.at λo e=>cH.extBut _ _ (Ne.symm Cq) e
 done:=λ{A s σ} hh R ok hS {Q E} go=>by
  refine gH (uc R ok) λitems n eL rs=>?_;have W:=WalksT.enumerate (prog:=c.prog) (w:=c.w) hh en it a Cq Q6 Q7 items
  have hl:vs.length=items.size:=by simpa using rs.length
  rw[enumItems_length,hl]at hS;exact W.done s _ _ ⟨hS.1,hS.2,dJ eL⟩ λh' tk k=>go h' tk k
 self:=λ{A s k} hS {Q E} q=>let⟨⟨_,he⟩,_⟩:=hS;wpAny_pyIter_enum he q
 move:=λhS k tu=>by
  obtain⟨⟨old,he⟩,⟨o,ho,r⟩⟩:=hS
  exact⟨⟨old,k _ (by simp) _ he⟩,⟨o,k _ (by simp) _ ho,r⟩⟩
 here:=λhS b hb=>by
  obtain⟨⟨old,he⟩,⟨o,ho,hc,r⟩⟩:=hS
  rcases List.mem_cons.mp hb with rfl |hb
  ·exact⟨_,he,kJ (by simp)⟩
  ·rw[List.mem_singleton.mp hb];exact⟨o,ho,kJ (by rw[hc];simp)⟩
end
end
section
open PySem.SeqAt
noncomputable abbrev KV:=List (Nat×CV)
noncomputable abbrev FM:=List CV->KV->VM
inductive g6(h:Heap):KV->List (bx×ak)->Prop
 |nil:g6 h [] []
 |cons {i:Nat} {x:CV} {v:ak} {xs vs} (hi:i<nN) (e:aV h x v) (r:g6 h xs vs):g6 h ((i,x)::xs) ((nm i,v)::vs)
noncomputable def aU(c:Cx)(n:Nat)(f:ak)(F:FM):Prop:=
 ∀⦃A:bj⦄ ⦃σ:St⦄ ⦃s:aw⦄ ⦃xs:List CV⦄ ⦃vs:List ak⦄ ⦃kx:KV⦄ ⦃kv:List (bx×ak)⦄ ⦃Q:CV->St->Prop⦄,fe n A->Rel c σ s.heap->aN s.heap xs vs->g6 s.heap kx kv->F xs kx σ Q->
  aM c.M A (call f vs kv) (cC c σ s Q) No s
inductive AK where
 |L |B |I |S |V
noncomputable abbrev AK.T:AK->Type
 |.L=>Addr
 |.B=>List UInt8
 |.I=>Int
 |.S=>bx
 |.V=>CV
noncomputable abbrev AK.cv:(k:AK)->k.T->CV
 |.L,a=>.loc a
 |.B,b=>.bytes b
 |.I,i=>.int i
 |.S,x=>.str x
 |.V,x=>x
noncomputable abbrev AK.ok(h:Heap):(k:AK)->k.T->ak->Prop
 |.L,a,v=>v=.ref a
 |.B,b,v=>∃t,v=.bytes b.toArray t
 |.I,i,v=>∃t,v=.int i t
 |.S,x,v=>∃t,v=.str x t
 |.V,x,v=>aV h x v
theorem AK.inv{h:Heap}:∀{k:AK} {x:k.T},aV h (k.cv x) v->k.ok h x v
 |.L,_,r=>r.dj
 |.B,_,r=>r.fQ
 |.I,_,r=>r.bZ
 |.S,_,r=>r.pR
 |.V,_,r=>r
theorem g6.jX{h:Heap}(r:g6 h [] kv):kv=[]:=by cases r;rfl
noncomputable def fv(k:AK)(P:k.T->VM):FM:=λxs kx σ Q=>∃x,xs=[k.cv x]/\kx=[]/\P x σ Q
noncomputable def mj(k l:AK)(P:k.T->l.T->VM):FM:=λxs kx σ Q=>∃x y,xs=[k.cv x,l.cv y]/\kx=[]/\P x y σ Q
noncomputable def Cr(k l m:AK)(P:k.T->l.T->m.T->VM):FM:=λxs kx σ Q=>∃x y z,xs=[k.cv x,l.cv y,m.cv z]/\kx=[]/\P x y z σ Q
noncomputable def pW(F G:FM):FM:=λxs kx σ Q=>F xs kx σ Q\/G xs kx σ Q
section
variable{c:Cx}{n:Nat}{f:ak}{k l m:AK}{σ:St}{Q:CV->St->Prop}
theorem a1{P:k.T->VM}{x:k.T}(q:P x σ Q):fv k P [k.cv x] [] σ Q:=⟨x,rfl,rfl,q⟩
theorem a2{P:k.T->l.T->VM}{x:k.T}{y:l.T}(q:P x y σ Q):mj k l P [k.cv x,l.cv y] [] σ Q:=⟨x,y,rfl,rfl,q⟩
theorem a3{P:k.T->l.T->m.T->VM}{x:k.T}{y:l.T}{z:m.T}(q:P x y z σ Q):Cr k l m P [k.cv x,l.cv y,m.cv z] [] σ Q:=⟨x,y,z,rfl,rfl,q⟩
theorem aN.one{h:Heap}{x:CV}{vs:List ak}{G:List ak->Prop}(r:aN h [x] vs)(g:∀v,aV h x v->G [v]):G vs:=by
 obtain⟨v,_,rfl,r1,r⟩:=r.iT;rw[r.jX];exact g v r1
theorem aN.more{h:Heap}{G:List ak->Prop}(r:aN h (x::xs) vs)(g:∀v ws,aV h x v->aN h xs ws->G (v::ws)):G vs:=by
 obtain⟨v,_,rfl,r1,r⟩:=r.iT;exact g v _ r1 r
theorem g6.no{h:Heap}{G:List (bx×ak)->Prop}(r:g6 h [] kv)(g:G []):G kv:=r.jX▸g
noncomputable abbrev CW:=bj->aw->St->List ak->List (bx×ak)->(CV->St->Prop)->Prop
noncomputable def ig(c:Cx)(n:Nat)(W:CW)(F:FM):Prop:=
 ∀⦃A:bj⦄ ⦃σ:St⦄ ⦃s:aw⦄ ⦃xs:List CV⦄ ⦃vs:List ak⦄ ⦃kx:KV⦄ ⦃kv:List (bx×ak)⦄ ⦃Q:CV->St->Prop⦄,fe n A->Rel c σ s.heap->aN s.heap xs vs->g6 s.heap kx kv->F xs kx σ Q->W A s σ vs kv Q
section
variable{W:CW}
theorem ig.of{F:FM}(h:∀{A σ s xs vs kx Q},fe n A->Rel c σ s.heap->aN s.heap xs vs->F xs kx σ Q->kx=[]/\W A s σ vs [] Q):ig c n W F:=
 λA σ s xs vs kx kv Q hr R r rk q=>have z:=h hr R r q;g6.no (G:=λkv=>W A s σ vs kv Q) (z.1▸rk) z.2
theorem ig.a1{P:k.T->VM}(h:∀{A σ s x v Q},fe n A->Rel c σ s.heap->k.ok s.heap x v->P x σ Q->W A s σ [v] [] Q):ig c n W (fv k P):=
 ig.of λ{A σ s xs vs kx Q} hr R r q=>q.elim λx q=>⟨q.2.1,aN.one (G:=λvs=>W A s σ vs [] Q) (q.1▸r) λv r1=>h hr R (AK.inv r1) q.2.2⟩
theorem ig.a2{P:k.T->l.T->VM}(h:∀{A σ s x y v w Q},fe n A->Rel c σ s.heap->k.ok s.heap x v->l.ok s.heap y w->P x y σ Q->W A s σ [v,w] [] Q):ig c n W (mj k l P):=
 ig.of λ{A σ s xs vs kx Q} hr R r q=>q.elim λx q=>q.elim λy q=>⟨q.2.1,aN.more (G:=λvs=>W A s σ vs [] Q) (q.1▸r) λv ws r1 r=>aN.one (G:=λvs=>W A s σ (v::vs) [] Q) r λw r2=>h hr R (AK.inv r1) (AK.inv r2) q.2.2⟩
theorem ig.a3{P:k.T->l.T->m.T->VM}(h:∀{A σ s x y z v w u Q},fe n A->Rel c σ s.heap->k.ok s.heap x v->l.ok s.heap y w->m.ok s.heap z u->P x y z σ Q->W A s σ [v,w,u] [] Q):ig c n W (Cr k l m P):=
 ig.of λ{A σ s xs vs kx Q} hr R r q=>q.elim λx q=>q.elim λy q=>q.elim λz q=>⟨q.2.1,aN.more (G:=λvs=>W A s σ vs [] Q) (q.1▸r) λv ws r1 r=>aN.more (G:=λvs=>W A s σ (v::vs) [] Q) r λw ws r2 r=>aN.one (G:=λvs=>W A s σ (v::w::vs) [] Q) r λu r3=>h hr R (AK.inv r1) (AK.inv r2) (AK.inv r3) q.2.2⟩
theorem ig.or{F G:FM}(h1:ig c n W F)(h2:ig c n W G):ig c n W (pW F G):=λA σ s xs vs kx kv Q hr R r rk q=>q.elim (h1 hr R r rk) (h2 hr R r rk)
end
noncomputable abbrev uf(c:Cx)(f:ak):CW:=λA s σ vs kv Q=>aM c.M A (call f vs kv) (cC c σ s Q) No s
theorem aU.a1{P:k.T->VM}(h:∀{A σ s x v Q},fe n A->Rel c σ s.heap->k.ok s.heap x v->P x σ Q->uf c f A s σ [v] [] Q):aU c n f (fv k P):=@ig.a1 c n k (uf c f) P h
theorem aU.a2{P:k.T->l.T->VM}(h:∀{A σ s x y v w Q},fe n A->Rel c σ s.heap->k.ok s.heap x v->l.ok s.heap y w->P x y σ Q->uf c f A s σ [v,w] [] Q):aU c n f (mj k l P):=@ig.a2 c n k l (uf c f) P h
theorem aU.a3{P:k.T->l.T->m.T->VM}(h:∀{A σ s x y z v w u Q},fe n A->Rel c σ s.heap->k.ok s.heap x v->l.ok s.heap y w->m.ok s.heap z u->P x y z σ Q->uf c f A s σ [v,w,u] [] Q):aU c n f (Cr k l m P):=@ig.a3 c n k l m (uf c f) P h
theorem aU.or{F G:FM}(h1:aU c n f F)(h2:aU c n f G):aU c n f (pW F G):=@ig.or c n (uf c f) F G @h1 @h2
end
section
variable{c:Cx}{σ:St}{s:aw}{a:Addr}{G:Prop}(R:Rel c σ s.heap)
include R
theorem Rel.li{vs:List CV}(h:σ a=some (.list vs))(k:∀items m,s.heap.get? a=some (listOf items m)->vs.length=items.size->aN s.heap vs items.toList->G):G:=
 (R.objs _ _ h).2.elim λitems z=>z.elim λm z=>k items m z.1 z.2.length z.2
theorem Rel.lr{vs:List CV}(h:σ a=some (.list vs)\/σ a=some (.ro vs))(k:∀items m,s.heap.get? a=some (listOf items m)->vs.length=items.size->aN s.heap vs items.toList->G):G:=
 (uc R h).elim λitems z=>z.elim λm z=>k items m z.1 z.2.length z.2
theorem Rel.di{es:List (Int×CV)}(h:σ a=some (.dI es))(k:∀kvs,s.heap.DictOf (intKind c.prog c.w) a kvs->es.length=kvs.length->cZ s.heap es kvs->G):G:=
 (R.objs _ _ h).2.elim λkvs z=>k kvs z.1 z.2.length z.2
theorem Rel.ds{es:List (bx×CV)}(h:σ a=some (.dS es))(k:∀kvs,s.heap.DictOf (AS c.prog c.w) a kvs->es.length=kvs.length->cZ s.heap es kvs->G):G:=
 (R.objs _ _ h).2.elim λkvs z=>k kvs z.1 z.2.length z.2
theorem Rel.db{es:List (List UInt8×CV)}(h:σ a=some (.dB es))(k:∀kvs,s.heap.DictOf (fM c.prog c.w) a kvs->es.length=kvs.length->cZ s.heap es kvs->G):G:=
 (R.objs _ _ h).2.elim λkvs z=>k kvs z.1 z.2.length z.2
end
noncomputable def dw(c:Cx)(f:ak):Prop:=∀h,c.K.In h->∃k,(k=Keeper.frame\/k=Keeper.machine\/k=Keeper.boundFrame)/\Looks c.M h (keeperOf f) k
theorem dw.bi{c:Cx}(id:String):dw c (.builtin id):=λh z=>⟨.machine,.inr (.inl rfl),.now⟩
theorem dw.ty{c:Cx}(id:String):dw c (.type id):=λh z=>⟨.machine,.inr (.inl rfl),.now⟩
theorem dw.fn{c:Cx}{f:Addr}(hk:keepIn c.K (.ref f)=true):dw c (.ref f):=keeps_K hk
noncomputable def tN:CV->Option ak
 |.loc a=>some (.ref a)
 |.ty n=>some (.type n)
 |.bi n=>some (.builtin n)
 |_=>none
theorem Cs{h:Heap}{f:ak}:∀{x:CV},aV h x v->tN x=some f->v=f
 |.loc _,r,e=>r.dj.trans (bt e)
 |.ty _,r,e=>r.PY.trans (bt e)
 |.bi _,r,e=>r.vbi.trans (bt e)
 |.none,_,e |.bool _,_,e |.int _,_,e |.str _,_,e |.bytes _,_,e |.tup _,_,e=>bo e
section
variable{c:Cx}{n:Nat}{ks:Ks}{A:bj}{env:Env}{e:aL}{σ:St}{s:aw}
theorem adL{M:fA}{A:bj}{s:aw}{f:ak}{args:List (Bool×Sem ak)}{Q:Args->aw->Prop}(hp:args.any (λx=>x.1)=false)
  (h:aM M A (spliced args) (λvs s'=>Q ⟨vs,[]⟩ s') E s):aM M A (evalArgs f true args []) Q E s:=by
 induction args with
 |nil=>
  unfold evalArgs;show aM M A (spliced [] >>= _) Q E s;refine aC (b0 h (λvs s' h'=>?_) λz z x=>x);refine aC (aO (jf ?_))
  exact aC (aO (aC (aO (aO h'))))
 |cons x rest=>
  obtain⟨b,x⟩:=x
  have:b=false:=by rw[xO,YO]at hp;exact hp.1
  subst this;exact Calls.evalArgs_plain h
theorem Ct{pos:Pos}{f:ak}{fx:List CV}{F:FM}{m:Nat}{Q:CV->St->Prop}(hk:dw c f)(hF:aU c m f F)(hm:m<=n)(h:gZ c n ks args ms)(N:cO c n A env ks e σ s)(rf:aN s.heap fx first)
  (q:ms e σ λxs ae=>F (fx++xs) [] ae Q)(hp:∀env,(dZ pos (cU args env)).any (λx=>x.1)=false):aM c.M A (lW pos f first (dZ pos (cU args env)) []) (cC c σ s Q) No s:=
 callWith_of (P:=c.K.In) (by simpa using hp env) hk (adL (hp env) (t5 (h pos N q) λxs vs ae s' r w q'=>
  ⟨c.jY.keeps w.rel.base,iE w (hF (N.room.le hm) w.rel ((rf.bu N.rel w).append r) .nil q')⟩))
noncomputable def aY(F:FM)(ms:cV):EM:=λe σ Q=>ms e σ λxs ae=>F xs [] ae Q
theorem aH.call{fx:Expr}{args:List Expr}{pos:Pos}{x:CV}{f:ak}{F:FM}{m:Nat}{ms:cV}(hf:aH c n ks fx (au x))(hx:tN x=some f)(hk:dw c f)(hF:aU c m f F)(hm:m<=n)(h:gZ c n ks args ms)
  (he:autoParam (∀env,eval (.Call fx args [] pos) env=(do lW pos (<-eval fx env) [] (dZ pos (cU args env)) (lX pos (lU [] env)))) aI)
  (hp:autoParam (∀env,(dZ pos (cU args env)).any (λx=>x.1)=false) aI):aH c n ks (.Call fx args [] pos) (aY F ms):=λA env e σ s Q N q=>
 Call_ (wp_step (hf (Q:=λy ae=>y=x/\ae=σ) N ⟨rfl,rfl⟩) λy v ao s1 r1 w1 q1=>by
  obtain⟨rfl,rfl⟩:=q1;rw[Cs r1 hx]
  exact iE w1 (Ct hk hF hm h (N.bu w1) .nil q hp)) (he _)
noncomputable def Ih(i:Nat)(x:CV)(F:FM)(ms:cV):EM:=λe σ Q=>e i=some x/\ms e σ λxs ae=>F xs [] ae Q
theorem aH.aap{fx:Expr}{args:List Expr}{pos:Pos}{x:CV}{f:ak}{F:FM}{m i:Nat}{ms:cV}(hf:aH c n ks fx (af i))(hx:tN x=some f)(hk:dw c f)(hF:aU c m f F)(hm:m<=n)(h:gZ c n ks args ms)
  (he:autoParam (∀env,eval (.Call fx args [] pos) env=(do lW pos (<-eval fx env) [] (dZ pos (cU args env)) (lX pos (lU [] env)))) aI)
  (hp:autoParam (∀env,(dZ pos (cU args env)).any (λx=>x.1)=false) aI):aH c n ks (.Call fx args [] pos) (Ih i x F ms):=λA env e σ s Q N q=>
 Call_ (wp_step (hf (Q:=λy ae=>y=x/\ae=σ) N (BH q.1 ⟨rfl,rfl⟩)) λy v ao s1 r1 w1 q1=>by
  obtain⟨rfl,rfl⟩:=q1;rw[Cs r1 hx]
  exact iE w1 (Ct hk hF hm h (N.bu w1) .nil q.2 hp)) (he _)
noncomputable def rV(C i f:Nat):Bool:=yo.contains ((C,i),f)
theorem Ii{C f:Nat}(h:rV C i f=true):((C,i),f)∈yo:=by simpa[rV]using h
noncomputable def r9(C i:Nat)(x:CV)(σ:St):Prop:=∃a d fs,x=.loc a/\σ a=some (.inst C d)/\σ d=some (.iV fs)/\gN fs i=none
noncomputable def bN(C i:Nat)(F:FM)(mo:EM)(ms:cV):EM:=λe σ Q=>mo e σ λx ao=>r9 C i x ao/\ms e ao λxs ay=>F (x::xs) [] ay Q
theorem Q9{C f:Nat}{pl:Sem Bool}{Q:ak×List ak->aw->Prop}(hm:rV C i f=true)(R:Rel c σ s.heap)(r:aV s.heap x v)(q:r9 C i x σ)(h:Q (.ref f,[v]) s):aM c.M A (tF v (nm i) pl) Q No s:=by
 obtain⟨a,d,fs,rfl,h1,h2,h3⟩:=q;obtain rfl:=r.dj;have k:=c.BC _ _ _ (Ii hm);refine mX (HU R h1 h2 k.1) λod m I hn ho hl hr=>?_
 have z:∀o,o=none->(match o with |some x=>∃v,m (nm i)=some v/\aV s.heap x v/\x.tX=false |none=>m (nm i)=none)->m (nm i)=none:=λy e z=>by subst e;exact z
 exact method_fn (c.jY.keeps R.base) I (plainGet_of k.2.1).1 (plainGet_of k.2.1).2 k.2.2.1 (beq_iff_eq.mp k.2.2.2.1) (congrArg (Option.map Option.isSome) (hl.trans (congrArg some (z _ h3 (hr i k.1))))) h
theorem aH.jA{o:Expr}{name:bx}{args:List Expr}{apos pos:Pos}{F:FM}{m C i f:Nat}{mo:EM}{ms:cV}{pl:Env->Sem Bool}(hx:nm i=name)(ho:aH c n ks o mo)(ht:rV C i f=true)(hF:aU c m (.ref f) F)(hm:m<=n)(h:gZ c n ks args ms)
  (he:autoParam (∀env,eval (.Call (.Attribute o name apos) args [] pos) env=(do
   let ov <-eval o env
   oe apos.atName
   let(f,first) <-holding [ov] (tF ov name (pl env))
   lW pos f first (dZ pos (cU args env)) (lX pos (lU [] env)))) aI)
  (hp:autoParam (∀env,(dZ pos (cU args env)).any (λx=>x.1)=false) aI):aH c n ks (.Call (.Attribute o name apos) args [] pos) (bN C i F mo ms):=λA env e σ s Q N q=>by
 subst hx;refine MethodCall_ (wp_step (ho N q) λx v ao s1 r1 w1 q1=>Q9 ht w1.rel r1 q1.1 ?_) (he _);obtain⟨_,_,_,_,k4⟩:=c.BC _ _ _ (Ii ht);exact iE w1 (Ct (dw.fn k4) hF hm h (N.bu w1) (.cons r1 .nil) q1.2 hp)
end
end
section
open PySem.SeqAt
noncomputable def qz(p:Arguments):Bool:=p.posonlyargs.isEmpty&&p.vararg.isNone&&p.kwonlyargs.isEmpty&&p.kwarg.isNone
theorem adM{p:Arguments}(h:qz p=true):p=⟨[],p.args,none,[],p.kw_defaults,none,p.defaults⟩:=by
 have h:=cK.1 h;have g:=cK.1 h.1;have k:=cK.1 g.1;have e1:=L3.1 k.1;have e2:=ED.1 k.2;have e3:=L3.1 g.2;have e4:=ED.1 h.2;obtain⟨_,_,_,_,_,_,_⟩:=p;dsimp only at e1 e2 e3 e4;rw[e1,e2,e3,e4]
noncomputable def kwOk(ns:List Str):List (Str×ak)->List (Str×ak)->Bool
 |[],_=>true
 |(k,v)::r,sl=>ns.contains k&&(sl.lookup k).isNone&&kwOk ns r (sl++[(k,v)])
noncomputable def ug:List (Str×ak)->List (Str×ak)->List (Str×ak)
 |[],sl=>sl
 |(n,d)::r,sl=>if(sl.lookup n).isNone then ug r (sl++[(n,d)])else ug r sl
section
variable{M:fA}{A:bj}{E:ak->aw->Prop}{s:aw}
noncomputable abbrev L2:=List (Str×ak)
theorem Ra{ns:List Str}{f:Str×ak->L2×L2->Sem (ForInStep (L2×L2))}(hf:∀k v sl ex,ns.contains k=true->(sl.lookup k).isNone=true->f (k,v) (sl,ex)=pure (.yield (sl++[(k,v)],ex))):
  ∀(kv sl:L2) {Q:L2×L2->aw->Prop},kwOk ns kv sl=true->Q (sl++kv,[]) s->aM M A (forIn kv (sl,[]) f) Q E s
 |[],sl,Q,_,q=>by rw[fj]at q;exact aO q
 |(k,v)::r,sl,Q,h,q=>by
  have h:=cK.1 h;have g:=cK.1 h.1;rw[L6,hf k v sl [] g.1 g.2]
  exact aC (aO (Ra hf r _ h.2 (by rw[fK];exact q)))
theorem Ij{f:Str×ak->L2->Sem (ForInStep L2)}(hf:∀n d sl,f (n,d) sl=if(sl.lookup n).isNone=true then pure (.yield (sl++[(n,d)]))else pure (.yield sl)):
  ∀(l sl:L2) {Q:L2->aw->Prop},Q (ug l sl) s->aM M A (forIn l sl f) Q E s
 |[],sl,Q,q=>aO q
 |(n,d)::r,sl,Q,q=>by
  rw[L6,hf n d sl]
  by_cases h:(sl.lookup n).isNone=true
  ·rw[show ug ((n,d)::r) sl=_ from if_pos h]at q;rw[if_pos h];exact aC (aO (Ij hf r _ q))
  ·rw[show ug ((n,d)::r) sl=_ from if_neg h]at q;rw[if_neg h];exact aC (aO (Ij hf r _ q))
end
noncomputable def Cu(ns:List Str)(vs:List ak)(kv:L2)(ds:List ak)(binds:L2):Prop:=
 vs.length<=ns.length/\kwOk ns kv (ns.zip vs)=true/\
 (ns.take (ns.length- (ds.drop (ds.length- ns.length)).length)).filter (λn=>((ns.zip vs++kv).lookup n).isNone)=[]/\
 ((ns++[]).filterMap λn=>((ug ((ns.drop (ns.length- (ds.drop (ds.length- ns.length)).length)).zip (ds.drop (ds.length- ns.length))) (ns.zip vs++kv)).lookup n).map (n,·))=binds
theorem adN{l:List Str}(h:l=[]):¬(!l.isEmpty)=true:=by rw[h];exact gY
section
variable{s:aw}{fd:pj}{as:List Arg}{kd:List (Option Expr)}{df:List Expr}{vs:List ak}{kv binds:L2}{od:Option (Array ak)}
theorem adO(hd:∀{M A E Q},Q od s->aM M A (xS fd.defaults) Q E s)(h:Cu (as.map (λx=>x.arg)) vs kv (od.getD #[]).toList binds):rR s {fd with params:=⟨[],as,none,[],kd,none,df⟩} ⟨vs,kv⟩ binds:=λM A E Q q=>
 aC (Ra (ns:=as.map (λx=>x.arg)) (λk v sl ex g1 g2=>(if_pos (by rw[g1];rfl)).trans (if_neg (λz=>by rw[ED.1 g2]at z;exact eP z))) kv _ h.2.1
  (aC (m:=xS _) (hd (tG (Fs (λz=>Nat.not_lt.2 h.1 (of_decide_eq_true (cK.1 z).1)) (tG (Fs (adN h.2.2.1)
   (aC (Ij (λn d sl=>rfl) _ _ (aO (h.2.2.2▸q)))))))))))
theorem Rb{ns:List Str}(hp:qz fd.params=true)(ha:fd.params.args.map (λx=>x.arg)=ns)(hd:∀{M A E Q},Q od s->aM M A (xS fd.defaults) Q E s)(h:Cu ns vs kv (od.getD #[]).toList binds):rR s fd ⟨vs,kv⟩ binds:=by
 subst ha
 have e:fd={fd with params:=⟨[],fd.params.args,none,[],fd.params.kw_defaults,none,fd.params.defaults⟩}:=congrArg (λp=>{fd with params:=p}) (adM hp)
 rw[e];exact adO @hd h
theorem adP{l:L2}(hn:(l.map (λx=>x.1)).Nodup):∀p∈l,l.lookup p.1=some p.2:=by
 induction l with
 |nil=>exact λz h=>cA h
 |cons q l ih=>
  have hn:=mN.1 hn;intro p hp
  rcases eO.1 hp with rfl |hp
  ·exact List.lookup_cons_self
  ·rw[kj,beq_eq_false_iff_ne.2 λe=>hn.1 (dD.2 ⟨p,hp,e⟩)]
   exact ih hn.2 p hp
theorem Rd{sl:L2}:∀{l:L2},(∀p∈l,(sl.lookup p.1).isNone=false)->ug l sl=sl
 |[],_=>rfl
 |p::l,h=>(if_neg (by rw[h p (.head _)];exact gY)).trans (Rd λq hq=>h q (.tail _ hq))
theorem Rf{f:Str×ak->Option (Str×ak)}:∀{l:L2},(∀p∈l,f p=some p)->l.filterMap f=l
 |[],_=>rfl
 |p::l,h=>by rw[List.filterMap_cons,h p (.head _)];exact congrArg _ (Rf λq hq=>h q (.tail _ hq))
theorem adQ{ns:List Str}{ds:List ak}(hn:ns.Nodup)(hl:vs.length=ns.length):Cu ns vs [] ds (ns.zip vs):=by
 have e:(ns.zip vs).map (λx=>x.1)=ns:=List.map_fst_zip (rN hl.symm);have lk:=adP (l:=ns.zip vs) (e.symm▸hn)
 have Rg:∀n∈ns,((ns.zip vs).lookup n).isNone=false:=λn hn=>by
  rw[<-e]at hn;refine a9 (dD.1 hn) λp hp aq=>?_;subst aq;rw[lk p hp];rfl
 refine⟨rN hl,rfl,?_,?_⟩
 ·rw[fj,Ln]
  exact λn h=>by rw[Rg n (List.mem_of_mem_take h)];exact gY
 ·rw[fj,fj,Rd λp hp=>Rg _ (List.mem_of_mem_drop (List.of_mem_zip (show(p.1,p.2)∈_ from hp)).1)]
  conv=>lhs;arg 2;rw[<-e]
  rw[YZ];exact Rf λp hp=>congrArg (Option.map (p.1,·)) (lk p hp)
theorem adR(hs:∀i∈ps,i<nN)(hn:ps.Nodup):(ps.map nm).Nodup:=Y3.2 (hn.imp_of_mem λha hb h e=>h (oE (hs _ ha) (hs _ hb) e))
noncomputable def DfltIs(s:aw)(v:ak)(od:Option (Array ak)):Prop:=∀{M:fA} {A:bj} {E:ak->aw->Prop} {Q:Option (Array ak)->aw->Prop},Q od s->aM M A (xS v) Q E s
theorem Rh(hp:qz fd.params=true)(ha:fd.params.args.map (λx=>x.arg)=ps.map nm)(hs:∀i∈ps,i<nN)(hn:ps.Nodup)(hl:vs.length=ps.length)(hd:∃od,DfltIs s fd.defaults od):rR s fd ⟨vs,[]⟩ ((ps.map nm).zip vs):=
 hd.elim λod hd=>Rb hp ha @hd (adQ (adR hs hn) (hl.trans (aZ _).symm))
end
end
section
open PySem.SeqAt
theorem Cv{n:Nat}{y:bx}{k:fy}{r:List (bx×fy)}{acc:List (bx×Addr)}(h:(k==.cell)=true):jR n ((y,k)::r) acc=jR (n+1) r ((y,n)::acc):=if_pos h
theorem Cw{n:Nat}{y:bx}{k:fy}{r:List (bx×fy)}{acc:List (bx×Addr)}(h:¬(k==.cell)=true):jR n ((y,k)::r) acc=jR n r acc:=if_neg h
theorem uh:∀(names:List (bx×fy)) (n:Nat) (acc:List (bx×Addr)) (x:bx),((x,Fb)∈names\/(acc.lookup x).isSome=true)->((jR n names acc).lookup x).isSome=true
 |[],_,acc,x,h=>h.elim (λh=>cA h) id
 |(y,k)::r,n,acc,x,h=>by
  by_cases hk:(k==.cell)=true
  ·rw[Cv hk]
   refine uh r _ _ x ?_;rw[kj]
   by_cases e:x=y
   ·rw[e,beq_self_eq_true];exact .inr rfl
   ·rw[beq_eq_false_iff_ne.2 e];exact h.imp (λh=>(eO.1 h).resolve_left λz=>e (k8 z).1) id
  ·rw[Cw hk]
   exact uh r _ _ x (h.imp (λh=>(eO.1 h).resolve_left λz=>hk (beq_iff_eq.2 (k8 z).2.symm)) id)
noncomputable def Bound(h:Heap)(env:Env)(m cm:bx->Option ak)(e:aL):Prop:=∀i v,i<nN->e i=some v->
 (env.kindOf (nm i)=some .local->∃x,m (nm i)=some x/\aV h v x)/\(env.kindOf (nm i)≠some .local->∃x,cm (nm i)=some x/\aV h v x)
theorem Bound.set{h:Heap}{m cm:bx->Option ak}(hi:i<nN)(rx:aV h x v)(b:Bound h env m cm e):Bound h env (if env.kindOf (nm i)=some .local then λy=>if y=nm i then some v else m y else m) (if env.kindOf (nm i)=some .local then cm else λy=>if y=nm i then some v else cm y) (bA e i x):=λj y hj hy=>by
 by_cases q:j=i
 ·subst q
  rw[hJ]at hy;obtain rfl:=bt hy
  exact⟨λk=>by rw[if_pos k];exact⟨v,if_pos rfl,rx⟩,λk=>by rw[if_neg k];exact⟨v,if_pos rfl,rx⟩⟩
 ·rw[ox q]at hy
  have jH:nm j≠nm i:=λz=>q (oE hj hi z);have b:=b j y hj hy
  refine⟨λk=>?_,λk=>?_⟩
  ·split
   ·exact(b.1 k).imp λo z=>⟨(if_neg jH).trans z.1,z.2⟩
   ·exact b.1 k
  ·split
   ·exact b.2 k
   ·exact(b.2 k).imp λo z=>⟨(if_neg jH).trans z.1,z.2⟩
theorem Bound.go{h:Heap}:∀{ps:List Nat} {xs:List CV} {vs:List ak} {m cm:bx->Option ak} {e:aL},(∀i∈ps,i<nN)->xs.length=ps.length->aN h xs vs->Bound h env m cm e->
  Bound h env (bindL env.kindOf ((ps.map nm).zip vs) m) (bindC env.kindOf ((ps.map nm).zip vs) cm) (eW ps xs e)
 |[],_,_,_,_,_,_,_,_,b=>b
 |i::ps,[],_,_,_,_,_,hl,_,_=>rT hl
 |i::ps,x::xs,_,_,_,_,hs,hl,r,b=>by
  obtain⟨v,vs,rfl,rx,r⟩:=r.iT;exact Bound.go (ps:=ps) (xs:=xs) (λj hj=>hs j (.tail _ hj)) (Nat.succ.inj hl) r (b.set (hs i (.head _)) rx)
section
variable{c:Cx}{n:Nat}{A:bj}{σ:St}{s:aw}
structure vI(c:Cx)(f:Addr)(fd:pj)(body:List Stmt)(ks:Ks):Prop where
 at_:∃o,c.K.lookup f=some o/\o.data=.func fd
 body:fd.body=.stmts body
 Ri:fd.closure=[]
 glob:fd.globals=nV
 blt:fd.builtins=Fp
 code:codeIn c.K fd.code fd.qualname=true
 kind:fd.scope.kind=.function
 co:fd.scope.isCoroutine=false
 gen:fd.scope.isGenerator=false
 names:fd.scope.names=ks.map λp=>(nm p.1,p.2)
 small:∀p∈ks,p.1<nN
 free:∀p∈ks,p.2≠.free
noncomputable def ui(m:SM)(e:aL):VM:=λσ Q=>m e σ λfl z ae=>match fl with |.ret v=>Q v ae |.next=>Q .none ae |_=>False
noncomputable def Cy(c:Cx)(σ:St)(s:aw)(Q:CV->St->Prop):lj->aw->Prop:=λr s'=>match r with
 |.ok (.ret v)=>cC c σ s Q v s'
 |_=>False
noncomputable def bE(c:Cx)(n:Nat)(f:ak)(F:FM):Prop:=
 ∀⦃A:bj⦄ ⦃σ:St⦄ ⦃s:aw⦄ ⦃xs:List CV⦄ ⦃vs:List ak⦄ ⦃kx:KV⦄ ⦃kv:List (bx×ak)⦄ ⦃Q:CV->St->Prop⦄,fe n A->Rel c σ s.heap->aN s.heap xs vs->g6 s.heap kx kv->F xs kx σ Q->
  rS c.M A (.call f ⟨vs,kv⟩) (Cy c σ s Q) s
theorem bE.toF{c:Cx}{n:Nat}{F:FM}(h:bE c n f F):aU c n f F:=λA σ s xs vs kx kv Q hr R r rk q=>wpAny_call (AZ (h hr R r rk q) λr s' z=>by
 induction r with
 |error e=>exact z.elim
 |ok f=>cases f<;>first |exact z |exact z.elim)
theorem yi{f:Addr}{m:SM}(ok:vI c f fd body ks)(hm:eQ c n ks body m){ze:List ak}
  (dR:∀i∈ps,fO (ks.lookup i)=true)(ml:fe (n+1) A)(R:Rel c σ s.heap)(hb:rR s fd ⟨ze,kv⟩ ((ps.map nm).zip vs))(r:aN s.heap xs vs)(hl:xs.length=ps.length)(q:ui m (eW ps xs λy=>none) σ Q):
  rS c.M A (.call (.ref f) ⟨ze,kv⟩) (Cy c σ s Q) s:=by
 refine a9 ok.at_ λo ho hd=>?_;have X:=c.jY.keeps R.base
 have nj:∀i∈ps,i<nN:=λi hi=>by
  rcases oF (dR i hi)with h |h<;>exact ok.small _ (lookup_mem h)
 have zf:∀{i:Nat},i<nN->fd.scope.names.lookup (nm i)=ks.lookup i:=λ{i} hi=>by rw[ok.names];exact yQ ok.small hi
 refine codeAny_call_function ml.depth (X _ _ ho) hd ok.co ok.gen ok.body (codeRec_of X ok.code) (hb _ _ _ _ ?_);rw[ok.Ri,ok.glob,ok.blt]
 refine ale ok.kind (λx hx=>?_) λenv he s' ic=>?_
 ·have Ik:=(List.of_mem_zip (show(x.1,x.2)∈_ from hx)).1
  refine a9 (List.mem_map.mp Ik) λi hi Il=>?_;rw[<-Il,zf (nj i hi)]
  rcases oF (dR i hi)with h |h
  ·exact .inl h
  ·refine .inr ⟨h,uh _ _ _ _ (.inl ?_)⟩
   rw[ok.names];exact List.mem_map.mpr ⟨(i,.cell),lookup_mem h,rfl⟩
 ·have oG:env.scope=fd.scope:=by rw[he];rfl
  have jm:∀{i:Nat},i<nN->env.kindOf (nm i)=ks.lookup i:=λ{i} hi=>by unfold Env.kindOf;rw[oG];exact zf hi
  have hL:env.locals=s.heap.objs.size:=by rw[he];rfl
  have keep:=ic.toInCall.keep;have new:∀b,s.heap.objs.size<=b->s.heap.get? b=none:=λb hb=>EI hb
  have nu:s.heap.get? env.locals=none:=new _ (by rw[hL];exact cP _)
  have uj:∀{x a},env.cells.lookup x=some a->s.heap.get? a=none:=λ{x a} h=>new _ (by
   have:=ic.above _ _ (mem_of_lookup h);rw[hL]at this;exact iQ this)
  have R':Rel c σ s'.heap:=R.kept keep
  have e1:∃h' tk,s'={s with heap:=h',toks:=tk}:=ic.toInCall.same
  refine gF e1 λh' tk aq=>?_;clear e1;subst aq
  have B:Bound h' env _ _ (eW ps xs λy=>none):=Bound.go (m:=λy=>none) (cm:=λy=>none) nj hl (r.bQ λb items n e=>keep b _ e) λi v y hv=>by exact bo hv
  have ap:∀i j a,i<nN->j<nN->env.cells.lookup (nm i)=some a->env.cells.lookup (nm j)=some a->i=j:=λi j a hi hj h1 h2=>
   oE hi hj (name_of_addr ic.apart (mem_of_lookup h1) (mem_of_lookup h2))
  have uk:jj c env ks:=⟨by rw[oG];exact ok.names,ok.small,by rw[oG];exact ok.kind,by rw[he];rfl,by rw[he];rfl,ap⟩
  have fr:eY c env ks (eW ps xs λy=>none) σ h':=by
   refine⟨⟨_,ic.toInCall.ns,λi v hi hv=>?_⟩,R.fresh nu,R.out nu,λi hi=>?_⟩
   ·have ff:=uk.lt hi
    exact(B i v ff hv).1 (by rw[jm ff];exact hi)
   ·have um:ks.lookup i=some .cell:=by
     rcases hi with h |h
     ·exact h
     ·exact absurd rfl (ok.free _ (lookup_mem h))
    have ff:=uk.lt um
    have:(env.cells.lookup (nm i)).isSome=true:=by
     rw[he];refine uh _ _ _ _ (.inl ?_);rw[ok.names];exact List.mem_map.mpr ⟨(i,.cell),lookup_mem um,rfl⟩
    obtain⟨a,ha⟩:=Option.isSome_iff_exists.mp this;refine⟨a,_,ha,ic.cell _ _ ha,R.fresh (uj ha),R.out (uj ha),λv hv=>?_⟩
    exact(B i v ff hv).2 (by rw[jm ff,um];simp)
  have N:cO c n (A.deeper env) env ks (eW ps xs λy=>none) σ {s with heap:=h',toks:=tk}:=⟨ml.deeper,uk,fr,R'⟩
  refine⟨c.GN.keeps R'.base,codeAny_func ?_⟩;refine b0 (hm N q) (λf j4 hq=>?_) λy y z=>z.elim;obtain⟨fl,e',ae,rf,w,_,q'⟩:=hq
  have ext:Ext σ s.heap ae j4.heap:=lG.ext (Ext.kept keep) w.ext λb hb=>by
   rcases hb with rfl |⟨i,_,hc⟩
   ·exact nu
   ·exact uj hc
  have W:bK c σ s ae j4:=⟨w.rel,ext,w.gens,w.os⟩
  induction rf with
  |next=>exact⟨_,_,.none,W,q'⟩
  |brk=>exact q'.elim
  |cont=>exact q'.elim
  |ret r=>exact⟨_,_,r,W,q'⟩
noncomputable def bD(ps:List Nat)(m:SM):FM:=λxs kx σ Q=>xs.length=ps.length/\kx=[]/\ui m (eW ps xs λz=>none) σ Q
noncomputable def refOf:ak->Option Addr
 |.ref a=>some a
 |_=>none
theorem adS(h:refOf v=some a):v=.ref a:=by
 induction v with
 |ref b=>exact congrArg A6 (bt h)
 |_=>exact nomatch (show(none:Option Addr)=some a from h)
noncomputable def Rj:Data->Option (Array ak)
 |.seq xs _=>some xs
 |_=>none
theorem adT{xs:Array ak}{d:Data}(h:Rj d=some xs):∃n,d=.seq xs n:=by
 induction d with
 |seq ys n=>exact⟨n,congrArg (λz=>Data.seq z n) (bt h)⟩
 |_=>exact nomatch (show(none:Option (Array ak))=some xs from h)
noncomputable def FL(K:Frag)(v:ak):Option (Array ak):=(refOf v).bind λT=>(K.lookup T).bind λo=>Rj o.data
theorem Nr{xs:Array ak}(h:FL K v=some xs):∃T o n,v=.ref T/\K.lookup T=some o/\o.data=.seq xs n:=
 (vj.1 h).elim λT h=>(vj.1 h.2).elim λo z=>(adT z.2).elim λn d=>⟨T,o,n,adS h.1,z.1,d⟩
noncomputable def vJ(K:Frag)(v:ak):Bool:=v==.none||(FL K v).isSome
theorem Rk(h:vJ c.K fd.defaults=true)(R:Rel c σ s.heap):∃od,DfltIs s fd.defaults od:=by
 rcases Bool.or_eq_true_iff.1 h with h |h
 ·rw[n9 h];exact⟨none,λh=>aC (aO (aO h))⟩
 ·obtain⟨xs,h⟩:=Lh.1 h
  refine f9 (Nr h) λT o n e q d=>?_;rw[e];exact⟨some xs,λh=>E7 ((c.jY.keeps R.base) _ _ q) d h⟩
theorem bE.def{f:Addr}{m:SM}(ok:vI c f fd body ks)(hm:eQ c n ks body m)(ps:List Nat)(dR:∀i∈ps,fO (ks.lookup i)=true)(hn:ps.Nodup)
  (hp:qz fd.params=true)(ha:fd.params.args.map (λx=>x.arg)=ps.map nm)(hd:vJ c.K fd.defaults=true):bE c (n+1) (.ref f) (bD ps m):=λA σ s xs vs kx kv Q hr R r rk q=>by
 obtain⟨hl,rfl,q⟩:=q;cases rk
 have nj:∀i∈ps,i<nN:=λi hi=>by
  rcases oF (dR i hi)with h |h<;>exact ok.small _ (lookup_mem h)
 exact yi ok hm dR hr R (Rh hp ha nj hn (by rw[<-r.length,hl]) (Rk hd R)) r hl q
end
end
section
open PySem.SeqAt
section
variable{c:Cx}{n:Nat}{ks:Ks}{A:bj}{env:Env}{e:aL}{σ:St}{s:aw}
noncomputable def x9(C f:Nat):Bool:=yp.contains (C,f)
theorem Np{C f:Nat}(h:x9 C f=true):(C,f)∈yp:=by simpa[x9]using h
noncomputable def eV(C:Addr)(F:FM):FM:=λxs kx σ Q=>∀a d,a≠d->σ a=none->σ d=none->F (.loc a::xs) kx (upd (upd σ d (.iV [])) a (.inst C d)) λv ae=>v=.none/\Q (.loc a) ae
theorem aU.make{f:Addr}{F:FM}(hi:x9 C f=true)(hF:bE c n (.ref f) F):aU c (n+1) (.ref C) (eV C F):=λA σ s xs vs kx kv Q hr R r rk q=>by
 refine xX (c.FN _ _ (Np hi)) λk1 k2 k3 k4=>?_;have X:=c.jY.keeps R.base;obtain⟨h,g,d,t,os⟩:=s;refine wpAny_call (make_core (makes_of X k1) (looks_findIn X k2) (λself=>bind_fn X self (beq_iff_eq.mp k3)) (.inl rfl) ?_);have n1:h.get? h.objs.size=none:=kK h;have n2:h.get? (h.objs.size+1)=none:=EI (nW _);have s1:(h.push lV).objs.size=h.objs.size+1:=tz ..;have g1:(h.push lV).get? h.objs.size=some lV:=fX _ rfl
 have g2:((h.push lV).push (mU C h.objs.size)).get? (h.objs.size+1)=some (mU C h.objs.size):=by
  have:=fX (h.push lV) (o:=mU C h.objs.size) rfl;rwa[s1]at this
 have g3:((h.push lV).push (mU C h.objs.size)).get? h.objs.size=some lV:=dY _ g1;have keep:∀b o,h.get? b=some o->((h.push lV).push (mU C h.objs.size)).get? b=some o:=λb o e=>dY _ (dY _ e);have jH:h.objs.size+1≠h.objs.size:=Zd _;have R0:Rel c σ ((h.push lV).push (mU C h.objs.size)):=R.kept keep
 have R1:Rel c (upd σ h.objs.size (.iV [])) ((h.push lV).push (mU C h.objs.size)):=by
  refine R0.new ⟨R.out n1,λy=>none,⟨_,_,_,g3,rfl,λe he=>by simp at he,λy=>rfl⟩,λi hi=>rfl,λo es ep ho hd=>?_⟩
  obtain rfl:=bt (g3.symm.trans ho);cases hd;exact cP _
 have R2:Rel c (upd (upd σ h.objs.size (.iV [])) (h.objs.size+1) (.inst C h.objs.size)) ((h.push lV).push (mU C h.objs.size)):=R1.new ⟨R.out n2,g2⟩
 have x1:Ext σ h (upd (upd σ h.objs.size (.iV [])) (h.objs.size+1) (.inst C h.objs.size)) ((h.push lV).push (mU C h.objs.size)):=
  ((Ext.kept keep).new n1 (R.fresh n1)).new n2 (R.fresh n2)
 have W:bK c σ ⟨h,g,d,t,os⟩ (upd (upd σ h.objs.size (.iV [])) (h.objs.size+1) (.inst C h.objs.size)) ⟨(h.push lV).push (mU C h.objs.size),g,d,t,os⟩:=⟨R2,x1,rfl,rfl⟩;have q':=q (h.objs.size+1) h.objs.size jH (R.fresh n2) (R.fresh n1)
 have ml:fe n (A.under (.builtin "type.__call__" ⟨.ref C::vs,kv⟩)):=by
  refine⟨?_,?_,hr.h⟩
  ·have:=hr.d;show A.depth+1+n<_;exact l1 this (by simp+arith only)
  ·have:=hr.u;show A.units+_+20*n<_
   have:(Code.builtin "type.__call__" ⟨.ref C::vs,kv⟩).cUnits=1:=by first |rfl |simp[Code.cUnits,Code.frames,Code.isFrame]
   rw[this];exact l1 hr.u (by simp+arith only)
 have tu:gr h ((h.push lV).push (mU C h.objs.size)):=λb y y e=>keep b _ e
 have rk':∀{kx:KV} {kv:List (bx×ak)},g6 h kx kv->g6 ((h.push lV).push (mU C h.objs.size)) kx kv:=λr=>by
  induction r with
  |nil=>exact .nil
  |cons hi e _ ih=>exact .cons hi (e.bQ tu) ih
 refine AZ (hF ml R2 (aN.cons (.loc _) (r.bQ tu)) (rk' rk) q') λr s' z=>?_
 induction r with
 |error e=>exact z.elim
 |ok f=>
  induction f with
  |ret v=>
   obtain⟨x,ae,rv,w,rfl,hq⟩:=z;cases rv
   exact⟨rfl,_,_,.loc _,W.trans w,hq⟩
  |_=>exact z.elim
theorem Rm{h:Heap}:∀{is:List Nat} {xs:List CV} {vs:List ak},(∀i∈is,i<nN)->aN h xs vs->xs.length=is.length->g6 h (is.zip xs) ((is.map nm).zip vs)
 |[],_,_,_,_,_=>.nil
 |i::is,_,_,hi,.cons e r,hl=>.cons (hi i (.head _)) e (Rm (λj hj=>hi j (.tail _ hj)) r (by simpa using hl))
noncomputable def pw(c:Cx)(n:Nat)(ks:Ks)(jW:List Keyword)(is:List Nat)(ms:cV):Prop:=
 (∀(env:Env) (pos:Pos),(lX pos (lU jW env)).filterMap (λx=>x.1)=is.map nm)/\(∀(env:Env) (pos:Pos),(lX pos (lU jW env)).all (λx=>x.1.isSome)=true)/\(∀i∈is,i<nN)/\
 ∀{A:bj} {env:Env} {e:aL} {σ:St} {s:aw} {Q:List CV->St->Prop} (pos:Pos),cO c n A env ks e σ s->ms e σ Q->aM c.M A (evalAll ((lX pos (lU jW env)).map (λx=>x.2))) (yS c σ s λxs ae=>xs.length=is.length/\Q xs ae) No s
theorem pw.nil:pw c n ks [] [] ar:=⟨λz z=>rfl,λz z=>rfl,λz h=>(cA h),λpos N q=>wpAny_evalAll_nil ⟨[],_,.nil,.refl N.rel,rfl,q⟩⟩
theorem pw.cons{x:Expr}{p:Pos}{name:bx}{r:List Keyword}{is:List Nat}{m:EM}{ms:cV}(i:Nat)(hx:nm i=name)(hi:i<nN)(h1:aH c n ks x m)(h2:pw c n ks r is ms):
  pw c n ks (⟨some name,x,p⟩::r) (i::is) (ag m ms):=by
 obtain⟨k1,k2,k3,k4⟩:=h2
 refine⟨λenv pos=>?_,λenv pos=>?_,λj hj=>?_,λpos N q=>?_⟩
 ·subst hx;exact congrArg (List.cons (nm i)) (k1 env pos)
 ·exact k2 env pos
 ·rcases List.mem_cons.mp hj with rfl |hj
  ·exact hi
  ·exact k3 j hj
 ·refine wpAny_evalAll_cons ?_
  refine aC (wp_step (h1 N q) λx v ao s1 r1 w1 q1=>aC (k0 (aO (t5 (k4 pos (N.bu w1) q1) λxs vs ay s2 r2 w2 q2=>?_))))
  exact⟨x::xs,ay,.cons (r1.bu w1.rel w2) r2,w1.trans w2,by simp[q2.1],q2.2⟩
noncomputable def Cz(F:FM)(ms:cV)(is:List Nat)(mk:cV):EM:=λe σ Q=>ms e σ λxs ao=>mk e ao λys ay=>F xs (is.zip ys) ay Q
theorem aH.aas{fx a:Expr}{args:List Expr}{jW:List Keyword}{pos:Pos}{x:CV}{f:ak}{F:FM}{m:Nat}{ms mk:cV}{is:List Nat}(hf:aH c n ks fx (au x))(hx:tN x=some f)(hk:dw c f)(hF:aU c m f F)(hm:m<=n)
  (h:gZ c n ks (a::args) ms)(pX:pw c n ks jW is mk)
  (he:autoParam (∀env,eval (.Call fx (a::args) jW pos) env=(do lW pos (<-eval fx env) [] (dZ pos (cU (a::args) env)) (lX pos (lU jW env)))) aI)
  (hp:autoParam (∀env,((dZ pos (cU (a::args) env)).any (λx=>x.1)||(lX pos (lU jW env)).any (λx=>x.1.isNone))=false) aI)
  (hs:autoParam (∀env,cU (a::args) env=(false,eval a env)::cU args env) aI):aH c n ks (.Call fx (a::args) jW pos) (Cz F ms is mk):=λA env e σ s Q N q=>by
 obtain⟨k1,k2,k3,k4⟩:=pX;rw[he];refine aC (wp_step (hf (Q:=λy ae=>y=x/\ae=σ) N ⟨rfl,rfl⟩) λy v ao s1 r1 w1 q1=>?_);obtain⟨rfl,rfl⟩:=q1;rw[Cs r1 hx];refine iE w1 (callWith_of (P:=c.K.In) (hp env) hk (evalArgs_kw2 (k2 env pos) (t5 (h pos (N.bu w1) q) λxs vs ay s2 r2 w2 q2=>t5 (k4 pos ((N.bu w1).bu w2) q2) λys ws aQ s3 r3 w3 q3=>?_) (hs env)))
 refine⟨c.jY.keeps w3.rel.base,iE (w2.trans w3) (hF ((N.room.le hm)) w3.rel (by simpa using r2.bu w2.rel w3) ?_ q3.2)⟩
 rw[k1 env pos];exact Rm k3 r3 q3.1
end
end
set_option tactic.hygienic true
section
open PySem.SeqAt
theorem CJ:∀(names:List (bx×fy)) (n:Nat) (acc:List (bx×Addr)),jR n names acc=jR n names []++acc
 |[],_,acc=>rfl
 |(x,k)::r,n,acc=>by
  by_cases hk:(k==.cell)=true
  ·rw[Cv hk,Cv hk,CJ r (n+1) ((x,n)::acc),CJ r (n+1) [(x,n)],fK];rfl
  ·rw[Cw hk,Cw hk];exact CJ r n acc
theorem Im:∀(names:List (bx×fy)) (n:Nat) (acc:List (bx×Addr)) (x:bx) (a:Addr),(x,a)∈jR n names acc->(x,a)∈acc\/(x,Fb)∈names
 |[],_,acc,x,a,h=>.inl h
 |(y,k)::r,n,acc,x,a,h=>by
  by_cases hk:(k==.cell)=true
  ·rw[Cv hk]at h
   rcases Im r _ _ x a h with h |h
   ·rcases List.mem_cons.mp h with h |h
    ·cases h;right;rw[n9 hk];exact .head _
    ·exact .inl h
   ·exact .inr (.tail _ h)
  ·rw[Cw hk]at h
   rcases Im r _ _ x a h with h |h
   ·exact .inl h
   ·exact .inr (.tail _ h)
theorem Rn{α:Type}:∀{l:List (bx×α)} {x:bx},(∀a,(x,a)∉l)->l.lookup x=none
 |[],_,_=>rfl
 |(y,a)::r,x,h=>by
  rw[kj]
  split
  ·rename_i q;exact absurd (by rw[n9 q];exact .head _) (h a)
  ·exact Rn λb hb=>h b (.tail _ hb)
theorem Io{α:Type}:∀(l m:List (bx×α)) (x:bx),(l++m).lookup x=(l.lookup x).or (m.lookup x)
 |[],m,x=>rfl
 |(y,a)::r,m,x=>by
  rw[xK,kj,kj]
  split
  ·rfl
  ·exact Io r m x
theorem Ip:∀(names:List (bx×fy)),(∀x,(x,qu)∈names->(env.cells.lookup x).isSome=true)->∀acc:List (bx×Addr),(∀x a,(x,a)∈acc->env.cells.lookup x=some a)->
  ∃cl:List (bx×Addr),(forIn names acc (λ(x:bx×fy) cs=>if(x.2==.free)=true then(do let a <-cellOf env x.1;pure (.yield ((x.1,a)::cs)))else pure (.yield cs)):Sem _)=pure cl/\
   (∀x a,(x,a)∈cl->env.cells.lookup x=some a)/\(∀x,(x,qu)∈names\/(∃a,(x,a)∈acc)->∃a,(x,a)∈cl)/\(∀x a,(x,a)∈cl->(x,qu)∈names\/∃b,(x,b)∈acc)
 |[],_,acc,h=>⟨acc,rfl,h,(λx h=>by rcases h with h |h;exact cA h;exact h),λx a h=>.inr ⟨a,h⟩⟩
 |(y,k)::r,hh,acc,h=>by
  rw[L6]
  by_cases hk:k=.free
  ·subst hk
   obtain⟨a,ha⟩:=Option.isSome_iff_exists.mp (hh y (.head _))
   have e1:cellOf env y=pure a:=by unfold cellOf;rw[ha]
   obtain⟨cl,h1,h2,h3,h4⟩:=Ip r (λx hx=>hh x (.tail _ hx)) ((y,a)::acc) (λx b hb=>by
    rcases List.mem_cons.mp hb with hb |hb
    ·cases hb;exact ha
    ·exact h x b hb)
   refine⟨cl,?_,h2,λx hx=>h3 x ?_,λx b hx=>?_⟩
   rotate_right
   ·rcases h4 x b hx with h |⟨b',h⟩
    ·exact .inl (.tail _ h)
    ·rcases List.mem_cons.mp h with h |h
     ·cases h;exact .inl (.head _)
     ·exact .inr ⟨_,h⟩
   ·simp only[e1,A7]
    rw[if_pos (by rfl)]
    simp only[A7]
    exact h1
   ·rcases hx with hx |⟨b,hb⟩
    ·rcases List.mem_cons.mp hx with hx |hx
     ·cases hx;exact .inr ⟨a,.head _⟩
     ·exact .inl hx
    ·exact .inr ⟨b,.tail _ hb⟩
  ·refine cz (Ip r (λx hx=>hh x (.tail _ hx)) acc h) λcl h1 h2 h3 h4=>?_
   refine⟨cl,?_,h2,λx hx=>h3 x ?_,λx b hx=>(h4 x b hx).imp (λh=>.tail _ h) id⟩
   ·rw[if_neg (by simpa using hk)]
    simp only[A7]
    exact h1
   ·rcases hx with hx |hx
    ·rcases List.mem_cons.mp hx with hx |hx
     ·cases hx;exact absurd rfl hk
     ·exact .inl hx
    ·exact .inr hx
theorem adU(h:∀x,(x,qu)∈scope.names->(env.cells.lookup x).isSome=true):
  ∃cl:List (bx×Addr),closureFor scope env=pure cl/\(∀x a,(x,a)∈cl->env.cells.lookup x=some a)/\(∀x,(x,qu)∈scope.names->∃a,(x,a)∈cl)/\(∀x a,(x,a)∈cl->(x,qu)∈scope.names):=by
 refine cz (Ip (env:=env) scope.names h [] (λz z h=>cA h)) λcl h1 h2 h3 h4=>?_;refine⟨cl,?_,h2,λx hx=>h3 x (.inl hx),λx a hx=>(h4 x a hx).elim id λ⟨_,h⟩=>cA h⟩;unfold closureFor
 have:(forIn scope.names ([]:List (bx×Addr)) (λ(x:bx×fy) cs=>if(x.2==.free)=true then(do let a <-cellOf env x.1;pure (.yield ((x.1,a)::cs)))else pure (.yield cs)):Sem _)=pure cl:=h1
 simp only[]at this ⊢
 rw[show(forIn scope.names ([]:List (bx×Addr)) (λ(x:bx×fy) r=>
   match x with
   |(name,kind)=>if(kind==qu)=true then do let adV <-cellOf env name;pure (E1 ((name,adV)::r))else pure (E1 r)):Sem _)=pure cl from this]
 simp
section
variable{M:fA}{A:bj}{E:ak->aw->Prop}{s:aw}
theorem adW{globals:Addr}{cl:List (bx×Addr)}{qual:bx}{outer:Env}{Q:Env->aw->Prop}
  (hQ:CellsOk (pushCells (s.heap.push {cls:=.type "dict",data:=.dict #[]}) scope.names) (s.heap.objs.size+1) (jR (s.heap.objs.size+1) scope.names [])->
   Q {scope,locals:=s.heap.objs.size,globals,cells:=jR (s.heap.objs.size+1) scope.names []++cl,qual,func:=none,code:=outer.code,frame:=outer.frame,builtins:=outer.builtins}
    {s with heap:=pushCells (s.heap.push {cls:=.type "dict",data:=.dict #[]}) scope.names}):
  aM M A (newFunctionEnv scope globals cl [] qual none .none (some outer)) Q E s:=by
 simp only[newFunctionEnv,YY,if_true];refine aC (wpAny_alloc ?_)
 refine aC (wpAny_layCells _ (λname kind cells=>by cases wD:kind==Fb<;>simp[wD]) _ _ _ _ ?_)
 have ok:=cellsFrom_ok scope.names (s.heap.push {cls:=.type "dict",data:=.dict #[]}) (s.heap.objs.size+1) [] ⟨λz z hm=>(cA hm),Y4⟩ (by rw[tz];exact cP _)
 rw[tz]at ok
 rw[show({s with heap:=s.heap.push {cls:=.type "dict",data:=.dict #[]}}:aw).heap.objs.size=s.heap.objs.size+1 from tz ..]
 rw[CJ];refine aC ?_;rw[List.forIn_nil];exact aO (aO (hQ ok))
end
end
set_option tactic.hygienic false
section
open PySem.SeqAt
noncomputable def hM(ok:St->Prop)(a:AM)(t:TM)(el:EM)(Q:List CV->St->Prop):List CV->aL->List CV->St->Prop
 |[],_,acc,σ=>ok σ/\Q acc σ
 |v::vs,e,acc,σ=>ok σ/\acc.length<=1000/\a v e σ λe1 ao=>t e1 ao λb ay=>if b=true then el e1 ay λx aQ=>hM ok a t el Q vs e1 (acc++[x]) aQ else hM ok a t el Q vs e1 acc ay
noncomputable def de:TM:=λz σ Q=>Q true σ
noncomputable abbrev Ro(ifs:List Expr)(env:Env):Sem Bool:=forIn ifs true λc r=>if r=true then do let ok <-isTrue c env (eval c env);pure (E1 ok)else pure (E1 r)
noncomputable def mZ(c:Cx)(n:Nat)(ks:Ks)(ifs:List Expr)(m:TM):Prop:=
 ∀⦃A:bj⦄ ⦃env:Env⦄ ⦃e:aL⦄ ⦃σ:St⦄ ⦃s:aw⦄ ⦃Q:Bool->St->Prop⦄,cO c n A env ks e σ s->m e σ Q->aM c.M A (Ro ifs env) (mf c σ s Q) No s
noncomputable def wF:fy->fy
 |.free=>.cell
 |k=>k
noncomputable def dO(raw:Ks):Ks:=raw.map λp=>(p.1,wF p.2)
structure om(ks:Ks)(raw:Ks)(scope:Scope):Prop where
 names:scope.names=raw.map λp=>(nm p.1,p.2)
 kind:scope.kind=.function
 small:∀p∈raw,p.1<nN
 nodup:(raw.map (λx=>x.1)).Nodup
 free:∀p∈raw,p.2=.free->ks.lookup p.1=some .cell
noncomputable def lC(raw:Ks)(e:aL):aL:=λi=>if fO (raw.lookup i)=true then none else e i
theorem adX(raw:Ks)(i:Nat):(dO raw).lookup i=(raw.lookup i).map wF:=by
 unfold dO
 induction raw with
 |nil=>rfl
 |cons p r ih=>
  obtain⟨j,k⟩:=p;rw[gC,kj,kj]
  cases i==j
  ·exact ih
  ·rfl
theorem mem_lookup{α β:Type}[BEq α][LawfulBEq α]{l:List (α×β)}(hn:(l.map (λx=>x.1)).Nodup){i:α}{k:β}(h:(i,k)∈l):l.lookup i=some k:=by
 induction l with
 |nil=>exact cA h
 |cons p r ih=>
  have hn:=mN.1 hn
  rcases List.mem_cons.mp h with rfl |h
  ·exact List.lookup_cons_self
  ·rw[kj,beq_eq_false_iff_ne.mpr λq=>hn.1 (List.mem_map.mpr ⟨(i,k),h,q⟩)]
   exact ih hn.2 h
theorem Iq{k:fy}(h:(dO raw).lookup i=some k):∃k',raw.lookup i=some k'/\wF k'=k:=tg.1 (adX raw i▸h)
theorem adY:∀{k:fy},wF k=.local->k=.local
 |.local,_=>rfl
theorem adZ:∀{k:fy},wF k=.cell->k=.cell\/k=.free
 |.cell,_=>.inl rfl
 |.free,_=>.inr rfl
theorem ad0:∀{k:fy},wF k=.free->False
 |.local,h |.cell,h |.free,h |.globalImplicit,h |.globalExplicit,h=>nomatch h
theorem Ir(h:(dO raw).lookup i=some .cell\/(dO raw).lookup i=some .free):raw.lookup i=some .cell\/raw.lookup i=some .free:=
 h.elim (λh=>(Iq h).elim λk z=>(adZ z.2).imp (λe=>z.1.trans (congrArg some e)) λe=>z.1.trans (congrArg some e)) λh=>(Iq h).elim λk z=>(ad0 z.2).elim
theorem om.look{ks:Ks}(ok:om ks raw scope)(hi:i<nN):scope.names.lookup (nm i)=raw.lookup i:=by rw[ok.names];exact yQ ok.small hi
theorem om.mem{ks:Ks}(ok:om ks raw scope){x:bx}{k:fy}(h:(x,k)∈scope.names):∃i,i<nN/\nm i=x/\raw.lookup i=some k:=by
 rw[ok.names]at h;obtain⟨⟨i,k'⟩,h1,h2⟩:=List.mem_map.mp h;refine xa (k8 h2) λaq qN=>?_;subst aq;subst qN;exact⟨i,ok.small _ h1,rfl,mem_lookup ok.nodup h1⟩
section
variable{c:Cx}{n:Nat}{ks:Ks}{A:bj}{env:Env}{e:aL}{σ:St}{s:aw}
theorem mZ.nil:mZ c n ks [] de:=λA env e σ s Q N q=>wpAny_tests_nil ⟨_,.refl N.rel,q⟩
theorem mZ.one{x:Expr}{m:TM}(h:gI c n ks x m):mZ c n ks [x] m:=λA env e σ s Q N q=>wpAny_tests_one (h _ rfl N q)
theorem Rp{α β:Type}[BEq α][LawfulBEq α]{x:α}{b:β}:∀{l:List (α×β)},(x,b)∈l->∃a,l.lookup x=some a
 |p::l,h=>by
  by_cases e:x=p.1
  ·exact⟨p.2,by rw[kj,e,beq_self_eq_true]⟩
  ·rw[kj,beq_eq_false_iff_ne.2 e]
   exact Rp ((eO.1 h).resolve_left λz=>e (congrArg Prod.fst z))
structure Rq(c:Cx)(env:Env)(ks raw:Ks)(σ:St)(s:aw)(L:Addr)(h':Heap)(cells:List (bx×Addr)):Prop where
 keep:∀b o,s.heap.get? b=some o->h'.get? b=some o
 own:∀{i:Nat},i<nN->raw.lookup i=some .cell->∃a,cells.lookup (nm i)=some a/\h'.IsCell a none/\s.heap.get? a=none
 apart:∀{i j:Nat} {a:Addr},i<nN->j<nN->raw.lookup i=some .cell->raw.lookup j=some .cell->cells.lookup (nm i)=some a->cells.lookup (nm j)=some a->i=j
 out:∀{i:Nat} {a:Addr},i<nN->raw.lookup i≠some .cell->cells.lookup (nm i)=some a->env.cells.lookup (nm i)=some a/\∃o,s.heap.get? a=some o
 got:∀{i:Nat},i<nN->raw.lookup i=some .free->∃a,cells.lookup (nm i)=some a/\env.cells.lookup (nm i)=some a
theorem ad1(ok:om ks raw scope)(N:cO c n A env ks e σ s){cl:List (bx×Addr)}(h2:∀x a,(x,a)∈cl->env.cells.lookup x=some a)(h3:∀x,(x,qu)∈scope.names->∃a,(x,a)∈cl)(h4:∀x a,(x,a)∈cl->(x,qu)∈scope.names)
  (keep:∀b o,s.heap.get? b=some o->h'.get? b=some o)(co:CellsOk h' (s.heap.objs.size+1) (jR (s.heap.objs.size+1) scope.names [])):Rq c env ks raw σ s s.heap.objs.size h' (jR (s.heap.objs.size+1) scope.names []++cl):=by
 have oy:∀{i:Nat},i<nN->raw.lookup i≠some .cell->(jR (s.heap.objs.size+1) scope.names []++cl).lookup (nm i)=cl.lookup (nm i):=λ{i} hi jH=>by
  rw[Io,Rn λa ha=>?_];rfl;refine(Im _ _ _ _ _ ha).elim (λh=>cA h) λh=>?_;refine bF (ok.mem h) λj hj hx hl=>?_;exact jH (oE hj hi hx▸hl)
 have own:∀{i:Nat},i<nN->raw.lookup i=some .cell->∃a,(jR (s.heap.objs.size+1) scope.names []++cl).lookup (nm i)=some a/\(nm i,a)∈jR (s.heap.objs.size+1) scope.names []:=λ{i} hi hl=>by
  have hm:(nm i,Fb)∈scope.names:=by rw[ok.names];exact List.mem_map.mpr ⟨(i,.cell),lookup_mem hl,rfl⟩
  obtain⟨a,ha⟩:=Option.isSome_iff_exists.mp (uh scope.names (s.heap.objs.size+1) [] (nm i) (.inl hm))
  exact⟨a,by rw[Io,ha];rfl,mem_of_lookup ha⟩
 have mem:∀{i a},i<nN->raw.lookup i=some .cell->(jR (s.heap.objs.size+1) scope.names []++cl).lookup (nm i)=some a->(nm i,a)∈jR (s.heap.objs.size+1) scope.names []:=λhi hl h=>(own hi hl).elim λb z=>bt (z.1.symm.trans h)▸z.2
 refine⟨keep,λhi hl=>(own hi hl).imp λa z=>⟨z.1,(co.empty _ _ z.2).1,EI (AG (co.empty _ _ z.2).2)⟩,λhi hj ci cj ai aj=>oE hi hj (name_of_addr co.apart (mem hi ci ai) (mem hj cj aj)),λ{i a} hi jH h=>?_,λ{i} hi hf=>?_⟩
 ·rw[oy hi jH]at h
  have hm:=mem_of_lookup h;have he:=h2 _ _ hm;refine bF (ok.mem (h4 _ _ hm)) λj hj hx hl=>?_;rw[oE hj hi hx]at hl;obtain⟨a',x,g1,⟨o,ho,_⟩,_⟩:=N.fr.cells i (.inl (ok.free _ (lookup_mem hl) rfl))
  exact⟨he,o,bt (he.symm.trans g1)▸ho⟩
 ·have hm:(nm i,qu)∈scope.names:=by rw[ok.names];exact List.mem_map.mpr ⟨(i,.free),lookup_mem hf,rfl⟩
  obtain⟨b,hb⟩:=h3 _ hm;obtain⟨a,ha⟩:=Rp hb
  exact⟨a,by rw[oy hi (by rw[hf];exact λz=>nomatch z)];exact ha,h2 _ _ (mem_of_lookup ha)⟩
theorem ad2(ok:om ks raw scope)(N:jj c env ks):(relabel scope env).names=(dO raw).map λp=>(nm p.1,p.2):=by
 show scope.names.map _=_;rw[ok.names];unfold dO;rw[dp,dp];refine pd λp hp=>?_;obtain⟨i,k⟩:=p;have e1:=N.kindOf (ok.small _ hp)
 induction k with
 |free=>
  rw[ok.free _ hp rfl]at e1;show _=(nm i,Fb)
  simp[N.kind,e1]
 |_=>rfl
theorem ad3(ok:om ks raw scope)(N:cO c n A env ks e σ s){cenv:Env}(C:Rq c env ks raw σ s s.heap.objs.size h' cenv.cells)(hn:h'.Ns s.heap.objs.size λu=>none)
  (y4:cenv.scope=relabel scope env)(hL:cenv.locals=s.heap.objs.size)(hg:cenv.globals=env.globals)(hb:cenv.builtins=env.builtins):
  cO c n A cenv (dO raw) (lC raw e) σ {s with heap:=h'}/\
   (∀b,jV raw (dO raw) cenv b->s.heap.get? b=none)/\s.heap.get? cenv.locals=none/\
   (∀i b,((dO raw).lookup i=some .cell\/(dO raw).lookup i=some .free)->cenv.cells.lookup (nm i)=some b->s.heap.get? b=none\/(ks.lookup i=some .cell/\env.cells.lookup (nm i)=some b)):=by
 have nu:s.heap.get? cenv.locals=none:=hL▸kK _;have small:∀{i k},raw.lookup i=some k->i<nN:=λh=>ok.small _ (lookup_mem h);have ne:∀{i},raw.lookup i=some .free->raw.lookup i≠some .cell:=λh z=>nomatch h.symm.trans z
 have none_:∀{i k},raw.lookup i=some k->fO (some k)=true->lC raw e i=none:=λh z=>if_pos (by rw[h];exact z)
 refine⟨⟨N.room,⟨by rw[y4];exact ad2 ok N.ok,λp hp=>?_,by rw[y4];exact ok.kind,hg.trans N.ok.glob,hb.trans N.ok.blt,λi j a hi hj ai aj=>?_⟩,⟨⟨λu=>none,hL▸hn,λi v hl hv=>?_⟩,N.rel.fresh nu,N.rel.out nu,λi hi=>?_⟩,N.rel.kept C.keep⟩,λb hb=>?_,nu,λi b hi hb=>?_⟩
 ·refine a9 (List.mem_map.mp hp) λq hq aq=>?_;subst aq
  exact ok.small q hq
 ·by_cases c1:raw.lookup i=some .cell<;>by_cases c2:raw.lookup j=some .cell
  ·exact C.apart hi hj c1 c2 ai aj
  ·obtain⟨_,o,ho⟩:=C.out hj c2 aj
   obtain⟨a1,e1,_,z⟩:=C.own hi c1;cases ai.symm.trans e1
   exact bo (z.symm.trans ho)
  ·obtain⟨_,o,ho⟩:=C.out hi c1 ai
   obtain⟨a1,e1,_,z⟩:=C.own hj c2;cases aj.symm.trans e1
   exact bo (z.symm.trans ho)
  ·exact N.ok.apart i j a hi hj (C.out hi c1 ai).1 (C.out hj c2 aj).1
 ·refine a9 (Iq hl) λk hk e1=>?_
  cases adY e1
  exact bo ((none_ hk rfl).symm.trans hv)
 ·rcases Ir hi with h |h
  ·refine bF (C.own (small h) h) λa e1 e2 hn=>?_
   exact⟨a,none,e1,e2,N.rel.fresh hn,N.rel.out hn,λv hv=>by rw[none_ h rfl]at hv;cases hv⟩
  ·refine a9 (C.got (small h) h) λa hl he=>?_
   obtain⟨a',x,g1,⟨o,ho,hd⟩,g3,g4,g5⟩:=N.fr.cells i (.inl (ok.free _ (lookup_mem h) rfl));cases he.symm.trans g1;refine⟨a,x,hl,⟨o,C.keep _ _ ho,hd⟩,g3,g4,λv hv=>(g5 v ?_).imp λy z=>⟨z.1,z.2.bQ λb u u eb=>C.keep b _ eb⟩⟩
   rwa[lC,if_neg (by rw[h];exact gY)]at hv
 ·rcases hb with rfl |⟨i,h1,h2,h3⟩
  ·exact nu
  ·rcases Ir (.inl h2)with h |h
   ·refine bF (C.own (small h) h) λa e1 zz hn=>?_
    cases h3.symm.trans e1;exact hn
   ·rw[h]at h1;exact eP h1
 ·rcases Ir hi with h |h
  ·refine bF (C.own (small h) h) λa e1 zz hn=>?_
   cases hb.symm.trans e1;exact .inl hn
  ·exact .inr ⟨ok.free _ (lookup_mem h) rfl,(C.out (small h) (ne h) hb).1⟩
end
end
section
open PySem.SeqAt
section
variable{c:Cx}{n:Nat}{ks:Ks}{A:bj}{env:Env}{e:aL}{σ:St}{s:aw}
theorem Iu{h:Heap}{b:Addr}(k:∀b o,h.get? b=some o->∃o',h'.get? b=some o')(e:h'.get? b=none):h.get? b=none:=by
 cases q:h.get? b with
 |none=>rfl
 |some o=>exact(k _ _ q).elim λo' z=>bo (e.symm.trans z)
noncomputable abbrev isNew(s:aw):Addr->Prop:=λb=>s.heap.get? b=none
theorem c8.ad4{σ:St}{s:aw}(w:c8 c (isNew cg) σ₀ cg σ s):bK c σ₀ cg σ s:=⟨w.rel,lG.ext (.refl _ _) w.ext λz h=>h,w.gens,w.os⟩
theorem c8.shift{t:Nat}(w:c8 c (isNew cg) σ₀ cg σ s)(R:Rel c σ h')(k:∀b o,cg.heap.get? b≠none->s.heap.get? b=some o->h'.get? b=some o):c8 c (isNew cg) σ₀ cg σ {s with heap:=h',toks:=t}:=
 ⟨R,⟨λb o nx e z=>k b o nx (w.ext.keep b o nx e z),w.ext.gg,w.ext.fc,λb o e=>let⟨o',e'⟩:=w.ext.more b o e;⟨o',k b o' (by rw[e];simp) e'⟩⟩,w.gens,w.os⟩
theorem ad5{A:bj}{R:lj->aw->Prop}{s:aw}{pos:Pos}{it acc:ak}{env:Env}(I:Nat->aw->Prop)
  (turn:∀n s,I n s->aM (model prog w) A (mV it) (λr bq=>match r with
   |none=>R (.ok .next) bq
   |some v=>aM (model prog w) A (L5 target it v) (λz zg=>aM (model prog w) A (AY target env v) (λz bg=>
     aM (model prog w) A (Ro ifs env) (λok fu=>
      if ok=true then aM (model prog w) A (eval elt env) (λx Ck=>
       aM (model prog w) A (call (.builtin "list.append") [acc,x]) (λz Rr=>∃m,m<n/\I m Rr) (notedBy (model prog w) A env λe s'=>R (.error e) s') Ck) (notedBy (model prog w) A env λe s'=>R (.error e) s') fu
      else∃m,m<n/\I m fu) (notedBy (model prog w) A env λe s'=>R (.error e) s') bg) (notedBy (model prog w) A env λe s'=>R (.error e) s') zg) (notedBy (model prog w) A env λe s'=>R (.error e) s') bq) (notedBy (model prog w) A env λe s'=>R (.error e) s') s)
  (n:Nat)(h:I n s):
  rS (model prog w) A (.compLoop (.ListComp elt [⟨target,iter,ifs,0⟩] scope pos) 0 it acc env) R s:=by
 refine codeAny_loop rfl I (λn s hI=>?_) n h
 show aM _ A ((compTurn (.ListComp elt [⟨target,iter,ifs,0⟩] scope pos) 0 it acc env).onRaise (λx=>do noteFrame x env;L7 x)) _ _ s
 refine wpAny_noted ?_;rw[compTurn_list];refine aC (k0 (aC (b0 (turn n s hI) (λr bq d8=>?_) λz z h'=>h')))
 induction r with
 |none=>exact aO d8
 |some v=>
  refine aC (b0 d8 (λz zg Iv=>?_) λz z h'=>h');refine aC (b0 Iv (λz bg dP=>aC (b0 dP (λok fu gR=>?_) λz z h'=>h')) λz z h'=>h')
  induction ok with
  |false=>exact aO ⟨rfl,gR⟩
  |true=>
   exact aC (aC (b0 gR (λx Ck y6=>aC (b0 y6 (λz Rr ad6=>aO (aO ⟨rfl,ad6⟩)) λz z h'=>h')) λz z h'=>h'))
structure sF(c:Cx)(D:Addr)(fp:List Addr)(S:Nat->Heap->Prop)(i:Nat)(acc:List CV)(σ:St)(h:Heap):Prop where
 st:S i h
 dn:σ D=none
 dl:∃c0 m,h.get? D=some (listOf c0 m)/\aN h acc c0.toList
 fn:∀b∈fp,σ b=none
theorem sF.bu{D:Addr}{t:Expr}{items:List CV}{ny:St->Prop}(W:gT c t I fp items ny S){X:Addr->Prop}{acc:List CV}{σ:St}{s:aw}(C:sF c D fp S i acc σ s.heap)
  (w:c8 c X σ s ae s')(tu:gr s.heap s'.heap)(hD:¬X D)(hf:∀b∈fp,¬X b):sF c D fp S i acc ae s'.heap:=by
 obtain⟨st,dn,⟨c0,m,dl,dr⟩,fn⟩:=C
 refine⟨W.move st (λb hb o eo=>w.ext.keep b o (hf b hb) eo λz hz=>by exact bo ((fn b hb).symm.trans hz)) tu,w.ext.gg D _ hD dl dn,⟨c0,m,w.ext.keep D _ hD dl (λz hz=>by exact bo (dn.symm.trans hz)),dr.bQ tu⟩,λb hb=>?_⟩
 refine a9 (W.here st b hb) λo ho zz=>?_;exact w.ext.gg b o (hf b hb) ho (fn b hb)
theorem ad7{pos:Pos}{kc:Ks}{a:AM}{t:TM}{el:EM}(ha:eG c n kc (jV raw kc) target a)(ht:mZ c n kc ifs t)(he:aH c n kc elt el)
  {D:Addr}{items:List CV}{ny:St->Prop}{cenv:Env}{ce:aL}{Q:List CV->St->Prop}{RR:lj->aw->Prop}
  (W:gT c target I fp items ny S)(N:cO c n A cenv kc ce b7 bq)(w:c8 c (isNew cg) σ₀ cg b7 bq)(C:sF c D fp S 0 [] b7 bq.heap)(pY:cg.heap.get? D=none)(Iw:D≠cenv.locals/\∀i,(kc.lookup i=some .cell\/kc.lookup i=some .free)->cenv.cells.lookup (nm i)≠some D)(Iy:D∉fp)
  (R₀:Rel c σ₀ cg.heap)(mh:∀b∈fp,cg.heap.get? b=none)(CK:∀b∈fp,b≠cenv.locals/\∀i,(kc.lookup i=some .cell\/kc.lookup i=some .free)->cenv.cells.lookup (nm i)≠some b)(hX:∀b,jV raw kc cenv b->cg.heap.get? b=none)
  (q:hM ny a t el Q items ce [] b7)
  (hR:∀ae s' acc,c8 c (isNew cg) σ₀ cg ae s'->ae D=none->(∃c0 m,s'.heap.get? D=some (listOf c0 m)/\aN s'.heap acc c0.toList)->(∃m,s'.heap.Ns cenv.locals m)->ae cenv.locals=none->Q acc ae->RR (.ok .next) s'):
  rS c.M A (.compLoop (.ListComp elt [⟨target,iter,ifs,0⟩] scope pos) 0 (.ref I) (.ref D) cenv) RR bq:=by
 have base:∀b∈fp,c.H0.get? b=none:=λb hb=>R₀.out (mh b hb)
 have ad8:¬jV raw kc cenv D:=λh=>by
  rcases h with h |⟨i,_,h1,h2⟩
  ·exact Iw.1 h
  ·exact Iw.2 i (.inl h1) h2
 have hfX:∀b∈fp,¬eU cenv kc b:=λb hb h=>by
  rcases h with h |⟨i,h1,h⟩
  ·exact(CK b hb).1 h
  ·exact(CK b hb).2 i (.inl h1) h
 obtain⟨Inv,jF⟩:∃Inv:Nat->aw->Prop,∀k s',Inv k s'↔∃i mc ae acc,k=items.length- i/\i<=items.length/\c8 c (isNew cg) σ₀ cg ae s'/\eY c cenv kc mc ae s'.heap/\sF c D fp S i acc ae s'.heap/\hM ny a t el Q (items.drop i) mc acc ae:=⟨_,λu u=>Iff.rfl⟩;refine ad5 Inv (λk s' hI=>cps λG g=>?_) items.length ((jF _ _).2 ⟨0,ce,b7,[],rfl,dE _,w,N.fr,C,q⟩);refine Fv ((jF _ _).1 hI) λi mc ae acc aq ff w f C q=>?_;subst aq;refine g ?_;clear g hI
 have nt:∀b∈fp,∀items n,s'.heap.get? b≠some (d7 items n):=λb hb items n z=>by refine a9 (W.here C.st b hb) λo ho hn=>?_;rw[ho]at z;exact hn _ _ (bt z)
 cases hx:items[i]? with
 |none=>
  have jG:i=items.length:=qq ff (YE.1 hx);subst jG;rw[L1]at q;refine W.done N.room.h w.rel q.1 C.st λh' tk k=>?_;have R':=w.rel.moved k nt λb hb=>⟨C.fn b hb,base b hb⟩;refine gH C.dl λc0 m dl dr=>?_;have f':=f.moved k nt CK
  exact hR ae _ acc (w.shift R' λb o nb eb=>k b o (λhb=>nb (mh b hb)) eb) C.dn ⟨c0,m,k D _ Iy dl,dr.bQ (y9 k nt)⟩ (let⟨m,hm,_⟩:=f'.ns;⟨m,hm⟩) f'.t4 q.2
 |some y=>
  obtain⟨ck,rfl⟩:=List.getElem?_eq_some_iff.mp hx;rw[Lf ck]at q;obtain⟨q0,dK,q⟩:=q;refine W.next N.room.h w.rel q0 hx C.st λv h1 tk go=>go λh' rv gu k=>?_;have R':=w.rel.moved k nt λb hb=>⟨C.fn b hb,base b hb⟩;have w':=w.shift (t:=tk) R' λb o nb eb=>k b o (λhb=>nb (mh b hb)) eb;have f':=f.moved k nt CK
  have N':cO c n A cenv kc mc ae {s' with heap:=h',toks:=tk}:=N.moved f' R'
  have C':sF c D fp S (i+1) acc ae h':=by
   refine gH C.dl λc0 m dl dr=>?_;exact⟨gu,C.dn,⟨c0,m,k D _ Iy dl,dr.bQ (y9 k nt)⟩,C.fn⟩
  refine b0 (Q:=kM c (jV raw kc cenv) cenv kc ae _ _) (E:=No) (ha N' rv q) (λu s2 q2=>cps λG g=>?_) λu u z=>z.elim;obtain⟨e2,ay,w2,f2,q2⟩:=q2;refine g ?_;clear g;have tu2:=bK.yZ N' (w2.mono (jV.FC cenv));have C2:=C'.bu W w2 tu2 ad8 λb hb h=>hfX b hb (jV.FC _ _ h);have N2:=N'.moved f2 w2.rel;have w02:=w'.trans (w2.mono hX);refine b0 (Q:=mf c ay s2 _) (E:=No) (ht N2 q2) (λb s3 q3=>cps λG g=>?_) λu u z=>z.elim;obtain⟨aQ,w3,q3⟩:=q3;refine g ?_;clear g;have tu3:=w3.ext.lD w2.rel;have C3:=C2.bu W (w3.dA λu=>False) tu3 (λh=>h) λu u h=>h;have N3:=N2.bu w3;have Rt:=w02.trans (w3.dA _)
  induction b with
  |false=>
   simp only[pe,if_false]at q3 ⊢
   exact⟨items.length- (i+1),Ls ck (kZ i),(jF _ _).2 ⟨i+1,e2,aQ,acc,rfl,ck,Rt,N3.fr,C3,q3⟩⟩
  |true=>
   simp only[if_true]at q3 ⊢;refine b0 (Q:=cC c aQ s3 _) (E:=No) (he N3 q3) (λxv s4 q4=>cps λG g=>?_) λu u z=>z.elim;obtain⟨x,bU,rx,w4,q4⟩:=q4;have tu4:=w4.ext.lD w3.rel;have C4:=C3.bu W (w4.dA λu=>False) tu4 (λh=>h) λu u h=>h;have N4:=N3.bu w4;have w04:=Rt.trans (w4.dA _);refine gH C4.dl λc0 m dl dr=>?_;have hl:acc.length=c0.size:=dr.length;refine g (wpAny_list_append_plain (items:=c0) ⟨m,dl⟩ (λh5 hp5 zh=>?_) (hl▸dQ dK));clear g;obtain⟨m5,hm5⟩:=hp5
   have Iz:gr s4.heap h5:=λb ad9 n' eb=>zh.extBut b _ (λz=>by subst z;rw[dl]at eb;exact kJ (qH (by decide)) _ _ (bt eb)) eb
   have R5:Rel c bU h5:=w4.rel.but zh.extBut C4.dn (R₀.out pY) λad9 n' eb=>by rw[dl]at eb;exact kJ (qH (by decide)) _ _ (bt eb)
   have w05:c8 c (isNew cg) σ₀ cg bU {s4 with heap:=h5}:=w04.shift (t:=s4.toks) R5 λb o nb eb=>zh.extBut b o (λz=>nb (z▸pY)) eb
   have k5:∀b o,b∉[D]->s4.heap.get? b=some o->h5.get? b=some o:=ue zh
   have f5:eY c cenv kc e2 bU h5:=N4.fr.moved k5 (λb hb items n z=>by
     rw[List.mem_singleton.mp hb,dl]at z;exact kJ (qH (by decide)) _ _ (bt z)) λb hb=>by
    rw[List.mem_singleton.mp hb];exact Iw
   have C5:sF c D fp S (i+1) (acc++[x]) bU h5:=by
    refine⟨W.move C4.st (λb hb o eo=>zh.extBut b o (λz=>Iy (z▸hb)) eo) Iz,C4.dn,⟨c0.push xv,m5,hm5,?_⟩,C4.fn⟩;rw[ET];exact(dr.bQ Iz).snoc (rx.bQ Iz)
   exact⟨items.length- (i+1),Ls ck (kZ i),(jF _ _).2 ⟨i+1,e2,bU,acc++[x],rfl,ck,w05,f5,C5,q4⟩⟩
end
end
section
open PySem.SeqAt
section
variable{c:Cx}{n:Nat}{ks:Ks}{A:bj}{env:Env}{e:aL}{σ:St}{s:aw}
noncomputable abbrev Ru(scope:Scope)(env:Env)(L:Addr)(cl:List (bx×Addr)):Env:=
 {scope:=relabel scope env,locals:=L,globals:=env.globals,cells:=jR (L+1) scope.names []++cl,qual:=env.qual,func:=none,code:=env.code,frame:=env.frame,builtins:=env.builtins}
theorem Rv{pos pos':Pos}{it:IM}{a:AM}{t:TM}{el:EM}{use:Option (ak->Sem Unit)}{Qm:ak->aw->Prop}{Q:List CV->St->Prop}
  (hi:jU c n ks target iter it)(ok:om ks raw scope)(ha:eG c n (dO raw) (jV raw (dO raw)) target a)(ht:mZ c n (dO raw) ifs t)(he:aH c n (dO raw) elt el)
  (hs:∀env v,xH iter env v=pure v)(N:cO c n A env ks e σ s)(q:it e σ λitems ny ao=>hM ny a t el Q items (lC raw e) [] ao)
  (K:∀D C ae s' acc,c8 c (isNew s) σ s ae s'->ae D=none->s.heap.get? D=none->(∃c0 m,s'.heap.get? D=some (listOf c0 m)/\aN s'.heap acc c0.toList)->(∃m,s'.heap.Ns C m)->ae C=none->s.heap.get? C=none->C≠D->Q acc ae->compPost c.M A No use Qm (.ref D) C (.ok .next) s'):
  aM c.M A (comprehension (.ListComp elt [⟨target,iter,ifs,0⟩] scope pos) scope env pos' (newList []) false (eval iter env) use) Qm No s:=by
 have aea:∀x,(x,qu)∈scope.names->(env.cells.lookup x).isSome=true:=λx hx=>by
  refine bF (ok.mem hx) λi ff aq hl=>?_;subst aq;exact(N.fr.cells i (.inl (ok.free _ (lookup_mem hl) rfl))).elim λb z=>z.elim λy z=>z.1▸rfl
 refine cz (adU aea) λcl hG h2 h3' h4=>?_
 refine wpAny_comprehension_free rfl (hs env) hG ok.kind (λx hx hk=>?_) (b0 (hi N q) (λxv bq d8=>b0 d8 (λitv bg dP=>?_) λu u z=>z) λu u z=>z)
 ·obtain⟨x,k⟩:=x
  subst hk;refine bF (ok.mem hx) λi ff aq hl=>?_;subst aq;rw[ok.look ff,hl]
 obtain⟨I,fp,items,ny,S,ae,rfl,W,hS,mh,w,q⟩:=dP;refine yU (s:=bg) ?_ (dE _);have IA:=kK bg.heap;have newD:=Iu w.ext.more IA;have N3:=(N.bu w).bu (t6 (o:={cls:=.type "list",data:=.seq ([]:List ak).toArray}) w.rel);have gD:(bg.heap.push {cls:=.type "list",data:=.seq ([]:List ak).toArray}).get? bg.heap.objs.size=some (listOf #[] 0):=fX _ rfl;have zi:∀b o,bg.heap.get? b=some o->(bg.heap.push {cls:=.type "list",data:=.seq ([]:List ak).toArray}).get? b=some o:=λb o eb=>dY _ eb
 have dK:(bg.heap.push {cls:=.type "list",data:=.seq ([]:List ak).toArray}).objs.size≠bg.heap.objs.size:=by rw[tz];exact Zd _
 generalize bg.heap.push {cls:=.type "list",data:=.seq ([]:List ak).toArray}=h3 at*;refine adW λco=>?_;have IB:∀b o,h3.get? b=some o->(pushCells (h3.push {cls:=.type "dict",data:=.dict #[]}) scope.names).get? b=some o:=λb o eb=>pushCells_keeps _ _ b o (dY _ eb);have CL:(pushCells (h3.push {cls:=.type "dict",data:=.dict #[]}) scope.names).Ns h3.objs.size λu=>none:=(Heap.Ns.new h3 (.type "dict")).keeps (pushCells_keeps _ _);refine xX (ad3 (cenv:=Ru scope env h3.objs.size cl) ok N3 (ad1 ok N3 h2 h3' h4 IB co) CL rfl rfl rfl rfl) λN4 hX4 hC4 IC=>?_;clear CL co;generalize pushCells (h3.push {cls:=.type "dict",data:=.dict #[]}) scope.names=h4 at*;have keep:∀b o,bg.heap.get? b=some o->h4.get? b=some o:=λb o eb=>IB b o (zi b o eb);have Rw:∀b,h3.get? b=none->s.heap.get? b=none:=λb hb=>Iu (λb o e=>(w.ext.more b o e).imp λu=>zi b _) hb;have CI:sF c bg.heap.objs.size fp S 0 [] ae h4:=⟨W.move hS (λb hb=>keep b) λb u u=>keep b _,w.rel.fresh IA,⟨#[],0,IB _ _ gD,.nil⟩,λb hb=>(mh b hb).2⟩
 have apart:∀b,s.heap.get? b=none->(∃o,h3.get? b=some o)->b≠h3.objs.size/\∀i,((dO raw).lookup i=some .cell\/(dO raw).lookup i=some .free)->(Ru scope env h3.objs.size cl).cells.lookup (nm i)≠some b:=λb hb ⟨o,ho⟩=>
  ⟨λq0=>(by rw[q0,kK]at ho;exact bo ho),λi ff hl=>(IC i b ff hl).elim (λh=>bo (h.symm.trans ho)) λz=>(N.fr.cells i (.inl z.1)).elim λb' g=>g.elim λy g=>by
   cases z.2.symm.trans g.1;obtain⟨o',c7,_⟩:=g.2.1
   exact bo (hb.symm.trans c7)⟩
 have Rx:∀b∈fp,∃o,bg.heap.get? b=some o:=λb hb=>(W.here hS b hb).imp λu z=>z.1;refine(λloop=>codeAny_compStart_list loop (W.self CI.st loop)) ?_
 exact ad7 ha ht he W N4 ((w.dA (isNew s)).shift (t:=bg.toks) N4.rel λb o nb eb=>keep b o eb) CI newD (apart _ newD ⟨_,gD⟩) (λhb=>(Rx _ hb).elim λo ho=>bo (IA.symm.trans ho)) N.rel (λb hb=>(mh b hb).1) (λb hb=>apart b (mh b hb).1 ((Rx b hb).imp λo=>zi b o)) (λb hb=>Rw b (hX4 b hb)) q
  λl7 j4 acc w' hD' lp lF hC' hq=>K _ _ l7 j4 acc w' hD' newD lp lF hC' (Rw _ hC4) dK hq
noncomputable def cT(raw:Ks)(it:IM)(a:AM)(t:TM)(el:EM):EM:=λe σ Q=>it e σ λitems ny ao=>hM ny a t el (λacc ay=>ay.new (.list acc) Q) items (lC raw e) [] ao
theorem Ry{D:Addr}{acc:List CV}(R:Rel c σ s.heap)(w:c8 c (isNew s) σ s ae s')(hD:ae D=none)(pY:s.heap.get? D=none)(hl:∃c0 m,s'.heap.get? D=some (listOf c0 m)/\aN s'.heap acc c0.toList)
  (lF:∃m,s'.heap.Ns C m)(hC:ae C=none)(nA:s.heap.get? C=none)(wG:C≠D)(hs:ju C s'.heap h'):
  bK c σ s (upd ae D (.list acc)) {s' with heap:=h'}:=by
 refine gH hl λc0 m dl dr=>?_;obtain⟨m',o,es,ep,ho,hd,_⟩:=lF
 have nt:∀items n,s'.heap.get? C≠some (d7 items n):=λitems n z=>by obtain rfl:=bt (ho.symm.trans z);exact Ax hd
 have R':Rel c ae h':=w.rel.but hs.extBut hC (R.out nA) nt
 have tu:gr s'.heap h':=λb items n eb=>hs.extBut b _ (λz=>by subst z;exact nt _ _ eb) eb
 have w2:c8 c (isNew s) σ s ae {s' with heap:=h'}:=w.shift (t:=s'.toks) R' λb o nb eb=>hs.extBut b o (λz=>nb (z▸nA)) eb
 have dl':h'.get? D=some (listOf c0 m):=hs.extBut _ _ (Ne.symm wG) dl;have w3:=w2.ad4;exact⟨R'.new ⟨R.out pY,c0,m,dl',dr.bQ tu⟩,w3.ext.new pY (R.fresh pY),w3.gens,w3.os⟩
theorem aH.comp{elt target iter:Expr}{ifs:List Expr}{scope:Scope}{pos:Pos}(raw:Ks){it:IM}{a:AM}{t:TM}{el:EM}
  (hi:jU c n ks target iter it)(ok:om ks raw scope)(ha:eG c n (dO raw) (jV raw (dO raw)) target a)(ht:mZ c n (dO raw) ifs t)(he:aH c n (dO raw) elt el)
  (hs:autoParam (∀env v,xH iter env v=pure v) aJ):aH c n ks (.ListComp elt [⟨target,iter,ifs,0⟩] scope pos) (cT raw it a t el):=λA wu e σ s Q N q=>by
 rw[eval_ListComp];refine Rv hi ok ha ht he hs N q λD C ae s' acc w hD pY hl lF hC nA wG hq=>?_;refine⟨_,lF.choose_spec,λh' cH=>?_⟩;exact⟨_,_,.loc D,Ry N.rel w hD pY hl lF hC nA wG cH,hq D hD⟩
end
end
section
open PySem.SeqAt
section
variable{c:Cx}{n:Nat}{ks:Ks}{A:bj}{env:Env}{e:aL}{σ:St}{s:aw}
theorem aeb(a:Addr)(h:Heap):ju a h h:=⟨rfl,λz z=>rfl⟩
theorem cF.aaw{x:bx}{px Rz:Pos}{elt target iter:Expr}{ifs:List Expr}{scope:Scope}{pos:Pos}(i:Nat)(raw:Ks){it:IM}{a:AM}{t:TM}{el:EM}(hx:nm i=x)(hk:fO (ks.lookup i)=true)
  (ID:∀env,jj c env ks->mS (.ListComp elt [⟨target,iter,ifs,0⟩] scope pos) (some (.Name x px)) Rz.line env=pure true)
  (hi:jU c n ks target iter it)(ok:om ks raw scope)(ha:eG c n (dO raw) (jV raw (dO raw)) target a)(ht:mZ c n (dO raw) ifs t)(he:aH c n (dO raw) elt el)
  (hs:autoParam (∀env v,xH iter env v=pure v) aJ):cF c n ks (.Assign [.Name x px] (.ListComp elt [⟨target,iter,ifs,0⟩] scope pos) Rz) (aP (cT raw it a t el) (aName i)):=λA env e σ s Q N q=>by
 rw[exec_Assign_Name_used _ _ _ _ (ID env N.ok)];refine aC (k0 (aC ?_))
 show aM _ A (do let _ <-comprehension (.ListComp elt [⟨target,iter,ifs,0⟩] scope pos) scope env _ (newList []) false (eval iter env) (some (AY (.Name x px) env))) _ _ s
 refine aC (b0 (Q:=λu s'=>hU c env ks σ s Q .next s') (E:=No) (Rv hi ok ha ht he hs N q λD C ae s' acc w hD pY hl lF hC nA wG hq=>?_) (λu s' hq=>aO (aO hq)) λu u z=>z);have W:=Ry N.rel w hD pY hl lF hC nA wG (aeb C s'.heap);have N':=N.bu W;refine b0 (Q:=kM c (eU env ks) env ks _ s' (λe' l7=>e'=bA e i (.loc D)/\l7=upd ae D (.list acc))) (E:=No) (eG.name i hx hk N' (.loc D) ⟨rfl,rfl⟩) (λu j4 q2=>?_) λu u z=>z;obtain⟨_,_,w2,f2,rfl,rfl⟩:=q2;obtain⟨m,o,es,ep,ho,hd,hr⟩:=lF
 have nX:¬eU env ks C:=λh=>by
  rcases h with h |⟨j,h1,h2⟩
  ·obtain⟨m',⟨o',iG,Cc,c7,_⟩,_⟩:=N.fr.ns
   rw[<-h,nA]at c7;exact bo c7
  ·obtain⟨b,y,g1,⟨o',c7,_⟩,_⟩:=N.fr.cells j (.inl h1)
   obtain rfl:=bt (h2.symm.trans g1);exact bo (nA.symm.trans c7)
 have uC:upd ae D (.list acc) C=none:=by rw[iU wG];exact hC
 have iZ:j4.heap.get? C=some o:=w2.ext.keep C o nX ho λz hz=>by exact bo (uC.symm.trans hz)
 refine⟨m,⟨o,es,ep,iZ,hd,hr⟩,λh' cH=>?_⟩
 have nt:∀items n,j4.heap.get? C≠some (d7 items n):=λitems n z=>by obtain rfl:=bt (iZ.symm.trans z);exact Ax hd
 have R':Rel c (upd ae D (.list acc)) h':=w2.rel.but cH.extBut uC (N.rel.out nA) nt;have nh:=(W.dA (eU env ks)).trans w2;have kC:=ue cH
 have f':eY c env ks (bA e i (.loc D)) (upd ae D (.list acc)) h':=f2.moved kC (λb hb=>by rw[List.mem_singleton.mp hb];exact nt) λb hb=>by
  rw[List.mem_singleton.mp hb];refine⟨λz=>nX (.inl z),λj hj z=>?_⟩;obtain⟨b,y,g1,⟨o',c7,_⟩,_⟩:=N.fr.cells j hj;obtain rfl:=bt (z.symm.trans g1);exact bo (nA.symm.trans c7)
 refine⟨.next,_,_,.next,⟨R',⟨λb o' nx eb z=>kC b o' (λhb=>by rw[List.mem_singleton.mp hb,nA]at eb;exact bo eb) (nh.ext.keep b o' nx eb z),nh.ext.gg,nh.ext.fc,λb o' eb=>?_⟩,nh.gens,nh.os⟩,f',hq D hD⟩
 obtain⟨o2,e2⟩:=nh.ext.more b o' eb
 exact⟨o2,kC b o2 (λhb=>by rw[List.mem_singleton.mp hb,nA]at eb;exact bo eb) e2⟩
end
end
section
open PySem.SeqAt
section
variable{c:Cx}{n:Nat}{ks:Ks}{A:bj}{env:Env}{e:aL}{σ:St}{s:aw}
noncomputable def bJ(recv:CV->St->Prop)(F:FM)(mo:EM)(ms:cV):EM:=λe σ Q=>mo e σ λx ao=>recv x ao/\ms e ao λxs ay=>F (x::xs) [] ay Q
noncomputable def c5(c:Cx)(name:bx)(id:String)(recv:CV->St->Prop):Prop:=∀{A:bj} {σ:St} {s:aw} {x:CV} {v:ak} {pl:Sem Bool} {Q:ak×List ak->aw->Prop},Rel c σ s.heap->aV s.heap x v->recv x σ->Q (.builtin id,[v]) s->aM c.M A (tF v name pl) Q No s
theorem aH.pz{o:Expr}{name:bx}{args:List Expr}{apos pos:Pos}{F:FM}{m:Nat}{mo:EM}{ms:cV}{recv:CV->St->Prop}{id:String}{pl:Env->Sem Bool}(ho:aH c n ks o mo)(hb:c5 c name id recv)(hF:aU c m (.builtin id) F)(hm:m<=n)(h:gZ c n ks args ms)
  (he:autoParam (∀env,eval (.Call (.Attribute o name apos) args [] pos) env=(do
   let ov <-eval o env
   oe apos.atName
   let(f,first) <-holding [ov] (tF ov name (pl env))
   lW pos f first (dZ pos (cU args env)) (lX pos (lU [] env)))) aI)
  (hp:autoParam (∀env,(dZ pos (cU args env)).any (λx=>x.1)=false) aI):aH c n ks (.Call (.Attribute o name apos) args [] pos) (bJ recv F mo ms):=λA env e σ s Q N q=>
 MethodCall_ (wp_step (ho N q) λx v ao s1 r1 w1 q1=>hb w1.rel r1 q1.1 (iE w1 (Ct (dw.bi id) hF hm h (N.bu w1) (.cons r1 .nil) q1.2 hp))) (he _)
noncomputable def cD(x:CV)(σ:St):Prop:=∃a vs,x=.loc a/\σ a=some (.list vs)
theorem c5.of{name:bx}{T id:String}{recv:CV->St->Prop}(pa:PlainAttrs T)(slot:Slot T name id)(hty:typeOf (.builtin id)=pure (.type "method_descriptor"))
  (hr:∀{σ:St} {s:aw} {x:CV} {v:ak},Rel c σ s.heap->aV s.heap x v->recv x σ->s.TypeIs v T/\∀a,v=.ref a->∃o,s.heap.get? a=some o/\o.dict=none):c5 c name id recv:=λR r hx h=>by
 refine xa (hr R r hx) λh1 h2=>?_;exact getMethod_builtin h1 pa slot hty h2 h
theorem CM{σ:St}{s:aw}(R:Rel c σ s.heap)(r:aV s.heap x v)(h:cD x σ):s.TypeIs v "list"/\∀a,v=.ref a->∃o,s.heap.get? a=some o/\o.dict=none:=by
 obtain⟨a,vs,rfl,h⟩:=h;obtain rfl:=r.dj;exact R.li h λitems m hg z z=>⟨(dJ hg).typeIs,λb e=>Value.ref.inj e▸⟨_,hg,rfl⟩⟩
theorem FO:c5 c "append" "list.append" cD:=c5.of Ly F.slot_list_append (by kernel_rfl) CM
theorem aaE:c5 c "pop" "list.pop" cD:=c5.of Ly F.slot_list_pop (by kernel_rfl) CM
theorem aaG:c5 c "reverse" "list.reverse" cD:=c5.of Ly F.slot_list_reverse (by kernel_rfl) CM
theorem aaH:c5 c "extend" "list.extend" cD:=c5.of Ly F.slot_list_extend (by kernel_rfl) CM
theorem zj{m:Nat}{vs:List CV}{f:Array ak->Array ak}(R:Rel c σ s.heap)(h:σ a=some (.list vs))(hg:s.heap.get? a=some (listOf items m))(r:aV s.heap x v)
  (rs:aN s.heap ws (f items).toList)(q:Q x (upd σ a (.list ws))):cC c σ s Q v {s with heap:=s.heap.update a (jv f)}:=by
 have g:=IsL.update hg f;have hs:ju a s.heap (s.heap.update a (jv f)):=mJ ..;have z:=R.objs _ _ h
 have tu:gr s.heap (s.heap.update a (jv f)):=λb c0 n eb=>hs.extBut b _ (λz=>by subst z;rw[hg]at eb;exact kJ (qH (by decide)) _ _ (bt eb)) eb
 exact⟨x,_,r.bQ tu,⟨R.set (y:=.list ws) h rfl hs λo=>⟨z.1,_,_,g,rs.bQ tu⟩,Ext.set h rfl hs ⟨_,g⟩,rfl,rfl⟩,q⟩
noncomputable def cN:FM:=mj .L .V λa v σ Q=>∃vs,σ a=some (.list vs)/\vs.length<=1000/\Q .none (upd σ a (.list (vs++[v])))
theorem aU.append:aU c 0 (.builtin "list.append") cN:=aU.a2 λhr R e r2 q=>by
 refine bF q λws h1 h2 q=>?_;subst e
 exact R.li h1 λitems m hg hl rs=>mR F.slot_list_append ⟨_,hg,rfl⟩ F.entry_list_append (F.args_list_append_2 _ _) (list_append _ items m _ (hl▸dQ h2)) ⟨hg,zj R h1 hg .none (by rw[ET];exact rs.snoc r2) q⟩
theorem R3{k:Nat}(h:k<items.size):(items.eraseIdxIfInBounds k).toList=items.toList.eraseIdx k:=by
 unfold Array.eraseIdxIfInBounds;rw[dif_pos h,Array.toList_eraseIdx]
noncomputable def R4:FM:=fv .L λa σ Q=>∃vs v,σ a=some (.list (vs++[v]))/\vs.length+1<=1000/\Q v (upd σ a (.list vs))
noncomputable def R6:FM:=mj .L .I λa i σ Q=>∃(k:Nat) (vs:List CV) (v:CV),i=k/\σ a=some (.list vs)/\vs[k]?=some v/\vs.length<=1000/\Q v (upd σ a (.list (vs.eraseIdx k)))
noncomputable def sr:FM:=pW R4 R6
theorem aU.aaF:aU c 0 (.builtin "list.pop") R4:=aU.a1 λhr R e q=>by
 refine jg q λws v h1 h2 q=>?_;subst e;refine R.li h1 λitems m hg hl rs=>?_;rw[bW]at hl
 have hi:items.size- 1=ws.length:=by rw[<-hl];rfl
 have hx:(ws++[v])[ws.length]?=some v:=by rw[EC (cP _),Nat.sub_self];rfl
 have e2:(ws++[v]).eraseIdx ws.length=ws:=by rw[List.eraseIdx_append_of_length_le (cP _),Nat.sub_self];exact fj _
 have e3:=rs.eraseIdx ws.length;rw[e2,<-R3 (hl▸kZ _),<-hi]at e3;refine(rs.get hx).elim λu z=>mR F.slot_list_pop ⟨_,hg,rfl⟩ F.entry_list_pop (F.args_list_pop_1 _) (MeetsSeq.list_pop_last _ items m u ?_ (hl▸dQ h2)) ⟨hg,zj R h1 hg z.2 e3 q⟩;rw[hi,<-vp];exact z.1
theorem R7{k:Nat}(h:k<=1000):Builtin.List.listTooLong k=false:=decide_eq_false (Nat.not_lt.2 (dQ h))
theorem R8{k:Nat}(h:k<=1000):Builtin.List.listFitsIndex (k:Int)=true:=cK.2 ⟨decide_eq_true (rO (by decide) (fY k)),decide_eq_true (B7 h)⟩
theorem aec{n k:Nat}(h:k<n):A5 (k:Int) n=some k:=by
 unfold A5;rw[if_neg (nZ.2 (fY _))]
 exact if_pos (by rw[decide_eq_true (fY k),decide_eq_true (dN.2 h)];rfl)
theorem aU.FP:aU c 0 (.builtin "list.pop") R6:=aU.a2 λ{A σ s a i v w Q} hr R e e2 q=>by
 refine Fu q λk ws v hk h1 hx h2 q=>?_;subst e;refine xe e2 λt aq=>?_;clear e2;subst aq;refine R.li h1 λitems m hg hl rs=>?_;have ck:k<items.size:=hl▸(List.getElem?_eq_some_iff.mp hx).1;rw[hl]at h2;have hf:=R8 (iQ (ey ck h2));have hs:=aec ck;rw[<-hk]at hf hs
 refine(rs.get hx).elim λu z=>mR F.slot_list_pop ⟨_,hg,rfl⟩ F.entry_list_pop (F.args_list_pop_2 _ _) (MeetsSeq.list_pop_at _ items m i t k u hf hs (by rw[<-vp];exact z.1) (dQ h2)) ⟨hg,zj R h1 hg z.2 (by rw[R3 ck];exact rs.eraseIdx _) q⟩
noncomputable def R9:FM:=fv .L λa σ Q=>∃vs,σ a=some (.list vs)/\vs.length<=1000/\Q .none (upd σ a (.list vs.reverse))
theorem aU.reverse:aU c 0 (.builtin "list.reverse") R9:=aU.a1 λhr R e q=>by
 refine bF q λws h1 h2 q=>?_;subst e
 exact R.li h1 λitems m hg hl rs=>mR F.slot_list_reverse ⟨_,hg,rfl⟩ F.entry_list_reverse (F.args_list_reverse_1 _) (AutoSeq1.list_reverse_list_0 _ items m (hl▸dQ h2)) ⟨hg,zj R h1 hg .none (by rw[Array.toList_reverse];exact rs.reverse) q⟩
noncomputable def Ho:FM:=mj .L .L λa b σ Q=>∃vs ws,σ a=some (.list vs)/\σ b=some (.list ws)/\vs.length+ws.length<=1000/\Q .none (upd σ a (.list (vs++ws)))
theorem aU.extend:aU c 0 (.builtin "list.extend") Ho:=aU.a2 λhr R e e2 q=>by
 refine xY q λus ws h1 h3 h2 q=>?_;subst e;subst e2;refine R.li h1 λitems m hg hl rs=>R.li h3 λaed m2 hg2 lH rs2=>?_;rw[hl,lH]at h2
 exact mR F.slot_list_extend ⟨_,hg,rfl⟩ F.entry_list_extend (F.args_list_extend_2 _ _) (AutoSeq1.list_extend_list_list_0 _ items m _ aed m2 (by rw[R7 h2,Bool.and_false];exact gY) (dQ (aR (mL _ _) h2)) (rG (dQ h2)))
  ⟨hg,hg2,zj R h1 hg .none (by rw[Array.toList_append];exact rs.append rs2) q⟩
end
end
section
open PySem.SeqAt
section
variable{c:Cx}{n:Nat}{ks:Ks}{A:bj}{env:Env}{e:aL}{σ:St}{s:aw}
noncomputable def pP(a:Addr)(vs:List CV):St->Prop:=λσ=>σ a=some (.list vs)\/σ a=some (.ro vs)
noncomputable abbrev pN:St->Prop:=λz=>True
inductive wH(σ:St)(Q:List CV->(St->Prop)->St->Prop):CV->Prop
 |li {a:Addr} {vs:List CV} (h:pP a vs σ) (q:Q vs (pP a vs) σ):wH σ Q (.loc a)
 |tu {vs:List CV} (q:Q vs pN σ):wH σ Q (.tup vs)
 |«by» {b:List UInt8} (q:Q (yK b) pN σ):wH σ Q (.bytes b)
 |st {x:bx} (h:x.cps.all (·<128)=true) (q:Q (yO x) pN σ):wH σ Q (.str x)
noncomputable def B1(x:CV)(σ:St)(Q:List CV->(St->Prop)->St->Prop):Prop:=wH σ Q x
noncomputable def bO(m:EM):IM:=λe σ Q=>m e σ λx ao=>B1 x ao Q
theorem bK.IE(w:bK c σ₀ cg σ s)(o:Obj):bK c σ₀ cg σ {s with heap:=s.heap.push o}:=w.trans (t6 w.rel)
theorem bK.Sa(w:bK c σ₀ cg σ s){b:Addr}(h:s.heap.get? b=none):cg.heap.get? b=none/\σ b=none:=⟨Iu w.ext.more h,w.rel.fresh h⟩
theorem IF(w:bK c σ₀ cg σ s):∀b∈[s.heap.objs.size],cg.heap.get? b=none/\σ b=none:=λb hb=>w.Sa (List.mem_singleton.mp hb▸kK _)
theorem jU.src{t x:Expr}{m:EM}(h:aH c n ks x m):jU c n ks t x (bO m):=λA env e σ s Q N q=>by
 refine wp_step (h N q) λy v ao s1 r w q1=>?_;have w':=bK.IE w;have f:=IF w;change wH ao Q y at q1
 induction q1 with
 |li h q=>obtain rfl:=r.dj;exact w.rel.lr h λitems m hg z z=>Y5 (dJ hg) (.in (gT.list _ _ _) ⟨_,fX _ rfl,rfl,rfl⟩ f (w' _) q)
 |tu q=>refine f9 r.jl λa items m aq hg rs=>?_;subst aq;exact iter_tuple ⟨_,hg,rfl,m,rfl⟩ (.in (gT.tup _ a _ items m) ⟨⟨_,fX _ rfl,rfl,rfl⟩,dY _ hg,rs.bQ ((Ext.push _).lD w.rel)⟩ f (w' _) q)
 |«by» q=>refine xe r.fQ λt aq=>?_;subst aq;exact KBw.pyIter_bytes (.in (gT.bytes _ _ t) ⟨_,fX _ rfl,rfl,rfl⟩ f (w' _) q)
 |st h q=>refine xe r.pR λt aq=>?_;subst aq;exact wpAny_pyIter_ascii h (.in (gT.str _ _ t) ⟨_,fX _ rfl,rfl,rfl⟩ f (w' _) q)
noncomputable abbrev wI(fx x:Expr)(pos:Pos):Prop:=∀env,eval (.Call fx [x] [] pos) env=(do lW pos (<-eval fx env) [] (dZ pos (cU [x] env)) (lX pos (lU [] env)))
noncomputable abbrev wJ(x:Expr):Prop:=∀env,cU [x] env=[(false,eval x env)]
theorem IG{T:String}{fx x:Expr}{pos:Pos}{R P:ak->aw->Prop}(hf:aH c n ks fx (au (.ty T)))(N:cO c n A env ks e σ s)(he:wI fx x pos)(hs:wJ x)
  (hx:∀s1,bK c σ s σ s1->aM c.M A (eval x env) P No s1)(k:∀v s',P v s'->aM c.M A (call (.type T) [v]) R No s'):aM c.M A (eval (.Call fx [x] [] pos) env) R No s:=by
 refine Call_ (wp_step (hf (Q:=λy ae=>y=.ty T/\ae=σ) N ⟨rfl,rfl⟩) λy v ao s1 r1 w1 q1=>?_) (he _);obtain⟨rfl,rfl⟩:=q1;obtain rfl:=r1.PY;refine PyProof.Rows.callWith_type1 (e:=x) (rest:=[]) ?_ (hs _);rw[hs];exact spliced_cons (b0 (hx s1 w1) (λv s' p=>spliced_nil (k v s' p)) λo o z=>z)
noncomputable def Sb(c:Cx)(σ:St)(s:aw)(Q:Int->St->Prop):ak->aw->Prop:=λv s'=>∃i r t u w ae,v=.ref r/\IsRange s'.heap r 0 i 1 t u w/\bK c σ s ae s'/\Q i ae
theorem Sd{fx x:Expr}{pos:Pos}{m:EM}{Q':Int->St->Prop}(hf:aH c n ks fx (au (.ty "range")))(h:aH c n ks x m)(N:cO c n A env ks e σ s)(q:m e σ Q)(he:wI fx x pos)(hs:wJ x)(k:∀y ae,Q y ae->∃i,y=.int i/\Q' i ae):
  aM c.M A (eval (.Call fx [x] [] pos) env) (Sb c σ s Q') No s:=
 IG (P:=cC c σ s Q) hf N he hs (λs1 w1=>iE w1 (h (N.bu w1) q)) λv s' p=>p.elim λy p=>p.elim λae p=>(k y ae p.2.2).elim λi z=>by
  obtain⟨rfl,z⟩:=z;refine xe p.1.bZ λt aq=>?_;subst aq;exact call_range_1 ⟨i,_,_,t,_,ae,rfl,IsRange.new s'.heap 0 i 1 _ t _,(bK.IE p.2.1 _).tok _,z⟩
noncomputable def oh(m:EM):IM:=λe σ Q=>m e σ λx ao=>∃i,x=.int i/\-(2^62)<=i/\i<2^62/\Q (m8 i) (λz=>True) ao
theorem Se(i:Int):alu 0 i 1=(i.toNat:Int):=by
 rw[rangeSize_one,Int.toNat_eq_max,Mk]
 split
 ·exact(Int.max_eq_left (Int.le_of_lt ‹_›)).symm
 ·exact(Int.max_eq_right (nZ.1 ‹_›)).symm
theorem jU.range{t fx x:Expr}{pos:Pos}{m:EM}(hf:aH c n ks fx (au (.ty "range")))(h:aH c n ks x m)(he:autoParam (wI fx x pos) aI)(hs:autoParam (wJ x) aI):jU c n ks t (.Call fx [x] [] pos) (oh m):=λA env e σ s Q N q=>
 b0 (Sd (Q':=λi ae=>-(2^62)<=i/\i<2^62/\Q (m8 i) (λo=>True) ae) hf h N q he hs λo o z=>z) (λv s' z=>by
  obtain⟨i,r,t,u,w,ae,rfl,hr,W,h1,h2,q⟩:=z
  have e:alu 0 i 1=(i.toNat:Int)- ((0:Nat):Int):=by rw[Se];exact(Mk _).symm
  exact wpAny_pyIter_range hr (small_one (by decide) (by decide) h1 h2) (.in (gT.range _ i) (e▸fX _ rfl) (IF W) (bK.IE W _) q)) λo o z=>z
noncomputable def IH(m:EM):EM:=λe σ Q=>m e σ λx ao=>∃i,x=.int i/\-(2^62)<=i/\i<=1000/\ao.new (.list (m8 i)) Q
theorem aee{h:Heap}{k:Nat}(hi:ItemsOf (λi v=>∃t,v=Value.int ((0:Int)+i*1) t) c0 k):aN h ((cS k).map λ(i:Nat)=>CV.int i) c0.toList:=by
 obtain⟨h1,h2⟩:=hi
 have:∀(m:Nat) (l:List ak),l.length=m->(∀(j:Nat) (v:ak),l[j]?=some v->∃t,v=Value.int (j:Int) t)->aN h ((cS m).map λ(i:Nat)=>CV.int i) l:=by
  intro m
  induction m with
  |zero=>intro l hl _;rw[List.length_eq_zero_iff.mp hl];exact .nil
  |succ m ih=>
   intro l hl hv
   obtain⟨l',x,rfl⟩:∃l' x,l=l'++[x]:=⟨l.dropLast,l.getLast (by intro e;rw[e]at hl;exact rT hl),(vi _).symm⟩
   have qL:l'.length=m:=by simpa using hl
   rw[List.range_succ,cR]
   refine(ih l' qL λj v hj=>hv j v ?_).append ?_
   ·rw[xD (List.getElem?_eq_some_iff.mp hj).1];exact hj
   ·obtain⟨t,rfl⟩:=hv m x (by rw[<-qL];simp)
    exact .cons (.int _ _) .nil
 refine this k c0.toList (by simpa using h1) λj v hj=>?_
 obtain⟨t,rfl⟩:=h2 j v (by simpa using hj)
 exact⟨t,by simp⟩
theorem aH.aat{gx fx x:Expr}{p pos:Pos}{m:EM}(hg:aH c n ks gx (au (.ty "list")))(hf:aH c n ks fx (au (.ty "range")))(h:aH c n ks x m)
  (he:autoParam (wI fx x p) aI)(hs:autoParam (wJ x) aI)(qO:autoParam (wI gx (.Call fx [x] [] p) pos) aI)(II:autoParam (wJ (.Call fx [x] [] p)) aI):aH c n ks (.Call gx [.Call fx [x] [] p] [] pos) (IH m):=λA env e σ s Q N q=>
 IG (P:=Sb c σ s λi ae=>-(2^62)<=i/\i<=1000/\ae.new (.list (m8 i)) Q) hg N qO II (λs1 w1=>b0 (Sd hf h (N.bu w1) q he hs λo o z=>z) (λv s' z=>by
  obtain⟨i,r,t,u,w,ae,e,hr,W,z⟩:=z;exact⟨i,r,t,u,w,ae,e,hr,w1.trans W,z⟩) λo o z=>z) λv s' z=>by
  obtain⟨i,r,t,u,w,ae,rfl,hr,W,h1,h2,q⟩:=z
  refine call_list_range (n:=i.toNat) N.room.h hr (small_one (by decide) (by decide) h1 (Lu h2 (by decide))) (Se i) (aR (Int.toNat_le.2 h2) (by decide)) λh' tk2 acc c' keep hl hi=>?_
  have wK:=IF W _ (.head _);exact⟨_,_,.loc _,⟨(W.rel.kept keep).new (x:=.list (m8 i)) ⟨N.rel.out wK.1,_,_,hl,aee hi⟩,(W.ext.trans (.kept keep)).new wK.1 (N.rel.fresh wK.1),W.gens,W.os⟩,q _ wK.2⟩
noncomputable def tQ(m:EM):IM:=λe σ Q=>m e σ λx ao=>∃a vs,x=.loc a/\pP a vs ao/\Q (qx 0 vs) (pP a vs) ao
theorem jU.enum{elts:List Expr}{kk:Nat}{pp:Pos}{fx x:Expr}{pos:Pos}{m:EM}(hf:aH c n ks fx (au (.ty "enumerate")))(h:aH c n ks x m)
  (he:autoParam (wI fx x pos) aI)(hs:autoParam (wJ x) aI):jU c n ks (.Tuple elts kk pp) (.Call fx [x] [] pos) (tQ m):=λA env e σ s Q N q=>
 IG (P:=cC c σ s λx ao=>∃a vs,x=.loc a/\pP a vs ao/\Q (qx 0 vs) (pP a vs) ao) hf N he hs (λs1 w1=>iE w1 (h (N.bu w1) q)) λv s2 p=>by
 obtain⟨y,ay,r2,W,a,vs,rfl,h1,q2⟩:=p;obtain rfl:=r2.dj
 refine W.rel.lr h1 λitems mm hg z z=>call_enumerate_1 hg λh' Sf hit dK keep=>wpAny_pyIter_enum (s:={s2 with heap:=h'}) Sf ?_
 have ck:a<s2.heap.objs.size:=mP hg;refine .in (gT.enum _ _ a vs (Zd _) (iP (xI ck)) (iP ck)) ⟨⟨_,Sf⟩,hit⟩ (λb hb=>W.Sa ?_) (W.trans (yV W.rel (h':=h') keep)) q2
 rcases List.mem_cons.mp hb with rfl |hb
 ·exact EI (nW _)
 ·rw[List.mem_singleton.mp hb];exact kK _
end
end
section
open PySem.SeqAt
section
variable{c:Cx}{n:Nat}{ks:Ks}{A:bj}{env:Env}{e:aL}{σ:St}{s:aw}
noncomputable def sG(x:CV)(σ:St):Prop:=∃a es,x=.loc a/\σ a=some (.dS es)
noncomputable def CN(x:CV)(σ:St):Prop:=∃a es,x=.loc a/\σ a=some (.dB es)
theorem Sg{K:Type}[DecidableEq K]{knd:KeyKind prog w K}{kvs:List (K×ak)}(h:s.heap.DictOf knd a kvs):s.TypeIs (.ref a) "dict"/\∀b,A6 a=.ref b->∃o,s.heap.get? b=some o/\o.dict=none:=
 ⟨h.typeIs,h.mapOf.noDict⟩
theorem aef{σ:St}{s:aw}(R:Rel c σ s.heap)(r:aV s.heap x v)(h:sG x σ):s.TypeIs v "dict"/\∀a,v=.ref a->∃o,s.heap.get? a=some o/\o.dict=none:=by
 obtain⟨a,es,rfl,h⟩:=h;obtain rfl:=r.dj;exact R.ds h λz hd z z=>Sg hd
theorem aeg{σ:St}{s:aw}(R:Rel c σ s.heap)(r:aV s.heap x v)(h:CN x σ):s.TypeIs v "dict"/\∀a,v=.ref a->∃o,s.heap.get? a=some o/\o.dict=none:=by
 obtain⟨a,es,rfl,h⟩:=h;obtain rfl:=r.dj;exact R.db h λz hd z z=>Sg hd
theorem aaI:c5 c "get" "dict.get" sG:=c5.of F.plainAttrs_dict F.slot_dict_get (by kernel_rfl) aef
theorem aaJ:c5 c "setdefault" "dict.setdefault" CN:=c5.of F.plainAttrs_dict alA (by kernel_rfl) aeg
noncomputable def si:FM:=mj .L .S λa k σ Q=>∃es,σ a=some (.dS es)/\Q ((bB es k).getD .none) σ
theorem cZ.opt{κ:Type}[DecidableEq κ]{h:Heap}{es:List (κ×CV)}{kvs:List (κ×ak)}(r:cZ h es kvs)(k:κ):aV h ((bB es k).getD .none) ((valueAt kvs k).getD .none):=by
 rcases r.at k with⟨g1,g2⟩ |⟨x,v,g1,g2,g3⟩
 ·rw[g1,g2];exact .none
 ·rw[g1,g2];exact g3
theorem Sh{T:String}{name:bx}{id:String}{B:Builtin}{self:ak}{rest:List ak}{S:PySem.Spec}{Q:ak->aw->Prop}(slot:Slot T name id)(hT:s.TypeIs self T)
  (entry:jx table id=some B)(args:gp id ⟨self::rest,[]⟩)(g:MeetsIn c.prog c.w (B ⟨self::rest,[]⟩) S)(h:S A (wants Q No) s):
  aM c.M A (call (.builtin id) (self::rest)) Q No s:=by
 have:=call_meetsIn (E:=No) (Q:=Q) slot hT entry args g h;exact this
theorem aU.get:aU c 0 (.builtin "dict.get") si:=aU.a2 λhr R e e2 q=>by
 refine a9 q λes h1 q=>?_;subst e;refine xe e2 λt aq=>?_;clear e2;subst aq;exact R.ds h1 λkvs hd z cI=>Sh F.slot_dict_get hd.typeIs F.entry_dict_get (F.args_dict_get_2 _ _) (meets_dict_get (AS c.prog c.w) _ (A4 ..) (qI R h1 rfl)) ⟨_,hd.mapOf,dq R (cI.opt _) q⟩
noncomputable def IJ:FM:=Cr .L .B .V λa k v σ Q=>∃es,σ a=some (.dB es)/\es.length<=1000/\(∀x,bB es k=some x->Q x σ)/\(bB es k=none->Q v (upd σ a (.dB (bY es k v))))
theorem Rel.aeh(R:Rel c σ s.heap)(e:σ a=some o)(hs:ju a s.heap h'):gr s.heap h':=by
 refine a9 (eK.there (R.objs _ _ e)) λy hy ht=>?_
 exact λb c0 m eb=>hs.extBut b _ (λz=>by subst z;rw[hy]at eb;exact ht _ _ (bt eb)) eb
theorem aU.aaK:aU c 0 (.builtin "dict.setdefault") IJ:=aU.a3 λ{A σ s a k y v w u Q} hr R e e2 r3 q=>by
 refine cz q λes h1 hz q1 q2=>?_;subst e;refine xe e2 λt aq=>?_;clear e2;subst aq
 refine R.db h1 λkvs hd hl cI=>Sh alA hd.typeIs F.entry_dict_setdefault (F.args_dict_setdefault_3 _ _ _) (kt_meets_setdefault (fM c.prog c.w) _ (Fd ..) (qI R h1 rfl) _) ⟨kvs,hd,hl▸dQ hz,λv hv=>?_,λhv h' fR hs=>?_⟩
 ·rcases cI.at k with⟨_,g2⟩ |⟨x,v',g1,g2,g3⟩
  ·exact jy (hv.symm.trans g2)
  ·cases hv.symm.trans g2;exact dq R g3 (q1 x g1)
 ·rcases cI.at k with⟨g1,_⟩ |⟨x,v',g1,g2,g3⟩
  ·obtain⟨ae,w,q'⟩:=y7 (Q:=Q _) (t:=s.toks+1) (y:=.dB (bY es k _)) R h1 rfl hs (λtu=>⟨(R.objs _ _ h1).1,_,fR,(cI.bQ tu).bY k (r3.bQ tu)⟩) (q2 g1)
   exact⟨_,ae,r3.bQ (R.aeh h1 hs),w,q'⟩
  ·exact bo (hv.symm.trans g2)
noncomputable def aei:FM:=fv .L λa σ Q=>∃vs,pP a vs σ/\vs.length<=1000/\Q (.int vs.length) σ
noncomputable def aej:FM:=fv .L λa σ Q=>∃es,σ a=some (.dB es)/\es.length<=1000/\Q (.int es.length) σ
noncomputable def aek:FM:=fv .B λb σ Q=>b.length<=1099511627776/\Q (.int b.length) σ
noncomputable def eI:FM:=pW aei (pW aej aek)
theorem aU.len:aU c 0 (.builtin "len") eI:=aU.or (aU.a1 λhr R e q=>by
  refine bF q λvs h1 h2 q=>?_;subst e;refine R.lr h1 λitems m hg hl z=>call_len_list (dJ hg) (hl▸B7 h2) ?_
  rw[<-hl];exact dq R (.int _ _) q) (aU.or (aU.a1 λhr R e q=>by
  refine bF q λes h1 h2 q=>?_;subst e;refine R.db h1 λkvs hd hl z=>call_len_dict (qI R h1 rfl) hd (hl▸B7 h2) ?_
  rw[<-hl];exact dq R (.int _ _) q) (aU.a1 λhr R e q=>by
  refine xe e λt aq=>?_;clear e;subst aq
  refine KBw.len_K (ks:=KBw.bInts _) rfl (by rw[KBw.ints_length];exact q.1) ?_
  rw[KBw.ints_length]
  exact dq R (.int _ _) q.2))
noncomputable def G7:FM:=fv .S λx σ Q=>∃k,x=⟨#[k]⟩/\Q (.int k) σ
theorem aU.ord:aU c 0 (.builtin "ord") G7:=aU.a1 λhr R e q=>by
 obtain⟨k,rfl,q⟩:=q;refine xe e λt aq=>?_;clear e;subst aq;exact P.ord_of_char (dq R (.int _ _) q)
noncomputable def G8:FM:=fv .I λi σ Q=>Q (.int i) σ
theorem aU.int:aU c 0 (.type "int") G8:=aU.a1 λhr R e q=>by
 refine xe e λt aq=>?_;clear e;subst aq;exact call_int_int (pS R (.int _ _) q)
noncomputable def sH:FM:=fv .L λa σ Q=>∃vs,pP a vs σ/\vs.length<=1000/\σ.new (.list vs) Q
theorem IK{x:CO}(R:Rel c σ s.heap)(keep:∀b o,s.heap.get? b=some o->h'.get? b=some o)(hn:s.heap.get? a=none)(r:c.H0.get? a=none->eK c h' a x)(q:σ.new x Q):cC c σ s Q (.ref a) {s with heap:=h',toks:=tk}:=
 ⟨_,_,.loc a,⟨(R.kept keep).new (r (R.out hn)),(Ext.kept keep).new hn (R.fresh hn),rfl,rfl⟩,q a (R.fresh hn)⟩
theorem aU.list:aU c 0 (.type "list") sH:=aU.a1 λ{A σ s a v Q} hr R e q=>by
 refine bF q λws h1 h2 q=>?_;subst e;exact R.lr h1 λitems m hg hl rs=>call_list_seq _ (.inl rfl) hg rfl rfl (λh' c' keep wK=>IK (tk:=s.toks) (x:=.list ws) R keep (kK _) (λz=>⟨z,_,_,wK,rs.bQ λb o o eb=>keep b _ eb⟩) q) (hl▸dQ h2)
noncomputable def ael:FM:=fv .L λa σ Q=>∃vs,pP a vs σ/\vs.length<=1000/\Q (.tup vs) σ
noncomputable def aem:FM:=fv .V λx σ Q=>∃vs,x=.tup vs/\Q (.tup vs) σ
noncomputable def vT:FM:=pW ael aem
theorem aU.tuple:aU c 0 (.type "tuple") vT:=aU.or (aU.a1 λ{A σ s a v Q} hr R e q=>by
  refine bF q λws h1 h2 q=>?_;subst e;refine R.lr h1 λitems m hg hl rs=>call_tuple_list (dJ hg) (λh' keep=>?_) (hl▸dQ h2);have IL:∀b o,s.heap.get? b=some o->(h'.push {cls:=.type "tuple",data:=.seq items}).get? b=some o:=λb o e=>dY _ (keep b o e)
  exact⟨_,σ,.tup (fX _ rfl) (rs.bQ λb z z eb=>IL b _ eb),⟨R.kept IL,.kept IL,rfl,rfl⟩,q⟩) (aU.a1 λhr R e q=>by
  obtain⟨vs,rfl,q⟩:=q;refine f9 (aV.jl e) λa items m aq hg rs=>?_;subst aq
  exact call_tuple_same ⟨_,hg,rfl,_,rfl⟩ (pS R (.tup hg rs) q))
noncomputable def aen:FM:=fv .L λa σ Q=>∃is:List Int,σ a=some (.list (is.map .int))/\(∀i∈is,0<=i/\i<256)/\is.length<=1000/\Q (.bytes (is.map λi=>i.toNat.toUInt8)) σ
noncomputable def aeo:FM:=fv .B λb σ Q=>Q (.bytes b) σ
noncomputable def sf:FM:=pW aen aeo
theorem aN.CP{h:Heap}:∀{is:List Int} {vs:List ak},aN h (is.map .int) vs->IntsAre vs is
 |[],_,r=>by rw[aN.jX r];exact .nil
 |i::is,_,r=>by
  refine jg (aN.iT r) λv ws aq a r1=>?_;subst aq;refine xe a.bZ λt aq=>?_;subst aq;exact .cons _ _ (aN.CP r1)
theorem aep:tD (.type "bytes") "__bytes__"=pure (some (.builtin "bytes.__bytes__")):=by rw[iO,iM];kernel_rfl
theorem qP{α:Type}{M:fA}{A:bj}{s:aw}{c:Bool}{a b:Sem α}{Q:α->aw->Prop}(hc:c=false)(h:aM M A b Q E s):aM M A (if c=true then a else b) Q E s:=by
 rw[if_neg (by rw[hc];decide)];exact h
theorem aeq(b:Array UInt8)(t:Tok):Meets (Builtin.«bytes.__new__» ⟨[.type "bytes",.bytes b t],[]⟩) (λz R s=>R (.ok (.ret (.bytes b t))) s):=by
 refine .of_wp λprog w A R s h=>?_;unfold Builtin.«bytes.__new__»;refine aC (eF (a:=true) rfl ?_);refine qP rfl ?_;refine aC (eF F.bm_sub ?_);refine qP rfl ?_;refine aC (eF (F.bm_bind _) ?_);refine aC (eF (a:=()) rfl ?_);refine aC (eF (a:=()) rfl ?_);refine qP rfl ?_;refine aC (vw (f6 _ _ _) aep ?_);refine aC (rP (aC (xQ (f6 _ _ _) ?_)));exact aO ⟨_,rfl,h⟩
theorem aU.bytes:aU c 0 (.type "bytes") sf:=aU.or (aU.a1 λ{A σ s a v Q} hr R e q=>by
  refine cz q λis h1 h2 h3 q=>?_;subst e;refine R.li h1 λitems m hg hl rs=>call_bytes_ints (vs:=items.toList) (dJ hg) rs.CP h2 (aR (rN ((aZ _).symm.trans hl).symm) (dQ h3)) hr.h λh' t k keep=>?_
  exact⟨_,σ,.bytes _ t,⟨R.kept keep,.kept keep,rfl,rfl⟩,q⟩) (aU.a1 λhr R e q=>by
  refine xe e λt aq=>?_;clear e;subst aq
  exact callType_new F.bm_called (by decide) (F.bm_typeCall _) (F.bm_newCall _) (λobj=>F.args_object_init_2 obj _) F.bm_entry (aeq _ _) ⟨f6 _ _ _,pS R (.bytes _ _) q⟩)
end
end
section
open PySem.SeqAt
theorem Si:PlainAttrs "bytearray":=
 ⟨⟨"bytearray.__getattribute__",by rw[iO,iM];kernel_rfl,by decide+kernel⟩,by rw[iO,iM];kernel_rfl⟩
theorem Sj:Slot "bytes" "find" "bytes.find":=
 .of (owner:="bytes") (n:="find") (by rw[iO,iM];kernel_rfl) (by decide+kernel) (by decide+kernel) (by decide+kernel)
  (by first |exact .inl (by decide+kernel) |exact .inr (by decide+kernel)) (by rw[lT];kernel_rfl)
theorem aer:jx table "bytes.find"=some Builtin.«bytes.find»:=by first |exact qo (by kernel_rfl) |exact qp (by kernel_rfl)
theorem aes(a b:ak):gp "bytes.find" ⟨[a,b],[]⟩:=by
 unfold gp;first |kernel_rfl |(rw[pg (id:="bytes.find") (n:=['d','n','i','f']) (o:=['s','e','t','y','b']) (by kernel_rfl) AO];kernel_rfl)
theorem Sk:Slot "bytes" "split" "bytes.split":=
 .of (owner:="bytes") (n:="split") (by rw[iO,iM];kernel_rfl) (by decide+kernel) (by decide+kernel) (by decide+kernel)
  (by first |exact .inl (by decide+kernel) |exact .inr (by decide+kernel)) (by rw[lT];kernel_rfl)
theorem aet:jx table "bytes.split"=some Builtin.«bytes.split»:=by first |exact qo (by kernel_rfl) |exact qp (by kernel_rfl)
theorem aeu(a b:ak):gp "bytes.split" ⟨[a,b],[]⟩:=by
 unfold gp;first |kernel_rfl |(rw[pg (id:="bytes.split") (n:=['t','i','l','p','s']) (o:=['s','e','t','y','b']) (by kernel_rfl) AO];kernel_rfl)
theorem Sl:Slot "bytes" "join" "bytes.join":=
 .of (owner:="bytes") (n:="join") (by rw[iO,iM];kernel_rfl) (by decide+kernel) (by decide+kernel) (by decide+kernel)
  (by first |exact .inl (by decide+kernel) |exact .inr (by decide+kernel)) (by rw[lT];kernel_rfl)
theorem aev:jx table "bytes.join"=some Builtin.«bytes.join»:=by first |exact qo (by kernel_rfl) |exact qp (by kernel_rfl)
theorem aew(a b:ak):gp "bytes.join" ⟨[a,b],[]⟩:=by
 unfold gp;first |kernel_rfl |(rw[pg (id:="bytes.join") (n:=['n','i','o','j']) (o:=['s','e','t','y','b']) (by kernel_rfl) AO];kernel_rfl)
theorem Sm:Slot "bytes" "lower" "bytes.lower":=
 .of (owner:="bytes") (n:="lower") (by rw[iO,iM];kernel_rfl) (by decide+kernel) (by decide+kernel) (by decide+kernel)
  (by first |exact .inl (by decide+kernel) |exact .inr (by decide+kernel)) (by rw[lT];kernel_rfl)
theorem aex:jx table "bytes.lower"=some Builtin.«bytes.lower»:=by first |exact qo (by kernel_rfl) |exact qp (by kernel_rfl)
theorem aey(a:ak):gp "bytes.lower" ⟨[a],[]⟩:=by
 unfold gp;first |kernel_rfl |(rw[pg (id:="bytes.lower") (n:=['r','e','w','o','l']) (o:=['s','e','t','y','b']) (by kernel_rfl) AO];kernel_rfl)
theorem Sn:Slot "bytes" "count" "bytes.count":=
 .of (owner:="bytes") (n:="count") (by rw[iO,iM];kernel_rfl) (by decide+kernel) (by decide+kernel) (by decide+kernel)
  (by first |exact .inl (by decide+kernel) |exact .inr (by decide+kernel)) (by rw[lT];kernel_rfl)
theorem aez:jx table "bytes.count"=some Builtin.«bytes.count»:=by first |exact qo (by kernel_rfl) |exact qp (by kernel_rfl)
theorem aeA(a b:ak):gp "bytes.count" ⟨[a,b],[]⟩:=by
 unfold gp;first |kernel_rfl |(rw[pg (id:="bytes.count") (n:=['t','n','u','o','c']) (o:=['s','e','t','y','b']) (by kernel_rfl) AO];kernel_rfl)
theorem IP:Slot "bytes" "__lt__" "bytes.__lt__":=
 .of (owner:="bytes") (n:="__lt__") (by rw[iO,iM];kernel_rfl) (by decide+kernel) (by decide+kernel) (by decide+kernel)
  (by first |exact .inl (by decide+kernel) |exact .inr (by decide+kernel)) (by rw[lT];kernel_rfl)
theorem So:jx table "bytes.__lt__"=some Builtin.«bytes.__lt__»:=by first |exact qo (by kernel_rfl) |exact qp (by kernel_rfl)
theorem Sp(a b:ak):gp "bytes.__lt__" ⟨[a,b],[]⟩:=by
 unfold gp;first |kernel_rfl |(rw[pg (id:="bytes.__lt__") (n:=['_','_','t','l','_','_']) (o:=['s','e','t','y','b']) (by kernel_rfl) AO];kernel_rfl)
theorem Sq:Slot "bytearray" "append" "bytearray.append":=
 .of (owner:="bytearray") (n:="append") (by rw[iO,iM];kernel_rfl) (by decide+kernel) (by decide+kernel) (by decide+kernel)
  (by first |exact .inl (by decide+kernel) |exact .inr (by decide+kernel)) (by rw[lT];kernel_rfl)
theorem aeB:jx table "bytearray.append"=some Builtin.«bytearray.append»:=by first |exact qo (by kernel_rfl) |exact qp (by kernel_rfl)
theorem aeC(a b:ak):gp "bytearray.append" ⟨[a,b],[]⟩:=by
 unfold gp;first |kernel_rfl |(rw[pg (id:="bytearray.append") (n:=['d','n','e','p','p','a']) (o:=['y','a','r','r','a','e','t','y','b']) (by kernel_rfl) IQ];kernel_rfl)
theorem Sr:Slot "bytearray" "reverse" "bytearray.reverse":=
 .of (owner:="bytearray") (n:="reverse") (by rw[iO,iM];kernel_rfl) (by decide+kernel) (by decide+kernel) (by decide+kernel)
  (by first |exact .inl (by decide+kernel) |exact .inr (by decide+kernel)) (by rw[lT];kernel_rfl)
theorem aeD:jx table "bytearray.reverse"=some Builtin.«bytearray.reverse»:=by first |exact qo (by kernel_rfl) |exact qp (by kernel_rfl)
theorem aeE(a:ak):gp "bytearray.reverse" ⟨[a],[]⟩:=by
 unfold gp;first |kernel_rfl |(rw[pg (id:="bytearray.reverse") (n:=['e','s','r','e','v','e','r']) (o:=['y','a','r','r','a','e','t','y','b']) (by kernel_rfl) IQ];kernel_rfl)
theorem Su:Slot "bytearray" "__len__" "bytearray.__len__":=
 .of (owner:="bytearray") (n:="__len__") (by rw[iO,iM];kernel_rfl) (by decide+kernel) (by decide+kernel) (by decide+kernel)
  (by first |exact .inl (by decide+kernel) |exact .inr (by decide+kernel)) (by rw[lT];kernel_rfl)
theorem aeF:jx table "bytearray.__len__"=some Builtin.«bytearray.__len__»:=by first |exact qo (by kernel_rfl) |exact qp (by kernel_rfl)
theorem aeG(a:ak):gp "bytearray.__len__" ⟨[a],[]⟩:=by
 unfold gp;first |kernel_rfl |(rw[pg (id:="bytearray.__len__") (n:=['_','_','n','e','l','_','_']) (o:=['y','a','r','r','a','e','t','y','b']) (by kernel_rfl) IQ];kernel_rfl)
theorem CQ:Slot "bytearray" "__init__" "bytearray.__init__":=
 .of (owner:="bytearray") (n:="__init__") (by rw[iO,iM];kernel_rfl) (by decide+kernel) (by decide+kernel) (by decide+kernel)
  (by first |exact .inl (by decide+kernel) |exact .inr (by decide+kernel)) (by rw[lT];kernel_rfl)
theorem aeH:jx table "bytearray.__init__"=some Builtin.«bytearray.__init__»:=by first |exact qo (by kernel_rfl) |exact qp (by kernel_rfl)
theorem aeI(a:ak):gp "bytearray.__init__" ⟨[a],[]⟩:=by
 unfold gp;first |kernel_rfl |(rw[pg (id:="bytearray.__init__") (n:=['_','_','t','i','n','i','_','_']) (o:=['y','a','r','r','a','e','t','y','b']) (by kernel_rfl) IQ];kernel_rfl)
end
set_option tactic.hygienic true
section
open PySem.SeqAt
noncomputable def pJ(a b:List UInt8):Int:=match(if a.length<b.length then none else Lr a.toArray b.toArray 0 a.length)with
 |some i=>i
 |none=>-1
theorem aeJ(n:Nat):Builtin.Bytes.window n none none=(0,(n:Int)):=by
 unfold Builtin.Bytes.window
 have h:¬((n:Int)<0):=by exact nZ.2 (fY _)
 simp[h]
theorem Sv{A:bj}{s:aw}{name:String}{b x:Array UInt8}{t:Tok}{Q:Array UInt8×Array UInt8×Option (Nat×Nat)->aw->Prop}
  (h:Q (b,x,if b.size<x.size then none else some (0,b.size)) s):aM (model prog w) A (alp .bytes name ⟨[.bytes b t,.bytes x u],[]⟩) Q E s:=by
 unfold alp;show aM _ _ (pure (Fi b t,[Fi x u]) >>= _) _ _ _;refine aC (aO ?_);refine aC (aO ?_);refine aC (aO ?_);dsimp only[List.headD];rw[Mf];refine aC (aC (aO (aO ?_)));refine aC (eF (a:=x) rfl ?_);refine aC (eF (a:=b) rfl ?_);refine aO ?_;rw[aeJ];simp only[Mk,dN,Int.toNat_zero,pf];exact h
theorem aeK(b x:List UInt8)(t u:Tok):Meets (Builtin.«bytes.find» ⟨[.bytes b.toArray t,.bytes x.toArray u],[]⟩) (λz R s=>∀t' k,R (.ok (.ret (.int (pJ b x) t'))) {s with toks:=k}):=by
 refine .of_wp λprog w A R s h=>?_;unfold Builtin.«bytes.find» Builtin.Bytes.searchM;refine aC (Sv ?_)
 have hb:pJ b x=match(if b.toArray.size<x.toArray.size then none else some (0,b.toArray.size)).bind (λ(lh:Nat×Nat)=>Lr b.toArray x.toArray lh.1 lh.2)with |some i=>(i:Int) |none=>-1:=by
  unfold pJ
  by_cases hl:b.length<x.length<;>simp[hl]
 dsimp only;simp only[pe,if_false]
 split
 ·rename_i i hi
  refine aC (Fj (aO ⟨_,rfl,?_⟩))
  have:pJ b x=i:=by rw[hb,hi]
  rw[<-this];exact h _ _
 ·rename_i hi
  refine aC (rP (aC (Fj (aO ⟨_,rfl,?_⟩))))
  have:pJ b x=-1:=by rw[hb,hi]
  rw[<-this];exact h _ _
noncomputable def yw(a b:List UInt8):Nat:=if a.length<b.length then 0 else(Lg a.toArray b.toArray 0 a.length).length
theorem aeL(b x:List UInt8)(t u:Tok)(hx:x≠[]):Meets (Builtin.«bytes.count» ⟨[.bytes b.toArray t,.bytes x.toArray u],[]⟩) (λz R s=>∀t' k,R (.ok (.ret (.int (yw b x) t'))) {s with toks:=k}):=by
 refine .of_wp λprog w A R s h=>?_;unfold Builtin.«bytes.count» Builtin.Bytes.countM;refine aC (Sv ?_);unfold yw at h
 by_cases hl:b.length<x.length
 ·rw[if_pos (by simpa using hl)]
  refine aC (Fj (aO ⟨_,rfl,?_⟩))
  rw[if_pos hl]at h;exact h _ _
 ·rw[if_neg (by simpa using hl)]
  have:x.toArray.isEmpty=false:=by simpa using hx
  dsimp only;rw[this];refine aC (Fj (aO ⟨_,rfl,?_⟩));rw[if_neg hl]at h;simpa using h _ _
noncomputable def Hd(a:List UInt8):List UInt8:=a.map Builtin.Bytes.toLower
theorem aeM(b:List UInt8)(t:Tok)(hz:b.length<=1000):Meets (Builtin.«bytes.lower» ⟨[.bytes b.toArray t],[]⟩) (λz R s=>∀t' k,R (.ok (.ret (.bytes (Hd b).toArray t'))) {s with toks:=k}):=by
 refine .of_wp λprog w A R s h=>?_;unfold Builtin.«bytes.lower» Builtin.Bytes.mappedM;refine aC (aO ?_);refine aC (eF (a:=b.toArray) rfl ?_)
 exact aC (Mj (aO ⟨_,rfl,h _ _⟩) (by simpa using dQ hz))
section
variable{c:Cx}{n:Nat}{ks:Ks}{A:bj}{env:Env}{e:aL}{σ:St}{s:aw}
noncomputable def jI(x:CV)(_:St):Prop:=∃b,x=.bytes b
theorem zk{σ:St}{s:aw}(R:Rel c σ s.heap)(r:aV s.heap x v)(h:jI x σ):s.TypeIs v "bytes"/\∀a,v=.ref a->∃o,s.heap.get? a=some o/\o.dict=none:=by
 obtain⟨b,rfl⟩:=h;refine xe r.fQ λt aq=>?_;subst aq;exact⟨f6 _ _ _,λa e=>nomatch e⟩
theorem aaL:c5 c "find" "bytes.find" jI:=c5.of EN Sj (by kernel_rfl) zk
theorem aaM:c5 c "split" "bytes.split" jI:=c5.of EN Sk (by kernel_rfl) zk
theorem aaN:c5 c "join" "bytes.join" jI:=c5.of EN Sl (by kernel_rfl) zk
theorem aaO:c5 c "lower" "bytes.lower" jI:=c5.of EN Sm (by kernel_rfl) zk
theorem aaP:c5 c "count" "bytes.count" jI:=c5.of EN Sn (by kernel_rfl) zk
noncomputable def He:FM:=mj .B .B λa b σ Q=>Q (.int (pJ a b)) σ
theorem aU.find:aU c 0 (.builtin "bytes.find") He:=aU.a2 λhr R e e2 q=>by
 refine xe e λt aq=>?_;clear e;subst aq;refine xe e2 λu aq=>?_;clear e2;subst aq;exact mR Sj (f6 _ _ _) aer (aes _ _) (aeK _ _ _ _) λt' k=>dq R (.int _ _) q
noncomputable def Hf:FM:=mj .B .B λa b σ Q=>b≠[]/\Q (.int (yw a b)) σ
theorem aU.count:aU c 0 (.builtin "bytes.count") Hf:=aU.a2 λhr R e e2 q=>by
 refine xe e λt aq=>?_;clear e;subst aq;refine xe e2 λu aq=>?_;clear e2;subst aq;exact mR Sn (f6 _ _ _) aez (aeA _ _) (aeL _ _ _ _ q.1) λt' k=>dq R (.int _ _) q.2
noncomputable def Hc:FM:=fv .B λa σ Q=>a.length<=1000/\Q (.bytes (Hd a)) σ
theorem aU.lower:aU c 0 (.builtin "bytes.lower") Hc:=aU.a1 λhr R e q=>by
 refine xe e λt aq=>?_;clear e;subst aq;exact mR Sm (f6 _ _ _) aex (aey _) (aeM _ _ q.1) λt' k=>dq R (.bytes _ _) q.2
end
end
section
open PySem.SeqAt
noncomputable def lB(a b:List UInt8):List (List UInt8):=
 if((Lg a.toArray b.toArray 0 a.length).take (a.length+1)).isEmpty then[a]else(Builtin.Bytes.between a.toArray b.length ((Lg a.toArray b.toArray 0 a.length).take (a.length+1))).map (λx=>x.toList)
theorem aeN(v:ak):alf "bytes.split" "split" ["sep","maxsplit"] [v] []=pure [some v,none]:=by kernel_rfl
theorem Sw:∀(l:List (Array UInt8)) (s:aw) {Q:List ak->aw->Prop},(∀p∈l,p.size<=mT)->
  (∀vs k,(∀h,aN h (l.map λp=>CV.bytes p.toList) vs)->Q vs {s with toks:=k})->aM (model prog w) A (l.mapM (Builtin.Bytes.Kind.new .bytes)) Q E s
 |[],s,Q,_,h=>by rw[List.mapM_nil];exact aO (h [] s.toks λz=>.nil)
 |p::l,s,Q,hz,h=>by
  rw[List.mapM_cons];refine aC (Mj (aC (Sw l _ (λq hq=>hz q (.tail _ hq)) λvs k hv=>aO ?_)) (hz p (.head _)))
  have:=h (.bytes p s.toks::vs) k λh=>by
   refine .cons ?_ (hv h);have:=aV.bytes (h:=h) p.toList s.toks;simpa using this
  exact this
theorem aeO(b x:List UInt8)(t u:Tok)(hx:x≠[])(hz:∀p∈lB b x,p.length<=1000)(hl:(lB b x).length<=1000):Meets (Builtin.«bytes.split» ⟨[.bytes b.toArray t,.bytes x.toArray u],[]⟩)
  (λz R s=>∀vs k,(∀h,aN h ((lB b x).map .bytes) vs)->R (.ok (.ret (.ref s.heap.objs.size))) {s with heap:=s.heap.push {cls:=.type "list",data:=.seq vs.toArray},toks:=k}):=by
 refine .of_wp λprog w A R s h=>?_;unfold Builtin.«bytes.split» Builtin.Bytes.splitM;refine aC (eF (aeN _) ?_);refine aC (aO ?_);refine aC (eF (a:=b.toArray) rfl ?_);dsimp only;unfold Builtin.Bytes.bytesLike;rw[Mf];refine aC (aC (aO (aO ?_)))
 have e1:x.toArray.isEmpty=false:=by simpa using hx
 rw[e1]
 have e2:(if(-1:Int)<0 then b.length+1 else(-1:Int).toNat)=b.length+1:=by simp
 simp only[pe,if_false,xJ];rw[e2];unfold lB at h hz hl
 by_cases hp:((Lg b.toArray x.toArray 0 b.length).take (b.length+1)).isEmpty=true
 ·rw[if_pos hp]at h hz hl ⊢
  refine aC (rP (aC ?_));unfold Builtin.Bytes.Kind.same;simp only[beq_self_eq_true,if_true];refine aC (xQ (f6 _ _ _) ?_)
  rw[if_pos (by decide)]
  refine aO (aC (yU ?_ (dQ (by simp))))
  exact aO ⟨_,rfl,h [.bytes b.toArray t] s.toks λz=>.cons (.bytes _ _) .nil⟩
 ·rw[if_neg hp]at h hz hl ⊢
  refine aC (Sw _ _ (λp hp=>?_) λvs k hv=>?_)
  ·have:=hz p.toList (List.mem_map.mpr ⟨p,hp,rfl⟩)
   exact dQ (by simpa using this)
  ·have hvl:vs.length<=1000:=by
    have:=(hv s.heap).length;rw[<-this];simpa using hl
   refine aC (yU ?_ (dQ hvl))
   exact aO ⟨_,rfl,h vs k λh=>by rw[dp];exact hv h⟩
noncomputable def oz(sep:List UInt8):List (List UInt8)->List UInt8
 |[]=>[]
 |x::xs=>x++(xs.map (sep++·)).flatten
theorem Sx(sep:Array UInt8):∀(l:List (List UInt8)) (k:Nat) (out:Array UInt8),0<k->
  ((l.map (λx=>x.toArray)).zipIdx k).foldl (λout (p:Array UInt8×Nat)=>(if p.2>0 then out++sep else out)++p.1) out=out++((l.map (sep.toList++·)).flatten).toArray
 |[],k,out,_=>by simp
 |x::l,k,out,hk=>by
  simp only[gC,EV,km,AH];rw[if_pos hk,Sx sep l (k+1) _ (nU _)];apply Array.ext';simp
theorem aeP(sep:List UInt8)(l:List (List UInt8)):YQ sep.toArray (l.map (λx=>x.toArray))=(oz sep l).toArray:=by
 unfold YQ
 induction l with
 |nil=>rfl
 |cons x l=>
  simp only[gC,EV,km]
  have:=Sx sep.toArray l 1 (#[]++x.toArray) (by decide)
  show _=(x++(l.map (sep++·)).flatten).toArray
  refine Eq.trans ?_ (this.trans ?_)
  ·rfl
  ·apply Array.ext';simp
theorem Sy{Q:Unit->aw->Prop}:∀(taken:List (ak×Option ak)) (keep:List ak),(∀p∈taken,p.2=none)->Q () s->aM (model prog w) A (Builtin.Bytes.joinLetGo taken keep) Q E s
 |[],_,_,q=>aO q
 |(x,o)::r,keep,h,q=>by
  have:o=none:=h (x,o) (.head _);subst this;show aM _ _ (letGo _ _ >>= _) _ _ _;refine aC (wpAny_letGo ?_);exact Sy r keep (λp hp=>h p (.tail _ hp)) q
theorem join_loop{m:Nat}{xs:List (List UInt8)}{id:String}(hg:s.heap.get? a=some (listOf items m))(hx:aN s.heap (xs.map .bytes) items.toList)
  {body:Nat->Array (Array UInt8)×List (ak×Option ak)->Sem (ForInStep (Array (Array UInt8)×List (ak×Option ak)))}
  (hb:∀i parts taken (x:List UInt8) t Q,items[i]?=some (.bytes x.toArray t)->(∀p∈taken,p.2=none/\p.1.onHeap=false)->Q (E1 (parts.push x.toArray,taken++[(.bytes x.toArray t,none)])) s->aM (model prog w) A (body i (parts,taken)) Q E s)
  {Q:Array (Array UInt8)×List (ak×Option ak)->aw->Prop}(h:∀taken,(∀p∈taken,p.2=none)->Q ((xs.map (λx=>x.toArray)).toArray,taken) s):
  aM (model prog w) A (forIn [0:items.size] (#[],[]) body) Q E s:=by
 rw[Std.Legacy.Range.forIn_eq_forIn_range']
 have dK:([0:items.size]:Std.Legacy.Range).size=items.size:=by simp[Std.Legacy.Range.size]
 show aM _ _ (forIn (mQ 0 ([0:items.size]:Std.Legacy.Range).size 1) _ _) _ _ _;rw[dK]
 have hl:xs.length=items.size:=by simpa using hx.length
 have key:∀(k i:Nat) (parts:Array (Array UInt8)) (taken:List (ak×Option ak)),i+k=items.size->parts.toList=(xs.take i).map (λx=>x.toArray)->(∀p∈taken,p.2=none/\p.1.onHeap=false)->
   aM (model prog w) A (forIn (mQ i k 1) (parts,taken) body) Q E s:=by
  intro k
  induction k with
  |zero=>
   intro i parts taken hi hp ht;rw[List.range'_zero,List.forIn_nil]
   have e:parts=(xs.map (λx=>x.toArray)).toArray:=by
    apply Array.ext'
    rw[hp,vn (by exact aR (el hl) (er hi))]
   exact aO (e▸h taken λp hp=>(ht p hp).1)
  |succ k ih=>
   intro i parts taken hi hp ht;rw[List.range'_succ,L6]
   have ck:i<xs.length:=by exact l2 (er hl) (el hi) (by simp+arith only)
   have h1:(xs.map CV.bytes)[i]?=some (.bytes xs[i]):=by simp[ck]
   refine a9 (hx.get h1) λv hv rv=>?_;cases rv;rename_i t
   refine aC (hb i parts taken xs[i] t _ (by simpa using hv) ht ?_)
   refine ih (i+1) _ _ (by exact q1 hi (by simp+arith only)) ?_ λp hp=>?_
   ·rw[ET,hp,Lx,bS ck];rw[cR];rfl
   ·rcases List.mem_append.mp hp with hp |hp
    ·exact ht p hp
    ·rw[List.mem_singleton.mp hp];exact⟨rfl,rfl⟩
 exact key items.size 0 #[] [] (by exact tC ..) (by simp) (λp hp=>cA hp)
theorem aeQ{id:String}{b:Array UInt8}{t:Tok}:YB id (.bytes b t) 0=pure (some (b,none)):=by
 have e:Ay id (.bytes b t) ((0:Int)==Builtin.Bytes.fullReadOnly)=pure (some b):=Mf;unfold YB Builtin.Bytes.takeBuffer?;rw[KBy.special_eq KBy.look_buffer,KBy.own_buffer];rw[e]
 rfl
theorem Sz:∀{taken:List (ak×Option ak)},(∀p∈taken,p.2=none/\p.1.onHeap=false)->taken.any (λx=>x.1.onHeap)=false
 |[],_=>rfl
 |p::l,h=>by rw[xO,(h p (.head _)).2,Sz λq hq=>h q (.tail _ hq)];rfl
theorem aeR(sep:List UInt8):∀xs:List (List UInt8),(xs.map (λx=>x.toArray)).toArray.foldl (λa b=>a+b.size) (sep.toArray.size*((xs.map (λx=>x.toArray)).toArray.size- 1))=(oz sep xs).length:=by
 intro xs
 induction xs with
 |nil=>rfl
 |cons x xs=>
  have key:∀(l:List (List UInt8)) (n:Nat),List.foldl (λa (b:Array UInt8)=>a+b.size) (n+sep.length*l.length) (l.map (λx=>x.toArray))=n+((l.map (sep++·)).flatten).length:=by
   intro l
   induction l with
   |nil=>intro n;simp
   |cons y l ih=>
    intro n;have:=ih (n+sep.length+y.length);simp only[gC,km,AH,bW,jP,xJ]at this ⊢
    rw[show n+sep.length*(l.length+1)+y.length=n+sep.length+y.length+sep.length*l.length by rw[Nat.mul_add];exact(by simp+arith only),this]
    exact(by simp+arith only)
  have:=key xs x.length;show _=(x++_).length;rw[bW,<-this];rw[<-Array.foldl_toList];simp only[gC,km,xJ,jP,aZ,Nat.add_sub_cancel];rw[tC]
theorem aeS{γ:Sort _}(items:Array ak)(f:ak->γ)(g:Array ak->γ)(h:items.size≠1):alb (λz=>γ) items f g=g items:=by
 unfold alb;exact dif_neg h
theorem aeT{n:Nat}(h:n<=16777216):n<=mT:=by rw[A2];exact h
theorem ite_yes{c:Prop}[Decidable c]{X Y:Prop}(hc:c)(h:X):if c then X else Y:=by
 rw[if_pos hc];exact h
theorem aeU{h:Heap}:∀{xs:List (List UInt8)} {v:ak},aN h (xs.map .bytes) [v]->∃x t,xs=[x]/\v=.bytes x.toArray t
 |[],_,r=>rT r.length
 |[x],_,r=>by
  refine jg r.iT λw ws e r1 zz=>?_;obtain⟨t,rfl⟩:=r1.fQ
  exact⟨x,t,rfl,xE e⟩
 |_::_::_,_,r=>nomatch r.length
theorem aeV(sep:List UInt8)(t:Tok)(a:Addr)(items:Array ak)(m:Nat)(xs:List (List UInt8))(hz:(oz sep xs).length<=16777216):Meets (Builtin.«bytes.join» ⟨[.bytes sep.toArray t,.ref a],[]⟩)
  (λz R s=>s.heap.get? a=some (listOf items m)/\aN s.heap (xs.map .bytes) items.toList/\∀t' k,R (.ok (.ret (.bytes (oz sep xs).toArray t'))) {s with toks:=k}):=by
 refine .of_wp λprog w A R s hh=>?_;refine pq hh λhg hx h=>?_;have hT:s.TypeIs (.ref a) "list":=(dJ hg).typeIs
 have hl:xs.length=items.size:=by have:=hx.length;rw[aZ]at this;exact this
 have hk:(alq==alq)=true:=rfl;unfold Builtin.«bytes.join» Builtin.Bytes.joinM;refine aC (aO ?_);refine tG (ite_yes hk ?_);refine aC ?_;unfold Builtin.Bytes.joinItems;refine aC (xQ hT ?_)
 refine tG (ite_yes (by decide) ?_)
 refine aO ?_;refine aC (E7 hg rfl ?_);refine tG (ite_yes hk ?_)
 by_cases h1:items.size=1
 ·obtain⟨v,rfl⟩:=Array.size_eq_one_iff.1 h1
  refine gH (aeU hx) λx t' aq qN=>?_;subst aq;subst qN;show aM _ _ (typeOf _ >>= _) _ _ _;refine aC (xQ (f6 _ _ _) ?_)
  refine tG (ite_yes (by decide) ?_)
  have h:=h t' s.toks;rw[show oz sep [x]=x from fj x]at h;exact aC (rP (aO ⟨_,rfl,h⟩))
 rw[aeS _ _ _ h1]
 refine aC (join_loop (id:="") hg hx (λi parts taken x u Q hi ht hq=>?_) λtaken ht=>?_)
 ·refine aC (E7 hg rfl ?_)
  have eL:items.getD i .none=.bytes x.toArray u:=by rw[Lc,hi];rfl
  refine tG (Fs (by rw[Sz ht];decide) ?_)
  show aM _ _ (holding (items.getD i .none::_) (YB _ (items.getD i .none) 0) >>= _) _ _ _;refine aC (jf ?_);rw[eL];refine eF aeQ ?_;show aM _ _ (xS _ >>= _) _ _ _;refine aC (E7 hg rfl ?_)
  refine tG (Fs (by simp) ?_)
  exact aO hq
 ·refine aC (eF (a:=sep.toArray) rfl ?_)
  refine tG (Fs (by rw[aeR,KBy.tooLong_not hz];exact gY) ?_)
  show aM _ _ (Builtin.Bytes.Kind.bytes.new (YQ sep.toArray (xs.map (λx=>x.toArray))) >>= _) _ _ _;rw[aeP];refine aC (Mj ?_ (aeT hz));refine aC (jf (wpAny_point ?_));exact aC (Sy taken _ ht (aO ⟨_,rfl,h _ _⟩))
end
set_option tactic.hygienic false
section
open PySem.SeqAt
section
variable{c:Cx}{n:Nat}{ks:Ks}{A:bj}{env:Env}{e:aL}{σ:St}{s:aw}
theorem aeW{o:Obj}{x:CO}(R:Rel c σ s.heap)(hf:o.isFreed=false)(q:σ.new x Q)
  (h:(s.heap.push o).get? s.heap.objs.size=some o->c.H0.get? s.heap.objs.size=none->eK c (s.heap.push o) s.heap.objs.size x):cC c σ s Q (.ref s.heap.objs.size) {s with heap:=s.heap.push o,toks:=tk}:=by
 obtain⟨x,ae,r,w,q⟩:=wx R hf q h;exact⟨x,ae,r,⟨w.rel,w.ext,rfl,rfl⟩,q⟩
noncomputable def yI:FM:=mj .B .B λa b σ Q=>b≠[]/\(∀p∈lB a b,p.length<=1000)/\(lB a b).length<=1000/\σ.new (.list ((lB a b).map .bytes)) Q
theorem aU.split:aU c 0 (.builtin "bytes.split") yI:=aU.a2 λhr R e e2 q=>by
 refine xe e λt aq=>?_;clear e;subst aq;refine xe e2 λu aq=>?_;clear e2;subst aq;exact mR Sk (f6 _ _ _) aet (aeu _ _) (aeO _ _ _ _ q.1 q.2.1 q.2.2.1) λws k hw=>aeW (tk:=k) R rfl q.2.2.2 λe z=>⟨z,_,_,e,hw _⟩
noncomputable def tW:FM:=mj .B .L λa b σ Q=>∃ys:List (List UInt8),σ b=some (.list (ys.map .bytes))/\(oz a ys).length<=16777216/\Q (.bytes (oz a ys)) σ
theorem aU.join:aU c 0 (.builtin "bytes.join") tW:=aU.a2 λhr R e e2 q=>by
 refine bF q λys h1 h2 q=>?_;refine xe e λt aq=>?_;clear e;subst aq;subst e2;exact R.li h1 λitems m hg z rs=>mR Sl (f6 _ _ _) aev (aew _ _) (aeV _ _ _ items m ys h2) ⟨hg,rs,λt' k=>dq R (.bytes _ _) q⟩
theorem aeX{σ:St}{s:aw}(R:Rel c σ s.heap)(r:aV s.heap x v)(h:∃b,x=CV.str b):s.TypeIs v "str"/\∀a,v=.ref a->∃o,s.heap.get? a=some o/\o.dict=none:=by
 obtain⟨b,rfl⟩:=h;refine xe r.pR λt aq=>?_;subst aq;exact⟨typeIs_str _ _ _,λa e=>nomatch e⟩
theorem aN.SS{h:Heap}:∀{ys:List Str} {vs:List ak},aN h (ys.map .str) vs->StrsAre vs ys
 |[],_,r=>by rw[aN.jX r];exact .nil
 |i::is,_,r=>by
  refine jg (aN.iT r) λv ws aq a r1=>?_;subst aq;refine xe a.pR λt aq=>?_;subst aq;exact .cons _ _ (aN.SS r1)
noncomputable def Hb:FM:=mj .S .L λa b σ Q=>∃ys:List Str,σ b=some (.list (ys.map .str))/\(ys.map (λx=>x.length)).sum+ys.length*a.length<=16777216/\Q (.str (Txt.join a ys)) σ
theorem aU.FR:aU c 0 (.builtin "str.join") Hb:=aU.a2 λhr R e e2 q=>by
 refine bF q λys h1 h2 q=>?_;refine xe e λt aq=>?_;clear e;subst aq;subst e2;exact R.li h1 λitems m hg z rs=>join_list (dJ hg) rs.SS h2 λt' k=>dq R (.str _ _) q
noncomputable def CR:FM:=fv .I λa σ Q=>a.natAbs<2^64/\Q (.str (toString a)) σ
theorem aU.str:aU c 0 (.type "str") CR:=aU.a1 λ{A σ s a v Q} hr R e q=>by
 refine xe e λt aq=>?_;clear e;subst aq;refine PySem.P.str_of_int ?_ (dq R (.str _ _) q.2)
 by_cases h0:a.natAbs=0
 ·rw[h0];decide
 ·exact(Nat.log2_lt h0).mpr (ey q.1 (Nat.pow_le_pow_right (by decide) (by decide)))
noncomputable def Hn:FM:=fv .L λa σ Q=>∃is:List Int,σ a=some (.list (is.map .int))/\0<is.length/\∀m,m∈is->(∀i∈is,i<=m)->Q (.int m) σ
theorem aU.max:aU c 0 (.builtin "max") Hn:=aU.a1 λ{A σ s a v Q} hr R e q=>by
 refine bF q λns h1 jH q=>?_;subst e;refine R.li h1 λitems m hg z rs=>?_;have hi:=rs.CP;refine xe hi.allInts.items λxs e=>?_;have e:items=intItems xs:=e
 have lF:ns=xs.toList.map (λx=>x.1):=by rw[<-hi.numsOf,<-nums_intItems,<-e]
 subst lF;rw[aZ,mI]at jH
 refine max_intList hr.h (xs:=xs) (by rw[<-e];exact dJ hg) jH λv h' tk hv hk=>?_
 refine xe (intItems_at hv) λt aq=>?_;subst aq;have g:=argBest_gt (numAt xs) (xs.size- 1)
 refine⟨_,σ,.int _ t,yV R hk,q _ ?_ λa ha=>?_⟩
 ·rw[numAt_eq];exact getD_mem (by rw[aZ,mI];exact je g.1 (Fk jH (nU 0)))
 ·refine a9 (mem_getD ha) λj hj aq=>?_;subst aq
  rw[aZ,mI]at hj;rw[<-numAt_eq];exact g.2 j (Nat.le_sub_one_of_lt hj)
noncomputable def BM:FM:=fv .L λa σ Q=>∃bs:List Bool,σ a=some (.list (bs.map .bool))/\Q (.bool (bs.all id)) σ
theorem aN.aeY{h:Heap}{bs:List Bool}(r:aN h (bs.map .bool) vs)(e:vs[i]?=some v):∃b,bs[i]?=some b/\v=.bool b:=by
 have hl:=r.length;rw[aZ]at hl;have hb:i<bs.length:=hl▸(List.getElem?_eq_some_iff.mp e).1;have CT:=bS hb
 refine a9 (aN.get r (i:=i) (x:=.bool bs[i]) (by rw[dM,CT];rfl)) λu hu ru=>?_
 cases hu.symm.trans e;exact⟨_,CT,ru.Hy⟩
theorem all_range(bs:List Bool):((cS bs.length).all λi=>(bs[i]?).getD true)=bs.all id:=by
 rw[rL,iz,iz]
 refine⟨λh b hb=>?_,λh i hi=>?_⟩
 ·obtain⟨i,hi,rfl⟩:=List.mem_iff_getElem.mp hb
  have:=h i (List.mem_range.mpr hi)
  rwa[bS hi]at this
 ·have hi:=List.mem_range.mp hi
  rw[bS hi];exact h bs[i] (vt hi)
theorem aU.all:aU c 0 (.builtin "all") BM:=aU.a1 λ{A σ s a v Q} hr R e q=>by
 refine a9 q λbs h1 q=>?_;subst e;refine R.li h1 λitems m hg dK rs=>call_all_walk (Y5 (dJ hg) ?_);rw[aZ]at dK
 refine⟨s.heap.objs.size,[s.heap.objs.size,a],[s.heap.objs.size],items.size,_,_,λi=>(bs[i]?).getD true,rfl,Walks.list (A:=A.in1) hr.h _ a (iP (mP hg)) items,
  ⟨⟨_,fX _ rfl,rfl,rfl⟩,(dJ hg).push _⟩,λi v s' Q' E' hP hQ=>?_,λh' tk hk=>?_⟩
 ·refine a9 (rs.aeY (Array.getElem?_toList.trans hP)) λb e aq=>?_;subst aq
  have hQ:Q' ((bs[i]?).getD true) s':=hQ;rw[e]at hQ
  exact AF hQ
 ·rw[<-dK,all_range]
  exact⟨_,σ,.bool _,yV R (LSm.kept_iter hk),q⟩
noncomputable def Hk:CV->CV->St->(CV->St->Prop)->Prop:=λx y σ Q=>∃a i,x=.loc a/\y=.int i/\∃(k:Nat) (v:CV),i=k/\σ a=some (.list [v])/\k<=1000/\σ.new (.list (qr k v)) Q
theorem S0(v:ak):∀(k:Nat) (acc:Array ak),(List.foldl (λx1 x2=>x1++x2) acc (qr k #[v])).toList=acc.toList++qr k v
 |0,acc=>by simp
 |k+1,acc=>by rw[List.replicate_succ,km,S0 v k,List.replicate_succ];simp
theorem aN.replicate{h:Heap}(r:aV h x v):∀k,aN h (qr k x) (qr k v)
 |0=>.nil
 |k+1=>.cons r (aN.replicate r k)
noncomputable def Bh(m1 m2:EM):EM:=λe σ Q=>m1 e σ λx ao=>m2 e ao λy ay=>Hk x y ay Q
theorem aeZ{w:ak}(R:Rel c σ s.heap)(r:aV s.heap x v)(r':aV s.heap y w)(q:Hk x y σ Q):
  aM c.M A (binaryOp .Mult v w) (cC c σ s Q) No s:=by
 obtain⟨l,i,rfl,rfl,k,v,hi,h1,h3,q⟩:=q;obtain rfl:=r.dj;refine xe r'.bZ λu aq=>?_;subst aq;have hf:=R8 h3;rw[<-hi]at hf;refine R.li h1 λitems m hg dK rs=>?_;obtain⟨it,rfl⟩:=Array.size_eq_one_iff.1 dK.symm
 refine wpAny_binaryOp_repeat_ref (T:="list") (U:="int") (by decide) ⟨_,hg,rfl⟩ (λs'=>typeIs_int s' _ u) noFill_list_mul F.fills_int_mul F.slot_int_rmul repeat_list F.slot_int_index.lookup
  (mR F.slot_int_rmul (typeIs_int s _ u) F.entry_int_rmul (F.args_int_rmul_2 _ _) (int___rmul___int_list _ u l #[it] m)
   ⟨hg,rfl,⟨_,hg,rfl⟩,mR F.slot_list_mul ⟨_,hg,rfl⟩ F.entry_list_mul (F.args_list_mul_2 _ _)
    (AutoListH.list___mul___list_int_3 l #[it] m _ u (by rw[hf];exact gY) ?_ ?_)
    ⟨hg,?_⟩⟩)
 ·rw[show #[it].size=1 from rfl,Nat.one_mul,hi];exact Nat.not_lt.2 (aR h3 (cG rfl))
 ·rw[show #[it].size=1 from rfl,Nat.one_mul,hi];exact λz=>nomatch (R7 h3).symm.trans z
 ·refine wx R rfl q λe z=>⟨z,_,_,e,?_⟩
  rw[if_neg (λh=>nomatch h),S0,hi];exact(aN.replicate (rs.iT.elim λo z=>z.elim λo z=>xE z.1▸z.2.1) _).bQ ((Ext.push _).lD R)
theorem aH.mulL{l r:Expr}{pos:Pos}(h1:aH c n ks l m1)(h2:aH c n ks r m2):aH c n ks (.BinOp l .Mult r pos) (Bh m1 m2):=λA env e σ s Q N q=>
 wpAny_BinOp (wp_step (h1 N q) λx v ao s1 r1 w1 q1=>wp_step (h2 (N.bu w1) q1) λy w ay s2 r2 w2 q2=>
  iE (w1.trans w2) (aeZ w2.rel (r1.bu w1.rel w2) r2 q2))
end
end
section
open PySem.SeqAt
section
variable{c:Cx}{n:Nat}{ks:Ks}{A:bj}{env:Env}{e:aL}{σ:St}{s:aw}
noncomputable def M4:SM:=λz z z=>False
noncomputable def pB:SM:=λz z z=>False
theorem eQ.never{b:List Stmt}:eQ c n ks b M4:=λA env e σ s Q z q=>q.elim
theorem cF.aav{b:Stmt}:cF c n ks b pB:=λA env e σ s Q z q=>q.elim
noncomputable def S2:EM:=λe σ Q=>σ.new (.dI []) Q
noncomputable def S5:EM:=λe σ Q=>σ.new (.dS []) Q
noncomputable def nB:EM:=λe σ Q=>σ.new (.dB []) Q
theorem CU{K:Type}[DecidableEq K](knd:KeyKind prog w K){h:Heap}(g:h.get? a=some {cls:=.type "dict",data:=.dict #[]}):h.DictOf knd a []:=
 ⟨_,#[],0,g,⟨rfl,rfl,rfl⟩,rfl,λe he=>by simp at he,.nil,E8⟩
theorem aH.aal{pos:Pos}:aH c n ks (.Dict [] [] pos) S2:=λA env e1 σ s Q N q=>
 Ze (wx N.rel rfl q λe z=>⟨z,[],CU _ e,.nil⟩)
theorem aH.aam{pos:Pos}:aH c n ks (.Dict [] [] pos) S5:=λA env e1 σ s Q N q=>
 Ze (wx N.rel rfl q λe z=>⟨z,[],CU _ e,.nil⟩)
theorem aH.aak{pos:Pos}:aH c n ks (.Dict [] [] pos) nB:=λA env e1 σ s Q N q=>
 Ze (wx N.rel rfl q λe z=>⟨z,[],CU _ e,.nil⟩)
theorem ae0{D:Addr}{x:CO}{k:Nat}(R:Rel c σ s.heap)(hD:D=s.heap.objs.size)
  (w:bK c σ {s with heap:=s.heap.push {cls:=.type "dict",data:=.dict #[]}} ae s')(hs:ju D s'.heap h')(q:ae.new x Q)(r:gr s'.heap h'->c.H0.get? D=none->eK c h' D x):cC c σ s Q (.ref D) {s' with heap:=h',toks:=k}:=by
 subst hD;have hn:=kK s.heap;have w0:=(t6 (c:=c) (s:=s) (o:={cls:=.type "dict",data:=.dict #[]}) R).trans w;have g0:(s.heap.push {cls:=.type "dict",data:=.dict #[]}).get? s.heap.objs.size=some {cls:=.type "dict",data:=.dict #[]}:=fX _ rfl;have g1:=w.ext.at g0 (R.fresh hn);have d1:ae s.heap.objs.size=none:=w.ext.gg _ _ g0 (R.fresh hn)
 have nt:∀items n,s'.heap.get? s.heap.objs.size≠some (d7 items n):=λitems n z=>by rw[g1]at z;exact kJ (by simp) _ _ (bt z)
 have tu:gr s'.heap h':=λb c0 m eb=>hs.extBut b _ (λz=>by subst z;exact nt _ _ eb) eb
 have R':Rel c ae h':=w.rel.but hs.extBut d1 (R.out hn) nt;have R2:=R'.new (r tu (R.out hn))
 have e2:Ext σ s.heap ae h':=⟨λb o eb z=>hs.extBut b o (λq=>by rw[q,hn]at eb;exact bo eb) (w0.ext.keep b o eb z),w0.ext.gg,w0.ext.fc,λb o eb=>by
  obtain⟨o',eo⟩:=w0.ext.more b o eb
  exact⟨o',hs.extBut b o' (λq=>by rw[q,hn]at eb;exact bo eb) eo⟩⟩
 exact⟨_,_,.loc _,⟨R2,e2.new hn (R.fresh hn),w0.gens,w0.os⟩,q _ d1⟩
noncomputable abbrev EP(κ:Type):=aL->St->(List (κ×CV)->St->Prop)->Prop
noncomputable abbrev IS(env:Env)(pos:Pos)(ps:List (Expr×Expr)):List (Sem ak×Sem ak):=ps.map λp=>(eval p.1 env,do let x <-eval p.2 env;oe pos;pure x)
section
variable{κ:Type}[DecidableEq κ]
noncomputable def ae1(c:Cx)(knd:KeyKind c.prog c.w κ)(σ:St)(s:aw)(Q:List (κ×CV)->St->Prop):List (ak×ak)->aw->Prop:=λvs s'=>∃es kvs ae,Carries knd vs kvs/\cZ s'.heap es kvs/\bK c σ s ae s'/\Q es ae
noncomputable def kN(c:Cx)(n:Nat)(ks:Ks)(knd:KeyKind c.prog c.w κ)(pos:Pos)(ps:List (Expr×Expr))(m:EP κ):Prop:=∀⦃A:bj⦄ ⦃env:Env⦄ ⦃e:aL⦄ ⦃σ:St⦄ ⦃s:aw⦄ ⦃Q:List (κ×CV)->St->Prop⦄,cO c n A env ks e σ s->m e σ Q->aM c.M A (evalPairs (IS env pos ps)) (ae1 c knd σ s Q) No s
noncomputable def qQ(c:Cx)(n:Nat)(ks:Ks)(knd:KeyKind c.prog c.w κ)(x:Expr)(m:aL->St->(κ->St->Prop)->Prop):Prop:=∀⦃A:bj⦄ ⦃env:Env⦄ ⦃e:aL⦄ ⦃σ:St⦄ ⦃s:aw⦄ ⦃Q:κ->St->Prop⦄,cO c n A env ks e σ s->m e σ Q->aM c.M A (eval x env) (λv s'=>∃k ae,knd.is k v=true/\bK c σ s ae s'/\Q k ae) No s
variable{knd:KeyKind c.prog c.w κ}{pos:Pos}
theorem kN.nil:kN c n ks knd pos [] λz σ Q=>Q [] σ:=λA env e ao s Q1 N q=>evalPairs_nil ⟨[],[],_,trivial,.nil,.refl N.rel,q⟩
theorem kN.cons{k v:Expr}{ps:List (Expr×Expr)}{mk:aL->St->(κ->St->Prop)->Prop}{m:EM}{r:EP κ}(h0:qQ c n ks knd k mk)(h1:aH c n ks v m)(h2:kN c n ks knd pos ps r):
  kN c n ks knd pos ((k,v)::ps) λe σ Q=>mk e σ λk ao=>m e ao λx ay=>r e ay λes aQ=>Q ((k,x)::es) aQ:=λA env e1 H6 s Q1 N q=>
 evalPairs_cons (b0 (h0 N q) (λkv s1 z=>z.elim λk z=>z.elim λao z=>
  aC (wp_step (h1 (N.bu z.2.1) z.2.2) λx v ay s2 r2 w2 q2=>aC (k0 (aO (b0 (h2 ((N.bu z.2.1).bu w2) q2) (λvs s3 z3=>by
   obtain⟨es,kvs,aQ,hc,hr,w3,q3⟩:=z3
   exact⟨(k,x)::es,(k,v)::kvs,aQ,⟨z.1,rfl,hc⟩,.cons (r2.bu w2.rel w3) hr,(z.2.1.trans w2).trans w3,q3⟩) λo o z=>z))))) λo o z=>z)
theorem ae2{h:Heap}{es:List (κ×CV)}{kvs:List (κ×ak)}(r:cZ h es kvs):∀{S6:List (κ×CV)} {S7:List (κ×ak)},cZ h S6 S7->cZ h (es.foldl (λl p=>bY l p.1 p.2) S6) (PySem.merged S7 kvs):=by
 induction r with
 |nil=>exact λr=>r
 |cons e _ ih=>exact λr0=>ih (r0.bY _ e)
theorem kN.dict{keys:List (Option Expr)}{values:List Expr}{ps:List (Expr×Expr)}{m:EP κ}{x:List (κ×CV)->CO}(h:kN c n ks knd pos ps m)(hr:∀{h:Heap} {D:Addr} {es kvs},c.H0.get? D=none->h.DictOf knd D kvs->cZ h es kvs->eK c h D (x es))
  (hs:∀env,(evalEachOpt keys env).zip ((evalEach values env).map λv=>do let x <-v;oe pos;pure x)=(IS env pos ps).map λp=>(some p.1,p.2))(h0:ps≠[])(hl:ps.length<=15):
  aH c n ks (.Dict keys values pos) λe σ Q=>m e σ λes ae=>ae.new (x (es.foldl (λl p=>bY l p.1 p.2) [])) Q:=λA env e σ s Q N q=>by
 refine wpAny_Dict_pairs (knd:=knd) (pairs:=IS env pos ps) (hs env) (λz=>h0 (xG.1 z)) (by rw[aZ];exact hl) (b0 (h (N.bu (t6 N.rel)) q) (λvs s1 z=>?_) λo o z=>z)
 obtain⟨es,kvs,ao,hc,hk,w,q1⟩:=z;exact⟨kvs,hc,CU _ (w.ext.at (fX _ rfl) (N.rel.fresh (kK _))),λh' hd hs=>ae0 N.rel rfl w hs q1 λtu z=>hr z hd (ae2 (hk.bQ tu) .nil)⟩
end
theorem qQ.str{a:Str}{k:Nat}{p:Pos}:qQ c n ks (AS c.prog c.w) (.Constant (.str a) k p) λz σ Q=>Q a σ:=λA env e ao s Q1 N q=>λz z z=>⟨a,_,A4 ..,.HB N.rel _,q⟩
theorem qQ.int{k:Expr}{m:EM}(h:aH c n ks k m):qQ c n ks (intKind c.prog c.w) k λe σ Q=>m e σ λx ao=>∃i,x=.int i/\Q i ao:=λA env e1 H6 s Q1 N q=>
 wp_step (h N q) λx v ao s1 r1 w1 q1=>q1.elim λi z=>by
  obtain⟨rfl,z⟩:=z;refine xe r1.bZ λt aq=>?_;subst aq;exact⟨i,_,Fq ..,w1,z⟩
noncomputable def x6(a b d:Str)(m1 m2 m3:EM):EM:=λe σ Q=>m1 e σ λx ao=>m2 e ao λy ay=>m3 e ay λz aQ=>aQ.new (.dS (bY (bY (bY [] a x) b y) d z)) Q
theorem aH.aai{a b d:Str}{k1 k2 k3:Nat}{p1 p2 p3 pos:Pos}{v1 v2 v3:Expr}(h1:aH c n ks v1 m1)(h2:aH c n ks v2 m2)(h3:aH c n ks v3 m3):
  aH c n ks (.Dict [some (.Constant (.str a) k1 p1),some (.Constant (.str b) k2 p2),some (.Constant (.str d) k3 p3)] [v1,v2,v3] pos) (x6 a b d m1 m2 m3):=
 kN.dict (ps:=[(.Constant (.str a) k1 p1,v1),(.Constant (.str b) k2 p2,v2),(.Constant (.str d) k3 p3,v3)]) (x:=.dS) (@kN.cons _ _ _ _ _ _ _ _ _ _ _ _ _ (@qQ.str _ _ _ _ _ _) @h1 (@kN.cons _ _ _ _ _ _ _ _ _ _ _ _ _ (@qQ.str _ _ _ _ _ _) @h2 (@kN.cons _ _ _ _ _ _ _ _ _ _ _ _ _ (@qQ.str _ _ _ _ _ _) @h3 (@kN.nil _ _ _ _ _ _ _)))) (λz d r=>⟨z,_,d,r⟩) (λo=>rfl) (List.cons_ne_nil _ _) (cG rfl)
noncomputable def IT(mk m1:EM):EM:=λe σ Q=>mk e σ λk ao=>∃i,k=.int i/\m1 e ao λx ay=>ay.new (.dI (bY [] i x)) Q
theorem aH.aan{k v:Expr}{pos:Pos}{mk m1:EM}(h0:aH c n ks k mk)(h1:aH c n ks v m1):aH c n ks (.Dict [some k] [v] pos) (IT mk m1):=
 kN.dict (ps:=[(k,v)]) (x:=.dI) (@kN.cons _ _ _ _ _ _ _ _ _ _ _ _ _ (@qQ.int _ _ _ _ _ @h0) @h1 (@kN.nil _ _ _ _ _ _ _)) (λz d r=>⟨z,_,d,r⟩) (λo=>rfl) (List.cons_ne_nil _ _) (cG rfl)
theorem aaS:c5 c "join" "str.join" (λx z=>∃b,x=CV.str b):=c5.of PySem.F.plainAttrs_str PySem.F.slot_str_join PySem.F.type_str_join aeX
noncomputable abbrev isStr(x:CV)(_:St):Prop:=∃b,x=CV.str b
noncomputable def i5(a b:List UInt8):Bool:=YV a b==.lt
noncomputable def oH(p q:Int×List UInt8):Bool:=decide (p.1<q.1)||(decide (p.1=q.1)&&i5 p.2 q.2)
noncomputable def mn(p:Int×List UInt8):CV:=.tup [.int p.1,.bytes p.2]
noncomputable def ae3:FM:=fv .L λa σ Q=>∃es,σ a=some (.dI es)/\es.length<=4/\∀ws:List Int,ws.Perm (es.map (λx=>x.1))->ws.Pairwise (·<=·)->σ.new (.list (ws.map .int)) Q
noncomputable def ae4:FM:=fv .L λa σ Q=>∃es,σ a=some (.dB es)/\es.length<=4/\∀ws:List (List UInt8),ws.Perm (es.map (λx=>x.1))->ws.Pairwise (λx y=>i5 y x=false)->σ.new (.list (ws.map .bytes)) Q
noncomputable def ae5:FM:=fv .L λa σ Q=>∃bs,σ a=some (.set bs)/\bs.length<=4/\∀ws:List (List UInt8),ws.Perm bs->ws.Pairwise (λx y=>i5 y x=false)->σ.new (.list (ws.map .bytes)) Q
noncomputable def ae6:FM:=fv .L λa σ Q=>∃ps:List (Int×List UInt8),σ a=some (.list (ps.map mn))/\ps.length<=4/\∀ws:List (Int×List UInt8),ws.Perm ps->ws.Pairwise (λx y=>oH y x=false)->σ.new (.list (ws.map mn)) Q
noncomputable def uo:FM:=pW ae3 (pW ae4 (pW ae5 ae6))
noncomputable def wL(l:List (List UInt8)):List (List UInt8):=l.foldl (λacc x=>if x∈acc then acc else acc++[x]) []
noncomputable def Ta:FM:=fv .L λa σ Q=>∃bs:List (List UInt8),σ a=some (.list (bs.map .bytes))/\bs.length<=1000/\σ.new (.set (wL bs)) Q
noncomputable def CY(x:CV)(σ:St):Prop:=∃a b,x=.loc a/\σ a=some (.ba b)
noncomputable def Hm:FM:=λxs kx σ Q=>xs=[]/\kx=[]/\σ.new (.ba []) Q
noncomputable def Tc:FM:=mj .L .I λa i σ Q=>∃b,σ a=some (.ba b)/\0<=i/\i<256/\b.length<=1000/\Q .none (upd σ a (.ba (b++[i.toNat.toUInt8])))
noncomputable def Td:FM:=fv .L λa σ Q=>∃b,σ a=some (.ba b)/\b.length<=1000/\Q .none (upd σ a (.ba b.reverse))
noncomputable def IU:FM:=fv .L λa σ Q=>∃b,σ a=some (.ba b)/\b.length<=1000/\Q (.int b.length) σ
noncomputable def IV:FM:=fv .L λa σ Q=>∃b,σ a=some (.ba b)/\b.length<=1000/\Q (.bytes b) σ
end
end
section
open PySem.SeqAt
noncomputable def pZ{α:Type}(f:Nat->Nat->Bool):KasT α->α
 |.ret a=>a
 |.ask i j k=>pZ f (k (f i j))
noncomputable def qW{α:Type}(n:Nat):KasT α->Bool
 |.ret _=>true
 |.ask i j k=>lg i n&&lg j n&&qW n (k true)&&qW n (k false)
theorem TX{α:Type}{n:Nat}{f:Nat->Nat->Bool}{s:aw}{cmp:Nat->Nat->(Bool->aw->Prop)->aw->Prop}(hc:∀i j,i<n->j<n->∀C:Bool->aw->Prop,C (f i j) s->cmp i j C s):
  ∀(t:KasT α) {Q:α->aw->Prop},qW n t=true->Q (pZ f t) s->t.kasWp cmp Q s
 |.ret a,Q,_,q=>q
 |.ask i j k,Q,h,q=>by
  refine xa (cK.1 h) λh h4=>xa (cK.1 h) λh h3=>xa (cK.1 h) λh1 h2=>?_;refine hc i j (cG h1) (cG h2) _ ?_;refine TX hc _ ?_ q
  cases f i j
  ·exact h4
  ·exact h3
theorem afY:qW 2 (qy 2)=true:=by decide+kernel
theorem afZ:qW 3 (qy 3)=true:=by decide+kernel
theorem af0:qW 4 (qy 4)=true:=by decide+kernel
noncomputable def uv(n:Nat):Nat->List (List Nat)
 |0=>[[]]
 |k+1=>(uv n k).flatMap λl=>(cS n).map λi=>i::l
noncomputable def zu(l:List Nat)(i j:Nat):Bool:=lg (l.getD i 0) (l.getD j 0)
noncomputable def I7(f:Nat->Nat->Bool):List Nat->Bool
 |[]=>true
 |x::xs=>xs.all (λy=>!f y x)&&I7 f xs
noncomputable def zv(n:Nat)(l:List Nat):Bool:=(pZ (zu l) (qy n)).toList.isPerm (cS n)&&I7 (zu l) (pZ (zu l) (qy n)).toList
theorem good2:(uv 2 2).all (zv 2)=true:=by decide+kernel
theorem good3:(uv 3 3).all (zv 3)=true:=by decide+kernel
theorem af1:(uv 4 4).all (zv 4)=true:=by decide+kernel
theorem TY(n:Nat):∀(k:Nat) (l:List Nat),l.length=k->(∀x∈l,x<n)->l∈uv n k
 |0,l,hl,_=>by rw[List.length_eq_zero_iff.mp hl];exact .head _
 |k+1,[],hl,_=>by exact rT hl
 |k+1,x::l,hl,h=>by
  unfold uv;rw[EX]
  exact⟨l,TY n k l (by simpa using hl) (λy hy=>h y (.tail _ hy)),List.mem_map.mpr ⟨x,List.mem_range.mpr (h x (.head _)),rfl⟩⟩
theorem TZ{f:Nat->Nat->Bool}:∀{l:List Nat},I7 f l=true->l.Pairwise (λi j=>f j i=false)
 |[],_=>.nil
 |x::xs,h=>by
  exact xa (cK.1 h) λh1 h2=>.cons (λy hy=>mK _▸iz.1 h1 y hy) (TZ h2)
theorem T8{α:Type}{n:Nat}{f g:Nat->Nat->Bool}(hh:∀i j,i<n->j<n->f i j=g i j):∀(t:KasT α),qW n t=true->pZ f t=pZ g t
 |.ret a,_=>rfl
 |.ask i j k,ho=>by
  refine xa (cK.1 ho) λh h4=>xa (cK.1 h) λh h3=>xa (cK.1 h) λh1 h2=>?_;have e:=hh i j (cG h1) (cG h2);show pZ f (k (f i j))=pZ g (k (g i j));rw[<-e];refine T8 hh _ ?_
  cases f i j
  ·exact h4
  ·exact h3
structure j7{κ:Type}(lt:κ->κ->Bool):Prop where
 uw:∀a,lt a a=false
 tr:∀a b c,lt a b=true->lt b c=true->lt a c=true
 neg:∀a b c,lt a c=true->lt a b=true\/lt b c=true
theorem filter_lt{α:Type}{p q:α->Bool}:∀{l:List α},(∀x∈l,p x=true->q x=true)->(∃x∈l,q x=true/\p x=false)->(l.filter p).length<(l.filter q).length
 |[],_,⟨x,hx,_⟩=>cA hx
 |y::l,h,⟨x,hx,hq,hp⟩=>by
  have hle:(l.filter p).length<=(l.filter q).length:=by
   clear hx;have h':∀x∈l,p x=true->q x=true:=λx hx=>h x (.tail _ hx);clear h
   induction l with
   |nil=>exact cP _
   |cons z l ih=>
    rw[mM,mM];have:=ih λx hx=>h' x (.tail _ hx)
    by_cases hz:p z=true
    ·rw[if_pos hz,if_pos (h' z (.head _) hz)];simpa using this
    ·rw[if_neg hz];split<;>simp<;>(first |exact rG this |exact this)
  rw[mM,mM]
  rcases List.mem_cons.mp hx with rfl |hx
  ·rw[if_pos hq,if_neg (by rw[hp];decide)];simp;exact qn hle
  ·have:=filter_lt (λx hx=>h x (.tail _ hx)) ⟨x,hx,hq,hp⟩
   by_cases hz:p y=true
   ·rw[if_pos hz,if_pos (h y (.head _) hz)];simpa using this
   ·rw[if_neg hz];split<;>simp<;>(first |exact xI this |exact this)
theorem filter_le{α:Type}{p q:α->Bool}{l:List α}(h:∀x∈l,p x=true->q x=true):(l.filter p).length<=(l.filter q).length:=by
 induction l with
 |nil=>exact cP _
 |cons z l ih=>
  rw[mM,mM];have:=ih λx hx=>h x (.tail _ hx)
  by_cases hz:p z=true
  ·rw[if_pos hz,if_pos (h z (.head _) hz)];simpa using this
  ·rw[if_neg hz];split<;>simp<;>(first |exact rG this |exact this)
theorem af2{κ:Type}{lt:κ->κ->Bool}(O:j7 lt)(ks:List κ)(d:κ)(h2:2<=ks.length)(h4:ks.length<=4):
  qW ks.length (qy ks.length)=true/\(pZ (λi j=>lt (ks.getD i d) (ks.getD j d)) (qy ks.length)).toList.Perm (cS ks.length)/\
   (pZ (λi j=>lt (ks.getD i d) (ks.getD j d)) (qy ks.length)).toList.Pairwise (λi j=>lt (ks.getD j d) (ks.getD i d)=false):=by
 have bw:qW ks.length (qy ks.length)=true/\(uv ks.length ks.length).all (zv ks.length)=true:=by
  have:ks.length=2\/ks.length=3\/ks.length=4:=Mp h2 h4
  rcases this with e |e |e<;>rw[e]
  ·exact⟨afY,good2⟩
  ·exact⟨afZ,good3⟩
  ·exact⟨af0,af1⟩
 refine⟨bw.1,?_⟩
 let rk:Nat->Nat:=λi=>((cS ks.length).filter λk=>lt (ks.getD k d) (ks.getD i d)).length
 have I8:∀i,i<ks.length->rk i<ks.length:=λi hi=>by
  have:=filter_lt (l:=cS ks.length) (p:=λk=>lt (ks.getD k d) (ks.getD i d)) (q:=λz=>true) (λz z z=>rfl) ⟨i,List.mem_range.mpr hi,rfl,O.uw _⟩
  have e:(List.filter (λz=>true) (cS ks.length)).length=ks.length:=by rw[List.filter_eq_self.mpr λz z=>rfl];simp
  rw[e]at this;exact this
 have hr:∀i j,i<ks.length->j<ks.length->lt (ks.getD i d) (ks.getD j d)=zu ((cS ks.length).map rk) i j:=λi j hi hj=>by
  have e1:((cS ks.length).map rk).getD i 0=rk i:=by rw[dG,dM,YU hi];rfl
  have e2:((cS ks.length).map rk).getD j 0=rk j:=by rw[dG,dM,YU hj];rfl
  unfold zu;rw[e1,e2]
  cases ck:lt (ks.getD i d) (ks.getD j d)with
  |true=>
   have:rk i<rk j:=filter_lt (λk z hk=>O.tr _ _ _ hk ck) ⟨i,List.mem_range.mpr hi,ck,O.uw _⟩
   exact(Nat.ble_eq.mpr this).symm
  |false=>
   have:rk j<=rk i:=filter_le λk z hk=>by
    rcases O.neg _ (ks.getD i d) _ hk with h |h
    ·exact h
    ·rw[ck]at h;exact eP h
   have:¬rk i<rk j:=by exact Zf this
   cases hb:lg (rk i) (rk j)with
   |false=>rfl
   |true=>exact absurd (cG hb) this
 have hm:=List.all_eq_true.mp bw.2 _ (TY ks.length ks.length ((cS ks.length).map rk) (by simp) λx hx=>by
  refine a9 (List.mem_map.mp hx) λi hi aq=>?_;subst aq
  exact I8 i (List.mem_range.mp hi))
 unfold zv at hm;rw[rI]at hm;have ec:=T8 (n:=ks.length) hr (qy ks.length) bw.1;rw[ec];have hp:=List.isPerm_iff.mp hm.1;refine⟨hp,(TZ hm.2).imp_of_mem λhi hj h=>?_⟩;have ff:=List.mem_range.mp (hp.mem_iff.mp hi);have wz:=List.mem_range.mp (hp.mem_iff.mp hj);rw[hr _ _ wz ff];exact h
section
variable{prog:dv}{w:cM}{A:bj}{E:ak->aw->Prop}{s:aw}
theorem af3(vs:List ak):Array.map (λx=>x.2) (vs.toArray.zip vs.toArray)=vs.toArray:=by
 apply Array.ext';simp[List.map_snd_zip]
theorem map_getD{α:Type}(vs:List α)(d:α):(cS vs.length).map (λi=>vs.getD i d)=vs:=by
 apply List.ext_getElem
 ·simp
 ·intro i h1 h2
  simp[h2]
theorem af4{κ:Type}{lt:κ->κ->Bool}(O:j7 lt){n:Nat}{K:SortKind}(ks:List κ)(d:κ){P:PySem.Fin->aw->Prop}(ho:s.heap.get? a=some (jS "list" vs.toArray n))(hl:ks.length=vs.length)(h4:vs.length<=4)
  (hk:2<=vs.length->∀h',(∀b o,b≠a->s.heap.get? b=some o->h'.get? b=some o)->∀Q:SortKind->aw->Prop,Q K {s with heap:=h'}->aM (model prog w) A (keyKind' vs.toArray) Q E {s with heap:=h'})
  (hc:∀h',(∀b o,b≠a->s.heap.get? b=some o->h'.get? b=some o)->∀i j,i<vs.length->j<vs.length->∀C:Bool->aw->Prop,C (lt (ks.getD i d) (ks.getD j d)) {s with heap:=h'}->aM (model prog w) A (keyLt' K (vs.getD i kq) (vs.getD j kq)) C (λz z=>False) {s with heap:=h'})
  (h:∀p:List Nat,p.Perm (cS vs.length)->p.Pairwise (λi j=>lt (ks.getD j d) (ks.getD i d)=false)->∀h' c,(∀b o,b≠a->s.heap.get? b=some o->h'.get? b=some o)->h'.get? a=some (listOf (p.map λi=>vs.getD i kq).toArray c)->P (.done (.ret .none)) {s with heap:=h'}):
  aM (model prog w) A (Builtin.«list.sort» ⟨[.ref a],[]⟩) P E s:=by
 have ha:a<s.heap.objs.size:=mP ho;have s1:=mJ s.heap a (jv λz=>(#[]:Array ak));obtain⟨e1,T9⟩:∃e1,(s.heap.update a (jv λz=>(#[]:Array ak))).get? a=some (jS "list" #[] e1):=⟨_,get?_update_seq ho λz=>#[]⟩
 have keep:∀b o,b≠a->s.heap.get? b=some o->(((s.heap.update a (jv λz=>(#[]:Array ak))).push (jS "tuple" vs.toArray 0)).push (jS "list" #[] 0)).get? b=some o:=λb o hb e=>
  dY _ (dY _ (s1.extBut b o hb e))
 have na:(((s.heap.update a (jv λz=>(#[]:Array ak))).push (jS "tuple" vs.toArray 0)).push (jS "list" #[] 0)).get? a=some (jS "list" #[] e1):=dY _ (dY _ T9)
 have fin:∀p:List Nat,p.Perm (cS vs.length)->p.Pairwise (λi j=>lt (ks.getD j d) (ks.getD i d)=false)->∀h':Heap,(∀b o,b≠a->s.heap.get? b=some o->h'.get? b=some o)->h'.get? a=some (jS "list" #[] e1)->
   P (.done (.ret .none)) {s with heap:=h'.update a (jv λz=>(p.map λi=>vs.getD i kq).toArray)}:=λp hp hs h' c4 hg=>by
  have s2:=mJ h' a (jv λz=>(p.map λi=>vs.getD i kq).toArray);obtain⟨c2,C7⟩:∃c2,(h'.update a (jv λz=>(p.map λi=>vs.getD i kq).toArray)).get? a=some (jS "list" (p.map λi=>vs.getD i kq).toArray c2):=⟨_,get?_update_seq hg λz=>_⟩;exact h p hp hs _ c2 (λb o hb e=>s2.extBut b o hb (c4 b o hb e)) C7
 have szl:∀p:List Nat,p.Perm (cS vs.length)->p.length=vs.length:=λp hp=>by rw[hp.length_eq];simp
 rw[list_sort_plain];refine aC (listItems_at ho rfl ?_)
 refine aC (listUpdate_at ho rfl ?_ (by rw[xJ,A2];exact cB h4 rfl) (dE _))
 refine aC (seqEpoch_at T9 rfl ?_)
 refine aC (wpAny_newTuple ?_ (by show vs.length<=_;rw[A2];exact cB h4 rfl))
 refine aC (wpAny_newList ?_ (dE _));refine jf ?_
 show aM (model prog w) A _ P E {s with heap:=((s.heap.update a (jv λz=>(#[]:Array ak))).push (jS "tuple" vs.toArray 0)).push (jS "list" #[] 0)}
 dsimp only
 by_cases h2:vs.toArray.size<2
 ·rw[if_pos h2,if_pos h2]
  refine aC (aO ?_);rw[StateT.run_pure];refine aC (aO ?_);dsimp only;refine aC (seqEpoch_at na rfl ?_)
  have zw:vs.length<2:=by simpa using h2
  have e:(Array.map (λx=>x.2) (vs.toArray.zip vs.toArray))=(List.map (λi=>vs.getD i kq) (cS vs.length)).toArray:=by rw[af3,map_getD]
  refine aC (listUpdate_at na rfl ?_ (dE _) (by
   refine aR (rN ?_) (rG (dQ (aR h4 (by decide))))
   show(Array.map (λx=>x.2) (vs.toArray.zip vs.toArray)).size=vs.length
   rw[e];simp))
  simp only[bne_self_eq_false,pe,if_false];refine aO ?_
  have:=fin (cS vs.length) (List.Perm.refl _) (by
   have:vs.length=0\/vs.length=1:=zo (AE zw)
   rcases this with e |e<;>rw[e]
   ·exact .nil
   ·exact .cons (λz h=>cA h) .nil) _ keep na
  rw[<-e]at this
  exact this
 ·rw[if_neg h2,if_neg h2]
  have zw:2<=vs.length:=by simpa using h2
  refine aC (hk zw _ keep _ ?_)
  have I9:SortSt.mk' K (vs.toArray.zip vs.toArray) #[] 7 none=kas_st K (pairsOf vs) (Mm (cS vs.length)):=by
   have e:=kas_range (pairsOf vs);rw[pairsOf_size]at e;show SortSt.mk' K (pairsOf vs) #[] 7 none=SortSt.mk' K ((Mm (cS vs.length)).map (kas_item (pairsOf vs))) #[] 7 none;rw[e]
  refine pq (af2 O ks d (aR zw (er hl)) (aR (el hl) h4)) λt1 t2 t3=>?_;rw[hl]at t1 t2 t3
  have ask:(qy vs.length).kasWp (kas_cmp prog w A K (pairsOf vs)) (λp s'=>(p.toList.Perm (cS vs.length)/\p.toList.Pairwise (λi j=>lt (ks.getD j d) (ks.getD i d)=false))/\s'={s with heap:=((s.heap.update a (jv λz=>(#[]:Array ak))).push (jS "tuple" vs.toArray 0)).push (jS "list" #[] 0)})
    {s with heap:=((s.heap.update a (jv λz=>(#[]:Array ak))).push (jS "tuple" vs.toArray 0)).push (jS "list" #[] 0)}:=by
   rw[<-kas_ask_eq];exact TX (n:=vs.length) (f:=λi j=>lt (ks.getD i d) (ks.getD j d)) (λi j hi hj C hC=>hc _ keep i j hi hj C hC) _ t1 ⟨⟨t2,t3⟩,rfl⟩
  have run:=kas_runs (E:=E) (Q:=λz zx s'=>∃p:Array Nat,p.size=vs.length/\arrOf zx=p.map (kas_item (pairsOf vs))/\failedOf zx=none/\((p.toList.Perm (cS vs.length)/\p.toList.Pairwise (λi j=>lt (ks.getD j d) (ks.getD i d)=false))/\s'={s with heap:=((s.heap.update a (jv λz=>(#[]:Array ak))).push (jS "tuple" vs.toArray 0)).push (jS "list" #[] 0)}))
   zw (l1 h4 (by simp+arith only)) (λp' zx s' a1 a2 a3 a4=>⟨p',a1,a2,a3,a4⟩) ask
  rw[<-I9]at run;refine aC (b0 run ?_ λz z e=>e);rintro⟨⟨⟩,zx⟩ s' ⟨p,hp,har,hf,⟨q1,q2⟩,rfl⟩;dsimp only
  have HV:(arrOf zx).map (λx=>x.2)=Mm (p.toList.map λi=>vs.getD i kq):=by
   apply Array.toList_inj.mp;rw[har,Array.map_map,Zg]
   exact pd λi z=>by show(kas_item (pairsOf vs) i).2=_;rw[kas_item_eq]
  rw[HV];refine aC (seqEpoch_at na rfl ?_)
  refine aC (listUpdate_at na rfl ?_ (dE _) (by rw[xJ,aZ,szl p.toList q1];exact rG (dQ (aR h4 (by decide)))))
  rw[hf];simp only[bne_self_eq_false,pe,if_false];exact aO (fin p.toList q1 q2 _ keep na)
end
end
section
open PySem.SeqAt
open PySem.Builtin in
theorem af5(b c:Array UInt8)(t u:Tok):Gives («bytes.__lt__» ⟨[.bytes b t,.bytes c u],[]⟩) (.val (.bool (i5 b.toList c.toList))):=by
 refine .of_wp λM A E s Q hq=>?_;show aM M A (isInstance (.bytes c u) (.type "bytes") >>= λr=>_) _ E s;refine aC (AJ (f6 s c u) F.sub_bytes_bytes ?_);exact aO ⟨_,rfl,hq⟩
section
variable{prog:dv}{w:cM}{A:bj}{E:ak->aw->Prop}{s:aw}{b c:Array UInt8}{t u:Tok}
theorem af6{Q:ak->aw->Prop}(h:Q (.bool (i5 b.toList c.toList)) s):aM (model prog w) A (compareOp .Lt (.bytes b t) (.bytes c u)) Q E s:=
 compareOp_gives (op:=.Lt) (f6 s b t) (f6 s c u) IP So (Sp _ _) (af5 b c t u) (λe=>nomatch e) h
theorem af7{Q:ak->aw->Prop}(h:Q (.bool (i5 b.toList c.toList)) s):aM (model prog w) A (call (.builtin "bytes.__lt__") [.bytes b t,.bytes c u]) Q E s:=by
 refine rH IP (f6 s b t) So ?_ (Sp _ _);show aM _ _ (isInstance (.bytes c u) (.type "bytes") >>= λr=>_) _ _ s;refine aC (AJ (f6 s c u) PySem.F.sub_bytes_bytes ?_);exact aO ⟨_,rfl,h⟩
theorem af8{Q:Bool->aw->Prop}(h:Q (i5 b.toList c.toList) s):aM (model prog w) A (oneLt' true (.bytes b t) (.bytes c u)) Q E s:=by
 rw[oneLt'_eq];rw[if_pos rfl];refine aC (wpAny_cRoomFor_byValue rfl ?_);refine aC (wpAny_callSpecialIfBound?_slot (f6 s b t) IP (af7 ?_));exact AF h
end
theorem af9{a b:List UInt8}:YV a b=.lt↔a<b:=by
 induction a generalizing b with
 |nil=>
  cases b with
  |nil=>show Ordering.eq=.lt↔_;simp
  |cons y ys=>show Ordering.lt=.lt↔_;simp
 |cons x xs ih=>
  induction b with
  |nil=>show Ordering.gt=.lt↔_;simp
  |cons y ys=>
   show(if x<y then Ordering.lt else if x>y then Ordering.gt else YV xs ys)=.lt↔_
   rw[List.cons_lt_cons_iff]
   by_cases h1:x<y
   ·simp[h1]
   ·by_cases h2:x>y
    ·have:x≠y:=λe=>by subst e;exact absurd h2 (UInt8.lt_irrefl _)
     simp[h1,h2,this]
    ·have:x=y:=UInt8.le_antisymm (UInt8.not_lt.mp h2) (UInt8.not_lt.mp h1)
     subst this;simp[h1,ih]
theorem qX{a b:List UInt8}:i5 a b=true↔a<b:=by
 unfold i5;rw[beq_iff_eq];exact af9
theorem j7.bytes:j7 i5 where
 uw a:=by cases h:i5 a a with |false=>rfl |true=>exact absurd (qX.mp h) (List.lt_irrefl a)
 tr a b c h k:=qX.mpr (List.lt_trans (qX.mp h) (qX.mp k))
 neg a b c h:=by
  cases k:i5 a b with
  |true=>exact .inl rfl
  |false=>
   right
   have:¬a<b:=λz=>by rw[qX.mpr z]at k;exact iR k
   exact qX.mpr (List.lt_of_le_of_lt (List.not_lt.mp this) (qX.mp h))
theorem Ua{a b:List UInt8}(h:i5 a b=false)(k:i5 b a=false):a=b:=by
 have h':¬a<b:=λz=>by rw[qX.mpr z]at h;exact iR h
 have k':¬b<a:=λz=>by rw[qX.mpr z]at k;exact iR k
 exact List.le_antisymm (List.not_lt.mp k') (List.not_lt.mp h')
noncomputable def ux(a b:Int):Bool:=decide (a<b)
theorem j7.ints:j7 ux where
 uw a:=by simp[ux]
 tr a b c h k:=by simp only[ux,decide_eq_true_eq]at*;exact ph h k
 neg a b c h:=by simp only[ux,decide_eq_true_eq]at*;exact Zy h
theorem j7.lD:j7 oH where
 uw a:=by simp[oH,j7.bytes.uw]
 tr a b c h k:=by
  simp only[oH,L8,rI,decide_eq_true_eq]at*
  rcases h with h |⟨h,h'⟩<;>rcases k with k |⟨k,k'⟩
  ·left;exact ph h k
  ·left;rw[<-k];exact h
  ·left;rw[h];exact k
  ·right;exact⟨by exact h.trans k,j7.bytes.tr _ _ _ h' k'⟩
 neg a b c h:=by
  simp only[oH,L8,rI,decide_eq_true_eq]at*
  rcases h with h |⟨h,h'⟩
  ·rcases Y6 a.1 b.1 with k |k |k
   ·exact .inl (.inl k)
   ·right;left;rw[<-k];exact h
   ·right;left;exact ph k h
  ·rcases Y6 a.1 b.1 with k |k |k
   ·exact .inl (.inl k)
   ·rcases j7.bytes.neg _ b.2 _ h' with z |z
    ·exact .inl (.inr ⟨k,z⟩)
    ·exact .inr (.inr ⟨by exact k.symm.trans h,z⟩)
   ·right;left;rw[<-h];exact k
theorem aga{a b:Int×List UInt8}(h:oH a b=false)(k:oH b a=false):a=b:=by
 simp only[oH,YO,Bool.and_eq_false_iff,decide_eq_false_iff_not]at*;have e:a.1=b.1:=Int.le_antisymm (nZ.1 k.1) (nZ.1 h.1);have:a.2=b.2:=Ua (h.2.resolve_left λz=>z e) (k.2.resolve_left λz=>z e.symm);exact Prod.ext e this
section
variable{prog:dv}{w:cM}{A:bj}{E:ak->aw->Prop}{s:aw}
theorem agb{T:String}(hT:(k9 T==k9 "tuple")=false):∀{p7 p9:ak} {vs:List ak},(∀v∈p7::p9::vs,firstOfTuple' v=pure none/\typeOf v=pure (k9 T))->keyKind' (p7::p9::vs).toArray=pure oneType':=by
 intro p7 p9 vs hS
 have m1:∀l:List ak,(∀v∈l,firstOfTuple' v=pure none/\typeOf v=pure (k9 T))->l.mapM firstOfTuple'=pure (l.map λz=>none)/\l.mapM typeOf=pure (l.map λz=>k9 T):=by
  intro l hl
  induction l with
  |nil=>simp
  |cons x l ih=>
   refine xa (ih λv hv=>hl v (.tail _ hv)) λi1 i2=>?_;refine xa (hl x (.head _)) λh1 h2=>?_;rw[List.mapM_cons,List.mapM_cons,h1,h2,i1,i2];simp
 refine xa (m1 _ hS) λk1 k2=>?_;rw[keyKind'_eq,List.mapM_toArray,k1];simp only[map_pure,A7]
 rw[if_neg (by simp),if_neg (by simp)]
 rw[oneTypeOnly'_eq,List.mapM_toArray,k2];simp only[map_pure,A7]
 have sM:((List.map (λz=>k9 T) (p7::p9::vs)).toArray.all λx=>x==k9 T)=true:=by
  simp only[List.all_toArray,List.all_map,iz];intro _ _;simp
 have h0:(List.map (λz=>k9 T) (p7::p9::vs)).toArray[0]?=some (k9 T):=by simp
 rw[h0];simp only[sM,if_true,A7,YY]
end
structure oI(c:Cx)(κ:Type)(mk:κ->CV)(lt:κ->κ->Bool)(K:SortKind):Prop where
 ord:j7 lt
 kind:∀{A:bj} {s:aw} {ks:List κ} {vs:List ak} {Q:SortKind->aw->Prop} {E:ak->aw->Prop},aN s.heap (ks.map mk) vs->2<=vs.length->Q K s->aM c.M A (keyKind' vs.toArray) Q E s
 cmp:∀{A:bj} {s:aw} {a b:κ} {v w:ak} {C:Bool->aw->Prop},aV s.heap (mk a) v->aV s.heap (mk b) w->C (lt a b) s->aM c.M A (keyLt' K v w) C (λz z=>False) s
theorem Ub(h:2<=vs.length):∃p7 p9 r,vs=p7::p9::r:=by
 match vs,h with
 |p7::p9::r,_=>exact⟨_,_,_,rfl⟩
theorem oI.ints{c:Cx}:oI c Int .int ux oneType' where
 ord:=j7.ints
 kind:=λr h q=>by
  have:=r.CP;refine Ft (Ub h) λp7 p9 vs aq=>?_;subst aq;rw[keyKind_ints this];exact aO q
 cmp:=λr1 r2 q=>by cases r1;cases r2;exact oneLt_int q
theorem oI.bytes{c:Cx}:oI c (List UInt8) .bytes i5 oneType' where
 ord:=j7.bytes
 kind:=λr h q=>by
  refine Ft (Ub h) λp7 p9 vs aq=>?_;subst aq
  rw[agb (T:="bytes") (by decide) λv hv=>by refine gF ((aN.any (k:=[]) aV.Qo r).2 v hv) λi t aq=>?_;subst aq;exact⟨rfl,rfl⟩]
  exact aO q
 cmp:=λr1 r2 q=>by cases r1;cases r2;exact af8 (by simpa using q)
theorem Uc{h:Heap}:∀{ks:List (Int×List UInt8)} {vs:List ak},aN h (ks.map mn) vs->∃fs,KatTups h vs fs/\fs.length=vs.length/\∀f∈fs,∃i t,f=Value.int i t
 |[],[],_=>⟨[],.nil,rfl,λz h=>cA h⟩
 |[],_::_,r=>by cases r
 |_::_,[],r=>by cases r
 |k::ks,v::vs,.cons e r=>by
  refine bF (Uc r) λfs g1 g2 g3=>?_
  cases e with
  |@tup _ a items n hg rs=>
   obtain⟨l⟩:=items;obtain _ |⟨r1,_ |⟨r2,_ |_⟩⟩:=rs;cases r1
   exact⟨_::fs,.cons hg rfl rfl rfl g1,by simp[g2],λf hf=>by
    rcases List.mem_cons.mp hf with rfl |hf
    ·exact⟨_,_,rfl⟩
    ·exact g3 f hf⟩
theorem aV.Ud{h:Heap}{a:Int×List UInt8}(r:aV h (mn a) v):∃x n t u,v=.ref x/\h.get? x=some (d7 #[.int a.1 t,.bytes a.2.toArray u] n):=by
 refine f9 r.jl λx i n zq e s=>?_;subst zq;refine jg s.iT λv1 w1 z1 q1 s=>?_;refine jg s.iT λv2 w2 z2 q2 s=>?_;rw[s.jX]at z2;refine xe q1.bZ λt g1=>?_;refine xe q2.fQ λu g2=>?_;refine⟨x,n,t,u,rfl,e.trans ?_⟩;rw[g1,z2,g2]at z1;rw[<-Array.toList_inj.1 (show i.toList=#[Value.int a.1 t,.bytes a.2.toArray u].toList from z1)]
theorem oI.lD{c:Cx}:oI c (Int×List UInt8) mn oH (tuples' true) where
 ord:=j7.lD
 kind:=λ{A s ks vs Q E} r h q=>by
  have hf:=Uc r;refine bF hf λfs g1 g2 g3=>?_
  exact kat_kind (T:=.type "int") g1 (iQ (ey h (er g2))) (λf hf=>by refine gF (g3 f hf) λi t aq=>?_;subst aq;exact .now) (by decide) q
 cmp:=λ{A s a b v w C} r1 r2 q=>by
  refine MM r1.Ud λx n1 t1 u1 zq h1=>?_;subst zq;refine MM r2.Ud λy n2 t2 u2 zq h2=>?_;subst zq;refine kat_lt h1 rfl h2 rfl ?_;refine kat_cons (EU ?_);unfold oH at q
  refine kat_go (λhe=>kat_yes ?_) (λhe=>kat_no (oneLt_int ?_))
  ·have e:a.1=b.1:=by simpa using he
   refine kat_cons (eqBool_bytes ?_)
   refine kat_go (λqO=>kat_yes (kat_nil ?_)) (λqO=>kat_no (kat_one _ _ (af6 ?_)))
   ·have e2:a.2=b.2:=by simpa using qO
    rw[e,e2,j7.bytes.uw]at q
    simpa using q
   ·rw[e]at q
    have:i5 a.2.toArray.toList b.2.toArray.toList=i5 a.2 b.2:=by simp
    rw[this];show C (i5 a.2 b.2) s
    simpa using q
  ·have e:a.1≠b.1:=by simpa using he
   simpa[e]using q
end
section
open PySem.SeqAt
theorem Ja{h:Heap}(r:aN h xs vs)(hi:i<vs.length){d:CV}{e:ak}:aV h (xs.getD i d) (vs.getD i e):=by
 have hx:i<xs.length:=by rw[r.length];exact hi
 refine a9 (r.get (bS hx)) λv h1 h2=>?_;rw[dG,dG,h1,bS hx];exact h2
theorem aN.pick{h:Heap}(r:aN h xs vs){d:CV}{e:ak}:∀p:List Nat,(∀i∈p,i<vs.length)->aN h (p.map λi=>xs.getD i d) (p.map λi=>vs.getD i e)
 |[],_=>.nil
 |i::p,hp=>.cons (Ja r (hp i (.head _))) (aN.pick r p λj hj=>hp j (.tail _ hj))
theorem getD_map{α β:Type}(f:α->β)(l:List α)(d:α)(i:Nat):(l.map f).getD i (f d)=f (l.getD i d):=by
 rw[dG,dG,dM];cases l[i]?<;>rfl
section
variable{c:Cx}{A:bj}{σ:St}{s:aw}
theorem agc{x:CO}{dr:Drawn}(R:Rel c σ s.heap)(keep:∀b o,s.heap.get? b=some o->h'.get? b=some o)(hn:s.heap.get? a=none)(r:c.H0.get? a=none->eK c h' a x)(q:σ.new x Q):cC c σ s Q (.ref a) {s with heap:=h',toks:=tk,drawn:=dr}:=
 ⟨_,_,.loc a,⟨(R.kept keep).new (r (R.out hn)),(Ext.kept keep).new hn (R.fresh hn),rfl,rfl⟩,q a (R.fresh hn)⟩
theorem C8{κ:Type}{mk:κ->CV}{lt:κ->κ->Bool}{K:SortKind}(S:oI c κ mk lt K)(d:κ){r:ak}{PK:List κ->Prop}(R:Rel c σ s.heap)
  (agd:∀R':List ak->aw->Prop,(∀h' tk d acc (ks:List κ),(∀b o,s.heap.get? b=some o->h'.get? b=some o)->aN h' (ks.map mk) acc->ks.length<=4->PK ks->R' acc {s with heap:=h',toks:=tk,drawn:=d})->aM c.M A.in1 (collect r) R' No s)
  (q:∀ks,PK ks->∀ws:List κ,ws.Perm ks->ws.Pairwise (λx y=>lt y x=false)->σ.new (.list (ws.map mk)) Q):aM c.M A (call (.builtin "sorted") [r]) (cC c σ s Q) No s:=by
 refine Calls.call_function_entry kind_sorted plain_sorted entry_sorted (args_sorted1 _) ?_;unfold Builtin.«sorted»;refine aC (m:=checkCount "sorted" 1 1 _) (aO ?_);refine aC (agd _ λh' tk d' vs ks keep rs h4 pk=>?_)
 have hl:ks.length=vs.length:=by have:=rs.length;rwa[aZ]at this
 refine aC (yU (s:={s with heap:=h',toks:=tk,drawn:=d'}) ?_ (dQ (Zl hl h4 rfl)))
 have Ue:(h'.push {cls:=.type "list",data:=.seq vs.toArray}).get? h'.objs.size=some (jS "list" vs.toArray 0):=fX _ rfl
 have hn:s.heap.get? h'.objs.size=none:=by
  cases q0:s.heap.get? h'.objs.size with
  |none=>rfl
  |some o=>have:=keep _ _ q0;rw[kK]at this;exact bo this
 have Jb:∀h2:Heap,(∀b o,b≠h'.objs.size->(h'.push {cls:=.type "list",data:=.seq vs.toArray}).get? b=some o->h2.get? b=some o)->aN h2 (ks.map mk) vs:=λh2 k2=>
  rs.bQ λb items n e=>k2 b _ (λz=>by rw[z,kK]at e;exact bo e) (dY _ e)
 refine aC (jf (rH slot_list_sort ⟨_,Ue,rfl⟩ entry_list_sort (af4 S.ord ks d Ue hl (aR (er hl) h4) (λh2 h3 k3 Q' q'=>S.kind (Jb h3 k3) h2 q') (λh3 k3 i j hi hj C hC=>?_) λp hp hs h3 c3 k3 hg=>⟨_,rfl,?_⟩) (args_list_sort _)))
 ·have:=Jb h3 k3
  refine S.cmp ?_ ?_ hC
  ·have z:=Ja this hi (d:=mk d) (e:=kq);rwa[getD_map mk ks d i]at z
  ·have z:=Ja this hj (d:=mk d) (e:=kq);rwa[getD_map mk ks d j]at z
 ·refine aO ⟨_,rfl,?_⟩
  have hpm:∀i∈p,i<vs.length:=λi hi=>List.mem_range.mp (hp.mem_iff.mp hi)
  have zi:∀b o,s.heap.get? b=some o->h3.get? b=some o:=λb o e=>k3 b o (λz=>by rw[z,hn]at e;exact bo e) (dY _ (keep b o e))
  refine agc (tk:=tk) (dr:=d') (x:=.list ((p.map λi=>ks.getD i d).map mk)) R zi hn (λz=>⟨z,_,_,hg,?_⟩) (q ks pk _ ?_ ?_)
  ·have:=(Jb h3 k3).pick (d:=mk d) (e:=kq) p hpm
   rw[dp]
   have e:(λi=>(ks.map mk).getD i (mk d))=mk∘λi=>ks.getD i d:=by funext i;exact getD_map mk ks d i
   rw[e]at this
   simpa using this
  ·have:=hp.map λi=>ks.getD i d
   rw[<-hl,map_getD]at this
   exact this
  ·rw[Y3];exact hs
theorem age{κ:Type}[DecidableEq κ]{knd:KeyKind c.prog c.w κ}{mk:κ->CV}(Jc:∀h k v,knd.is k v=true->aV h (mk k) v){h:Heap}{kvs:List (κ×ak)}:∀(acc:List ak),(∀(j:Nat) (v:ak),acc[j]?=some v->∃k x,kvs[j]?=some (k,x)/\knd.is k v=true)->acc.length=kvs.length->aN h ((kvs.map (λx=>x.1)).map mk) acc:=by
 induction kvs with
 |nil=>intro acc _ hl;rw[List.length_eq_zero_iff.mp hl];exact .nil
 |cons kv kvs ih=>
  intro acc hv hl
  cases acc with
  |nil=>exact rT hl
  |cons v acc=>
   refine gH (hv 0 v rfl) λk x h1 h2=>?_;simp only[List.getElem?_cons_zero,Option.some.injEq]at h1;subst h1
   exact .cons (Jc _ _ _ h2) (ih acc (λj v e=>hv (j+1) v e) (by simpa using hl))
theorem Ug{κ:Type}[DecidableEq κ]{knd:KeyKind c.prog c.w κ}{mk:κ->CV}(Jc:∀h k v,knd.is k v=true->aV h (mk k) v){kvs:List (κ×ak)}(hh:A.handled=none)(lo:(a==vB)=false)(hd:s.heap.DictOf knd a kvs)(h4:kvs.length<=4)
  (R':List ak->aw->Prop)(h:∀h' tk d acc (ks:List κ),(∀b o,s.heap.get? b=some o->h'.get? b=some o)->aN h' (ks.map mk) acc->ks.length<=4->ks=kvs.map (λx=>x.1)->R' acc {s with heap:=h',toks:=tk,drawn:=d}):aM c.M A.in1 (collect (.ref a)) R' No s:=by
 refine xe hd.dictAt λep mq=>?_;refine kdu_collect (A:=A.in1) (kdl_dict (knd:=knd) (kvs:=kvs) (ep:=ep) lo) hh mq (dQ (cB h4 rfl)) λh' tk acc hk mr=>?_
 refine h h' tk s.drawn acc.toList (kvs.map (λx=>x.1)) hk ?_ (by simpa using h4) rfl
 exact age Jc _ (λj v e=>mr.2 j v (by simpa using e)) (by simpa using mr.1)
theorem agf(h:Heap)(k:Int)(v:ak)(e:(intKind c.prog c.w).is k v=true):aV h (.int k) v:=by
 cases v<;>simp[intKind,xR]at e;subst e;exact .int _ _
theorem agg(h:Heap)(k:List UInt8)(v:ak)(e:(fM c.prog c.w).is k v=true):aV h (.bytes k) v:=by
 cases v<;>simp[fM,tK]at e;subst e;exact .bytes _ _
theorem agh{ws:List Int}(h:ws.Pairwise (λx y=>ux y x=false)):ws.Pairwise (·<=·):=h.imp λ{a b} z=>by simp only[ux,decide_eq_false_iff_not]at z;exact nZ.1 z
end
end
set_option tactic.hygienic true
noncomputable def IW(o:Obj):Option pj:=match o.data with
 |.func fd=>some fd
 |_=>none
theorem ae7{o:Obj}(h:IW o=some fd):o.data=.func fd:=by
 obtain⟨c,d,x,s⟩:=o
 induction x with
 |func f=>exact congrArg _ (bt h)
 |_=>exact bo h
theorem Pg{α:Type}{x:Option α}{p:α->Bool}(h:x.any p=true):∃a,x=some a/\p a=true:=by
 cases x with
 |none=>exact eP h
 |some a=>exact⟨a,rfl,h⟩
noncomputable def fdOf(K:Frag)(a:Nat):pj:=((K.lookup a).bind IW).getD default
noncomputable def Te(b:FuncBody):List Stmt:=match b with
 |.stmts b=>b
 |.expr _=>[]
noncomputable def x8(K:Frag)(a:Nat):List Stmt:=Te (fdOf K a).body
noncomputable def Tf(b:FuncBody):Bool:=match b with
 |.stmts _=>true
 |.expr _=>false
theorem ae8{b:FuncBody}(h:Tf b=true):b=.stmts (Te b):=by
 cases b with
 |stmts b=>rfl
 |expr x=>exact eP h
noncomputable def Bj(K:Frag)(a:Nat)(ks:Ks)(ps:List Nat):Bool:=((K.lookup a).bind IW).any λfd=>Tf fd.body&&fd.closure.isEmpty&&fd.globals==nV&&fd.builtins==Fp&&codeIn K fd.code fd.qualname
 &&fd.scope.kind==.function&&!fd.scope.isCoroutine&&!fd.scope.isGenerator&&decide (fd.scope.names=ks.map λp=>(nm p.1,p.2))&&qz fd.params&&decide (fd.params.args.map (λx=>x.arg)=ps.map nm)&&vJ K fd.defaults&&keepIn K (.ref a)
theorem aaC{c:Cx}{a:Nat}(h:Bj c.K a ks ps=true)(hs:∀p∈ks,p.1<nN)(zl:∀p∈ks,p.2≠.free):vI c a (fdOf c.K a) (x8 c.K a) ks/\qz (fdOf c.K a).params=true/\(fdOf c.K a).params.args.map (λx=>x.arg)=ps.map nm/\vJ c.K (fdOf c.K a).defaults=true/\keepIn c.K (.ref a)=true:=by
 refine a9 (Pg h) λfd e h=>?_
 have e2:fdOf c.K a=fd:=by unfold fdOf;rw[e];rfl
 refine a9 (vj.1 e) λo hl hf=>?_;unfold x8;rw[e2];refine xa (cK.1 h) λh h13=>?_;refine xa (cK.1 h) λh h12=>?_;refine xa (cK.1 h) λh h11=>?_;refine xa (cK.1 h) λh h10=>?_;refine xa (cK.1 h) λh h9=>?_;refine xa (cK.1 h) λh h8=>?_;refine xa (cK.1 h) λh h7=>?_;refine xa (cK.1 h) λh h6=>?_;refine xa (cK.1 h) λh h5=>?_;refine xa (cK.1 h) λh h4=>?_;refine xa (cK.1 h) λh h3=>?_;refine xa (cK.1 h) λh1 h2=>?_;exact⟨⟨⟨_,hl,ae7 hf⟩,ae8 h1,L3.1 h2,n9 h3,n9 h4,h5,n9 h6,mK _▸h7,mK _▸h8,of_decide_eq_true h9,hs,zl⟩,h10,of_decide_eq_true h11,h12,h13⟩
noncomputable def tP:List (Nat×CV):=[(34,.bytes [98,108,111,98]),(38,.bytes [116,114,101,101]),(137,.bytes [99,111,109,109,105,116]),(5,.int 16384),(6,.int 57344),(209,.str (ax "0123456789abcdef")),(259,.bytes [32,9,13,11,12]),(142,.int 1),(139,.int 2),(18,.bi "len"),(24,.bi "ord"),(15,.ty "int"),(58,.ty "list"),(134,.ty "tuple"),(101,.ty "bytes"),(29,.ty "str"),(19,.bi "max"),(7,.bi "all"),(168,.bi "sorted"),(28,.ty "set"),(218,.ty "bytearray"),(124,.ty "range"),(220,.ty "enumerate"),(267,.loc 108),(210,.loc 163),(141,.loc 232),(94,.loc 274),(39,.loc 323),(138,.loc 391),(236,.loc 539),(211,.loc 588),(247,.loc 609),(40,.loc 958),(95,.loc 21),(222,.loc 71),(154,.loc 78),(229,.loc 83),(252,.loc 119),(275,.loc 126),(158,.loc 176),(204,.loc 181),(278,.loc 186),(276,.loc 194),(271,.loc 201),(272,.loc 208),(281,.loc 285),(282,.loc 292),(244,.loc 334),(230,.loc 341),(277,.loc 348),(242,.loc 353),(273,.loc 360),(265,.loc 402),(245,.loc 620),(255,.loc 627),(254,.loc 634),(214,.loc 965),(215,.loc 972),(216,.loc 979),(274,.loc 986),(227,.loc 991),(249,.loc 998),(228,.loc 1012),(248,.loc 1017),(217,.loc 1024),(268,.loc 1029),(279,.loc 1034),(17,.loc 1039),(246,.tup [.int 33188,.int 33261,.int 40960,.int 16384,.int 57344]),(226,.loc 1003),(237,.loc 1007)]
noncomputable def x4(c:Cx):Prop:=∀i x,tP.lookup i=some x->x3 c i x
noncomputable abbrev av(i:Nat):Nat×fy:=(i,.local)
noncomputable abbrev a8(i:Nat):Nat×fy:=(i,.globalImplicit)
noncomputable abbrev e7(i:Nat):Nat×fy:=(i,.cell)
noncomputable abbrev d9(i:Nat):Nat×fy:=(i,.free)
noncomputable def qA:FM:=bD [84] (ah (aP (cT [av 3,av 79,a8 24] (bO (af 84)) (aName 79) de (aY G7 (ag (af 79) ar))) (aName 181)) (ah (cY (bO (af 181)) (aName 160) (ah (bC (aT .Gt (af 160) (au (.int 255))) (ah pB az) az) az)) (ah (bh (aY sf (ag (af 181) ar))) az)))
noncomputable def vK:FM:=bD [161] (ah (aP (eList ar) (aName 110)) (ah (cY (bO (af 161)) (aName 118) (ah (cw (bJ cD cN (af 110) (ag (bc (fm (.str (ax "0123456789abcdef"))) (be .RShift (af 118) (au (.int 4)))) ar))) (ah (cw (bJ cD cN (af 110) (ag (bc (fm (.str (ax "0123456789abcdef"))) (be .BitAnd (af 118) (au (.int 15)))) ar))) az))) (ah (bh (bJ isStr Hb (au (.str (ax ""))) (ag (af 110) ar))) az)))
noncomputable def Bl:FM:=bD [160,61] (ah (bh (aY sf (ag (cT [av 3,av 4,d9 61,d9 160] (oh (af 61)) (aName 4) de (be .BitAnd (be .RShift (af 160) (be .Mult (au (.int 8)) (be .Sub (be .Sub (af 61) (au (.int 1))) (af 4)))) (au (.int 255)))) ar))) az)
noncomputable def Bm:FM:=bD [78,81] (ah (aP (af 81) (dx 81 (af 78))) (ah (aP nB (dx 112 (af 78))) az))
noncomputable def FT:FM:=bD [78,161] (ah (aP (aY sf (ag (af 161) ar)) (aName 175)) (ah (bC (aT .NotIn (af 175) (bf 112 (af 78))) (ah (aP (be .Add (aY eI (ag (bf 112 (af 78)) ar)) (au (.int 1))) (dg (bf 112 (af 78)) (af 175))) az) az) (ah (bh (aY Bl (ag (bc (bf 112 (af 78)) (af 175)) (ag (bf 81 (af 78)) ar)))) az)))
noncomputable def FU:FM:=bD [161,128] (ah (cY (bO (af 128)) (aName 79) (ah (bC (aT .GtE (bJ jI He (af 161) (ag (aY sf (ag (eList (ag (af 79) ar)) ar)) ar)) (au (.int 0))) (ah (bh (au (.bool true))) az) az) az)) (ah (bh (au (.bool false))) az))
noncomputable def FV:FM:=bD [161,128] (ah (cY (bO (af 161)) (aName 79) (ah (bC (aT .NotIn (af 79) (af 128)) (ah (bh (au (.bool false))) az) az) az)) (ah (bh (au (.bool true))) az))
noncomputable def FW:FM:=bD [161,128] (ah (aP (aY eI (ag (af 161) ar)) (aName 9)) (ah (jE (bR (aT .Gt (af 9) (au (.int 0))) (bR (aT .In (bc (af 161) (be .Sub (af 9) (au (.int 1)))) (af 128)) (cQ true))) (ah (v5 9 .Sub (au (.int 1))) az)) (ah (bh (jZ (af 161) (af 9))) az)))
noncomputable def tT:FM:=bD [78,66,105,91,93] (ah (aP (af 66) (dx 66 (af 78))) (ah (aP (af 105) (dx 105 (af 78))) (ah (aP (af 91) (dx 91 (af 78))) (ah (aP (af 93) (dx 93 (af 78))) az))))
noncomputable def Bn:FM:=bD [78] (ah (bh (be .Add (be .Add (be .Add (be .Add (be .Add (be .Add (bf 66 (af 78)) (au (.bytes [32,60]))) (bf 105 (af 78))) (au (.bytes [62,32]))) (aY qA (ag (aY CR (ag (bf 91 (af 78)) ar)) ar))) (au (.bytes [32]))) (bf 93 (af 78)))) az)
noncomputable def Bo:FM:=bD [78,63,66,21] (ah (aP (af 63) (dx 63 (af 78))) (ah (aP (af 66) (dx 66 (af 78))) (ah (aP (af 21) (dx 21 (af 78))) az)))
noncomputable def Bp:FM:=bD [78] (ah (bh (eH (aT .Eq (bf 63 (af 78)) (fm (.int 16384))) (be .Add (bf 66 (af 78)) (au (.bytes [47]))) (bf 66 (af 78)))) az)
noncomputable def FX:FM:=bD [66] (ah (bC (aT .Eq (af 66) (au (.bytes []))) (ah (bh (au (.str (ax "an empty name")))) az) az) (ah (bC (aT .In (af 66) (b8 (ag (au (.bytes [46])) (ag (au (.bytes [46,46])) ar)))) (ah (bh (au (.str (ax "a name of dots")))) az) az) (ah (bC (aT .Eq (bJ jI Hc (af 66) ar) (au (.bytes [46,103,105,116]))) (ah (bh (au (.str (ax "the name of the store itself")))) az) az) (ah (bC (jh (aY FU (ag (af 66) (ag (au (.bytes [47,0])) ar)))) (ah (bh (au (.str (ax "a name with a stroke or a nought")))) az) az) (ah (bh (au .none)) az)))))
noncomputable def ya:FM:=bD [78,176] (ah (aP (af 176) (dx 176 (af 78))) az)
noncomputable def FZ:FM:=bD [78,66] (ah (cY (bO (bf 176 (af 78))) (aName 106) (ah (bC (aT .Eq (bf 66 (af 106)) (af 66)) (ah (bh (af 106)) az) az) az)) (ah (bh (au .none)) az))
noncomputable def F0:FM:=bD [87] (ah (gP [110,112,97] (b8 (ag (eList ar) (ag nB (ag (au .none) ar))))) (ah (cY (bO (bf 176 (af 87))) (aName 106) (ah (bC (aT .NotIn (bf 63 (af 106)) (fm (.tup [.int 33188,.int 33261,.int 40960,.int 16384,.int 57344]))) (ah (cw (bJ cD cN (af 110) (ag (au (.str (ax "a mode that is none"))) ar))) az) az) (ah (aP (aY FX (ag (bf 66 (af 106)) ar)) (aName 20)) (ah (bC (aT .IsNot (af 20) (au .none)) (ah (cw (bJ cD cN (af 110) (ag (af 20) ar))) az) az) (ah (bC (aT .In (bf 66 (af 106)) (af 112)) (ah (cw (bJ cD cN (af 110) (ag (au (.str (ax "a name twice"))) ar))) az) (ah (bC (bR (aT .IsNot (af 97) (au .none)) (bR (aT .LtE (bN 274 205 Bp (af 106) ar) (af 97)) (cQ true))) (ah (cw (bJ cD cN (af 110) (ag (au (.str (ax "entries out of order"))) ar))) az) az) az)) (ah (bC (jh (aY FV (ag (bf 21 (af 106)) (ag (au (.bytes [0])) ar)))) (ah (cw (bJ cD cN (af 110) (ag (au (.str (ax "an id of noughts"))) ar))) az) az) (ah (aP (au (.bool true)) (dg (af 112) (bf 66 (af 106)))) (ah (aP (bN 274 205 Bp (af 106) ar) (aName 97)) az)))))))) (ah (bh (af 110)) az)))
noncomputable def F2:FM:=bD [87] (ah (aP (aY F0 (ag (af 87) ar)) (aName 110)) (ah (bC (aT .Gt (aY eI (ag (af 110) ar)) (au (.int 0))) (ah pB az) az) az))
noncomputable def F4:FM:=bD [179] (ah (bh (cT [av 3,av 27,a8 272,a8 259] (bO (bJ jI yI (af 179) (ag (au (.bytes [10])) ar))) (aName 27) de (aY FW (ag (af 27) (ag (fm (.bytes [32,9,13,11,12])) ar))))) az)
noncomputable def F5:FM:=bD [179] (ah (gP [76,4] (b8 (ag (aY F4 (ag (af 179) ar)) (ag (au (.int 0)) ar)))) (ah (jE (bR (aT .Lt (af 4) (aY eI (ag (af 76) ar))) (bR (aT .Eq (bc (af 76) (af 4)) (au (.bytes []))) (cQ true))) (ah (v5 4 .Add (au (.int 1))) az)) (ah (aP (af 4) (aName 130)) (ah (jE (bR (aT .Lt (af 4) (aY eI (ag (af 76) ar))) (bR (aT .NotEq (bc (af 76) (af 4)) (au (.bytes []))) (cQ true))) (ah (v5 4 .Add (au (.int 1))) az)) (ah (bh (b8 (ag (bJ jI tW (au (.bytes [32])) (ag (Hi (af 76) (af 130) (af 4)) ar)) (ag (af 4) ar)))) az)))))
noncomputable def yb:FM:=bD [78,87,185,144,219,107,179] (ah (aP (af 87) (dx 87 (af 78))) (ah (aP (af 185) (dx 185 (af 78))) (ah (aP (af 144) (dx 144 (af 78))) (ah (aP (af 219) (dx 219 (af 78))) (ah (aP (af 107) (dx 107 (af 78))) (ah (aP (af 179) (dx 179 (af 78))) az))))))
noncomputable def NO:FM:=bD [16,135] (ah (bh (be .Add (be .Add (be .Add (af 16) (au (.bytes [32]))) (bJ jI tW (au (.bytes [10,32])) (ag (bJ jI yI (af 135) (ag (au (.bytes [10])) ar)) ar))) (au (.bytes [10])))) az)
noncomputable def F6:FM:=bD [78] (ah (aP (eList (ag (be .Add (be .Add (au (.bytes [116,114,101,101,32])) (aY qA (ag (aY vK (ag (bf 87 (af 78)) ar)) ar))) (au (.bytes [10]))) ar)) (aName 121)) (ah (cY (bO (bf 185 (af 78))) (aName 21) (ah (cw (bJ cD cN (af 121) (ag (be .Add (be .Add (au (.bytes [112,97,114,101,110,116,32])) (aY qA (ag (aY vK (ag (af 21) ar)) ar))) (au (.bytes [10]))) ar))) az)) (ah (cw (bJ cD cN (af 121) (ag (be .Add (be .Add (au (.bytes [97,117,116,104,111,114,32])) (bN 232 161 Bn (bf 144 (af 78)) ar)) (au (.bytes [10]))) ar))) (ah (cw (bJ cD cN (af 121) (ag (be .Add (be .Add (au (.bytes [99,111,109,109,105,116,116,101,114,32])) (bN 232 161 Bn (bf 219 (af 78)) ar)) (au (.bytes [10]))) ar))) (ah (cY (bO (bf 107 (af 78))) (eB [(aName 16),(aName 135)]) (ah (cw (bJ cD cN (af 121) (ag (aY NO (ag (af 16) (ag (af 135) ar))) ar))) az)) (ah (cw (bJ cD cN (af 121) (ag (be .Add (au (.bytes [10])) (bf 179 (af 78))) ar))) (ah (bh (bJ jI tW (au (.bytes [])) (ag (af 121) ar))) az)))))))
noncomputable def yc:FM:=bD [78] (ah (bh (bc (aY F5 (ag (bf 179 (af 78)) ar)) (au (.int 0)))) az)
noncomputable def F7:FM:=bD [55,175] (ah (bh (be .Add (be .Add (be .Add (be .Add (af 55) (au (.bytes [32]))) (aY qA (ag (aY CR (ag (aY eI (ag (af 175) ar)) ar)) ar))) (au (.bytes [0]))) (af 175))) az)
noncomputable def Bq:FM:=bD [78,153] (ah (aP (af 153) (dx 153 (af 78))) (ah (aP nB (dx 54 (af 78))) az))
noncomputable def rX:FM:=bD [78,55,175,132] (ah (aP (bN 108 148 FT (bf 153 (af 78)) (ag (aY F7 (ag (af 55) (ag (af 175) ar))) ar)) (aName 21)) (ah (bC (aT .NotIn (af 21) (bf 54 (af 78))) (ah (aP (b8 (ag (af 55) (ag (af 132) ar))) (dg (bf 54 (af 78)) (af 21))) az) az) (ah (bh (af 21)) az)))
noncomputable def Br:FM:=bD [78,55,175] (ah (bC (aT .NotEq (af 55) (fm (.bytes [98,108,111,98]))) (ah pB az) az) (ah (bh (bN 539 53 rX (af 78) (ag (fm (.bytes [98,108,111,98])) (ag (af 175) (ag (aY sf (ag (af 175) ar)) ar))))) az))
noncomputable def Bs:FM:=bD [78,146] (ah (bh (bN 539 53 rX (af 78) (ag (fm (.bytes [99,111,109,109,105,116])) (ag (bN 391 161 F6 (af 146) ar) (ag (af 146) ar))))) az)
noncomputable def F9:FM:=bD [78,21] (ah (bC (aT .NotIn (af 21) (bf 54 (af 78))) (ah pB az) az) (ah (bh (bc (bf 54 (af 78)) (af 21))) az))
noncomputable def yd:FM:=bD [78,21,55] (ah (aP (bN 539 166 F9 (af 78) (ag (af 21) ar)) (eB [(aName 85),(aName 132)])) (ah (bC (aT .NotEq (af 85) (af 55)) (ah pB az) az) (ah (bh (af 132)) az)))
noncomputable def Ga:FM:=bD [78,21] (ah (bh (bN 539 183 yd (af 78) (ag (af 21) (ag (fm (.bytes [98,108,111,98])) ar)))) az)
noncomputable def Gb:FM:=bD [78,21] (ah (bh (bN 539 183 yd (af 78) (ag (af 21) (ag (fm (.bytes [116,114,101,101])) ar)))) az)
noncomputable def ye:FM:=bD [78,21] (ah (bh (bN 539 183 yd (af 78) (ag (af 21) (ag (fm (.bytes [99,111,109,109,105,116])) ar)))) az)
noncomputable def yf:FM:=bD [78] (ah (aP (eList ar) (dx 76 (af 78))) (ah (aP (au (.int 0)) (dx 43 (af 78))) az))
noncomputable def yg:FM:=bD [78] (ah (bh (aY eI (ag (bf 76 (af 78)) ar))) az)
noncomputable def qB:FM:=bD [78,74,90] (ah (cw (bJ cD cN (bf 76 (af 78)) (ag (b8 (ag (qD (af 74)) (ag (bf 43 (af 78)) (ag (af 90) ar)))) ar))) (ah (H8 43 .Add (af 78) (au (.int 1))) (ah (aP (be .Sub (aY eI (ag (bf 76 (af 78)) ar)) (au (.int 1))) (aName 4)) (ah (jE (aT .Gt (af 4) (au (.int 0))) (ah (aP (be .FloorDiv (be .Sub (af 4) (au (.int 1))) (au (.int 2))) (aName 96)) (ah (bC (aT .LtE (jZ (bc (bf 76 (af 78)) (af 96)) (au (.int 2))) (jZ (bc (bf 76 (af 78)) (af 4)) (au (.int 2)))) (ah BS az) az) (ah (aP (b8 (ag (bc (bf 76 (af 78)) (af 4)) (ag (bc (bf 76 (af 78)) (af 96)) ar))) (eB [(dg (bf 76 (af 78)) (af 96)),(dg (bf 76 (af 78)) (af 4))])) (ah (aP (af 96) (aName 4)) az))))) az))))
noncomputable def Gc:FM:=bD [78] (ah (gP [4,61] (b8 (ag (au (.int 0)) (ag (aY eI (ag (bf 76 (af 78)) ar)) ar)))) (ah (jE (jh (au (.bool true))) (ah (aP (af 4) (aName 113)) (ah (cY (bO (b8 (ag (be .Add (be .Mult (au (.int 2)) (af 4)) (au (.int 1))) (ag (be .Add (be .Mult (au (.int 2)) (af 4)) (au (.int 2))) ar)))) (aName 100) (ah (bC (bR (aT .Lt (af 100) (af 61)) (bR (aT .Lt (jZ (bc (bf 76 (af 78)) (af 100)) (au (.int 2))) (jZ (bc (bf 76 (af 78)) (af 113)) (au (.int 2)))) (cQ true))) (ah (aP (af 100) (aName 113)) az) az) az)) (ah (bC (aT .Eq (af 113) (af 4)) (ah BS az) az) (ah (aP (b8 (ag (bc (bf 76 (af 78)) (af 4)) (ag (bc (bf 76 (af 78)) (af 113)) ar))) (eB [(dg (bf 76 (af 78)) (af 113)),(dg (bf 76 (af 78)) (af 4))])) (ah (aP (af 113) (aName 4)) az)))))) az))
noncomputable def yh:FM:=bD [78] (ah (aP (bc (bf 76 (af 78)) (au (.int 0))) (aName 108)) (ah (aP (bJ cD sr (bf 76 (af 78)) ar) (aName 56)) (ah (bC (aT .NotEq (bf 76 (af 78)) (eList ar)) (ah (aP (af 56) (dg (bf 76 (af 78)) (au (.int 0)))) (ah (cw (bN 588 80 Gc (af 78) ar)) az)) az) (ah (bh (bc (af 108) (au (.int 2)))) az))))
noncomputable def Gd:FM:=bD [78,185,87,45] (ah (aP (af 185) (dx 185 (af 78))) (ah (aP (af 87) (dx 87 (af 78))) (ah (aP (af 45) (dx 45 (af 78))) az)))
noncomputable def Ge:FM:=bD [14] (ah (gP [112,110] (b8 (ag nB (ag (eList ar) ar)))) (ah (cY (bO (af 14)) (aName 21) (ah (bC (aT .NotIn (af 21) (af 112)) (ah (aP (au (.bool true)) (dg (af 112) (af 21))) (ah (cw (bJ cD cN (af 110) (ag (af 21) ar))) az)) az) az)) (ah (bh (af 110)) az)))
noncomputable def Bt:FM:=bD [109,111] (ah (bh (af 109)) az)
noncomputable def abw:FM:=bD [109,111] (ah (bh (eH (aT .Eq (af 111) (au (.int 0))) (af 109) (be .BitAnd (af 109) (fm (.int 2))))) az)
noncomputable abbrev M6:Ks:=[av 78,av 131,av 189,av 21]
noncomputable abbrev vE:List Nat:=[78,131,189]
noncomputable def Gf:SM:=(ah (aP (af 131) (dx 131 (af 78))) (ah (aP nB (dx 189 (af 78))) (ah (cY (bO (af 189)) (aName 21) (ah (aP (au (.bool true)) (dg (bf 189 (af 78)) (af 21))) az)) (ah (aP nB (dx 112 (af 78))) (ah (aP nB (dx 156 (af 78))) az)))))
noncomputable def Gg:FM:=λxs kx σ Q=>∃x y,xs=[x,y]/\kx=[]/\ui Gf (eW vE [x,y,.tup []] λz=>none) σ Q
noncomputable def rY:FM:=bD [78,21] (ah (bC (aT .NotIn (af 21) (bf 112 (af 78))) (ah (aP (bN 539 146 ye (bf 131 (af 78)) (ag (af 21) ar)) (aName 146)) (ah (aP (eH (aT .In (af 21) (bf 189 (af 78))) (eList ar) (aY sH (ag (bf 185 (af 146)) ar))) (aName 185)) (ah (aP (aY (eV 609 Gd) (ag (af 185) (ag (bf 87 (af 146)) (ag (bf 91 (bf 219 (af 146))) ar)))) (dg (bf 112 (af 78)) (af 21))) az))) az) (ah (bh (bc (bf 112 (af 78)) (af 21))) az))
noncomputable def Gh:FM:=bD [78,21] (ah (bh (aY sH (ag (bf 185 (bN 958 169 rY (af 78) (ag (af 21) ar))) ar))) az)
noncomputable def yj:FM:=bD [78,21] (ah (bh (bf 45 (bN 958 169 rY (af 78) (ag (af 21) ar)))) az)
noncomputable def Gq:FM:=bD [78,21] (ah (bh (bf 87 (bN 958 169 rY (af 78) (ag (af 21) ar)))) az)
noncomputable def yk:FM:=bD [78,21] (ah (aP (eList (ag (af 21) ar)) (aName 191)) (ah (jE (aT .NotEq (af 191) (eList ar)) (ah (aP (bc (af 191) (qD (au (.int 1)))) (aName 51)) (ah (bC (aT .In (af 51) (bf 156 (af 78))) (ah (cw (bJ cD sr (af 191) ar)) (ah yD az)) az) (ah (aP (bf 185 (bN 958 169 rY (af 78) (ag (af 51) ar))) (aName 185)) (ah (aP (cT [av 3,av 163,d9 78] (bO (af 185)) (aName 163) (aT .NotIn (af 163) (bf 156 (af 78))) (af 163)) (aName 57)) (ah (bC (aT .NotEq (af 57) (eList ar)) (ah (cw (bJ cD Ho (af 191) (ag (af 57) ar))) (ah yD az)) az) (ah (aP (be .Add (au (.int 1)) (aY Hn (ag (be .Add (cT [av 3,av 163,d9 78] (bO (af 185)) (aName 163) de (bc (bf 156 (af 78)) (af 163))) (eList (ag (au (.int 0)) ar))) ar))) (dg (bf 156 (af 78)) (af 51))) (ah (cw (bJ cD sr (af 191) ar)) az)))))))) (ah (bh (bc (bf 156 (af 78)) (af 21))) az)))
noncomputable def Gi:FM:=bD [78,99,164] (ah (gP [109,119,123] (b8 (ag nB (ag (eList ar) (ag (aY (eV 588 yf) ar) ar))))) (ah (cY (bO (af 99)) (eB [(aName 21),(aName 116)]) (ah (bC (aT .NotIn (af 21) (af 109)) (ah (cw (bN 588 26 qB (af 123) (ag (bN 958 114 yk (af 78) (ag (af 21) ar)) (ag (af 21) ar)))) (ah (aP (au (.int 0)) (dg (af 109) (af 21))) az)) az) (ah (aP (be .BitOr (bc (af 109) (af 21)) (af 116)) (dg (af 109) (af 21))) az))) (ah (jE (aT .Gt (bN 588 61 yg (af 123) ar) (au (.int 0))) (ah (aP (bN 588 83 yh (af 123) ar) (aName 21)) (ah (cw (bJ cD cN (af 119) (ag (af 21) ar))) (ah (cY (tQ (bf 185 (bN 958 169 rY (af 78) (ag (af 21) ar)))) (eB [(aName 111),(aName 163)]) (ah (aP (Ih 164 (.loc 627) Bt (ag (bc (af 109) (af 21)) (ag (af 111) ar))) (aName 116)) (ah (bC (aT .Eq (af 116) (au (.int 0))) (ah yD az) az) (ah (bC (aT .NotIn (af 163) (af 109)) (ah (cw (bN 588 26 qB (af 123) (ag (bN 958 114 yk (af 78) (ag (af 163) ar)) (ag (af 163) ar)))) (ah (aP (au (.int 0)) (dg (af 109) (af 163))) az)) az) (ah (aP (be .BitOr (bc (af 109) (af 163)) (af 116)) (dg (af 109) (af 163))) az))))) az)))) (ah (bh (b8 (ag (af 119) (ag (af 109) ar)))) az))))
noncomputable def Gj:FM:=bD [78,170,155,251] (ah (aP (be .Add (cT [av 3,av 21,a8 142] (bO (af 170)) (aName 21) de (b8 (ag (af 21) (ag (fm (.int 1)) ar)))) (cT [av 3,av 21,a8 139] (bO (af 155)) (aName 21) de (b8 (ag (af 21) (ag (fm (.int 2)) ar))))) (aName 99)) (ah (aP (bN 958 184 Gi (af 78) (ag (af 99) (ag (eH (jh (af 251)) (fm (.loc 634)) (fm (.loc 627))) ar))) (eB [(aName 119),(aName 109)])) (ah (aP nB (aName 110)) (ah (cY (bO (af 119)) (aName 21) (ah (bC (aT .Eq (bc (af 109) (af 21)) (fm (.int 1))) (ah (aP (au (.bool true)) (dg (af 110) (af 21))) az) az) az)) (ah (bh (af 110)) az)))))
noncomputable def Gk:FM:=bD [78,21,251] (ah (aP (bf 185 (bN 958 169 rY (af 78) (ag (af 21) ar))) (aName 185)) (ah (bh (eH (jh (af 251)) (jZ (af 185) (au (.int 1))) (af 185))) az))
noncomputable def Gl:FM:=bD [78,170,126,251] (ah (gP [123,77,110] (b8 (ag (aY (eV 588 yf) ar) (ag nB (ag (eList ar) ar))))) (ah (cY (bO (aY Ge (ag (af 170) ar))) (aName 21) (ah (bC (aT .In (af 21) (af 126)) (ah (aP (au (.bool true)) (dg (af 77) (af 21))) (ah (cw (bN 588 26 qB (af 123) (ag (bN 958 45 yj (af 78) (ag (af 21) ar)) (ag (af 21) ar)))) az)) az) az)) (ah (jE (aT .Gt (bN 588 61 yg (af 123) ar) (au (.int 0))) (ah (aP (bN 588 83 yh (af 123) ar) (aName 21)) (ah (cw (bJ cD cN (af 110) (ag (af 21) ar))) (ah (cY (bO (bN 958 202 Gk (af 78) (ag (af 21) (ag (af 251) ar)))) (aName 163) (ah (bC (bR (aT .In (af 163) (af 126)) (bR (aT .NotIn (af 163) (af 77)) (cQ true))) (ah (aP (au (.bool true)) (dg (af 77) (af 163))) (ah (cw (bN 588 26 qB (af 123) (ag (bN 958 45 yj (af 78) (ag (af 163) ar)) (ag (af 163) ar)))) az)) az) az)) az)))) (ah (bh (af 110)) az))))
noncomputable abbrev M7:Ks:=[av 78,av 170,av 155,av 119,av 251,av 65,e7 53,av 126,av 110]
noncomputable abbrev vF:List Nat:=[78,170,155,119,251,65,53]
noncomputable def Gm:SM:=(ah (aP (bN 958 126 Gj (af 78) (ag (af 170) (ag (af 155) (ag (af 251) ar)))) (aName 126)) (ah (aP (bN 958 172 Gl (af 78) (ag (af 170) (ag (af 126) (ag (af 251) ar)))) (aName 110)) (ah (bC (aT .Eq (af 119) (au (.str (ax "topo")))) (ah pB az) (ah (bC (aT .Eq (af 119) (au (.str (ax "dated")))) (ah pB az) az) az)) (ah (bC (aT .IsNot (af 53) (au .none)) (ah pB az) az) (ah (bC (aT .IsNot (af 65) (au .none)) (ah (aP (jZ (af 110) (af 65)) (aName 110)) az) az) (ah (bC (aT .Eq (af 119) (au (.str (ax "reverse")))) (ah (cw (bJ cD R9 (af 110) ar)) az) az) (ah (bh (af 110)) az)))))))
noncomputable def Gn:FM:=λxs kx σ Q=>∃x y z w,xs=[x,y,z,w]/\kx=[]/\ui Gm (eW vF [x,y,z,w,.bool false,.none,.none] λo=>none) σ Q
noncomputable def Gp:FM:=bD [78,87,72] (ah (gP [63,21] (b8 (ag (fm (.int 16384)) (ag (af 87) ar)))) (ah (bC (aT .Eq (af 72) (au (.bytes []))) (ah (bh (b8 (ag (af 63) (ag (af 21) ar)))) az) az) (ah (cY (bO (bJ jI yI (af 72) (ag (au (.bytes [47])) ar))) (aName 66) (ah (bC (aT .NotEq (af 63) (fm (.int 16384))) (ah (bh (au .none)) az) az) (ah (aP (bN 323 47 FZ (bN 539 87 Gb (bf 131 (af 78)) (ag (af 21) ar)) (ag (af 66) ar)) (aName 106)) (ah (bC (aT .Is (af 106) (au .none)) (ah (bh (au .none)) az) az) (ah (gP [63,21] (b8 (ag (bf 63 (af 106)) (ag (bf 21 (af 106)) ar)))) az))))) (ah (bh (b8 (ag (af 63) (ag (af 21) ar)))) az))))
noncomputable def Gr:FM:=bD [89,146,72] (ah (aP (bN 958 201 Gp (af 89) (ag (bN 958 87 Gq (af 89) (ag (af 146) ar)) (ag (af 72) ar))) (aName 85)) (ah (bh (eH (hH (aT .Is (af 85) (au .none)) (hH (aT .In (bc (af 85) (au (.int 0))) (b8 (ag (fm (.int 16384)) (ag (fm (.int 57344)) ar)))) (cQ false))) (au .none) (bc (af 85) (au (.int 1))))) az))
noncomputable def yl:FM:=bD [131,89,146,72,71] (ah (aP (eH (aT .Is (af 146) (au .none)) (au .none) (aY Gr (ag (af 89) (ag (af 146) (ag (af 72) ar))))) (aName 42)) (ah (bh (eH (aT .Is (af 42) (au .none)) (au (.int 0)) (bJ jI Hf (bN 539 42 Ga (af 131) (ag (af 42) ar)) (ag (af 71) ar)))) az))
noncomputable def Gs:FM:=bD [78,50,144,171,186,159] (ah (aP (af 50) (dx 50 (af 78))) (ah (aP (af 144) (dx 144 (af 78))) (ah (aP (af 171) (dx 171 (af 78))) (ah (aP (af 186) (dx 186 (af 78))) (ah (aP (af 159) (dx 159 (af 78))) az)))))
noncomputable def Gu:FM:=bD [78,146] (ah (bC (bR (aT .IsNot (bf 50 (af 78)) (au .none)) (bR (aT .NotIn (bf 50 (af 78)) (bf 179 (af 146))) (cQ true))) (ah (bh (au (.bool false))) az) az) (ah (bC (aT .Is (bf 144 (af 78)) (au .none)) (ah (bh (au (.bool true))) az) az) (ah (bh (yv (gM .In (bf 144 (af 78)) (bf 66 (bf 144 (af 146)))) (gM .In (bf 144 (af 78)) (bf 105 (bf 144 (af 146)))))) az)))
noncomputable def Gv:FM:=bD [78,91] (ah (bC (aT .Is (bf 171 (af 78)) (au .none)) (ah (bh (au (.bool true))) az) az) (ah (aP (bf 171 (af 78)) (eB [(aName 108),(aName 56)])) (ah (bh (GX (yv (gM .Is (af 108) (au .none)) (gM .LtE (af 108) (af 91))) (yv (gM .Is (af 56) (au .none)) (gM .LtE (af 91) (af 56))))) az)))
noncomputable def Bu:FM:=bD [78,131,89,21] (ah (aP (bN 539 146 ye (af 131) (ag (af 21) ar)) (aName 146)) (ah (bC (hH (vR (jh (bN 163 232 Gu (af 78) (ag (af 146) ar)))) (hH (vR (jh (bN 163 221 Gv (af 78) (ag (bf 91 (bf 219 (af 146))) ar)))) (cQ false))) (ah (bh (au (.bool false))) az) az) (ah (aP (bN 958 185 Gh (af 89) (ag (af 21) ar)) (aName 185)) (ah (bC (bR (aT .IsNot (bf 159 (af 78)) (au .none)) (bR (aT .NotEq (bf 159 (af 78)) (gM .Gt (aY eI (ag (af 185) ar)) (au (.int 1)))) (cQ true))) (ah (bh (au (.bool false))) az) az) (ah (bC (aT .Is (bf 186 (af 78)) (au .none)) (ah (bh (au (.bool true))) az) az) (ah (aP (bf 186 (af 78)) (eB [(aName 72),(aName 71)])) (ah (aP (aY yl (ag (af 131) (ag (af 89) (ag (af 21) (ag (af 72) (ag (af 71) ar)))))) (aName 61)) (ah (aP (eH (aT .Gt (aY eI (ag (af 185) ar)) (au (.int 0))) (af 185) (eList (ag (au .none) ar))) (aName 69)) (ah (bh (aY BM (ag (cT [av 3,av 22,a8 275,d9 61,d9 71,d9 72,d9 131,d9 89] (bO (af 69)) (aName 22) de (gM .NotEq (aY yl (ag (af 131) (ag (af 89) (ag (af 22) (ag (af 72) (ag (af 71) ar)))))) (af 61))) ar))) az)))))))))
noncomputable abbrev M8:Ks:=[av 131,av 89,av 170,av 155,av 119,av 92,av 65,av 110,av 21,a8 134,a8 18]
noncomputable abbrev pD:List Nat:=[131,89,170,155,119,92,65]
noncomputable def Bv:SM:=(ah (aP (eList ar) (aName 110)) (ah (cY (bO (bN 958 174 Gn (af 89) (ag (aY vT (ag (af 170) ar)) (ag (aY vT (ag (af 155) ar)) (ag (af 119) ar))))) (aName 21) (ah (bC (bR (aT .IsNot (af 65) (au .none)) (bR (aT .GtE (aY eI (ag (af 110) ar)) (af 65)) (cQ true))) (ah BR az) az) (ah (bC (hH (aT .Is (af 92) (au .none)) (hH (jh (bN 163 48 Bu (af 92) (ag (af 131) (ag (af 89) (ag (af 21) ar))))) (cQ false))) (ah (cw (bJ cD cN (af 110) (ag (af 21) ar))) az) az) az))) (ah (bh (af 110)) az)))
noncomputable def Gx:FM:=λxs kx σ Q=>∃x y z w u v,xs=[x,y,z,w]/\((kx=[(92,u)]/\v=.none)\/kx=[(92,u),(65,v)])/\ui Bv (eW pD [x,y,z,w,.str (ax "date"),u,v] λo=>none) σ Q
noncomputable def Bw:FM:=bD [174] (ah (aP nB (aName 59)) (ah (cY (bO (yC (af 174))) (aName 146) (ah (cw (bJ cD cN (bJ CN IJ (af 59) (ag (bf 66 (bf 144 (af 146))) (ag (eList ar) ar))) (ag (bN 391 190 yc (af 146) ar) ar))) az)) (ah (bh (cT [av 3,av 66,d9 59] (bO (aY uo (ag (af 59) ar))) (aName 66) de (b8 (ag (af 66) (ag (bc (af 59) (af 66)) ar))))) az)))
noncomputable def Gy:FM:=bD [174] (ah (aP (cT [av 3,av 66,av 206,a8 18] (bO (aY Bw (ag (af 174) ar))) (eB [(aName 66),(aName 206)]) de (b8 (ag (qD (aY eI (ag (af 206) ar))) (ag (af 66) ar)))) (aName 76)) (ah (bh (cT [av 3,av 103,av 66] (bO (aY uo (ag (af 76) ar))) (eB [(aName 103),(aName 66)]) de (b8 (ag (qD (af 103)) (ag (af 66) ar))))) az))
noncomputable def Gz:FM:=bD [167] (ah (gP [102,117] (b8 (ag (cT [av 3,av 44,a8 15] (bO (jZ (af 167) (au (.int 12)))) (aName 44) de (aY G8 (ag (af 44) ar))) (ag (au (.int 5565)) ar)))) (ah (cY (bO (af 102)) (aName 44) (ah (aP (be .Mod (be .Add (be .Add (be .Mult (af 117) (au (.int 48271))) (be .Mod (af 44) (au (.int 2147483629)))) (au (.int 5565))) (au (.int 2147483587))) (aName 117)) az)) (ah (bh (x6 (ax "cells") (ax "mixed") (ax "turn") (yC (af 102)) (af 117) (au (.int 0)))) az)))
noncomputable def jB:FM:=bD [46,100] (ah (aP (be .Add (bc (af 46) (au (.str (ax "turn")))) (au (.int 1))) (dg (af 46) (au (.str (ax "turn"))))) (ah (aP (be .Add (bc (af 46) (au (.str (ax "mixed")))) (be .Mult (be .Mult (au (.int 65563)) (bc (af 46) (au (.str (ax "turn"))))) (bc (af 46) (au (.str (ax "turn")))))) (aName 151)) (ah (bC (aT .NotEq (bc (af 46) (au (.str (ax "cells")))) (eList ar)) (ah (aP (bJ cD sr (bc (af 46) (au (.str (ax "cells")))) ar) (aName 44)) (ah (bC (aT .GtE (af 44) (au (.int 1000000))) (ah (cw (bJ cD cN (bc (af 46) (au (.str (ax "cells")))) (ag (be .FloorDiv (af 44) (af 100)) ar))) (ah (bh (be .Mod (af 44) (af 100))) az)) az) (ah (aP (be .Add (af 151) (be .Mod (af 44) (au (.int 2147483563)))) (aName 151)) az))) az) (ah (aP (be .Mod (be .Mult (be .Mod (af 151) (au (.int 2147483629))) (au (.int 40692))) (au (.int 2147483647))) (aName 151)) (ah (aP (be .Mod (be .Add (be .Mult (af 151) (af 151)) (au (.int 5569))) (au (.int 2147483587))) (aName 151)) (ah (bh (be .Mod (be .FloorDiv (be .Mod (be .Mult (af 151) (au (.int 39373))) (au (.int 2147483579))) (au (.int 64))) (af 100))) az))))))
noncomputable def pG:FM:=bD [46,82] (ah (bh (bc (af 82) (aY jB (ag (af 46) (ag (aY eI (ag (af 82) ar)) ar))))) az)
noncomputable def GA:FM:=bD [46,65] (ah (aP (eList ar) (aName 76)) (ah (cY (oh (be .Add (au (.int 2)) (aY jB (ag (af 46) (ag (be .Sub (af 65) (au (.int 1))) ar))))) (aName 1) (ah (gP [57,27] (b8 (ag (IH (af 1)) (ag (eList ar) ar)))) (ah (cY (oh (aY pG (ag (af 46) (ag (eList (ag (au (.int 1)) (ag (au (.int 1)) (ag (au (.int 1)) (ag (au (.int 2)) (ag (au (.int 2)) (ag (au (.int 3)) (ag (au (.int 0)) ar)))))))) ar)))) (aName 88) (ah (bC (aT .NotEq (af 57) (eList ar)) (ah (cw (bJ cD cN (af 27) (ag (bJ cD sr (af 57) (ag (aY jB (ag (af 46) (ag (aY eI (ag (af 57) ar)) ar))) ar)) ar))) az) az) az)) (ah (cw (bJ cD cN (af 76) (ag (af 27) ar))) az)))) (ah (bh (af 76)) az)))
noncomputable def GB:FM:=bD [46,61] (ah (aP (aY jB (ag (af 46) (ag (au (.int 4)) ar))) (aName 32)) (ah (bC (aT .Eq (af 32) (au (.int 0))) (ah (bh (cT [av 3,av 1] (oh (af 61)) (aName 1) de (be .Add (au (.int 100)) (be .Mult (au (.int 10)) (af 1))))) az) az) (ah (bC (aT .Eq (af 32) (au (.int 1))) (ah (bh (Bh (eList (ag (au (.int 500)) ar)) (af 61))) az) az) (ah (bC (aT .Eq (af 32) (au (.int 2))) (ah (bh (cT [av 3,av 1] (oh (af 61)) (aName 1) de (be .Sub (au (.int 900)) (be .Mult (au (.int 10)) (af 1))))) az) az) (ah (bh (cT [av 3,av 1,a8 215,d9 46] (oh (af 61)) (aName 1) de (be .Add (au (.int 1000)) (aY jB (ag (af 46) (ag (au (.int 6)) ar)))))) az)))))
noncomputable def GC:FM:=bD [76] (ah (aP (eList ar) (aName 110)) (ah (cY (tQ (af 76)) (eB [(aName 1),(aName 27)]) (ah (aP (IT (af 1) (au (.bool true))) (aName 82)) (ah (cY (bO (af 27)) (aName 0) (ah (cY (bO (bc (af 110) (af 0))) (aName 2) (ah (aP (au (.bool true)) (dg (af 82) (af 2))) az)) az)) (ah (cw (bJ cD cN (af 110) (ag (aY uo (ag (af 82) ar)) ar))) az)))) (ah (bh (af 110)) az)))
noncomputable def GD:FM:=bD [76,133,126,170] (ah (gP [191,112,110] (b8 (ag (eList ar) (ag S2 (ag (eList ar) ar))))) (ah (cY (bO (af 170)) (aName 1) (ah (bC (bR (aT .In (af 1) (af 126)) (bR (aT .NotIn (af 1) (af 112)) (cQ true))) (ah (aP (au (.bool true)) (dg (af 112) (af 1))) (ah (cw (bJ cD cN (af 191) (ag (af 1) ar))) az)) az) az)) (ah (jE (aT .NotEq (af 191) (eList ar)) (ah (aP (bc (af 191) (au (.int 0))) (aName 51)) (ah (cY (bO (af 191)) (aName 1) (ah (aP (eH (aT .Gt (bc (af 133) (af 1)) (bc (af 133) (af 51))) (af 1) (af 51)) (aName 51)) az)) (ah (aP (cT [av 3,av 1,d9 51] (bO (af 191)) (aName 1) (aT .NotEq (af 1) (af 51)) (af 1)) (aName 191)) (ah (cw (bJ cD cN (af 110) (ag (af 51) ar))) (ah (cY (bO (bc (af 76) (af 51))) (aName 0) (ah (bC (bR (aT .In (af 0) (af 126)) (bR (aT .NotIn (af 0) (af 112)) (cQ true))) (ah (aP (au (.bool true)) (dg (af 112) (af 0))) (ah (cw (bJ cD cN (af 191) (ag (af 0) ar))) az)) az) az)) az)))))) (ah (bh (af 110)) az))))
noncomputable def GF:FM:=bD [46,32,133,203] (ah (aP S5 (aName 110)) (ah (bC (aT .Eq (af 32) (au (.int 0))) (ah (aP (b8 (ag (au (.bytes [102])) (ag (au (.bytes [107])) ar))) (dg (af 110) (au (.str (ax "pickaxe"))))) az) az) (ah (bC (aT .Eq (af 32) (au (.int 1))) (ah (aP (aY pG (ag (af 46) (ag (eList (ag (au (.bytes [102,105,120])) (ag (au (.bytes [111])) (ag (au (.bytes [70,105,120])) (ag (au (.bytes [10,10])) ar))))) ar))) (dg (af 110) (au (.str (ax "grep"))))) az) az) (ah (bC (aT .Eq (af 32) (au (.int 2))) (ah (aP (aY pG (ag (af 46) (ag (eList (ag (au (.bytes [110,110])) (ag (au (.bytes [120])) (ag (au (.bytes [65,110,110])) (ag (au (.bytes [64])) ar))))) ar))) (dg (af 110) (au (.str (ax "author"))))) az) az) (ah (bC (hH (aT .Eq (af 32) (au (.int 3))) (hH (bR (vR (jh (af 203))) (bR (aT .Eq (aY jB (ag (af 46) (ag (au (.int 3)) ar))) (au (.int 0))) (cQ true))) (cQ false))) (ah (aP (gM .Eq (aY jB (ag (af 46) (ag (au (.int 2)) ar))) (au (.int 0))) (dg (af 110) (au (.str (ax "merges"))))) az) az) (ah (bC (aT .Eq (af 32) (au (.int 3))) (ah (aP (aY pG (ag (af 46) (ag (eList (ag (b8 (ag (bc (af 133) (au (.int 0))) (ag (au .none) ar))) (ag (b8 (ag (au .none) (ag (bc (af 133) (qD (au (.int 1)))) ar))) (ag (b8 (ag (bc (af 133) (au (.int 0))) (ag (bc (af 133) (au (.int 0))) ar))) ar)))) ar))) (dg (af 110) (au (.str (ax "between"))))) az) az) (ah (bh (af 110)) az)))))))
noncomputable def GG:FM:=bD [92,1,76,133,147,85] (ah (gP [68,66,60] (b8 (ag (bc (bc (af 85) (af 1)) (au (.int 0))) (ag (bc (bc (af 85) (af 1)) (au (.int 2))) (ag (bc (bc (af 85) (af 1)) (au (.int 3))) ar))))) (ah (bC (bR (aT .In (au (.str (ax "grep"))) (af 92)) (bR (aT .NotIn (bc (af 92) (au (.str (ax "grep")))) (af 68)) (cQ true))) (ah (bh (au (.bool false))) az) az) (ah (bC (bR (aT .In (au (.str (ax "author"))) (af 92)) (bR (aT .NotIn (bc (af 92) (au (.str (ax "author")))) (af 66)) (bR (aT .NotIn (bc (af 92) (au (.str (ax "author")))) (af 60)) (cQ true)))) (ah (bh (au (.bool false))) az) az) (ah (bC (bR (aT .In (au (.str (ax "merges"))) (af 92)) (bR (aT .NotEq (gM .Gt (aY eI (ag (bc (af 76) (af 1)) ar)) (au (.int 1))) (bc (af 92) (au (.str (ax "merges"))))) (cQ true))) (ah (bh (au (.bool false))) az) az) (ah (bC (aT .In (au (.str (ax "between"))) (af 92)) (ah (aP (bc (af 92) (au (.str (ax "between")))) (eB [(aName 108),(aName 56)])) (ah (bC (hH (bR (aT .IsNot (af 108) (au .none)) (bR (aT .Lt (bc (af 133) (af 1)) (af 108)) (cQ true))) (hH (bR (aT .IsNot (af 56) (au .none)) (bR (aT .Gt (bc (af 133) (af 1)) (af 56)) (cQ true))) (cQ false))) (ah (bh (au (.bool false))) az) az) az)) az) (ah (bC (aT .In (au (.str (ax "pickaxe"))) (af 92)) (ah (aP (eH (aT .IsNot (bc (af 147) (af 1)) (au .none)) (bc (af 147) (af 1)) (au (.int 0))) (aName 62)) (ah (aP (eH (aT .NotEq (bc (af 76) (af 1)) (eList ar)) (cT [av 3,av 0,d9 147] (bO (bc (af 76) (af 1))) (aName 0) de (eH (aT .IsNot (bc (af 147) (af 0)) (au .none)) (bc (af 147) (af 0)) (au (.int 0)))) (eList (ag (au (.int 0)) ar))) (aName 162)) (ah (bh (gM .NotIn (af 62) (af 162))) az))) az) (ah (bh (au (.bool true))) az)))))))
noncomputable def GH:FM:=bD [131,14,27,85] (ah (aP (cT [av 3,av 1,d9 14,d9 131] (bO (af 27)) (aName 1) de (bN 539 146 ye (af 131) (ag (bc (af 14) (af 1)) ar))) (aName 132)) (ah (aP (eList ar) (aName 8)) (ah (cY (bO (aY uo (ag (aY Ta (ag (cT [av 3,av 1,d9 85] (bO (af 27)) (aName 1) de (bc (bc (af 85) (af 1)) (au (.int 2)))) ar)) ar))) (aName 66) (ah (cw (bJ cD cN (af 8) (ag (b8 (ag (af 66) (ag (cT [av 3,av 1,d9 66,d9 85] (bO (yC (af 27))) (aName 1) (aT .Eq (bc (bc (af 85) (af 1)) (au (.int 2))) (af 66)) (bc (bc (af 85) (af 1)) (au (.int 1)))) ar))) ar))) az)) (ah (bC (aT .NotEq (cT [av 3,av 70,a8 58] (bO (aY Bw (ag (af 132) ar))) (aName 70) de (b8 (ag (bc (af 70) (au (.int 0))) (ag (aY sH (ag (bc (af 70) (au (.int 1))) ar)) ar)))) (af 8)) (ah (bh (au (.bool false))) az) az) (ah (aP (aY uo (ag (cT [av 3,av 70,a8 18] (bO (af 8)) (aName 70) de (b8 (ag (qD (aY eI (ag (bc (af 70) (au (.int 1))) ar))) (ag (bc (af 70) (au (.int 0))) ar)))) ar)) (aName 147)) (ah (bh (gM .Eq (cT [av 3,av 70,a8 134] (bO (aY Gy (ag (af 132) ar))) (aName 70) de (aY vT (ag (af 70) ar))) (cT [av 3,av 61,av 66] (bO (af 147)) (eB [(aName 61),(aName 66)]) de (b8 (ag (qD (af 61)) (ag (af 66) ar)))))) az))))))
noncomputable abbrev M9:Ks:=[av 160,av 149,a8 218,a8 18,a8 101]
noncomputable abbrev Na:List Nat:=[160]
noncomputable def OT:SM:=(ah (aP (aY Hm ar) (aName 149)) (ah (jE (hH (aT .Gt (af 160) (au (.int 0))) (hH (aT .Eq (aY IU (ag (af 149) ar)) (au (.int 0))) (cQ false))) (ah (cw (bJ CY Tc (af 149) (ag (be .Add (au (.int 48)) (be .Mod (af 160) (au (.int 8)))) ar))) (ah (aP (be .FloorDiv (af 160) (au (.int 8))) (aName 160)) az))) (ah (cw (bJ CY Td (af 149) ar)) (ah (bh (aY IV (ag (af 149) ar))) az))))
noncomputable def Bx:FM:=bD Na OT
noncomputable abbrev Nb:Ks:=[av 78,a8 281]
noncomputable abbrev Nc:List Nat:=[78]
noncomputable def OV:SM:=(ah (bh (be .Add (be .Add (be .Add (be .Add (aY Bx (ag (bf 63 (af 78)) ar)) (au (.bytes [32]))) (bf 66 (af 78))) (au (.bytes [0]))) (bf 21 (af 78)))) az)
noncomputable def By:FM:=bD Nc OV
noncomputable abbrev Nd:Ks:=[av 78,av 121,av 106]
noncomputable abbrev Nf:List Nat:=[78]
noncomputable def OY:SM:=(ah (aP (eList ar) (aName 121)) (ah (cY (bO (bf 176 (af 78))) (aName 106) (ah (cw (bJ cD cN (af 121) (ag (bN 274 161 By (af 106) ar) ar))) az)) (ah (bh (bJ jI tW (au (.bytes [])) (ag (af 121) ar))) az)))
noncomputable def Bz:FM:=bD Nf OY
noncomputable abbrev Ng:Ks:=[av 78,av 87,a8 230,a8 38]
noncomputable abbrev Nh:List Nat:=[78,87]
noncomputable def O0:SM:=(ah (cw (aY F2 (ag (af 87) ar))) (ah (bh (bN 539 53 rX (af 78) (ag (fm (.bytes [116,114,101,101])) (ag (bN 323 161 Bz (af 87) ar) (ag (af 87) ar))))) az))
noncomputable def ym:FM:=bD Nh O0
noncomputable abbrev Ni:Ks:=[av 46,av 76,av 133,av 147,av 131,e7 14,av 85,av 1,av 27,av 68,av 33,av 176,av 144,av 165,av 87,a8 236,a8 267,a8 220,a8 216,a8 226,a8 237,a8 94,a8 141,a8 39,a8 138]
noncomputable abbrev Nj:List Nat:=[46,76,133,147]
noncomputable def O2:SM:=(ah (aP (b8 (ag (aY (eV 539 Bq) (ag (aY (eV 108 Bm) (ag (au (.int 4)) ar)) ar)) (ag (eList ar) (ag (eList ar) ar)))) (eB [(aName 131),(aName 14),(aName 85)])) (ah (cY (tQ (af 76)) (eB [(aName 1),(aName 27)]) (ah (gP [68,33] (b8 (ag (aY pG (ag (af 46) (ag (fm (.loc 1003)) ar))) (ag (aY pG (ag (af 46) (ag (fm (.loc 1007)) ar))) ar)))) (ah (aP (eList ar) (aName 176)) (ah (bC (aT .IsNot (bc (af 147) (af 1)) (au .none)) (ah (cw (bJ cD cN (af 176) (ag (aY (eV 274 Bo) (ag (au (.int 33188)) (ag (au (.bytes [102])) (ag (bN 539 136 Br (af 131) (ag (au (.bytes [98,108,111,98])) (ag (be .Add (be .Mult (au (.bytes [107])) (bc (af 147) (af 1))) (au (.bytes [10]))) ar))) ar)))) ar))) az) az) (ah (gP [144,165] (b8 (ag (aY (eV 232 tT) (ag (bc (af 33) (au (.int 0))) (ag (bc (af 33) (au (.int 1))) (ag (be .Add (au (.int 5)) (af 1)) (ag (au (.bytes [43,48,48,48,48])) ar))))) (ag (aY (eV 232 tT) (ag (au (.bytes [90])) (ag (au (.bytes [122,64,122])) (ag (bc (af 133) (af 1)) (ag (au (.bytes [43,48,49,51,48])) ar))))) ar)))) (ah (aP (bN 539 235 ym (af 131) (ag (aY (eV 323 ya) (ag (af 176) ar)) ar)) (aName 87)) (ah (cw (bJ cD cN (af 14) (ag (bN 539 257 Bs (af 131) (ag (aY (eV 391 yb) (ag (af 87) (ag (cT [av 3,av 0,d9 14] (bO (af 27)) (aName 0) de (bc (af 14) (af 0))) (ag (af 144) (ag (af 165) (ag (eList ar) (ag (bc (af 68) (au (.int 0))) ar))))))) ar)) ar))) (ah (cw (bJ cD cN (af 85) (ag (be .Add (af 68) (af 33)) ar))) az)))))))) (ah (bh (b8 (ag (af 131) (ag (af 14) (ag (af 85) ar))))) az)))
noncomputable def BA:FM:=bD Nj O2
noncomputable abbrev Nk:Ks:=[av 167,e7 46,av 32,av 203,e7 76,av 61,e7 133,av 27,e7 147,av 131,e7 14,e7 85,e7 92,av 89,e7 187,e7 155,av 126,av 11,av 98,av 67,av 10,av 31,a8 214,a8 215,a8 274,a8 18,a8 227,a8 228,a8 217,a8 40,a8 249,a8 248,a8 210,a8 58,a8 158,a8 279]
noncomputable abbrev Nl:List Nat:=[167]
noncomputable abbrev Tg:SM:=(ah (bC (aT .NotEq (aY sH (ag (Cz Gx (ag (af 131) (ag (af 89) (ag (af 67) (ag (af 10) ar)))) [92] (ag (af 98) ar)) ar)) (cT [av 3,av 1,d9 14] (bO (af 11)) (aName 1) de (bc (af 14) (af 1)))) (ah (bh (au (.bool false))) az) az) (ah (aP (be .Add (au (.int 1)) (aY jB (ag (af 46) (ag (au (.int 3)) ar)))) (aName 31)) (ah (bC (aT .NotEq (aY sH (ag (Cz Gx (ag (af 131) (ag (af 89) (ag (af 67) (ag (af 10) ar)))) [92,65] (ag (af 98) (ag (af 31) ar))) ar)) (cT [av 3,av 1,d9 14] (bO (jZ (af 11) (af 31))) (aName 1) de (bc (af 14) (af 1)))) (ah (bh (au (.bool false))) az) az) (ah (bh (aY GH (ag (af 131) (ag (af 14) (ag (af 27) (ag (af 85) ar)))))) az))))
noncomputable abbrev Th:SM:=(ah (aP (cT [av 3,av 1,a8 268,d9 147,d9 76,d9 133,d9 85,d9 92] (bO (af 27)) (aName 1) (jh (aY GG (ag (af 92) (ag (af 1) (ag (af 76) (ag (af 133) (ag (af 147) (ag (af 85) ar)))))))) (af 1)) (aName 11)) (ah (aP (aY (eV 163 Gs) (ag (bJ sG si (af 92) (ag (au (.str (ax "grep"))) ar)) (ag (bJ sG si (af 92) (ag (au (.str (ax "author"))) ar)) (ag (bJ sG si (af 92) (ag (au (.str (ax "between"))) ar)) (ag (bJ sG si (af 92) (ag (au (.str (ax "pickaxe"))) ar)) (ag (bJ sG si (af 92) (ag (au (.str (ax "merges"))) ar)) ar)))))) (aName 98)) (ah (gP [67,10] (b8 (ag (eList (ag (bc (af 14) (be .Sub (af 61) (au (.int 1)))) ar)) (ag (cT [av 3,av 1,d9 14] (bO (af 155)) (aName 1) de (bc (af 14) (af 1))) ar)))) Tg)))
noncomputable abbrev IX:SM:=(ah (aP (cT [av 3,e7 2,d9 155,d9 187] (bO (bc (af 187) (be .Sub (af 61) (au (.int 1))))) (aName 2) (aT .Eq (cT [av 3,av 1,d9 187,d9 2] (bO (af 155)) (aName 1) (aT .In (af 2) (bc (af 187) (af 1))) (af 1)) (eList ar)) (af 2)) (aName 126)) (ah (aP (aY GD (ag (af 76) (ag (af 133) (ag (af 126) (ag (eList (ag (be .Sub (af 61) (au (.int 1))) ar)) ar))))) (aName 27)) Th))
noncomputable abbrev Ti:SM:=(ah (aP (eH (bR (vR (jh (af 203))) (bR (aT .Eq (aY jB (ag (af 46) (ag (au (.int 3)) ar))) (au (.int 0))) (cQ true))) (eList (ag (aY jB (ag (af 46) (ag (be .Sub (af 61) (au (.int 1))) ar))) ar)) (eList ar)) (aName 155)) IX)
noncomputable abbrev Tj:SM:=(ah (aP (b8 (ag (aY GF (ag (af 46) (ag (af 32) (ag (af 133) (ag (af 203) ar))))) (ag (aY (eV 958 Gg) (ag (af 131) ar)) (ag (aY GC (ag (af 76) ar)) ar)))) (eB [(aName 92),(aName 89),(aName 187)])) Ti)
noncomputable abbrev IY:SM:=(ah (aP (aY BA (ag (af 46) (ag (af 76) (ag (af 133) (ag (af 147) ar))))) (eB [(aName 131),(aName 14),(aName 85)])) Tj)
noncomputable abbrev Tn:SM:=(ah (aP (eH (jh (af 203)) (eList (ag (au (.int 1)) (ag (au (.int 2)) (ag (au (.int 1)) (ag (au (.int 1)) ar))))) (cT [av 3,av 27,a8 216,d9 46] (bO (af 76)) (aName 27) de (aY pG (ag (af 46) (ag (eList (ag (au (.int 0)) (ag (au (.int 1)) (ag (au (.int 1)) (ag (au (.int 2)) (ag (au .none) ar)))))) ar))))) (aName 147)) IY)
noncomputable abbrev To:SM:=(ah (aP (b8 (ag (aY eI (ag (af 76) ar)) (ag (aY GB (ag (af 46) (ag (aY eI (ag (af 76) ar)) ar))) ar))) (eB [(aName 61),(aName 133)])) Tn)
noncomputable abbrev Tp:SM:=(ah (gP [32,203] (b8 (ag (aY jB (ag (af 46) (ag (au (.int 4)) ar))) (ag (gM .Eq (aY jB (ag (af 46) (ag (au (.int 3)) ar))) (au (.int 0))) ar)))) (ah (aP (eH (jh (af 203)) (eList (ag (eList ar) (ag (eList (ag (au (.int 0)) ar)) (ag (eList (ag (au (.int 0)) ar)) (ag (eList (ag (au (.int 1)) (ag (au (.int 2)) ar))) ar))))) (aY GA (ag (af 46) (ag (au (.int 4)) ar)))) (aName 76)) To))
noncomputable def O6:SM:=(ah (aP (aY Gz (ag (af 167) ar)) (aName 46)) Tp)
noncomputable def O7:FM:=bD Nl O6
noncomputable def nC:List (List UInt8×List UInt8):=[([65,110,110],[97,64,120]),([66,111],[97,110,110,64,121]),([67,121],[99,64,120])]
noncomputable def j5:List (List UInt8×List UInt8):=[([102,105,120,32,97,10],[102,105,120,32,97]),([97,100,100,32,98,10,10,97,110,100,32,102,105,120,32,109,111,114,101,10],[97,100,100,32,98]),
 ([116,119,111,10,108,105,110,101,115,10],[116,119,111,32,108,105,110,101,115]),([112,108,97,105,110],[112,108,97,105,110])]
noncomputable def sI(D:List UInt8×List UInt8):CV:=.tup [.bytes D.1,.bytes D.2]
noncomputable def m6:List CV:=j5.map sI
noncomputable def m7:List CV:=nC.map sI
section
open PySem.SeqAt
section
variable{c:Cx}{A:bj}{σ:St}{s:aw}
theorem UI(R:Rel c σ s.heap)(e:σ a=some o)(hi:o.fc=false):(a==vB)=false:=by
 refine xe c.sys λo' h'=>?_;have:=eK.out (R.objs a o e) hi
 cases h:a==vB with
 |false=>rfl
 |true=>rw[beq_iff_eq.mp h,h']at this;exact jy this
theorem aN.agK{h:Heap}{acc:List ak}(p:acc.Perm vs):∀{ks:List (List UInt8)},aN h (ks.map .bytes) vs->∃UJ:List (List UInt8),UJ.Perm ks/\aN h (UJ.map .bytes) acc:=by
 induction p with
 |nil=>intro ks r;exact⟨ks,.refl _,r⟩
 |cons v p ih=>
  intro ks r
  induction ks with
  |nil=>cases r
  |cons k ks=>
   cases r with
   |cons e r=>
    refine a9 (ih r) λk2 h1 h2=>?_
    exact⟨k::k2,h1.cons k,.cons e h2⟩
 |swap a b l=>
  intro ks r
  cases ks with
  |nil=>cases r
  |cons k ks=>
   cases r with
   |cons e r=>
    induction ks with
    |nil=>cases r
    |cons k' ks=>
     cases r with
     |cons e' r=>exact⟨k'::k::ks,.swap _ _ _,.cons e' (.cons e r)⟩
 |trans p1 p2 ih1 ih2=>
  intro ks r;refine a9 (ih2 r) λk2 h1 h2=>?_;refine a9 (ih1 h2) λk3 h3 h4=>?_;exact⟨k3,h3.trans h1,h4⟩
theorem UK:∀{l m:List (List UInt8)},l.Nodup->(∀x∈l,x∈m)->l.length=m.length->m.Perm l
 |[],m,_,_,hl=>by rw[List.length_eq_zero_iff.mp hl.symm]
 |x::l,m,hn,hs,hl=>by
  rw[mN]at hn;have hx:=hs x (.head _)
  have h1:=UK (l:=l) (m:=m.erase x) hn.2 (λy hy=>(List.mem_erase_of_ne (λe=>hn.1 (by rw[<-e];exact hy))).2 (hs y (.tail _ hy))) (by rw[YG hx];simp at hl;exact Nat.eq_sub_of_add_eq hl)
  exact(List.perm_cons_erase hx).trans (h1.cons x)
theorem agL(l:List (List UInt8)):(lI l).Nodup:=by
 have key:∀(l acc:List (List UInt8)),acc.Nodup->(l.foldl zC acc).Nodup:=by
  intro l
  induction l with
  |nil=>intro acc h;exact h
  |cons y l ih=>
   intro acc h;refine ih _ ?_;unfold zC
   split
   ·exact h
   ·rename_i hy
    rw[nT]
    exact⟨h,by simp,λx hx z hz e=>hy (by simp at hz;rw[<-hz,<-e];exact hx)⟩
 exact key l [] .nil
theorem keysOf{h:Heap}:∀{l:List (Int×ak)},ElemsOf (fM prog w) l->∃ks:List (List UInt8),aN h (ks.map .bytes) (l.map (λx=>x.2))/\∀k,(∃e∈l,(fM prog w).is k e.2=true)->k∈ks
 |[],_=>⟨[],.nil,λk ⟨e,he,_⟩=>cA he⟩
 |e::l,wO=>by
  refine a9 (keysOf (h:=h) wO.tail) λks h1 h2=>?_;obtain⟨⟨k,hk,_⟩,_⟩:=wO.head
  refine⟨k::ks,?_,λk' ⟨e',zd,c4⟩=>?_⟩
  ·refine .cons ?_ h1
   obtain⟨hh,v⟩:=e;cases v<;>simp[fM,tK]at hk;subst hk
   exact .bytes _ _
  ·rcases List.mem_cons.mp zd with rfl |zd
   ·have:=(fM prog w).inj e'.2 k' k c4 hk
    rw[this];exact .head _
   ·exact .tail _ (h2 k' ⟨e',zd,c4⟩)
theorem aU.set:aU c 1 (.type "set") Ta:=aU.a1 λ{A σ s a v Q} hr R e q=>by
 refine bF q λbs h hl q=>?_;subst e;refine R.li h λitems m hg dK rs=>?_;rw[aZ]at dK
 refine agH hr.h (dJ hg) dK (λi v hv=>?_) (by unfold tH;exact l2 hl (er dK) (by simp+arith only)) λh' tk es ep t S keep=>?_
 ·have hi:i<bs.length:=dK▸(Array.getElem?_eq_some_iff.mp hv).1
  have hb:(bs.map CV.bytes)[i]?=some (.bytes bs[i]):=by rw[dM,bS hi];rfl
  refine a9 (rs.get hb) λv' h1 h2=>?_;rw[vp,hv]at h1;obtain rfl:=bt h1;obtain⟨t,rfl⟩:=h2.fQ
  exact⟨_,_,bS hi,rfl⟩
 ·refine bF S.ob.ex λo ho hex hd=>?_
  refine a9 (keysOf (h:=h') S.el) λks h1 h2=>?_
  have qY:ks.length=es.size:=by rw[<-mI,<-aZ (f:=CV.bytes),h1.length,aZ]
  refine IK (tk:=tk) (x:=.set (wL bs)) R keep (kK _) (λz=>⟨z,o,es,ep,t,ks,ho,hex,hd,S.ob.ft,?_,h1,λhT=>⟨(S.led hT).1,λh=>(S.led hT).2 (ey (nU 1) h)⟩⟩) q
  exact UK (agL bs) (λk hk=>h2 k ((S.mem k).mp hk)) (by rw[qY,S.sz];rfl)
theorem aU.sorted:aU c 1 (.builtin "sorted") uo:=aU.or (aU.a1 λ{A σ s a v Q} hr R e q=>by
  refine bF q λes h h4 q=>?_;subst e
  exact R.di h λkvs hd hl kr=>C8 oI.ints 0 (PK:=λks=>ks=kvs.map (λx=>x.1)) R (λR' uA=>Ug agf hr.h (UI R h rfl) hd (hl▸h4) R' uA) λks pk ws hp hs=>q ws (by rw[kr.keys,<-pk];exact hp) (agh hs)) (aU.or (aU.a1 λ{A σ s a v Q} hr R e q=>by
  refine bF q λes h h4 q=>?_;subst e
  exact R.db h λkvs hd hl kr=>C8 oI.bytes [] (PK:=λks=>ks=kvs.map (λx=>x.1)) R (λR' uA=>Ug agg hr.h (UI R h rfl) hd (hl▸h4) R' uA) λks pk ws hp hs=>q ws (by rw[kr.keys,<-pk];exact hp) hs) (aU.or (aU.a1 λ{A σ s a v Q} hr R e q=>by
  refine bF q λbs h h4 q=>?_;subst e;obtain⟨z,o,es,ep,t,ks,ho,hex,hd,hf,hp,yX,hl⟩:=R.objs _ _ h;rw[<-hp.length_eq]at h4
  have dK:es.size=ks.length:=by rw[<-mI,<-aZ (f:=CV.bytes),yX.length,aZ]
  refine C8 oI.bytes [] (PK:=λks=>ks.Perm bs) R (λR' uA=>agu (A:=A.in1) hr.h ⟨⟨o,ho,hex,hd⟩,hf⟩ hl (dK▸dQ (aR h4 (by decide))) λh' tk d acc keep sO=>?_) λks pk ws hp hs=>q ws (hp.trans pk) hs
  refine a9 (aN.agK sO yX) λk2 g1 g2=>?_
  exact uA h' tk d acc k2 keep (g2.bQ λb y y eb=>keep b _ eb) (g1.length_eq▸h4) (g1.trans hp)) (aU.a1 λ{A σ s a v Q} hr R e q=>by
  refine bF q λps h h4 q=>?_;subst e;refine R.li h λitems m hg dK rs=>?_;rw[aZ]at dK
  exact C8 oI.lD (0,[]) (PK:=λks=>ks=ps) R (λR' uA=>wpAny_collect_seq _ (.inl rfl) hg rfl rfl (λh' keep=>uA h' s.toks s.drawn items.toList ps keep (rs.bQ λb y y eb=>keep b _ eb) h4 rfl) (dK▸dQ (aR h4 (by decide)))) λks pk ws hp hs=>q ws (pk▸hp) hs)))
end
end
set_option tactic.hygienic false
section
variable{s:aw}{fd:pj}{T:Addr}{o:Obj}{m:Nat}{x y z w u v d0 d1 d2 d3 d4:ak}(hp:qz fd.params=true)(hd:fd.defaults=.ref T)(ho:s.heap.get? T=some o)
include hp hd ho
theorem CZ{ns:List Str}{kv binds:L2}{ds:Array ak}(ha:fd.params.args.map (λx=>x.arg)=ns)(hs:o.data=.seq ds m)(h:Cu ns vs kv ds.toList binds):rR s fd ⟨vs,kv⟩ binds:=
 Rb (od:=some ds) hp ha (λh=>hd▸E7 ho hs h) h
theorem abz(ha:fd.params.args.map (λx=>x.arg)=vE.map nm)(hs:o.data=.seq #[d0] m):rR s fd ⟨[x,y],[]⟩ ((vE.map nm).zip [x,y,d0]):=
 CZ hp hd ho ha hs ⟨cG rfl,rfl,by kernel_rfl,by kernel_rfl⟩
theorem abK(ha:fd.params.args.map (λx=>x.arg)=vF.map nm)(hs:o.data=.seq #[d0,d1,d2,d3,d4] m):rR s fd ⟨[x,y,z,w],[]⟩ ((vF.map nm).zip [x,y,z,w,d2,d3,d4]):=
 CZ hp hd ho ha hs ⟨cG rfl,rfl,by kernel_rfl,by kernel_rfl⟩
theorem abU(ha:fd.params.args.map (λx=>x.arg)=pD.map nm)(hs:o.data=.seq #[d0,d1,d2,d3] m):rR s fd ⟨[x,y,z,w],[(nm 92,u)]⟩ ((pD.map nm).zip [x,y,z,w,d1,u,d3]):=
 CZ hp hd ho ha hs ⟨cG rfl,by kernel_rfl,by kernel_rfl,by kernel_rfl⟩
theorem abV(ha:fd.params.args.map (λx=>x.arg)=pD.map nm)(hs:o.data=.seq #[d0,d1,d2,d3] m):rR s fd ⟨[x,y,z,w],[(nm 92,u),(nm 65,v)]⟩ ((pD.map nm).zip [x,y,z,w,d1,u,v]):=
 CZ hp hd ho ha hs ⟨cG rfl,by kernel_rfl,by kernel_rfl,by kernel_rfl⟩
end
noncomputable def Ba(x:Expr):Prop:=∀xs env,cU (x::xs) env=(false,eval x env)::cU xs env
noncomputable def FoldIs(x:Expr):Prop:=∀env v,xH x env v=pure v
noncomputable def Fw(x:Expr):Prop:=∀env whole,isTrue x env whole=(do let v <-whole;oe x.pos;holding [v] (truthy v))
noncomputable def xZ(x:Expr):Prop:=∀a env w,attributeBase x a env w=w
theorem ZL{x:Expr}{a:Str}{pos:Pos}(h:xZ x):∀env,eval (.Attribute x a pos) env=(do
   let o <-eval x env
   oe pos.atName
   let r <-holding [o] (getAttr o a true)
   letTemporaryGo x o r
   pure r):=λenv=>congrArg (λt:Sem ak=>t >>= _) (h a env (eval x env))
theorem ZM{l:List (Bool×Sem ak)}{n:Nat}(h:l.any (λx=>x.1)=false)(hn:lg n 30=true):E6 n l []=true:=by
 have e:l.all (!·.1)=true:=iz.2 λx hx=>(mK _).mpr (Bool.eq_false_iff.2 (List.any_eq_false.1 h x hx));unfold E6;rw[e];exact decide_eq_true (cG hn)
theorem Bb{o:Expr}{name:Str}{apos pos:Pos}(h:xZ o)(hp:∀pos env,(dZ pos (cU args env)).any (λx=>x.1)=false)(hl:(apos.endLine==pos.line)=true)(ZN:lg args.length 30=true):∀env,eval (.Call (.Attribute o name apos) args [] pos) env=(do
   let ov <-eval o env
   oe apos.atName
   let(f,first) <-holding [ov] (tF ov name (do return (<-importBound o env).getD true))
   lW pos f first (dZ pos (cU args env)) (lX pos (lU [] env))):=λenv=>by
 have hf:E6 (args.length+0) (dZ pos (cU args env)) []=true:=ZM (hp pos env) ZN
 have e1:∀ov,calleeOf (E6 (args.length+0) (dZ pos (cU args env)) []) o env ov name=tF ov name (do return (<-importBound o env).getD true):=λov=>by unfold calleeOf;exact if_pos hf
 have e2:methodCallPos (E6 (args.length+0) (dZ pos (cU args env)) []) o env apos pos=pure pos:=by unfold methodCallPos;exact if_pos (by rw[hl];exact Bool.or_true _)
 refine(congrArg (λt:Sem ak=>t >>= _) (h name env (eval o env))).trans ?_;show(eval o env >>= λov=>oe apos.atName >>= λz=>methodCall o name apos pos env ov (args.length+0) (dZ pos (cU args env)) [])=_
 have e3:∀ov,methodCall o name apos pos env ov (args.length+0) (dZ pos (cU args env)) []=(do
   let(f,first) <-holding [ov] (tF ov name (do return (<-importBound o env).getD true))
   lW pos f first (dZ pos (cU args env)) []):=λov=>by unfold methodCall;rw[e1,e2];rfl
 exact congrArg (λK:ak->Sem ak=>eval o env >>= λov=>oe apos.atName >>= λz=>K ov) (funext e3)
noncomputable def mY{M:Expr->Type}(d:∀x,M x)(ZO:∀o xs p,M (.BoolOp o xs p))(bin:∀l o r p,M (.BinOp l o r p))(ZP:∀o x p,M (.UnaryOp o x p))(ite:∀t x y p,M (.IfExp t x y p))(ZQ:∀k v p,M (.Dict k v p))(ZR:∀e g s p,M (.ListComp e g s p))
  (cmp:∀l o r p,M (.Compare l o r p))(ZS:∀f a k p,M (.Call f a k p))(con:∀v k p,M (.Constant v k p))(Fx:∀x a p,M (.Attribute x a p))(sub:∀x y p,M (.Subscript x y p))(Fy:∀x p,M (.Name x p))(ZT:∀xs p,M (.List xs p))(tup:∀xs k p,M (.Tuple xs k p))(ZU:∀a b e p,M (.Slice a b e p))(x:Expr):M x:=
 match x with
 |.BoolOp o xs p=>ZO o xs p
 |.BinOp l o r p=>bin l o r p
 |.UnaryOp o x p=>ZP o x p
 |.IfExp t x y p=>ite t x y p
 |.Dict k v p=>ZQ k v p
 |.ListComp e g s p=>ZR e g s p
 |.Compare l o r p=>cmp l o r p
 |.Call f a k p=>ZS f a k p
 |.Constant v k p=>con v k p
 |.Attribute x a p=>Fx x a p
 |.Subscript x y p=>sub x y p
 |.Name x p=>Fy x p
 |.List xs p=>ZT xs p
 |.Tuple xs k p=>tup xs k p
 |.Slice a b e p=>ZU a b e p
 |x=>d x
section
variable{M:Expr->Type}(d:∀x,M x)
noncomputable def Fz(k:∀x p,M (.Name x p)):∀x,M x:=mY d (λz z z=>d _) (λz z z z=>d _) (λz z z=>d _) (λz z z z=>d _) (λz z z=>d _) (λz z z z=>d _) (λz z z z=>d _) (λz z z z=>d _) (λz z z=>d _) (λz z z=>d _) (λz z z=>d _) k (λz z=>d _) (λz z z=>d _) (λz z z z=>d _)
noncomputable def FA(k:∀xs k p,M (.Tuple xs k p)):∀x,M x:=mY d (λz z z=>d _) (λz z z z=>d _) (λz z z=>d _) (λz z z z=>d _) (λz z z=>d _) (λz z z z=>d _) (λz z z z=>d _) (λz z z z=>d _) (λz z z=>d _) (λz z z=>d _) (λz z z=>d _) (λz z=>d _) (λz z=>d _) k (λz z z z=>d _)
noncomputable def ZV(k:∀e g s p,M (.ListComp e g s p)):∀x,M x:=mY d (λz z z=>d _) (λz z z z=>d _) (λz z z=>d _) (λz z z z=>d _) (λz z z=>d _) k (λz z z z=>d _) (λz z z z=>d _) (λz z z=>d _) (λz z z=>d _) (λz z z=>d _) (λz z=>d _) (λz z=>d _) (λz z z=>d _) (λz z z z=>d _)
noncomputable def MN(k:∀f a k p,M (.Call f a k p)):∀x,M x:=mY d (λz z z=>d _) (λz z z z=>d _) (λz z z=>d _) (λz z z z=>d _) (λz z z=>d _) (λz z z z=>d _) (λz z z z=>d _) k (λz z z=>d _) (λz z z=>d _) (λz z z=>d _) (λz z=>d _) (λz z=>d _) (λz z z=>d _) (λz z z z=>d _)
noncomputable def MO(k:∀v k p,M (.Constant v k p)):∀x,M x:=mY d (λz z z=>d _) (λz z z z=>d _) (λz z z=>d _) (λz z z z=>d _) (λz z z=>d _) (λz z z z=>d _) (λz z z z=>d _) (λz z z z=>d _) k (λz z z=>d _) (λz z z=>d _) (λz z=>d _) (λz z=>d _) (λz z z=>d _) (λz z z z=>d _)
noncomputable def ZW(k:∀o x p,M (.UnaryOp o x p)):∀x,M x:=mY d (λz z z=>d _) (λz z z z=>d _) k (λz z z z=>d _) (λz z z=>d _) (λz z z z=>d _) (λz z z z=>d _) (λz z z z=>d _) (λz z z=>d _) (λz z z=>d _) (λz z z=>d _) (λz z=>d _) (λz z=>d _) (λz z z=>d _) (λz z z z=>d _)
noncomputable def ZX(k:∀a b e p,M (.Slice a b e p)):∀x,M x:=mY d (λz z z=>d _) (λz z z z=>d _) (λz z z=>d _) (λz z z z=>d _) (λz z z=>d _) (λz z z z=>d _) (λz z z z=>d _) (λz z z z=>d _) (λz z z=>d _) (λz z z=>d _) (λz z z=>d _) (λz z=>d _) (λz z=>d _) (λz z z=>d _) k
noncomputable def Bc(Fy:∀x p,M (.Name x p))(Fx:∀x a p,M (.Attribute x a p))(sub:∀x y p,M (.Subscript x y p)):∀x,M x:=mY d (λz z z=>d _) (λz z z z=>d _) (λz z z=>d _) (λz z z z=>d _) (λz z z=>d _) (λz z z z=>d _) (λz z z z=>d _) (λz z z z=>d _) (λz z z=>d _) Fx sub Fy (λz z=>d _) (λz z z=>d _) (λz z z z=>d _)
end
noncomputable abbrev Fo(P:Prop):=Option (PLift P)
noncomputable abbrev RX(c:Cx)(n:Nat)(ks:Ks)(x:Expr):={m:EM // aH c n ks x m/\Ba x/\FoldIs x}×Fo (Fw x)×Fo (xZ x)×Fo (∀line env,mS x none line env=pure false)
noncomputable abbrev RL(c:Cx)(n:Nat)(ks:Ks)(xs:List Expr):={m:cV // gZ c n ks xs m/\∀pos env,(dZ pos (cU xs env)).any (λx=>x.1)=false}
noncomputable abbrev RB(c:Cx)(n:Nat)(ks:Ks)(x:Expr):={m:TM // gI c n ks x m}
section
variable{c:Cx}{n:Nat}{ks:Ks}{x:Expr}{xs:List Expr}
noncomputable def RX.m(a:RX c n ks x):EM:=a.1.1
theorem RX.h(a:RX c n ks x):aH c n ks x a.m:=a.1.2.1
theorem RX.st(a:RX c n ks x):Ba x:=a.1.2.2.1
theorem RX.fo(a:RX c n ks x):FoldIs x:=a.1.2.2.2
noncomputable def RX.pl(a:RX c n ks x):Fo (Fw x):=a.2.1
noncomputable def RX.ba(a:RX c n ks x):Fo (xZ x):=a.2.2.1
noncomputable def RL.m(a:RL c n ks xs):cV:=a.1
theorem RL.h(a:RL c n ks xs):gZ c n ks xs a.m:=a.2.1
theorem RL.hp(a:RL c n ks xs):∀pos env,(dZ pos (cU xs env)).any (λx=>x.1)=false:=a.2.2
end
structure Rc(c:Cx)(n:Nat) where
 e:(ks:Ks)->(x:Expr)->Option (RX c n ks x)
 b:(ks:Ks)->(x:Expr)->Option (RB c n ks x)
 s:(ks:Ks)->(x:List Stmt)->{m:SM // eQ c n ks x m}
noncomputable abbrev Fe(c:Cx):={d:Nat×CV×ak×Nat×FM // x3 c d.1 d.2.1/\tN d.2.1=some d.2.2.1/\dw c d.2.2.1/\aU c d.2.2.2.1 d.2.2.1 d.2.2.2.2}
noncomputable abbrev Me(c:Cx):={d:Nat×Nat×Nat×Nat×FM // rV d.2.1 d.1 d.2.2.1=true/\aU c d.2.2.2.1 (.ref d.2.2.1) d.2.2.2.2}
noncomputable abbrev Be(c:Cx):={d:Str×String×(CV->St->Prop)×Nat×FM // c5 c d.1 d.2.1 d.2.2.1/\aU c d.2.2.2.1 (.builtin d.2.1) d.2.2.2.2}
structure Tb(c:Cx) where
 G:x4 c
 fs:List (Fe c)
 ms:List (Me c)
 bs:List (Be c)
 dk:Nat
noncomputable def ku(x:Str):Option {i:Nat // nm i=x}:=
 let i:=x5.findIdx (rQ (code x))
 if h:nm i=x then some ⟨i,h⟩else none
section
variable{c:Cx}{n:Nat}(T:Tb c)(r:Rc c n)(ks:Ks)
noncomputable def kL:(xs:List Expr)->Option (RL c n ks xs)
 |[]=>some ⟨ar,gZ.nil,λz z=>rfl⟩
 |x::xs=>(r.e ks x).bind λa=>(kL xs).bind λb=>some ⟨ag a.m b.m,@gZ.cons _ _ _ _ _ _ _ (@RX.h _ _ _ _ a) (@RL.h _ _ _ _ b) (a.st xs),λpos env=>by rw[a.st];exact b.hp pos env⟩
noncomputable def ZY(x:Str)(pos:Pos):Option {m:EM // aH c n ks (.Name x pos) m}:=
 (ku x).bind λi=>if hd:i.1≠rW/\i.1≠tO then
  if hk:isVar (ks.lookup i.1)=true then some ⟨af i.1,@aH.var _ _ _ _ _ i.1 i.2 hk hd.1 hd.2⟩
  else if hk:ks.lookup i.1=some .globalImplicit then(tP.lookup i.1).pbind λv hg=>some ⟨fm v,@aH.glob _ _ _ _ _ _ i.1 i.2 hk hd.1 (T.G _ _ hg)⟩
  else none
 else none
noncomputable def Bd{S:String}(j:Nat)(hg:x3 c j (.ty S))(x:Str)(pos:Pos):Fo (aH c n ks (.Name x pos) (au (.ty S))):=
 if h:nm j=x/\ks.lookup j=some .globalImplicit/\j≠rW then some ⟨@aH.glob _ _ _ _ _ _ j h.1 h.2.1 h.2.2 hg⟩else none
noncomputable abbrev RI(c:Cx)(n:Nat)(ks:Ks)(t x:Expr):={m:IM // jU c n ks t x m/\FoldIs x}
noncomputable def ZZ(t:Expr):(x:Expr)->Option (RI c n ks t x):=MN (λz=>none) λf a k pos=>Fz (M:=λf=>Option (RI c n ks t (.Call f a k pos))) (λz=>none) (λf p=>match a,k with
 |[y],[]=>(r.e ks y).bind λa=>
  ((Bd (n:=n) ks 124 (T.G 124 (.ty "range") rfl) f p).map λh=>⟨oh a.m,@jU.range _ _ _ _ _ _ _ _ (@Fm _ h) (@RX.h _ _ _ _ a) (λz=>rfl) (a.st []),λz z=>rfl⟩).or
  (FA (M:=λt=>Option (RI c n ks t (.Call (.Name f p) [y] [] pos))) (λz=>none) (λelts kk pp=>(Bd (n:=n) ks 220 (T.G 220 (.ty "enumerate") rfl) f p).map λh=>⟨tQ a.m,@jU.enum _ _ _ _ _ _ _ _ _ _ (@Fm _ h) (@RX.h _ _ _ _ a) (λz=>rfl) (a.st []),λz z=>rfl⟩) t)
 |_,_=>none) f
noncomputable def kI(t x:Expr):Option (RI c n ks t x):=(ZZ T r ks t x).or ((r.e ks x).map λa=>⟨bO a.m,@jU.src _ _ _ _ _ _ (@RX.h _ _ _ _ a),a.fo⟩)
noncomputable def Z0:(xs:List Expr)->Option {m:TM // mZ c n ks xs m}
 |[]=>some ⟨de,@mZ.nil _ _ _⟩
 |[x]=>(r.b ks x).map λa=>⟨a.1,@mZ.one _ _ _ _ _ (@eZ _ _ a)⟩
 |_=>none
noncomputable abbrev RA(c:Cx)(n:Nat)(ks:Ks)(X:Env->Addr->Prop)(t:Expr):={m:AM // eG c n ks X t m/\∀ts env,qw (t::ts) env=(false,AY t env)::qw ts env}
section
variable{X:Env->Addr->Prop}(nR:(i:Nat)->(x:Str)->(p:Pos)->nm i=x->Fo (eG c n ks X (.Name x p) (aName i)))(hX:∀env b,X env b->eU env ks b)
noncomputable def MP:(t:Expr)->Option (RA c n ks X t):=Bc (λz=>none)
 (λx p=>(ku x).bind λi=>(nR i.1 x p i.2).bind λh=>some ⟨aName i.1,@Fm _ h,λz z=>rfl⟩)
 (λo a p=>(r.e ks o).bind λm=>(ku a).bind λi=>some ⟨dx i.1 m.m,@eG.attr _ _ _ _ _ _ _ _ i.1 i.2 (@RX.h _ _ _ _ m),λz z=>rfl⟩)
 (λo i p=>(r.e ks o).bind λm=>(r.e ks i).bind λk=>some ⟨dg m.m k.m,@eG.item _ _ _ _ _ _ _ _ _ (@RX.h _ _ _ _ m) (@RX.h _ _ _ _ k),λz z=>rfl⟩)
noncomputable def MQ:(ts:List Expr)->Option {m:List AM // oj c n ks X ts m}
 |[]=>some ⟨[],.nil⟩
 |t::ts=>(MP r ks nR t).bind λa=>(MQ ts).bind λb=>some ⟨a.1::b.1,.cons (@f7 _ _ a.2) b.2 (a.2.2 ts)⟩
include hX
noncomputable def kA(t:Expr):Option (RA c n ks X t):=(MP r ks nR t).or (FA (M:=λt=>Option (RA c n ks X t)) (λz=>none) (λts k p=>(MQ r ks nR ts).map λa=>⟨eB a.1,no_implicit_lambda%eG.Z1 hX a.2,λz z=>rfl⟩) t)
end
noncomputable def Bf(i:Nat)(x:Str)(p:Pos)(hx:nm i=x):Fo (eG c n ks (pv ks) (.Name x p) (aName i)):=if hk:fO (ks.lookup i)=true then some ⟨@eG.name _ _ _ _ _ i hx hk⟩else none
noncomputable def Z2(raw:Ks)(i:Nat)(x:Str)(p:Pos)(hx:nm i=x):Fo (eG c n ks (jV raw ks) (.Name x p) (aName i)):=if hk:fO (ks.lookup i)=true/\fO (raw.lookup i)=true then some ⟨@eG.Z3 _ _ _ _ _ _ i hx hk.1 hk.2⟩else none
noncomputable def MR:(l:List (Str×fy))->Option {raw:Ks // l=raw.map λp=>(nm p.1,p.2)}
 |[]=>some ⟨[],rfl⟩
 |p::l=>(ku p.1).bind λi=>(MR l).bind λb=>some ⟨(i.1,p.2)::b.1,by rw[gC,<-b.2,i.2]⟩
noncomputable def Z4(c:Cx)(n:Nat)(ks:Ks)(elt target iter:Expr)(ifs:List Expr)(scope:Scope)(raw:Ks)(it:IM)(a:AM)(t:TM)(el:EM):Prop:=
 jU c n ks target iter it/\om ks raw scope/\eG c n (dO raw) (jV raw (dO raw)) target a/\mZ c n (dO raw) ifs t/\aH c n (dO raw) elt el/\FoldIs iter
noncomputable abbrev RC(c:Cx)(n:Nat)(ks:Ks)(elt target iter:Expr)(ifs:List Expr)(scope:Scope):={d:Ks×IM×AM×TM×EM // Z4 c n ks elt target iter ifs scope d.1 d.2.1 d.2.2.1 d.2.2.2.1 d.2.2.2.2}
noncomputable def kC(elt target iter:Expr)(ifs:List Expr)(scope:Scope):Option (RC c n ks elt target iter ifs scope):=(MR scope.names).bind λw=>
  if h:scope.kind=.function/\(∀p∈w.1,p.1<nN)/\(w.1.map (λx=>x.1)).Nodup/\(∀p∈w.1,p.2=.free->ks.lookup p.1=some .cell)then
   (kI T r ks target iter).bind λi=>(kA r (dO w.1) (Z2 (dO w.1) w.1) jV.FC target).bind λa=>(Z0 r (dO w.1) ifs).bind λt=>(r.e (dO w.1) elt).bind λe=>
    some ⟨(w.1,i.1,a.1,t.1,e.m),@f7 _ _ i.2,⟨w.2,h.1,h.2.1,h.2.2.1,h.2.2.2⟩,@f7 _ _ a.2,@eZ _ _ t,@RX.h _ _ _ _ e,i.2.2⟩
  else none
noncomputable def MS{M:List Comprehension->Type}(d:∀g,M g)(k:∀t i ifs,M [⟨t,i,ifs,0⟩]):∀g,M g
 |[⟨t,i,ifs,z⟩]=>if h:0=z then h▸k t i ifs else d _
 |g=>d g
end
section
variable{c:Cx}{n:Nat}(T:Tb c)(r:Rc c (n+1))(ks:Ks)
theorem aH.Z5{x:Expr}{p:Pos}{i:Int}(h:aH c n ks x (au (.int i))):aH c n ks (.UnaryOp .USub x p) (au (.int (-i))):=λA env e σ s Q N q=>aH.neg h N ⟨_,rfl,q⟩
noncomputable def Z6(v:Const)(k:Nat)(p:Pos):Option {m:EM // aH c (n+1) ks (.Constant v k p) m}:=match v with
 |.none=>some ⟨_,@aH.Z7 _ _ _ _ _⟩
 |.bool _=>some ⟨_,@aH.cBool _ _ _ _ _ _⟩
 |.int _=>some ⟨_,@aH.cInt _ _ _ _ _ _⟩
 |.str _=>some ⟨_,@aH.cStr _ _ _ _ _ _⟩
 |.bytes _=>some ⟨_,@aH.Z8 _ _ _ _ _ _⟩
 |_=>none
noncomputable def Z9:(x:Expr)->Option {i:Int // aH c (n+1) ks x (au (.int i))}:=ZW (λz=>none) λo x p=>match o with
 |.USub=>MO (M:=λx=>Option {i:Int // aH c (n+1) ks (.UnaryOp .USub x p) (au (.int i))}) (λz=>none) (λv k q=>match v with
  |.int i=>some ⟨-i,no_implicit_lambda%aH.Z5 ks aH.cInt⟩
  |_=>none) x
 |_=>none
noncomputable def aaa(x y:Expr)(p:Pos):Option {m:EM // aH c (n+1) ks (.Subscript x y p) m}:=(r.e ks x).bind λa=>ZX (M:=λy=>Option {m:EM // aH c (n+1) ks (.Subscript x y p) m})
 (λy=>(r.e ks y).map λb=>⟨_,@aH.item _ _ _ _ _ _ _ _ (@RX.h _ _ _ _ a) (@RX.h _ _ _ _ b)⟩)
 (λlo up st q=>match lo,up,st with
  |none,some z,none=>(r.e ks z).map λb=>⟨_,@aH.aab _ _ _ _ _ _ _ _ _ (@RX.h _ _ _ _ a) (@RX.h _ _ _ _ b)⟩
  |some y,some z,none=>(r.e ks y).bind λb=>(r.e ks z).map λd=>⟨_,@aH.fromTo _ _ _ _ _ _ _ _ _ _ _ (@RX.h _ _ _ _ a) (@RX.h _ _ _ _ b) (@RX.h _ _ _ _ d)⟩
  |none,none,some z=>(Z9 ks z).bind λi=>if h:i.1=-1 then some ⟨_,@aH.rev _ _ _ _ _ _ _ _ (@RX.h _ _ _ _ a) (h▸i.2)⟩else none
  |_,_,_=>none) y
noncomputable def MT(p:Pos):(xs:List Expr)->Option {m:EM // aH c (n+1) ks (.BoolOp .And xs p) m}
 |[]=>none
 |[x]=>(r.e ks x).map λa=>⟨_,@aH.MU _ _ _ _ _ _ _ (@RX.h _ _ _ _ a)⟩
 |x::y::ys=>(r.e ks x).bind λa=>(MT p (y::ys)).map λb=>⟨_,@aH.and _ _ _ _ _ _ _ _ _ (@RX.h _ _ _ _ a) (@eZ _ _ b)⟩
noncomputable def MV(p:Pos):(xs:List Expr)->Option {m:EM // aH c (n+1) ks (.BoolOp .Or xs p) m}
 |[]=>none
 |[x]=>(r.e ks x).map λa=>⟨_,@aH.MU _ _ _ _ _ _ _ (@RX.h _ _ _ _ a)⟩
 |x::y::ys=>(r.e ks x).bind λa=>(MV p (y::ys)).map λb=>⟨_,@aH.or _ _ _ _ _ _ _ _ _ (@RX.h _ _ _ _ a) (@eZ _ _ b)⟩
noncomputable def MW:(xs:List Expr)->Option {m:TM // jz c (n+1) ks .And xs m}
 |[]=>some ⟨_,@jz.aac _ _ _⟩
 |x::xs=>(r.b ks x).bind λa=>(MW xs).map λb=>⟨_,@jz.and _ _ _ _ _ _ _ (@eZ _ _ a) (@eZ _ _ b)⟩
noncomputable def MX:(xs:List Expr)->Option {m:TM // jz c (n+1) ks .Or xs m}
 |[]=>some ⟨_,@jz.aad _ _ _⟩
 |x::xs=>(r.b ks x).bind λa=>(MX xs).map λb=>⟨_,@jz.or _ _ _ _ _ _ _ (@eZ _ _ a) (@eZ _ _ b)⟩
noncomputable def aae:Expr->Bool:=mY (λz=>false) (λz z z=>false) (λz z z z=>false) (λz z z=>false) (λz z z z=>false) (λz z z=>false) (λz z z z=>false) (λz z z z=>false) (λz z z z=>false) (λz z z=>false) (λz z z=>false) (λz z z=>false) (λz z=>false) (λz z=>true) (λz z z=>false) (λz z z z=>false)
theorem aaf{l x:Expr}{p:Pos}{a b:EM}(h:op=.Mult)(ha:aH c (n+1) ks l a)(hb:aH c (n+1) ks x b):aH c (n+1) ks (.BinOp l op x p) (Bh a b):=by
 subst h;exact aH.mulL ha hb
noncomputable def aag(l:Expr)(op:jw)(x:Expr)(p:Pos):Option {m:EM // aH c (n+1) ks (.BinOp l op x p) m}:=(r.e ks l).bind λa=>(r.e ks x).bind λb=>
 if h:op=.Mult/\aae l=true then some ⟨Bh a.m b.m,aaf ks h.1 (@RX.h _ _ _ _ a) (@RX.h _ _ _ _ b)⟩else some ⟨_,@aH.bin _ _ _ _ _ _ _ _ _ (@RX.h _ _ _ _ a) (@RX.h _ _ _ _ b)⟩
noncomputable def FD:(o:Option Expr)->Option {t:Str×Nat×Pos // o=some (.Constant (.str t.1) t.2.1 t.2.2)}
 |none=>none
 |some x=>MO (M:=λx=>Option {t:Str×Nat×Pos // some x=some (.Constant (.str t.1) t.2.1 t.2.2)}) (λz=>none) (λv k p=>match v with
  |.str x=>some ⟨(x,k,p),rfl⟩
  |_=>none) x
theorem aah{x y z:Option Expr}{i j l:Str×Nat×Pos}{u v w:Expr}{p:Pos}(hx:x=some (.Constant (.str i.1) i.2.1 i.2.2))(hy:y=some (.Constant (.str j.1) j.2.1 j.2.2))(hz:z=some (.Constant (.str l.1) l.2.1 l.2.2))(h1:aH c (n+1) ks u m1)(h2:aH c (n+1) ks v m2)(h3:aH c (n+1) ks w m3):aH c (n+1) ks (.Dict [x,y,z] [u,v,w] p) (x6 i.1 j.1 l.1 m1 m2 m3):=by
 subst hx;subst hy;subst hz;exact aH.aai h1 h2 h3
noncomputable def aaj(p:Pos)(keys:List (Option Expr))(vals:List Expr):Option {m:EM // aH c (n+1) ks (.Dict keys vals p) m}:=match keys,vals with
 |[],[]=>match T.dk with
  |0=>some ⟨_,@aH.aak _ _ _ _⟩
  |1=>some ⟨_,@aH.aal _ _ _ _⟩
  |_=>some ⟨_,@aH.aam _ _ _ _⟩
 |[some k],[v]=>(r.e ks k).bind λa=>(r.e ks v).map λb=>⟨_,@aH.aan _ _ _ _ _ _ _ _ (@RX.h _ _ _ _ a) (@RX.h _ _ _ _ b)⟩
 |[x,y,z],[u,v,w]=>(FD x).bind λi=>(FD y).bind λj=>(FD z).bind λl=>(r.e ks u).bind λa=>(r.e ks v).bind λb=>(r.e ks w).map λd=>⟨x6 i.1.1 j.1.1 l.1.1 a.m b.m d.m,no_implicit_lambda%aah ks i.2 j.2 l.2 (@RX.h _ _ _ _ a) (@RX.h _ _ _ _ b) (@RX.h _ _ _ _ d)⟩
 |_,_=>none
noncomputable def kFe(id:Str):Option {e:Fe c // nm e.1.1=id}:=(ku id).bind λi=>(T.fs.find? λe=>rQ e.1.1 i.1).bind λe=>if h:e.1.1=i.1 then some ⟨e,h▸i.2⟩else none
noncomputable def kG(id:Str)(q:Pos):Option {e:Fe c // aH c (n+1) ks (.Name id q) (au e.1.2.1)/\e.1.2.2.2.1<=n+1}:=(kFe T id).bind λe=>
 if h:ks.lookup e.1.1.1=some .globalImplicit/\e.1.1.1≠rW/\e.1.1.2.2.2.1<=n+1 then some ⟨e.1,@aH.glob _ _ _ _ _ _ e.1.1.1 e.2 h.1 h.2.1 e.1.2.1,h.2.2⟩else none
noncomputable def aao(id:Str)(q:Pos)(a:List Expr)(p:Pos):Option {m:EM // aH c (n+1) ks (.Call (.Name id q) a [] p) m}:=(kL r ks a).bind λms=>((kG T ks id q).map λe=>⟨_,@aH.call _ _ _ _ _ _ _ _ _ _ _ (@f7 _ _ e.2) e.1.2.2.1 e.1.2.2.2.1 (@vC _ _ e.1.2.2.2) e.2.2 (@RL.h _ _ _ _ ms) (λz=>rfl) (ms.hp p)⟩).or
 ((ku id).bind λi=>T.fs.head?.bind λe=>if h:isVar (ks.lookup i.1)=true/\i.1≠rW/\i.1≠tO/\e.1.2.2.2.1<=n+1 then some ⟨_,@aH.aap _ _ _ _ _ _ _ _ _ _ _ _ (@aH.var _ _ _ _ _ i.1 i.2 h.1 h.2.1 h.2.2.1) e.2.2.1 e.2.2.2.1 (@vC _ _ e.2.2.2) h.2.2.2 (@RL.h _ _ _ _ ms) (λz=>rfl) (ms.hp p)⟩else none)
noncomputable def MY:(jW:List Keyword)->Option {d:List Nat×cV // pw c (n+1) ks jW d.1 d.2}
 |[]=>some ⟨([],ar),pw.nil⟩
 |⟨some x,v,p⟩::jW=>(ku x).bind λi=>(r.e ks v).bind λa=>(MY jW).bind λb=>if h:i.1<nN then some ⟨(i.1::b.1.1,ag a.m b.1.2),pw.cons i.1 i.2 h (@RX.h _ _ _ _ a) b.2⟩else none
 |_=>none
theorem aaq{jW:List Keyword}{m:cV}{l:List (Bool×Sem ak)}{p:Pos}(h:pw c (n+1) ks jW is m)(hl:l.any (λx=>x.1)=false):(l.any (λx=>x.1)||(lX p (lU jW env)).any (λx=>x.1.isNone))=false:=by
 rw[hl,Bool.false_or,List.any_eq_false]
 exact λx hx z=>by
  have:=iz.1 (h.2.1 env p) x hx;rw[ED.1 z]at this;exact eP this
noncomputable def aar(id:Str)(q:Pos)(a:List Expr)(k:List Keyword)(p:Pos):Option {m:EM // aH c (n+1) ks (.Call (.Name id q) a k p) m}:=match a with
 |[]=>none
 |a0::a=>(r.e ks a0).bind λa1=>(kL r ks (a0::a)).bind λms=>(MY r ks k).bind λkk=>(kG T ks id q).map λe=>⟨_,@aH.aas _ _ _ _ _ _ _ _ _ _ _ _ _ _ _ (@f7 _ _ e.2) e.1.2.2.1 e.1.2.2.2.1 (@vC _ _ e.1.2.2.2) e.2.2 (@RL.h _ _ _ _ ms) kk.2 (λz=>rfl) (λenv=>aaq ks kk.2 (ms.hp p env)) (a1.st a)⟩
noncomputable def kLR(id:Str)(q:Pos)(a:List Expr)(p:Pos):Option {m:EM // aH c (n+1) ks (.Call (.Name id q) a [] p) m}:=match a with
 |[x]=>(Bd (n:=n+1) ks 58 (T.G 58 (.ty "list") rfl) id q).bind λhg=>MN (M:=λx=>Option {m:EM // aH c (n+1) ks (.Call (.Name id q) [x] [] p) m}) (λz=>none) (λf b k p2=>Fz (M:=λf=>Option {m:EM // aH c (n+1) ks (.Call (.Name id q) [.Call f b k p2] [] p) m}) (λz=>none) (λg q2=>match b,k with
  |[y],[]=>(Bd (n:=n+1) ks 124 (T.G 124 (.ty "range") rfl) g q2).bind λhf=>(r.e ks y).map λm=>⟨_,@aH.aat _ _ _ _ _ _ _ _ _ (@Fm _ hg) (@Fm _ hf) (@RX.h _ _ _ _ m) (λz=>rfl) (m.st []) (λz=>rfl) (λz=>rfl)⟩
  |_,_=>none) f) x
 |_=>none
theorem c5.to{c:Cx}{x y:Str}{f:String}{D:CV->St->Prop}(h:x=y)(g:c5 c x f D):c5 c y f D:=h▸g
noncomputable def aau(o:Expr)(x:Str)(q:Pos)(a:List Expr)(p:Pos):Option {m:EM // aH c (n+1) ks (.Call (.Attribute o x q) a [] p) m}:=
 (r.e ks o).bind λmo=>mo.ba.bind λhb=>(kL r ks a).bind λms=>(ku x).bind λi=>
  if h:(q.endLine==p.line)=true/\lg a.length 30=true then
   ((T.ms.find? λe=>rQ e.1.1 i.1).bind λe=>if g:nm e.1.1=x/\e.1.2.2.2.1<=n+1 then some ⟨_,@aH.jA _ _ _ _ _ _ _ _ _ _ _ _ _ _ _ _ g.1 (@RX.h _ _ _ _ mo) e.2.1 (@vC _ _ e.2) g.2 (@RL.h _ _ _ _ ms) (Bb hb.down ms.hp h.1 h.2) (ms.hp p)⟩else none).or
   ((T.bs.find? λe=>e.1.1==x).bind λe=>if g:e.1.1=x/\e.1.2.2.2.1<=n+1 then some ⟨_,@aH.pz _ _ _ _ _ _ _ _ _ _ _ _ _ _ _ (@RX.h _ _ _ _ mo) (@c5.to _ _ _ _ _ g.1 (@f7 _ _ e.2)) (@vC _ _ e.2) g.2 (@RL.h _ _ _ _ ms) (Bb hb.down ms.hp h.1 h.2) (ms.hp p)⟩else none)
  else none
noncomputable def kz{x:Expr}(h:Ba x)(f:FoldIs x)(pl:Fo (Fw x))(ba:Fo (xZ x))(dr:Fo (∀line env,mS x none line env=pure false))(m:{m:EM // aH c (n+1) ks x m}):RX c (n+1) ks x:=(⟨m.1,@eZ _ _ m,h,f⟩,pl,ba,dr)
noncomputable def kE:(x:Expr)->Option (RX c (n+1) ks x):=mY (λu=>none)
 (λo xs p=>(match o with
  |.And=>MT r ks p xs
  |.Or=>MV r ks p xs:Option {m:EM // aH c (n+1) ks (.BoolOp o xs p) m}).map (kz ks (λu u=>rfl) (λu u=>rfl) none (some ⟨λu u u=>rfl⟩) none))
 (λl o x p=>(aag r ks l o x p).map (kz ks (λu u=>rfl) (λu u=>rfl) (some ⟨λu u=>rfl⟩) (some ⟨λu u u=>rfl⟩) none))
 (λo x p=>(match o with
  |.USub=>(r.e ks x).map λa=>⟨_,@aH.neg _ _ _ _ _ _ (@RX.h _ _ _ _ a)⟩
  |_=>none:Option {m:EM // aH c (n+1) ks (.UnaryOp o x p) m}).map (kz ks (λu u=>rfl) (λu u=>rfl) none (some ⟨λu u u=>rfl⟩) none))
 (λt x y p=>(r.b ks t).bind λa=>(r.e ks x).bind λb=>(r.e ks y).map λd=>kz ks (λu u=>rfl) (λu u=>rfl) none (some ⟨λu u u=>rfl⟩) none ⟨_,@aH.tR _ _ _ _ _ _ _ _ _ _ (@eZ _ _ a) (@RX.h _ _ _ _ b) (@RX.h _ _ _ _ d)⟩)
 (λk v p=>(aaj T r ks p k v).map (kz ks (λu u=>rfl) (λu u=>rfl) (some ⟨λu u=>rfl⟩) (some ⟨λu u u=>rfl⟩) none))
 (λe g s p=>(MS (M:=λg=>Option {m:EM // aH c (n+1) ks (.ListComp e g s p) m}) (λu=>none) (λt i ifs=>(kC T r ks e t i ifs s).map λz=>⟨_,@aH.comp _ _ _ _ _ _ _ _ _ z.1.1 _ _ _ _ (@f7 _ _ z.2) z.2.2.1 (@f7 _ _ z.2.2.2) (@f7 _ _ z.2.2.2.2) (@f7 _ _ z.2.2.2.2.2) z.2.2.2.2.2.2⟩) g).map (kz ks (λu u=>rfl) (λu u=>rfl) (some ⟨λu u=>rfl⟩) (some ⟨λu u u=>rfl⟩) none))
 (λl o x p=>(match o,x with
  |[o],[x]=>(r.e ks l).bind λa=>(r.e ks x).bind λb=>if h:Mc o x=false then some ⟨_,@aH.cmp _ _ _ _ _ _ _ _ _ (@RX.h _ _ _ _ a) (@RX.h _ _ _ _ b) h⟩else none
  |_,_=>none:Option {m:EM // aH c (n+1) ks (.Compare l o x p) m}).map (kz ks (λu u=>rfl) (λu u=>rfl) none (some ⟨λu u u=>rfl⟩) none))
 (λf a k p=>Bc (M:=λf=>Option (RX c (n+1) ks (.Call f a k p))) (λu=>none)
  (λid q=>(match k with
   |[]=>(kLR T r ks id q a p).or (aao T r ks id q a p)
   |k::k'=>aar T r ks id q a (k::k') p:Option {m:EM // aH c (n+1) ks (.Call (.Name id q) a k p) m}).map (kz ks (λu u=>rfl) (λu u=>rfl) (some ⟨λu u=>rfl⟩) (match a with
    |[]=>none
    |_::_=>some ⟨λu u u=>rfl⟩) (some ⟨λu u=>rfl⟩)))
  (λo x q=>(match k with
   |[]=>aau T r ks o x q a p
   |_=>none:Option {m:EM // aH c (n+1) ks (.Call (.Attribute o x q) a k p) m}).map (kz ks (λu u=>rfl) (λu u=>rfl) (some ⟨λu u=>rfl⟩) (some ⟨λu u u=>rfl⟩) (some ⟨λu u=>rfl⟩)))
  (λu u u=>none) f)
 (λv k p=>(Z6 ks v k p).map (kz ks (λu u=>rfl) (λu u=>rfl) (some ⟨λu u=>rfl⟩) (some ⟨λu u u=>rfl⟩) none))
 (λx a p=>(r.e ks x).bind λm=>m.ba.bind λhb=>(ku a).map λi=>kz ks (λu u=>rfl) (λu u=>rfl) (some ⟨λu u=>rfl⟩) (some ⟨λu u u=>rfl⟩) none ⟨_,@aH.attr _ _ _ _ _ _ _ i.1 i.2 (@RX.h _ _ _ _ m) (ZL hb.down)⟩)
 (λx y p=>(aaa r ks x y p).map (kz ks (λu u=>rfl) (λu u=>rfl) (some ⟨λu u=>rfl⟩) (some ⟨λu u u=>rfl⟩) none))
 (λx p=>(ZY T ks x p).map (kz ks (λu u=>rfl) (λu u=>rfl) (some ⟨λu u=>rfl⟩) (some ⟨λu u u=>rfl⟩) none))
 (λxs p=>(kL r ks xs).map λa=>kz ks (λu u=>rfl) (λu u=>rfl) (some ⟨λu u=>rfl⟩) (some ⟨λu u u=>rfl⟩) none ⟨_,@aH.list _ _ _ _ _ _ (@RL.h _ _ _ _ a)⟩)
 (λxs k p=>(kL r ks xs).map λa=>kz ks (λu u=>rfl) (λu u=>rfl) (some ⟨λu u=>rfl⟩) (some ⟨λu u u=>rfl⟩) none ⟨_,@aH.tup _ _ _ _ _ _ _ (@RL.h _ _ _ _ a)⟩)
 (λu u u u=>none)
noncomputable def oo(x:Expr):Option (RB c (n+1) ks x):=(r.e ks x).bind λa=>a.pl.map λh=>⟨jh a.m,@gI.plain _ _ _ _ _ (@RX.h _ _ _ _ a) h.down⟩
noncomputable def kBo:(x:Expr)->Option (RB c (n+1) ks x):=mY (oo r ks)
 (λo xs p=>match o with
  |.And=>(MW r ks xs).map λa=>⟨_,@gI.bool _ _ _ _ _ _ _ (@eZ _ _ a)⟩
  |.Or=>(MX r ks xs).map λa=>⟨_,@gI.bool _ _ _ _ _ _ _ (@eZ _ _ a)⟩)
 (λz z z z=>oo r ks _)
 (λo x p=>match o with
  |.Not=>(r.b ks x).map λa=>⟨_,@gI.not _ _ _ _ _ _ (@eZ _ _ a)⟩
  |_=>none)
 (λz z z z=>none) (λz z z=>oo r ks _) (λz z z z=>oo r ks _)
 (λl o x p=>match o,x with
  |[o],[x]=>(r.e ks l).bind λa=>(r.e ks x).bind λb=>if h:Mc o x=false then some ⟨_,@gI.cmp _ _ _ _ _ _ _ _ _ (@RX.h _ _ _ _ a) (@RX.h _ _ _ _ b) h⟩else none
  |_,_=>none)
 (λz z z z=>oo r ks _) (λz z z=>oo r ks _) (λz z z=>oo r ks _) (λz z z=>oo r ks _) (λz z=>oo r ks _) (λz z=>oo r ks _) (λz z z=>oo r ks _) (λz z z z=>none)
end
noncomputable def m4(ks:Ks):Env:={scope:={kind:=.function,names:=ks.map λp=>(nm p.1,p.2),isGenerator:=false,isCoroutine:=false},locals:=0,globals:=0,cells:=[]}
theorem sw_eq{c:Cx}{ks:Ks}(N:jj c env ks)(v:Expr)(t:Option Expr)(l:Nat):mS v t l env=mS v t l (m4 ks)/\∀ts x,qt ts x env=qt ts x (m4 ks):=by
 have h1:env.kindOf=(m4 ks).kindOf:=funext λn=>by unfold Env.kindOf;rw[N.names];rfl
 have h3:env.blockKind=(m4 ks).blockKind:=by unfold Env.blockKind;rw[N.kind];rfl
 unfold mS qt;rw[h1,h3,N.kind];exact⟨rfl,λz z=>rfl⟩
theorem FE{c:Cx}{ks:Ks}(N:jj c env ks)(ts:List Expr)(x:Expr):qt ts x env=qt ts x (m4 ks):=(sw_eq N x none 0).2 ts x
noncomputable def pureOf{α:Type}:(t:Sem α)->Option {a:α // t=pure a}
 |.pure a=>some ⟨a,rfl⟩
 |_=>none
noncomputable def MZ(ks:Ks):(l:List Str)->Option {is:List Nat // l=is.map nm/\∀i∈is,fO (ks.lookup i)=true}
 |[]=>some ⟨[],rfl,λz h=>cA h⟩
 |x::l=>(ku x).bind λi=>(MZ ks l).bind λb=>if h:fO (ks.lookup i.1)=true then some ⟨i.1::b.1,by rw[gC,<-b.2.1,i.2],List.forall_mem_cons.2 ⟨h,b.2.2⟩⟩else none
noncomputable def M0{M:Stmt->Type}(d:∀x,M x)(ret:∀o p,M (.Return o p))(asg:∀t x p,M (.Assign [t] x p))(aug:∀t o x p,M (.AugAssign t o x p))(fo:∀t x b p,M (.For t x b [] p))(wh:∀x b p,M (.While x b [] p))
  (ite:∀x a b p,M (.If x a b p))(ex:∀x p,M (.Expr x p))(br:∀p,M (.Break p))(co:∀p,M (.Continue p))(x:Stmt):M x:=
 match x with
 |.Return o p=>ret o p
 |.Assign ts x p=>match ts with
  |[t]=>asg t x p
  |_=>d _
 |.AugAssign t o x p=>aug t o x p
 |.For t x b e p=>match e with
  |[]=>fo t x b p
  |_=>d _
 |.While x b e p=>match e with
  |[]=>wh x b p
  |_=>d _
 |.If x a b p=>ite x a b p
 |.Expr x p=>ex x p
 |.Break p=>br p
 |.Continue p=>co p
 |x=>d x
section
variable{c:Cx}{n:Nat}(T:Tb c)(r:Rc c (n+1))(ks:Ks)
noncomputable abbrev RS(c:Cx)(n:Nat)(ks:Ks)(x:Stmt):={m:SM // cF c n ks x m}
noncomputable def never{x:Stmt}(o:Option (RS c (n+1) ks x)):RS c (n+1) ks x:=o.getD ⟨pB,@cF.aav _ _ _ _⟩
noncomputable def M1(t x:Expr)(p:Pos):Option (RS c (n+1) ks (.Assign [t] x p)):=Fz (M:=λt=>Option (RS c (n+1) ks (.Assign [t] x p))) (λo=>none) (λy q=>ZV (M:=λx=>Option (RS c (n+1) ks (.Assign [.Name y q] x p))) (λo=>none) (λe g s cp=>
 MS (M:=λg=>Option (RS c (n+1) ks (.Assign [.Name y q] (.ListComp e g s cp) p))) (λo=>none) (λt i ifs=>(ku y).bind λj=>(pureOf (mS (.ListComp e [⟨t,i,ifs,0⟩] s cp) (some (.Name y q)) p.line (m4 ks))).bind λb=>if h:b.1=true/\fO (ks.lookup j.1)=true then
  (kC T r ks e t i ifs s).map λz=>⟨_,@cF.aaw _ _ _ _ _ _ _ _ _ _ _ _ j.1 z.1.1 _ _ _ _ j.2 h.2 (λenv N=>(sw_eq N _ _ _).1.trans (h.1▸b.2)) (@f7 _ _ z.2) z.2.2.1 (@f7 _ _ z.2.2.2) (@f7 _ _ z.2.2.2.2) (@f7 _ _ z.2.2.2.2.2) z.2.2.2.2.2.2⟩else none) g) x) t
noncomputable def M2(t x:Expr)(p:Pos):Option (RS c (n+1) ks (.Assign [t] x p)):=(r.e ks x).bind λa=>(pureOf (mS x (some t) p.line (m4 ks))).bind λb=>if h:b.1=false then
 (pureOf (qt [t] x (m4 ks))).bind λw=>
  if g:w.1=none then(kA r ks (X:=pv ks) (Bf ks) (λz z h=>h) t).map λm=>⟨_,@cF.assign _ _ _ _ _ _ _ _ (@RX.h _ _ _ _ a) (@f7 _ _ m.2) (λenv N=>(sw_eq N _ _ _).1.trans (h▸b.2)) (λenv N=>(FE N _ _).trans (g▸w.2)) (m.2.2 [])⟩
  else(MZ ks (w.1.getD [])).bind λis=>if g:w.1=some (is.1.map nm)then FA (M:=λt=>mS x (some t) p.line (m4 ks)=pure false->qt [t] x (m4 ks)=pure (some (is.1.map nm))->Option (RS c (n+1) ks (.Assign [t] x p))) (λz z z=>none) (λts k tp hb hw=>some ⟨_,@cF.swap _ _ _ _ _ _ _ _ _ is.1 (@RX.h _ _ _ _ a) is.2.2 (λenv N=>(sw_eq N _ _ _).1.trans hb) (λenv N=>(FE N _ _).trans hw)⟩) t (h▸b.2) (g▸w.2)else none
 else none
noncomputable def aax(o:jw)(x:Expr)(p:Pos):(t:Expr)->Option (RS c (n+1) ks (.AugAssign t o x p)):=Bc (λu=>none)
 (λy q=>(ku y).bind λi=>(r.e ks x).bind λa=>if h:fO (ks.lookup i.1)=true/\i.1≠tO then some ⟨_,@cF.aay _ _ _ _ _ _ _ _ _ i.1 i.2 h.1 h.2 (@RX.h _ _ _ _ a)⟩else none)
 (λy z q=>(ku z).bind λi=>(r.e ks y).bind λb=>(r.e ks x).map λa=>⟨_,@cF.aaz _ _ _ _ _ _ _ _ _ _ _ i.1 i.2 (@RX.h _ _ _ _ b) (@RX.h _ _ _ _ a)⟩)
 (λu u u=>none)
noncomputable def M3:(x:Stmt)->RS c (n+1) ks x:=M0 (λx=>never ks none)
 (λo p=>match o with
  |none=>⟨_,@cF.aaA _ _ _ _⟩
  |some x=>never ks ((r.e ks x).map λa=>⟨_,@cF.ret _ _ _ _ _ _ (@RX.h _ _ _ _ a)⟩))
 (λt x p=>never ks ((M1 T r ks t x p).or (M2 r ks t x p)))
 (λt o x p=>never ks (aax r ks o x p t))
 (λt x b p=>never ks ((kI T r ks t x).bind λi=>(kA r ks (X:=pv ks) (Bf ks) (λz z h=>h) t).map λa=>⟨_,@cF.for _ _ _ _ _ _ _ _ _ _ (@f7 _ _ i.2) (@f7 _ _ a.2) (@eZ _ _ (r.s ks b)) i.2.2⟩))
 (λx b p=>never ks ((r.b ks x).map λt=>⟨_,@cF.while _ _ _ _ _ _ _ _ (@eZ _ _ t) (@eZ _ _ (r.s ks b))⟩))
 (λx a b p=>never ks ((r.b ks x).map λt=>⟨_,@cF.ite _ _ _ _ _ _ _ _ _ _ (@eZ _ _ t) (@eZ _ _ (r.s ks a)) (@eZ _ _ (r.s ks b))⟩))
 (λx p=>never ks ((r.e ks x).bind λa=>a.2.2.2.map λh=>⟨_,@cF.expr _ _ _ _ _ _ (@RX.h _ _ _ _ a) (h.down p.line)⟩))
 (λp=>⟨_,@cF.brk _ _ _ _⟩) (λp=>⟨_,@cF.cont _ _ _ _⟩)
noncomputable def kS:(xs:List Stmt)->{m:SM // eQ c (n+1) ks xs m}
 |[]=>⟨_,@eQ.nil _ _ _⟩
 |x::xs=>⟨_,@eQ.cons _ _ _ _ _ _ _ (@eZ _ _ (M3 T r ks x)) (@eZ _ _ (kS xs))⟩
noncomputable def lY(n:Nat):Nat->Rc c (n+1)
 |0=>⟨λz z=>none,λz z=>none,λz z=>⟨M4,@eQ.never _ _ _ _⟩⟩
 |k+1=>⟨kE T (lY n k),kBo (lY n k),kS T (lY n k)⟩
end
section
open PySem.SeqAt
noncomputable def Tq:List String:=["claim.caller","bytearray.append","type.__call__","bytearray.__init__"]
noncomputable def wM(id:String):Bool:=!Tq.contains id
noncomputable def j6:Code->Bool
 |.builtin id _=>wM id
 |_=>false
structure qR(Γ:Ctx):Prop where
 code:j6 Γ.code=false
 below:∀x∈Γ.below,j6 x.1=false
theorem qR.enter{Γ:Ctx}(h:qR Γ){c:Code}(hc:j6 c=false)(hd:Option ak)(p:Pos):qR (Γ.enter c hd p):=
 ⟨hc,λx hx=>by
  rcases List.mem_cons.mp (show x∈(Γ.code,p)::Γ.below from hx)with rfl |hx
  ·exact h.code
  ·exact h.below x hx⟩
theorem qR.goto{Γ:Ctx}(h:qR Γ){c:Code}(hc:j6 c=false):qR (Γ.goto c):=⟨hc,h.below⟩
noncomputable def bz{α:Type}(M:fA)(A:bj)(t:Sem α)(Q:α->aw->Prop)(s:aw):Prop:=
 ∀Γ p,Γ.In A->qR Γ->Sem.wp M Γ t (λa z s'=>Q a s') (λz z z=>False) p s
noncomputable def gh(M:fA)(A:bj)(c:Code)(R:lj->aw->Prop)(s:aw):Prop:=
 ∀Γ p,Γ.code=c->Γ.Below A->qR Γ->wpCode M Γ R p s
section
variable{α β:Type}{M:fA}{A:bj}{s:aw}
theorem gG{t:Sem α}{Q:α->aw->Prop}(h:aM M A t Q (λz z=>False) s):bz M A t Q s:=λΓ p eD _=>h Γ p eD
theorem dC{a:α}{Q:α->aw->Prop}(h:Q a s):bz M A (pure a) Q s:=λz z z z=>h
theorem fC{t:Sem α}{Q Q':α->aw->Prop}(h:bz M A t Q s)(hQ:∀a s,Q a s->Q' a s):bz M A t Q' s:=
 λΓ p eD n=>vA M Γ t (λa z s=>hQ a s) (λz z z e=>e) p s (h Γ p eD n)
theorem bG{m:Sem α}{f:α->Sem β}{Q:β->aw->Prop}(h:bz M A m (λa s'=>bz M A (f a) Q s') s):bz M A (m >>= f) Q s:=λΓ p eD n=>by
 rw[Ff];exact vA M Γ m (λa p' s' h'=>h' Γ p' eD n) (λz z z h'=>h') p s (h Γ p eD n)
theorem uq{m:Sem α}{k:ak->Sem Unit}{Q:α->aw->Prop}(h:bz M A m Q s):bz M A (m.onRaise k) Q s:=λΓ p eD n=>by
 rw[Sem.wp_onRaise];exact vA M Γ m (λz z z h'=>h') (λe p' s' h'=>h'.elim) p s (h Γ p eD n)
theorem ur{m:Sem α}{Q:α->aw->Prop}(h:bz M A m Q s):bz M A (holding vs m) Q s:=
 λΓ p eD n=>by rw[Sem.wp_holding];exact h Γ p eD n
theorem ae9{m:Sem α}{Q:α->aw->Prop}(h:bz M A m Q s):bz M A (m.keep vs) Q s:=
 λΓ p eD n=>by rw[Sem.wp_keep];exact h Γ p eD n
theorem Tr{Q:Unit->aw->Prop}(h:Q () s):bz M A point Q s:=λz z z z=>h
theorem afa{c:Code}{R R':lj->aw->Prop}(h:gh M A c R s)(hR:∀r s,R r s->R' r s):gh M A c R' s:=
 λΓ p hc eD n=>wpCode_mono hR (h Γ p hc eD n)
theorem Ts{c:Code}{h:Option ak}{Q:Flow->aw->Prop}(hb:j6 c=false)
  (hc:gh M (A.mark h) c (λr s'=>match r with |.ok f=>Q f s' |.error e=>False) s)(hnb:autoParam (h≠some byPass) aX):bz M A (run c h) Q s:=
 λΓ p eD n=>by rw[Sem.wp_run];exact hc _ p rfl (eD.enter c h p hnb) (n.enter hb h p)
theorem afb{c:Code}{Q:ak->aw->Prop}(hb:j6 c=false)
  (hc:gh M A c (λr s'=>match r with |.ok (.ret v)=>Q v s' |_=>False) s):bz M A (runValue c) Q s:=λΓ p eD n=>by
 rw[Sem.wp_runValue]
 refine wpCode_mono (λr s' z=>?_) (hc _ p rfl (eD.enter c none p (by intro x;exact bo x)) (n.enter hb none p))
 induction r with
 |error e=>exact z
 |ok f=>cases f<;>exact z
theorem C0{pos:List ak}{kw:List (Str×ak)}{Q:ak->aw->Prop}
  (hc:gh M A (.call f ⟨pos,kw⟩) (λr s'=>match r with |.ok (.ret v)=>Q v s' |_=>False) s):bz M A (call f pos kw) Q s:=afb rfl hc
theorem sJ{c:Code}{R:lj->aw->Prop}
  (h:bz M (A.under c) (M.den c) (λfin s'=>match fin with |.done f=>R (.ok f) s' |.again c'=>c'.quiet=true/\j6 c'=false/\gh M A c' R s') s):gh M A c R s:=λΓ p hc eD n=>by
 rw[wpCode_iff_wp,hc];refine vA M Γ _ (λfin p' s' h'=>?_) (λz z z h'=>h'.elim) p s (h Γ p (hc▸eD.in) n)
 induction fin with
 |done f=>exact h'
 |again c'=>exact⟨h'.1,h'.2.2 (Γ.goto c') p' rfl (eD.goto c') (n.goto h'.2.1)⟩
theorem Tt{c:Code}{R:lj->aw->Prop}(hq:c.quiet=true)(hb:j6 c=false)(I:Nat->aw->Prop)
  (turn:∀n s,I n s->bz M (A.under c) (M.den c)
   (λfin s'=>match fin with
    |.done f=>R (.ok f) s'
    |.again c'=>(c'=c/\∃m,m<n/\I m s')\/(c'.quiet=true/\j6 c'=false/\gh M A c' R s')) s)
  (n:Nat)(h:I n s):gh M A c R s:=by
 induction n using Nat.strongRecOn generalizing s with
 |ind n ih=>
  refine sJ (fC (turn n s h) λfin s' hf=>?_)
  induction fin with
  |done f=>exact hf
  |again c'=>
   rcases hf with⟨rfl,m,hm,hI⟩ |hf
   ·exact⟨hq,hb,ih m hm hI⟩
   ·exact hf
end
section
variable{prog:dv}{w:cM}{A:bj}{R:lj->aw->Prop}{s:aw}{env:Env}
theorem afc{l r:Expr}{pos:Pos}{Q:ak->aw->Prop}{M:fA}(h:bz M A (eval l env) (λa bq=>bz M A (eval r env) (λb bg=>bz M A (binaryOp op a b) Q bg) bq) s):
  bz M A (eval (.BinOp l op r pos) env) Q s:=λΓ p eD n=>by
 simp only[eval_BinOp,Ff,Sem.wp_holding,Sem.wp_cmd_standAt,Sem.wp_operate]
 exact vA M Γ _ (λa afd bq d8=>vA M Γ _ (λb z bg dP=>dP Γ _ eD n) (λz z z h'=>h') _ _ (d8 Γ afd eD n))
  (λz z z h'=>h') _ _ (h Γ p eD n)
theorem afe{st:Stmt}{rest:List Stmt}{Q:Flow->aw->Prop}{M:fA}(h:bz M A (exec st env) (λf s'=>match f with |.next=>bz M A (execs rest env) Q s' |f=>Q f s') s):
  bz M A (execs (st::rest) env) Q s:=λΓ p eD n=>by
 rw[execs_cons,Ff];refine vA M Γ _ (λf p' s' h'=>?_) (λz z z h'=>h') _ _ (h Γ p eD n);cases f<;>first |exact h' Γ p' eD n |exact h'
theorem aff{e:Expr}{pos:Pos}{Q:Flow->aw->Prop}{M:fA}(h:bz M A (eval e env) (λv=>Q (.ret v)) s):bz M A (exec (.Return (some e) pos) env) Q s:=λΓ p eD n=>by
 simp only[exec_Return_some,Ff,Sem.wp_cmd_standAt,Sem.wp_pure'];exact h Γ _ eD n
theorem afg{e:Expr}{pos:Pos}{Q:Flow->aw->Prop}(h:bz (model prog w) A (eval e env) (λz=>Q .next) s)
  (hi:interactive env=false)(hs:mS e none pos.line env=pure false):bz (model prog w) A (exec (.Expr e pos) env) Q s:=by
 rw[exec_Expr env e pos hi hs];exact bG (gG (k0 (bG (fC h λv s' h'=>gG (wpAny_dropValue h')))))
theorem afh{stmts:List Stmt}{M:fA}(h:bz (model prog w) A (execs stmts env) (λf s'=>R (.ok f) s') s):gh (model prog w) A (.block stmts env) R s:=by
 refine sJ ?_
 show bz _ _ (do return Fin.done (<-(execs stmts env).onRaise (λx=>do noteFrame x env;L7 x))) _ s
 exact bG (uq (fC h (λf s' h'=>dC h')))
theorem afi{test:Expr}{pos:Pos}{Q:Flow->aw->Prop}(h:gh (model prog w) A (.whileLoop test body orelse env) (λr s'=>match r with |.ok f=>Q f s' |.error e=>False) s):
  bz (model prog w) A (exec (.While test body orelse pos) env) Q s:=by
 rw[exec_While];unfold runOwn;exact bG (gG (k0 (uq (Ts rfl h))))
theorem afj{test:Expr}(I:Nat->aw->Prop)
  (turn:∀n s,I n s->bz (model prog w) A (isTrue test env (eval test env)) (λb bg=>
    if b then bz (model prog w) A (execs body env) (λf fu=>match f with
      |.next |.cont=>∃m,m<n/\I m fu
      |.brk=>R (.ok .next) fu
      |.ret v=>R (.ok (.ret v)) fu) bg
    else bz (model prog w) A (execs orelse env) (λf fu=>R (.ok f) fu) bg) s)
  (n:Nat)(h:I n s):gh (model prog w) A (.whileLoop test body orelse env) R s:=by
 refine Tt rfl rfl I (λn s hI=>?_) n h
 show bz _ A ((whileTurn test body orelse env).onRaise (λx=>do noteFrame x env;L7 x)) _ s
 refine uq ?_;unfold whileTurn;refine bG (fC (turn n s hI) (λb bg dP=>?_))
 induction b with
 |false=>
  simp only[pe,if_false]at dP ⊢
  exact bG (fC dP (λf fu gR=>dC gR))
 |true=>
  simp only[if_true]at dP ⊢;refine bG (fC dP (λf fu gR=>?_))
  induction f with
  |next=>exact dC (.inl ⟨rfl,gR⟩)
  |cont=>exact dC (.inl ⟨rfl,gR⟩)
  |brk=>exact dC gR
  |ret v=>exact dC gR
theorem afk{pos:Pos}{Q:Flow->aw->Prop}
  (h:aM (model prog w) A (eval iter env) (λx bq=>aM (model prog w) A (pyIter x) (λit bg=>
   gh (model prog w) A (.forLoop target it body orelse env) (λr s'=>match r with |.ok f=>Q f s' |.error e=>False) bg) (λo o=>False) bq) (λo o=>False) s)
  (hs:∀x,xH iter env x=pure x):
  bz (model prog w) A (exec (.For target iter body orelse pos) env) Q s:=by
 rw[exec_For];refine bG (gG (k0 (bG (gG (b0 h (λx bq d8=>?_) λo o z=>z)))));refine bG (gG (eF (hs x) (bG (gG (k0 (bG (gG (jf (b0 d8 (λit bg dP=>?_) λo o z=>z)))))))));unfold runOwn;exact uq (Ts rfl dP)
theorem afl{it:ak}(I:Nat->aw->Prop)
  (turn:∀n s,I n s->aM (model prog w) A (mV it) (λr bq=>match r with
   |none=>bz (model prog w) A (execs orelse env) (λf fu=>R (.ok f) fu) bq
   |some v=>aM (model prog w) A (L5 target it v) (λz zg=>
     aM (model prog w) A (assign target env v) (λz bg=>bz (model prog w) A (execs body env) (λf fu=>match f with
      |.next |.cont=>∃m,m<n/\I m fu
      |.brk=>R (.ok .next) fu
      |.ret v=>R (.ok (.ret v)) fu) bg) (λz z=>False) zg) (λz z=>False) bq) (λz z=>False) s)
  (n:Nat)(h:I n s):gh (model prog w) A (.forLoop target it body orelse env) R s:=by
 refine Tt rfl rfl I (λn s hI=>?_) n h
 show bz _ A ((forTurn target it body orelse env).onRaise (λx=>do noteFrame x env;L7 x)) _ s
 refine uq ?_;unfold forTurn;refine bG (gG (k0 (bG (uq (gG (b0 (turn n s hI) (λr bq d8=>?_) λz z h'=>h'))))))
 induction r with
 |none=>exact dC (.inr ⟨rfl,rfl,afh (M:=model prog w) d8⟩)
 |some v=>
  refine bG (gG (b0 d8 (λz zg Iv=>?_) λz z h'=>h'));refine bG (gG (b0 Iv (λz bg dP=>bG (fC dP (λf fu gR=>?_))) λz z h'=>h'))
  induction f with
  |next=>exact dC (.inl ⟨rfl,gR⟩)
  |cont=>exact dC (.inl ⟨rfl,gR⟩)
  |brk=>exact dC gR
  |ret v=>exact dC gR
theorem afm(h:bz (model prog w) (A.deeper env) (execs body env) (λf s'=>R (.ok (.ret (match f with |.ret v=>v |_=>.none))) s') s):gh (model prog w) A (.func body env) R s:=by
 refine sJ ?_
 show bz _ (A.deeper env) (do point;match <-(execs body env).onRaise (leaving env)with |.ret v=>ret v |_=>ret .none) _ s
 refine bG (Tr (bG (uq (fC h (λf s' h'=>?_)))));cases f<;>exact dC h'
theorem afn{args:Args}{o:Obj}(ml:A.depth<recursionLimit)
  (ho:s.heap.get? a=some o)(fR:o.data=.func fd)(hco:fd.scope.isCoroutine=false)(afo:fd.scope.isGenerator=false)(afp:fd.body=.stmts body)(hcd:s.heap.CodeRec fd.code fd.qualname)
  (h:aM (model prog w) A.in1 (bindArgs fd args) (λbinds bq=>
   aM (model prog w) A.in1 (newFunctionEnv fd.scope fd.globals fd.closure binds (fd.qualname++".<locals>.") (some a) fd.code none fd.builtins)
    (λenv bg=>bg.heap.NoLimit/\gh (model prog w) A (.func body env) R bg) (λz z=>False) bq) (λz z=>False) s):
  gh (model prog w) A (.call (.ref a) args) R s:=by
 refine sJ ?_;show bz _ A.in1 (callAny (.ref a) args) _ s;unfold callAny;refine bG (gG (tE ho ?_));refine tM hcd λc oc vs tq hc HX Cg hq=>?_;rw[fR];show bz _ A.in1 (callFunction a fd args) _ _;unfold callFunction;rw[hc]at h ⊢;rw[afp,hco,afo];dsimp only;refine bG (m:=field (.ref c) 1) (gG (wpAny_field HX Cg hq (bG (dC ?_))))
 exact bG (gG (b0 h (λbinds bq d8=>bG (gG (b0 d8 (λenv bg dP=>bG (gG (wpAny_enterFrame dP.1 ml
  (dC (And.intro rfl (And.intro rfl dP.2)))))) λz z h'=>h'))) λz z h'=>h'))
theorem afq{x:Sem ak}{rest:List (Bool×Sem ak)}{Q:List ak->aw->Prop}{M:fA}
  (h:bz M A x (λv bq=>bz M A (spliced rest) (λvs bg=>Q (v::vs) bg) bq) s):bz M A (spliced ((false,x)::rest)) Q s:=by
 rw[spliced];refine bG (fC h (λv bq d8=>?_));simp only[pe,if_false];exact bG (dC (bG (ur (fC d8 (λvs bg dP=>dC dP)))))
theorem afr{args:List (Bool×Sem ak)}{Q:Args->aw->Prop}{M:fA}(hp:args.any (λx=>x.1)=false)
  (h:bz M A (spliced args) (λvs s'=>Q ⟨vs,[]⟩ s') s):bz M A (evalArgs f true args []) Q s:=by
 induction args with
 |nil=>
  unfold evalArgs;show bz M A (spliced [] >>= _) Q s;refine bG (fC h (λvs s' h'=>?_));refine bG (dC (ur ?_))
  exact bG (dC (bG (dC (dC h'))))
 |cons x rest=>
  obtain⟨b,x⟩:=x
  have:b=false:=by rw[xO,YO]at hp;exact hp.1
  subst this;unfold evalArgs;show bz M A (spliced ((false,x)::rest) >>= _) Q s;refine bG (fC h (λvs s' h'=>?_));refine ur ?_;exact bG (dC (bG (dC (dC h'))))
theorem afs{M:fA}{P:Heap->Prop}{pos:Pos}{Q:ak->aw->Prop}{args:List (Bool×Sem ak)}(aft:args.any (λx=>x.1)=false)
  (hk:∀h,P h->∃k,(k=Keeper.frame\/k=Keeper.machine\/k=Keeper.boundFrame)/\Looks M h (keeperOf f) k)
  (h:bz M A (evalArgs f true args []) (λa bq=>P bq.heap/\bz M A (call f (first++a.pos) a.kw) Q bq) s):bz M A (lW pos f first args []) Q s:=by
 unfold lW;refine bG (ur (fC h (λa bq d8=>bG (gG (k0 ?_)))));refine a9 (hk _ d8.1) λk c4 L=>?_
 have jo:(args.any (λx=>x.1)||([]:List (Option Str×Sem ak)).any (λx=>x.1.isNone))=false:=by rw[aft];rfl
 refine bG (gG (L.here ?_));rw[jo]
 have tail:∀{t:Sem ak},bz M A t Q bq->bz M A (t >>= λr=>holding [r] point >>= λz=>pure r) Q bq:=
  λht=>bG (fC ht (λr bg hr=>bG (ur (Tr (dC hr)))))
 have marked (mk:ak):bz M A (callMarked mk f (first++a.pos) a.kw) Q bq:=by unfold callMarked;exact ae9 d8.2
 rcases c4 with rfl |rfl |rfl<;>dsimp only<;>first |exact tail d8.2 |(split<;>first |exact tail d8.2 |exact tail (marked _))
end
end
section
open PySem.Spec
theorem afR:qR ⟨.builtin "claim.caller" {},none,none,[],none⟩:=⟨by show wM "claim.caller"=false;decide+kernel,λx hx=>cA hx⟩
theorem afS{t:Sem Fin}{R:lj->aw->Prop}(afT:s.asleep)
  (h:bz (model prog w) callerA t (λfin s'=>∃f,fin=.done f/\(R (.ok f) s'/\leftWithCleanup s'.gens=false)) s):
  ∃n r s' j4,runN (denote table) prog w n s ⟨t,.builtin "claim.caller" {},default,[]⟩=.halted (outcomeOf r) s'/\
   schedN (denote table) prog w n (.single s ⟨t,.builtin "claim.caller" {},default,[]⟩)=.halted (outcomeOf r) s'/\s'.forget=j4.forget/\R r j4:=by
 have key:Sem.wp (model prog w) ⟨.builtin "claim.caller" {},none,none,[],none⟩ t (Sem.finPost (model prog w) ⟨.builtin "claim.caller" {},none,none,[],none⟩ λr s'=>R r s'/\leftWithCleanup s'.gens=false)
   (λe o s'=>R (.error e) s'/\leftWithCleanup s'.gens=false) default s:=by
  refine vA _ _ t (λfin p' s' h'=>?_) (λo o o z=>z.elim) default s (h _ default caller_in afR);refine a9 h' λf aq hf=>?_;clear h';subst aq;exact hf
 refine tM (wp_halts_full (M:=model prog w) (R:=R) afT key) λn r bq bg hs hn ee hR=>?_;exact⟨n,r,bg,bq,hn,hs,ee,hR⟩
noncomputable abbrev WalkG(q:dv)(loose:List Str)(YP:cM->Heap->Prop)(r:RowW)(d:DefRec)(C6:List (Str×Expr)):Prop:=
 ∀(w:cM) (cg bq:aw) (mg mb:Str->Option ak),Ground q loose r.records (λ_ _=>True) w cg mg mb bq.heap->YP w bq.heap->∀(a:Addr),mg d.name=some (.ref a)->bq.gens=#[]->
  ∀(args:List WData) (vals:List ak) (as:List Addr),r.claim.pre args=true->WData.layableAll args=true->ReadsAllW r.records (classAt cg.heap) bq.heap vals args as->WellAll w.params bq.heap vals args->(∀a∈as,(a==vB)=false)->
   bz (model r.prog w) callerA (PySem.call (.ref a) vals) (λv s'=>GoodWG r.claim (classAt cg.heap) (ExcName.means cg.heap) args bq (.ok (.ret v)) s') bq
theorem hoG{r:OpenRow}{q:dv}{loose:List Str}{α:Type}{Yf:aw->α}{Ya:cM->α}{YP:cM->Heap->Prop}{d:DefRec}{C6:List (Str×Expr)}{N:Nat}
  (left:LeftO r.prog q loose (λ_=>true) Yf Ya N)(hY:∀w s,Yf s=Ya w->YP w s.heap)(hYk:∀w h h',YP w h->(∀b o,h.get? b=some o->h'.get? b=some o)->YP w h')
  (I3:defOf q r.name=some (d,C6))(hp:r.prog.theDef r.name=some (d.params,d.body,d.scope))(hk:kwWritten? d.params.kwonlyargs d.params.kw_defaults=some C6)(RF:∀h,RecFacts r.records h)(hwr:(!r.writes||r.records.isEmpty)=true)
  (k1:r.wellSaid=true)(ok:(chainsOk q&&opensWell r.prog&&(frees r.toRowW&&r.within.isEmpty))=true)(hb:r.prog.bare)(hw:r.toRowW.promised)
  (call:WalkG q loose YP r.toRowW d C6):r.Holds:=by
 obtain⟨ok,k5⟩:=Bool.and_eq_true_iff.mp ok;obtain⟨TS,o1⟩:=Bool.and_eq_true_iff.mp ok;obtain⟨k5,k6⟩:=Bool.and_eq_true_iff.mp k5;obtain⟨afU,hu,ha,hap,hm⟩:=frees_parts k5
 refine⟨k1,hw,⟨hb,o1,by show r.toRowW.makers.map _=[];rw[hm];rfl⟩,hw.witness,λw=>⟨(left.behind (XP:=λ_ _=>True) (λ_ _=>trivial) TS w).1,λs' cH=>cps λG1 g1=>?_⟩⟩
 refine ZK ((left.behind (XP:=λ_ _=>True) (λ_ _=>trivial) TS w).2 s' cH) λcg hf hg0 s hT hz GP hg G0 y=>?_;have TU:s.gens=#[]:=Array.eq_empty_of_size_eq_zero (beq_iff_eq.mp GP);have G:Ground q loose r.records _ w s _ _ s.heap:=(RF s.heap).ground G0
 refine g1 ⟨cg,hf,hg0,s,hT,λn hn=>?_,(RF s.heap).1,(RF s.heap).2.1,λargs BD BE ord TV=>cps λG2 g2=>?_⟩
 ·obtain rfl:n=r.name:=by first |exact List.mem_singleton.mp hn |(split at hn<;>simp_all)
  exact pinned_of_view hg G0 I3 hp hk
 obtain⟨⟨vs,bq⟩,zr⟩:=Option.isSome_iff_exists.mp (layAllW_isSome (P:=w.params) (ord:=ord) G.has args r.args s (pre_splitW BD).1);have keeps:=layAllW_keeps _ _ _ zr;have qU:=layAllW_rest _ _ _ zr;refine bF (reads_layAllW TV _ _ _ zr BE bq.heap (λu u e=>e)) λas GQ I4 hold=>?_;have L:Laid r.records w s bq args vs as:=⟨⟨ord,TV,zr⟩,GQ,I4,hold,keeps,qU.1.trans TU,qU.2.2.1⟩;have I5:=G.keeps (λ_ _ _ _ _=>trivial) keeps;refine ZJ (I5.fn I3) λfa fo pm cd doc dV kV f1 f2 f3 f4 f5=>?_;have hi:=ident_freeW hu ha hap;have hwi:r.toRowW.claim.within=[]:=List.isEmpty_iff.mp k6;have walk:=call w s bq _ _ I5 (hYk _ _ _ (hY w s y) keeps) fa (defOf_name I3▸f1) L.gens args vs as BD BE L.reads L.well (L.low G.low)
 have tree:bz (model r.prog w) callerA (do match <-nsGet mainNs r.name with
   |some f=>do ret (<-PySem.call f vs)
   |none=>unsupported "claim.caller:no-such-global") (λfin s'=>∃f,fin=.done f/\GoodWG r.toRowW.claim (classAt s.heap) (ExcName.means s.heap) args bq (.ok f) s') bq:=by
  refine bG (gG (wpAny_nsGet I5.T.g ?_));rw[f1];exact bG (fC walk λv s' z=>dC ⟨_,rfl,z⟩)
 refine tM (afS (prog:=r.prog) (w:=w) (s:=bq)
  (R:=λx s'=>(r.toRowW.claim.Ends s args vs bq x s'/\s'.os=s.os)/\(r.writes=true->namesKept r.prog r.keeps s.heap s'.heap/\∀x∈r.records,∀a,classAt s.heap x.1=some a->recordClass s'.heap a x.1 (x.2.map (λx=>x.1))=true))
  (Shared.asleep_of_life qU.2.2.2 hz)
  (fC tree λfin s' ⟨f,e,g⟩=>by
   have z:=g.laid (c:=r.toRowW.claim) afU hwi hi L
   exact⟨f,e,⟨⟨z.1,z.2.1⟩,λq=>⟨namesKept_of hT hg _ keeps g.2.1.old,noTable hwr q⟩⟩,leftWithCleanup_false_of_bare z.2.2⟩)) λk res s' j4 afV afW ee hz=>?_
 have I6:=hz.1.1;have sE:=hz.1.2;have zt:=hz.2;obtain⟨eh,_,_,eo,_⟩:=Shared.forget_eq ee;have I6:=I6.congr eh;rw[<-eh]at zt;rw[<-eo]at sE;have afX:s'.heap.life=s.heap.life:=(runN_life _ _ _ afV).trans qU.2.2.2
 refine g2 ⟨vs,bq,zr,k,_,s',afW,?_,(λu i x hx=>by rw[TU]at hx;simp at hx),zt,by rw[afX],Shared.rest_eq sE⟩
 exact I6.imp (Exists.imp λv h=>⟨congrArg outcomeOf h.1,h.2.1,h.2.2.1,h.2.2.2.1,λb o y u=>h.2.2.2.2.1 b o y,h.2.2.2.2.2⟩) (Exists.imp λe=>Exists.imp λob=>Exists.imp λcls h=>⟨congrArg outcomeOf h.1,h.2.1,h.2.2.1,h.2.2.2.1,h.2.2.2.2.1,λb o y u=>h.2.2.2.2.2 b o y⟩)
end
noncomputable def M5{M:Type}(d:M)(f:List Stmt->M)(k:List Stmt->M):Stmt->M
 |.FunctionDef _ _ b _ _ _ _ _ _ _=>f b
 |.ClassDef _ _ _ b _ _ _ _ _ _ _=>k b
 |_=>d
noncomputable def fbs(l:List Stmt):List (List Stmt):=l.flatMap (M5 [] (λb=>[b]) λz=>[])
noncomputable def bds:List (List Stmt):=ot.main.body.flatMap (M5 [] (λb=>[b]) fbs)
noncomputable def bd(i:Nat):List Stmt:=bds.getD i []
noncomputable def rows:List (Nat×Nat×Ks×List Nat):=[(71,2,[av 84,av 181,av 160,a8 207,a8 101],[84]),(78,3,[av 161,av 110,av 118,a8 209],[161]),(83,4,[e7 160,e7 61,a8 101,a8 124],[160,61]),(98,5,[av 78,av 81],[78,81]),(105,6,[av 78,av 161,av 175,a8 101,a8 18,a8 229],[78,161]),(194,16,[av 161,av 128,av 79,a8 101],[161,128]),(201,17,[av 161,av 128,av 79],[161,128]),(208,18,[av 161,av 128,av 9,a8 18],[161,128]),(222,19,[av 78,av 66,av 105,av 91,av 93],[78,66,105,91,93]),(229,20,[av 78,a8 222,a8 29],[78]),(250,21,[av 78,av 63,av 66,av 21],[78,63,66,21]),(257,22,[av 78,a8 5],[78]),(292,26,[av 66,a8 276],[66]),(306,27,[av 78,av 176],[78,176]),(320,29,[av 78,av 66,av 106],[78,66]),(334,30,[av 87,av 110,av 112,av 97,av 106,av 20,a8 246,a8 282,a8 271],[87]),(341,31,[av 87,av 110,a8 244,a8 18,a8 207],[87]),(353,33,[av 179],[179]),(360,34,[av 179,av 76,av 4,av 130,a8 242,a8 18],[179]),(374,35,[av 78,av 87,av 185,av 144,av 219,av 107,av 179],[78,87,185,144,219,107,179]),(348,32,[av 16,av 135],[16,135]),(381,36,[av 78,av 121,av 21,av 16,av 135,a8 222,a8 154,a8 277],[78]),(388,37,[av 78,a8 273],[78]),(402,38,[av 55,av 175,a8 222,a8 29,a8 18],[55,175]),(416,39,[av 78,av 153],[78,153]),(423,40,[av 78,av 55,av 175,av 132,av 21,a8 265],[78,55,175,132]),(430,41,[av 78,av 55,av 175,a8 34,a8 207,a8 101],[78,55,175]),(444,43,[av 78,av 146,a8 137],[78,146]),(479,48,[av 78,av 21,a8 258],[78,21]),(500,51,[av 78,av 21,av 55,av 85,av 132,a8 207,a8 154],[78,21,55]),(507,52,[av 78,av 21,a8 34],[78,21]),(514,53,[av 78,av 21,a8 38],[78,21]),(521,54,[av 78,av 21,a8 137],[78,21]),(557,57,[av 78],[78]),(564,58,[av 78,a8 18],[78]),(571,59,[av 78,av 74,av 90,av 4,av 96,a8 18],[78,74,90]),(585,61,[av 78,av 4,av 61,av 113,av 100,a8 18],[78]),(578,60,[av 78,av 108,av 56],[78]),(606,62,[av 78,av 185,av 87,av 45],[78,185,87,45]),(620,63,[av 14,av 112,av 110,av 21],[14]),(627,64,[av 109,av 111],[109,111]),(634,65,[av 109,av 111,a8 139],[109,111]),(650,66,M6,vE),(657,67,[av 78,av 21,av 146,av 185,a8 58,a8 247],[78,21]),(664,68,[av 78,av 21,a8 58],[78,21]),(671,69,[av 78,av 21],[78,21]),(678,70,[av 78,av 21],[78,21]),(683,71,[e7 78,av 21,av 191,av 51,av 185,av 57,a8 19],[78,21]),(690,72,[av 78,av 99,av 164,av 109,av 119,av 123,av 21,av 116,av 111,av 163,a8 211,a8 220],[78,99,164]),(775,81,[av 78,av 170,av 155,av 251,av 21,av 99,av 119,av 109,av 110,a8 254,a8 255,a8 142],[78,170,155,251]),(782,82,[av 78,av 21,av 251,av 185],[78,21,251]),(789,83,[av 78,av 170,av 126,av 251,av 123,av 77,av 110,av 21,av 163,a8 211,a8 245],[78,170,126,251]),(815,87,M7,vF),(915,99,[av 78,av 87,av 72,av 63,av 21,av 66,av 106,a8 5],[78,87,72]),(119,7,[av 89,av 146,av 72,av 85,a8 5,a8 6],[89,146,72]),(126,8,[av 131,av 89,av 146,av 72,av 71,av 42,a8 252],[131,89,146,72,71]),(141,9,[av 78,av 50,av 144,av 171,av 186,av 159],[78,50,144,171,186,159]),(148,10,[av 78,av 146],[78,146]),(155,11,[av 78,av 91,av 108,av 56],[78,91]),(160,12,[av 78,e7 131,e7 89,av 21,av 146,av 185,e7 72,e7 71,e7 61,av 69,a8 18,a8 275,a8 7],[78,131,89,21]),(176,13,M8,pD),(181,14,[av 174,e7 59,av 146,a8 168],[174]),(186,15,[av 174,av 76,a8 204,a8 168],[174]),(965,105,[av 167,av 44,av 102,av 117],[167]),(972,106,[av 46,av 100,av 151,av 44],[46,100]),(979,107,[av 46,av 82,a8 215,a8 18],[46,82]),(986,108,[av 46,av 65,av 76,av 1,av 57,av 27,av 88,a8 124,a8 215,a8 58,a8 216,a8 18],[46,65]),(991,109,[e7 46,av 61,av 32,a8 215,a8 124],[46,61]),(998,110,[av 76,av 110,av 1,av 27,av 82,av 0,av 2,a8 220,a8 168],[76]),(1017,112,[av 76,av 133,av 126,av 170,av 191,av 112,av 110,av 1,e7 51,av 0],[76,133,126,170]),(1024,113,[av 46,av 32,av 133,av 203,av 110,a8 216,a8 215],[46,32,133,203]),(1029,114,[av 92,av 1,av 76,av 133,e7 147,av 85,av 68,av 66,av 60,av 108,av 56,av 62,av 162,a8 18],[92,1,76,133,147,85]),(1034,115,[e7 131,e7 14,av 27,e7 85,av 132,av 8,e7 66,av 147,a8 168,a8 28,a8 204,a8 278],[131,14,27,85]),(285,25,M9,Na),(271,24,Nb,Nc),(313,28,Nd,Nf),(437,42,Ng,Nh),(1012,111,Ni,Nj),(1039,116,Nk,Nl)]
noncomputable def Nn(K:Frag)(n:String)(a:Addr):Option {p:Array ak×Nat // K.lookup a=some {cls:=.type n,data:=.seq p.1 p.2}}:=
 match K.lookup a with
 |some ⟨.type m,none,.seq items k,⟨[]⟩⟩=>if h:m=n then some ⟨(items,k),h▸rfl⟩else none
 |_=>none
section
variable(K:Frag)
noncomputable abbrev FF(v:ak):={x:CV // ∀h,K.In h->aV h x v}
noncomputable def FG(f:(v:ak)->Option (FF K v)):(l:List ak)->Option {xs:List CV // ∀h,K.In h->aN h xs l}
 |[]=>some ⟨[],λz z=>.nil⟩
 |v::l=>(f v).bind λx=>(FG f l).map λxs=>⟨x.1::xs.1,λh X=>.cons (x.2 h X) (xs.2 h X)⟩
noncomputable def cv:Nat->(v:ak)->Option (FF K v)
 |0=>λz=>none
 |n+1=>λv=>match v with
  |.none=>some ⟨.none,λz z=>.none⟩
  |.bool b=>some ⟨.bool b,λz z=>.bool b⟩
  |.int i t=>some ⟨.int i,λz z=>.int i t⟩
  |.str s t=>some ⟨.str s,λz z=>.str s t⟩
  |.bytes b t=>some ⟨.bytes b.toList,λz z=>.bytes b.toList t⟩
  |.type n=>some ⟨.ty n,λz z=>.ty n⟩
  |.builtin n=>some ⟨.bi n,λz z=>.bi n⟩
  |.ref a=>((Nn K "tuple" a).bind λp=>(FG K (cv n) p.1.1.toList).map λxs=>(⟨.tup xs.1,λh X=>.tup (X _ _ p.2) (xs.2 h X)⟩:FF K (.ref a))).or (some ⟨.loc a,λz z=>.loc a⟩)
  |_=>none
noncomputable def FH(l:List ak):Option (List CV):=(FG K (cv K 3) l).map (λx=>x.1)
noncomputable def FJ(i:Nat):Option CV:=(nsIn K nV (nm i)).bind λo=>(match o with
 |some v=>some v
 |none=>if nm i="__name__" then none else Ml (nm i):Option ak).bind λv=>(cv K 3 v).map (λx=>x.1)
noncomputable def FK(a:Nat):Option (List CV):=(FL K (fdOf K a).defaults).bind λl=>FH K l.toList
noncomputable def pE(a:Nat):Option (List CV):=(Nn K "list" a).bind λp=>FH K p.1.1.toList
end
noncomputable def x7:List (Nat×List CV):=[(650,[.tup []]),(815,[.tup [],.str (ax "date"),.bool false,.none,.none]),(176,[.tup [],.str (ax "date"),.none,.none])]
noncomputable def tS(c:Cx):Prop:=(∀r∈rows,Bj c.K r.1 r.2.2.1 r.2.2.2=true/\x8 c.K r.1=bd r.2.1)/\∀d∈x7,FK c.K d.1=some d.2
noncomputable def pOk(k:Ks)(p:List Nat):Bool:=p.all (λi=>fO (k.lookup i))&&decide p.Nodup
theorem aaB:(rows.all λr=>(r.2.2.1.all λp=>lg p.1 nN&&p.2!=.free)&&pOk r.2.2.1 r.2.2.2)=true:=by kernel_rfl
theorem vG{a i:Nat}{k:Ks}{p:List Nat}(h:rows[j]?=some (a,i,k,p)):(∀q∈k,q.1<nN/\q.2≠.free)/\(∀i∈p,fO (k.lookup i)=true)/\p.Nodup:=by
 refine xa (cK.1 (iz.1 aaB _ (tj h))) λu v=>?_;refine xa (cK.1 v) λv w=>?_;exact⟨λq hq=>xa (cK.1 (iz.1 u q hq)) λx y=>⟨cG x,bne_iff_ne.1 y⟩,iz.1 v,of_decide_eq_true w⟩
theorem vH{c:Cx}(hK:tS c)(j:Nat){a i:Nat}{k:Ks}{p:List Nat}(h:rows[j]?=some (a,i,k,p)):vI c a (fdOf c.K a) (bd i) k/\qz (fdOf c.K a).params=true/\(fdOf c.K a).params.args.map (λx=>x.arg)=p.map nm/\vJ c.K (fdOf c.K a).defaults=true/\keepIn c.K (.ref a)=true:=by
 have hm:=tj h;have:=aaC (hK.1 _ hm).1 (λq hq=>((vG h).1 q hq).1) λq hq=>((vG h).1 q hq).2;rw[(hK.1 _ hm).2]at this;exact this
theorem kf{c:Cx}(a:Nat)(hK:tS c)(h:autoParam ((rows.find? λr=>rQ r.1 a).isSome=true) aA):dw c (.ref a):=by
 obtain⟨r,hr⟩:=Lh.1 h;have e:=Nat.eq_of_beq_eq_true (List.find?_some (p:=λr:Nat×Nat×Ks×List Nat=>rQ r.1 a) hr);refine xe (YN (alj hr)) λj hj=>?_;subst e;exact dw.fn (vH hK j hj).2.2.2.2
theorem kc{c:Cx}(C:Nat){f:Nat}(h:x9 C f=true):dw c (.ref C):=dw.fn (c.FN _ _ (Np h)).2.2.2
theorem Bk{c:Cx}{n:Nat}{xs:List Stmt}{m:SM}(r:{m:SM // eQ c n ks xs m})(e:r.1=m):eQ c n ks xs m:=e▸r.2
theorem aaD{c:Cx}{n a i:Nat}{k:Ks}{p:List Nat}{m:SM}(hK:tS c)(j:Nat)(h:rows[j]?=some (a,i,k,p))(s:eQ c n k (bd i) m):bE c (n+1) (.ref a) (bD p m):=
 have⟨h1,h2,h3,h4,_⟩:=vH hK j h
 bE.def h1 s p (vG h).2.1 (vG h).2.2 h2 h3 h4
noncomputable def t0{c:Cx}(G:x4 c):Tb c where
 G:=G
 fs:=[⟨(18,_,_,_,_),G _ _ rfl,rfl,dw.bi _,aU.len⟩,⟨(24,_,_,_,_),G _ _ rfl,rfl,dw.bi _,aU.ord⟩,⟨(15,_,_,_,_),G _ _ rfl,rfl,dw.ty _,aU.int⟩,⟨(58,_,_,_,_),G _ _ rfl,rfl,dw.ty _,aU.list⟩,
  ⟨(134,_,_,_,_),G _ _ rfl,rfl,dw.ty _,aU.tuple⟩,⟨(101,_,_,_,_),G _ _ rfl,rfl,dw.ty _,aU.bytes⟩,⟨(29,_,_,_,_),G _ _ rfl,rfl,dw.ty _,aU.str⟩,⟨(19,_,_,_,_),G _ _ rfl,rfl,dw.bi _,aU.max⟩,
  ⟨(7,_,_,_,_),G _ _ rfl,rfl,dw.bi _,aU.all⟩,⟨(168,_,_,_,_),G _ _ rfl,rfl,dw.bi _,aU.sorted⟩,⟨(28,_,_,_,_),G _ _ rfl,rfl,dw.ty _,aU.set⟩]
 ms:=[]
 bs:=[⟨(_,_,_,_,_),FO,aU.append⟩,⟨(_,_,_,_,_),aaE,aU.or aU.aaF aU.FP⟩,⟨(_,_,_,_,_),aaG,aU.reverse⟩,⟨(_,_,_,_,_),aaH,aU.extend⟩,⟨(_,_,_,_,_),aaI,aU.get⟩,⟨(_,_,_,_,_),aaJ,aU.aaK⟩,
  ⟨(_,_,_,_,_),aaL,aU.find⟩,⟨(_,_,_,_,_),aaM,aU.split⟩,⟨(_,_,_,_,_),aaN,aU.join⟩,⟨(_,_,_,_,_),aaO,aU.lower⟩,⟨(_,_,_,_,_),aaP,aU.count⟩]
 dk:=0
theorem aN.c{h:Heap}{P:List ak->Prop}(r:aN h (x::xs) vs)(k:∀v ws,aV h x v->aN h xs ws->P (v::ws)):P vs:=by
 refine jg r.iT λv ws aq a b=>?_;subst aq;exact k v ws a b
theorem aN.n{h:Heap}{P:List ak->Prop}(r:aN h [] vs)(k:P []):P vs:=r.jX▸k
theorem g6.n{h:Heap}{vs:List (Str×ak)}{P:List (Str×ak)->Prop}(r:g6 h [] vs)(k:P []):P vs:=r.jX▸k
theorem g6.c{h:Heap}{i:Nat}{xs:KV}{vs:List (Str×ak)}{P:List (Str×ak)->Prop}(r:g6 h ((i,x)::xs) vs)(k:∀v ws,aV h x v->g6 h xs ws->P ((nm i,v)::ws)):P vs:=by
 cases r with |cons _ e r=>exact k _ _ e r
theorem Nq{K:Frag}{l:List ak}{h:Heap}(e:FH K l=some xs)(X:K.In h):aN h xs l:=by
 refine a9 (tg.1 e) λx zz aq=>?_;subst aq;exact x.2 h X
theorem dfltAt{c:Cx}(hK:tS c)(R:Rel c σ s.heap){a:Nat}(h:(a,xs)∈x7):
  ∃T o items m,(fdOf c.K a).defaults=.ref T/\s.heap.get? T=some o/\aN s.heap xs items/\o.data=.seq (Mm items) m:=by
 have X:=c.jY.keeps R.base;refine a9 (vj.1 (hK.2 _ h)) λl e h=>?_;refine f9 (Nr e) λT o n e q d=>?_;exact⟨T,o,_,_,e,X _ _ q,Nq h X,d⟩
noncomputable abbrev GK(c:Cx):Prop:=x4 c/\tS c
theorem gD{c:Cx}{n a i:Nat}{k:Ks}{p:List Nat}{m:SM}(Z:GK c)(j:Nat)(T:Tb c)(h:autoParam (rows[j]?=some (a,i,k,p)) aA)(e:((lY T n 40).s k (bd i)).1=m:=by kernel_rfl):bE c (n+2) (.ref a) (bD p m):=aaD Z.2 j h (Bk _ e)
section
variable{c:Cx}(Z:GK c)(T:Tb c)(i a:Nat)
noncomputable def d5{k:Nat}{F:FM}(h:bE c k (.ref a) F)(e:autoParam (tP.lookup i=some (.loc a)) aA)(r:autoParam ((rows.find? λr=>rQ r.1 a).isSome=true) aA):Tb c:={T with fs:=(⟨(i,.loc a,.ref a,k,F),Z.1 _ _ e,rfl,kf a Z.2 r,h.toF⟩:Fe c)::T.fs}
noncomputable def pF{k f:Nat}{F:FM}(h:bE c k (.ref f) F)(e:autoParam (tP.lookup i=some (.loc a)) aA)(r:autoParam (x9 a f=true) aA):Tb c:={T with fs:=(⟨(i,.loc a,.ref a,k+1,eV a F),Z.1 _ _ e,rfl,kc a r,aU.make r h⟩:Fe c)::T.fs}
noncomputable def d6{k f:Nat}{F:FM}(h:bE c k (.ref f) F)(e:autoParam (rV a i f=true) aA):Tb c:={T with ms:=(⟨(i,a,f,k,F),e,h.toF⟩:Me c)::T.ms}
end
section
variable{c:Cx}(Z:GK c)
include Z
theorem aaQ:bE c 2 (.ref 71) qA:=gD Z 0 (t0 Z.1)
noncomputable def FQ:Tb c:=d5 Z (t0 Z.1) 222 71 (aaQ Z)
theorem aaR:bE c 2 (.ref 78) vK:=gD Z 1 ({FQ Z with bs:=(⟨(_,_,_,_,_),aaS,aU.FR⟩:Be c)::(FQ Z).bs})
noncomputable def Nt:Tb c:=d5 Z (FQ Z) 154 78 (aaR Z)
theorem aaT:bE c 2 (.ref 83) Bl:=gD Z 2 (Nt Z)
noncomputable def Nu:Tb c:=d5 Z (Nt Z) 229 83 (aaT Z)
theorem aaU:bE c 2 (.ref 98) Bm:=gD Z 3 (Nu Z)
noncomputable def Nv:Tb c:=pF Z (Nu Z) 267 108 (aaU Z)
theorem aaV:bE c 3 (.ref 105) FT:=gD Z 4 (Nv Z)
noncomputable def Nw:Tb c:=d6 (Nv Z) 148 108 (aaV Z)
theorem aaW:bE c 2 (.ref 194) FU:=gD Z 5 (Nw Z)
noncomputable def Ny:Tb c:=d5 Z (Nw Z) 276 194 (aaW Z)
theorem aaX:bE c 2 (.ref 201) FV:=gD Z 6 (Ny Z)
noncomputable def Nz:Tb c:=d5 Z (Ny Z) 271 201 (aaX Z)
theorem aaY:bE c 2 (.ref 208) FW:=gD Z 7 (Nz Z)
noncomputable def NB:Tb c:=d5 Z (Nz Z) 272 208 (aaY Z)
theorem aaZ:bE c 2 (.ref 222) tT:=gD Z 8 (NB Z)
noncomputable def ND:Tb c:=pF Z (NB Z) 141 232 (aaZ Z)
theorem aa0:bE c 3 (.ref 229) Bn:=gD Z 9 (ND Z)
noncomputable def NF:Tb c:=d6 (ND Z) 161 232 (aa0 Z)
theorem aa1:bE c 2 (.ref 250) Bo:=gD Z 10 (NF Z)
noncomputable def NG:Tb c:=pF Z (NF Z) 94 274 (aa1 Z)
theorem aa2:bE c 2 (.ref 257) Bp:=gD Z 11 (NG Z)
noncomputable def NH:Tb c:=d6 (NG Z) 205 274 (aa2 Z)
theorem aa3:bE c 3 (.ref 292) FX:=gD Z 12 (NH Z)
noncomputable def NI:Tb c:=d5 Z (NH Z) 282 292 (aa3 Z)
theorem aa4:bE c 2 (.ref 306) ya:=gD Z 13 (NI Z)
noncomputable def FY:Tb c:=pF Z (NI Z) 39 323 (aa4 Z)
theorem aa5:bE c 2 (.ref 320) FZ:=gD Z 14 (FY Z)
theorem aa6:bE c 4 (.ref 334) F0:=gD Z 15 (FY Z)
noncomputable def NJ:Tb c:=d5 Z (FY Z) 244 334 (aa6 Z)
theorem aa7:bE c 5 (.ref 341) F2:=gD Z 16 (NJ Z)
noncomputable def NK:Tb c:=d5 Z (NJ Z) 230 341 (aa7 Z)
theorem aa8:bE c 3 (.ref 353) F4:=gD Z 17 (NK Z)
noncomputable def NL:Tb c:=d5 Z (NK Z) 242 353 (aa8 Z)
theorem aa9:bE c 4 (.ref 360) F5:=gD Z 18 (NL Z)
noncomputable def NM:Tb c:=d5 Z (NL Z) 273 360 (aa9 Z)
theorem aba:bE c 2 (.ref 374) yb:=gD Z 19 (NM Z)
noncomputable def NN:Tb c:=pF Z (NM Z) 138 391 (aba Z)
theorem abb:bE c 2 (.ref 348) NO:=gD Z 20 (NN Z)
noncomputable def NP:Tb c:=d5 Z (NN Z) 277 348 (abb Z)
theorem abc:bE c 4 (.ref 381) F6:=gD Z 21 (NP Z)
noncomputable def NQ:Tb c:=d6 (NP Z) 161 391 (abc Z)
theorem abd:bE c 5 (.ref 388) yc:=gD Z 22 (NQ Z)
noncomputable def NR:Tb c:=d6 (NQ Z) 190 391 (abd Z)
theorem abe:bE c 3 (.ref 402) F7:=gD Z 23 (NR Z)
noncomputable def NT:Tb c:=d5 Z (NR Z) 265 402 (abe Z)
theorem abf:bE c 2 (.ref 416) Bq:=gD Z 24 (NT Z)
noncomputable def NU:Tb c:=pF Z (NT Z) 236 539 (abf Z)
theorem F8:bE c 4 (.ref 423) rX:=gD Z 25 (NU Z)
noncomputable def NV:Tb c:=d6 (NU Z) 53 539 (F8 Z)
theorem abg:bE c 5 (.ref 430) Br:=gD Z 26 (NV Z)
noncomputable def NW:Tb c:=d6 (NV Z) 136 539 (abg Z)
theorem abh:bE c 5 (.ref 444) Bs:=gD Z 27 (NW Z)
noncomputable def NX:Tb c:=d6 (NW Z) 257 539 (abh Z)
theorem abi:bE c 2 (.ref 479) F9:=gD Z 28 (NX Z)
noncomputable def NY:Tb c:=d6 (NX Z) 166 539 (abi Z)
theorem abj:bE c 3 (.ref 500) yd:=gD Z 29 (NY Z)
noncomputable def NZ:Tb c:=d6 (NY Z) 183 539 (abj Z)
theorem abk:bE c 4 (.ref 507) Ga:=gD Z 30 (NZ Z)
noncomputable def N0:Tb c:=d6 (NZ Z) 42 539 (abk Z)
theorem abl:bE c 4 (.ref 514) Gb:=gD Z 31 (N0 Z)
noncomputable def N1:Tb c:=d6 (N0 Z) 87 539 (abl Z)
theorem abm:bE c 4 (.ref 521) ye:=gD Z 32 (N1 Z)
noncomputable def N5:Tb c:=d6 (N1 Z) 146 539 (abm Z)
theorem abn:bE c 2 (.ref 557) yf:=gD Z 33 (N5 Z)
noncomputable def N6:Tb c:=pF Z (N5 Z) 211 588 (abn Z)
theorem abo:bE c 2 (.ref 564) yg:=gD Z 34 (N6 Z)
noncomputable def N7:Tb c:=d6 (N6 Z) 61 588 (abo Z)
theorem abp:bE c 2 (.ref 571) qB:=gD Z 35 (N7 Z)
noncomputable def N8:Tb c:=d6 (N7 Z) 26 588 (abp Z)
theorem abq:bE c 2 (.ref 585) Gc:=gD Z 36 (N8 Z)
noncomputable def N9:Tb c:=d6 (N8 Z) 80 588 (abq Z)
theorem abr:bE c 3 (.ref 578) yh:=gD Z 37 (N9 Z)
noncomputable def Oa:Tb c:=d6 (N9 Z) 83 588 (abr Z)
theorem abt:bE c 2 (.ref 606) Gd:=gD Z 38 (Oa Z)
noncomputable def Ob:Tb c:=pF Z (Oa Z) 247 609 (abt Z)
theorem abu:bE c 2 (.ref 620) Ge:=gD Z 39 (Ob Z)
noncomputable def Oc:Tb c:=d5 Z (Ob Z) 245 620 (abu Z)
theorem Od:bE c 2 (.ref 627) Bt:=gD Z 40 (Oc Z)
noncomputable def Oe:Tb c:=d5 Z (Oc Z) 255 627 (Od Z)
theorem abv:bE c 2 (.ref 634) abw:=gD Z 41 (Oe Z)
noncomputable def Of:Tb c:=d5 Z (Oe Z) 254 634 (abv Z)
theorem abx:eQ c 1 M6 (bd 66) Gf:=Bk ((lY (Of Z) 0 40).s _ _) (by kernel_rfl)
theorem aby:bE c 2 (.ref 650) Gg:=λA σ s xs vs kx kv Q hr R r rk q=>by
 refine xX (vH Z.2 42 (a:=650) rfl) λh1 h2 h3 zz=>?_;refine tM (dfltAt Z.2 R (.head _)) λT o items m i1 i2 i4 i3=>?_;obtain⟨x,y,rfl,rfl,q⟩:=q;revert i3
 apply r.c;intro v1 z r1 r;apply r.c;intro v2 z r2 r;apply r.n;apply rk.n;apply i4.c;intro d0 z e0 i4;apply i4.n;intro i3;exact yi h1 (abx Z) (ps:=vE) (by decide) hr R (abz h2 i1 i2 h3 i3) (.cons r1 (.cons r2 (.cons e0 .nil))) rfl q
noncomputable def Og:Tb c:=pF Z (Of Z) 40 958 (aby Z)
theorem abA:bE c 5 (.ref 657) rY:=gD Z 43 (Og Z)
noncomputable def Oh:Tb c:=d6 (Og Z) 169 958 (abA Z)
theorem abB:bE c 6 (.ref 664) Gh:=gD Z 44 (Oh Z)
noncomputable def Oi:Tb c:=d6 (Oh Z) 185 958 (abB Z)
theorem abC:bE c 6 (.ref 671) yj:=gD Z 45 (Oi Z)
noncomputable def Oj:Tb c:=d6 (Oi Z) 45 958 (abC Z)
theorem abD:bE c 6 (.ref 683) yk:=gD Z 47 (Oj Z)
noncomputable def Ol:Tb c:=d6 (Oj Z) 114 958 (abD Z)
theorem abE:bE c 7 (.ref 690) Gi:=gD Z 48 (d5 Z (Ol Z) 255 627 (Od Z) rfl rfl)
noncomputable def Om:Tb c:=d6 (Ol Z) 184 958 (abE Z)
theorem abF:bE c 8 (.ref 775) Gj:=gD Z 49 (Om Z)
noncomputable def Oo:Tb c:=d6 (Om Z) 126 958 (abF Z)
theorem abG:bE c 6 (.ref 782) Gk:=gD Z 50 (Oo Z)
noncomputable def Oq:Tb c:=d6 (Oo Z) 202 958 (abG Z)
theorem abH:bE c 7 (.ref 789) Gl:=gD Z 51 (Oq Z)
noncomputable def Ot:Tb c:=d6 (Oq Z) 172 958 (abH Z)
theorem abI:eQ c 8 M7 (bd 87) Gm:=Bk ((lY ({Ot Z with fs:=[]}) 7 40).s _ _) (by kernel_rfl)
theorem abJ:bE c 9 (.ref 815) Gn:=λA σ s xs vs kx kv Q hr R r rk q=>by
 refine xX (vH Z.2 52 (a:=815) rfl) λh1 h2 h3 zz=>?_;refine tM (dfltAt Z.2 R (.tail _ (.head _))) λT o items m i1 i2 i4 i3=>?_;obtain⟨x,y,z,w,rfl,rfl,q⟩:=q;revert i3
 apply r.c;intro v1 u r1 r;apply r.c;intro v2 u r2 r;apply r.c;intro v3 u r3 r;apply r.c;intro v4 u r4 r;apply r.n;apply rk.n;apply i4.c;intro d0 u e0 i4;apply i4.c;intro d1 u e1 i4;apply i4.c;intro d2 u e2 i4;apply i4.c;intro d3 u e3 i4;apply i4.c;intro d4 u e4 i4;apply i4.n;intro i3;exact yi h1 (abI Z) (ps:=vF) (by decide) hr R (abK h2 i1 i2 h3 i3) (.cons r1 (.cons r2 (.cons r3 (.cons r4 (.cons e2 (.cons e3 (.cons e4 .nil))))))) rfl q
noncomputable def Ou:Tb c:=d6 (Ot Z) 174 958 (abJ Z)
theorem abL:bE c 5 (.ref 915) Gp:=gD Z 53 (d6 (Ou Z) 47 323 (aa5 Z) rfl)
noncomputable def Ov:Tb c:=d6 (Ou Z) 201 958 (abL Z)
theorem abM:bE c 6 (.ref 678) Gq:=gD Z 46 (Ov Z)
noncomputable def Ow:Tb c:=d6 (Ov Z) 87 958 (abM Z)
theorem abN:bE c 7 (.ref 119) Gr:=gD Z 54 (Ow Z)
noncomputable def Ox:Tb c:=d5 Z (Ow Z) 252 119 (abN Z)
theorem abO:bE c 8 (.ref 126) yl:=gD Z 55 (Ox Z)
noncomputable def Oy:Tb c:=d5 Z (Ox Z) 275 126 (abO Z)
theorem abP:bE c 2 (.ref 141) Gs:=gD Z 56 (Oy Z)
noncomputable def Oz:Tb c:=pF Z (Oy Z) 210 163 (abP Z)
theorem abQ:bE c 2 (.ref 148) Gu:=gD Z 57 (Oz Z)
noncomputable def OA:Tb c:=d6 (Oz Z) 232 163 (abQ Z)
theorem abR:bE c 2 (.ref 155) Gv:=gD Z 58 (OA Z)
noncomputable def OB:Tb c:=d6 (OA Z) 221 163 (abR Z)
theorem abS:bE c 9 (.ref 160) Bu:=gD Z 59 (OB Z)
noncomputable def OC:Tb c:=d6 (OB Z) 48 163 (abS Z)
theorem OD:eQ c 9 M8 (bd 13) Bv:=Bk ((lY (OC Z) 8 40).s _ _) (by kernel_rfl)
theorem abT:bE c 10 (.ref 176) Gx:=λA σ s xs vs kx kv Q hr R r rk q=>by
 refine xX (vH Z.2 60 (a:=176) rfl) λh1 h2 h3 zz=>?_;refine tM (dfltAt Z.2 R (.tail _ (.tail _ (.head _)))) λT o items m i1 i2 i4 i3=>?_;obtain⟨x,y,z,w,u,v,rfl,z,q⟩:=q
 rcases z with⟨rfl,rfl⟩ |rfl
 ·revert i3
  apply r.c;intro v1 g r1 r;apply r.c;intro v2 g r2 r;apply r.c;intro v3 g r3 r;apply r.c;intro v4 g r4 r;apply r.n;apply rk.c;intro g g ru rk;apply rk.n;apply i4.c;intro d0 g e0 i4;apply i4.c;intro d1 g e1 i4;apply i4.c;intro d2 g e2 i4;apply i4.c;intro d3 g e3 i4;apply i4.n;intro i3;exact yi h1 (OD Z) (ps:=pD) (by decide) hr R (abU h2 i1 i2 h3 i3) (.cons r1 (.cons r2 (.cons r3 (.cons r4 (.cons e1 (.cons ru (.cons e3 .nil))))))) rfl q
 ·revert i3
  apply r.c;intro v1 g r1 r;apply r.c;intro v2 g r2 r;apply r.c;intro v3 g r3 r;apply r.c;intro v4 g r4 r;apply r.n;apply rk.c;intro g g ru rk;apply rk.c;intro g g rv rk;apply rk.n;apply i4.c;intro d0 g e0 i4;apply i4.c;intro d1 g e1 i4;apply i4.c;intro d2 g e2 i4;apply i4.c;intro d3 g e3 i4;apply i4.n;intro i3;exact yi h1 (OD Z) (ps:=pD) (by decide) hr R (abV h2 i1 i2 h3 i3) (.cons r1 (.cons r2 (.cons r3 (.cons r4 (.cons e1 (.cons ru (.cons rv .nil))))))) rfl q
noncomputable def OE:Tb c:=d5 Z (OC Z) 158 176 (abT Z)
theorem abW:bE c 6 (.ref 181) Bw:=gD Z 61 (OE Z)
noncomputable def OF:Tb c:=d5 Z (OE Z) 204 181 (abW Z)
theorem abX:bE c 7 (.ref 186) Gy:=gD Z 62 (OF Z)
noncomputable def OG:Tb c:=d5 Z (OF Z) 278 186 (abX Z)
theorem abY:bE c 2 (.ref 965) Gz:=gD Z 63 (OG Z)
noncomputable def OH:Tb c:=d5 Z (OG Z) 214 965 (abY Z)
theorem abZ:bE c 2 (.ref 972) jB:=gD Z 64 (OH Z)
noncomputable def OI:Tb c:=d5 Z (OH Z) 215 972 (abZ Z)
theorem ab0:bE c 3 (.ref 979) pG:=gD Z 65 (OI Z)
noncomputable def OJ:Tb c:=d5 Z (OI Z) 216 979 (ab0 Z)
theorem ab1:bE c 4 (.ref 986) GA:=gD Z 66 (OJ Z)
noncomputable def OK:Tb c:=d5 Z (OJ Z) 274 986 (ab1 Z)
theorem ab2:bE c 3 (.ref 991) GB:=gD Z 67 (OK Z)
noncomputable def OL:Tb c:=d5 Z (OK Z) 227 991 (ab2 Z)
theorem ab3:bE c 2 (.ref 998) GC:=gD Z 68 (OL Z)
noncomputable def OM:Tb c:=d5 Z (OL Z) 249 998 (ab3 Z)
theorem ab4:bE c 2 (.ref 1017) GD:=gD Z 69 ({OM Z with dk:=1})
noncomputable def ON:Tb c:=d5 Z (OM Z) 248 1017 (ab4 Z)
theorem ab5:bE c 4 (.ref 1024) GF:=gD Z 70 ({ON Z with dk:=2})
noncomputable def OO:Tb c:=d5 Z (ON Z) 217 1024 (ab5 Z)
theorem ab6:bE c 2 (.ref 1029) GG:=gD Z 71 (OO Z)
noncomputable def OP:Tb c:=d5 Z (OO Z) 268 1029 (ab6 Z)
theorem ab7:bE c 8 (.ref 1034) GH:=gD Z 72 (OP Z)
noncomputable def GI:Tb c:=d5 Z (OP Z) 279 1034 (ab7 Z)
end
section
open PySem.SeqAt
noncomputable def gJ(c:Cx)(n:Nat)(ks:Ks)(x:Expr)(m:EM):Prop:=
 ∀⦃A:bj⦄ ⦃env:Env⦄ ⦃e:aL⦄ ⦃σ:St⦄ ⦃s:aw⦄ ⦃Q:CV->St->Prop⦄,cO c n A env ks e σ s->m e σ Q->bz c.M A (eval x env) (cC c σ s Q) s
noncomputable def pH(c:Cx)(n:Nat)(ks:Ks)(xs:List Expr)(m:cV):Prop:=
 ∀⦃A:bj⦄ ⦃env:Env⦄ ⦃e:aL⦄ ⦃σ:St⦄ ⦃s:aw⦄ ⦃Q:List CV->St->Prop⦄ (pos:Pos),cO c n A env ks e σ s->m e σ Q->bz c.M A (spliced (dZ pos (cU xs env))) (yS c σ s Q) s
noncomputable def jk(c:Cx)(n:Nat)(ks:Ks)(x:Stmt)(m:SM):Prop:=
 ∀⦃A:bj⦄ ⦃env:Env⦄ ⦃e:aL⦄ ⦃σ:St⦄ ⦃s:aw⦄ ⦃Q:dy->aL->St->Prop⦄,cO c n A env ks e σ s->m e σ Q->bz c.M A (exec x env) (hU c env ks σ s Q) s
noncomputable def g7(c:Cx)(n:Nat)(ks:Ks)(x:List Stmt)(m:SM):Prop:=
 ∀⦃A:bj⦄ ⦃env:Env⦄ ⦃e:aL⦄ ⦃σ:St⦄ ⦃s:aw⦄ ⦃Q:dy->aL->St->Prop⦄,cO c n A env ks e σ s->m e σ Q->bz c.M A (execs x env) (hU c env ks σ s Q) s
noncomputable def kD(c:Cx)(n:Nat)(f:ak)(F:FM):Prop:=
 ∀⦃A:bj⦄ ⦃σ:St⦄ ⦃s:aw⦄ ⦃xs:List CV⦄ ⦃vs:List ak⦄ ⦃kx:KV⦄ ⦃kv:List (bx×ak)⦄ ⦃Q:CV->St->Prop⦄,fe n A->Rel c σ s.heap->aN s.heap xs vs->g6 s.heap kx kv->F xs kx σ Q->
  bz c.M A (call f vs kv) (cC c σ s Q) s
noncomputable def lZ(c:Cx)(n:Nat)(f:ak)(F:FM):Prop:=
 ∀⦃A:bj⦄ ⦃σ:St⦄ ⦃s:aw⦄ ⦃xs:List CV⦄ ⦃vs:List ak⦄ ⦃kx:KV⦄ ⦃kv:List (bx×ak)⦄ ⦃Q:CV->St->Prop⦄,fe n A->Rel c σ s.heap->aN s.heap xs vs->g6 s.heap kx kv->F xs kx σ Q->
  gh c.M A (.call f ⟨vs,kv⟩) (Cy c σ s Q) s
section
variable{c:Cx}{n:Nat}{ks:Ks}{A:bj}{env:Env}{e:aL}{σ:St}{s:aw}
theorem aH.g{x:Expr}{m:EM}(h:aH c n ks x m):gJ c n ks x m:=λA env e σ s Q N q=>gG (h N q)
theorem gZ.g{x:List Expr}{m:cV}(h:gZ c n ks x m):pH c n ks x m:=λA env e σ s Q p N q=>gG (h p N q)
theorem cF.g{x:Stmt}{m:SM}(h:cF c n ks x m):jk c n ks x m:=λA env e σ s Q N q=>gG (h N q)
theorem eQ.g{x:List Stmt}{m:SM}(h:eQ c n ks x m):g7 c n ks x m:=λA env e σ s Q N q=>gG (h N q)
theorem aU.g{f:ak}{F:FM}(h:aU c n f F):kD c n f F:=λA σ s xs vs kx kv Q a b d e q=>gG (h a b d e q)
theorem lZ.toF{F:FM}(h:lZ c n f F):kD c n f F:=λA σ s xs vs kx kv Q hr R r rk q=>C0 (afa (h hr R r rk q) λr s' z=>by
 induction r with
 |error e=>exact z.elim
 |ok f=>cases f<;>first |exact z |exact z.elim)
theorem qS{t:Sem ak}{Q1:CV->St->Prop}{R:ak->aw->Prop}(h:bz c.M A t (cC c σ s Q1) s)
  (k:∀x v ae s',aV s'.heap x v->bK c σ s ae s'->Q1 x ae->R v s'):bz c.M A t R s:=
 fC h (λv s' ⟨x,ae,r,w,q⟩=>k x v ae s' r w q)
theorem Tu{t:Sem (List ak)}{Q1:List CV->St->Prop}{R:List ak->aw->Prop}(h:bz c.M A t (yS c σ s Q1) s)
  (k:∀x v ae s',aN s'.heap x v->bK c σ s ae s'->Q1 x ae->R v s'):bz c.M A t R s:=
 fC h (λv s' ⟨x,ae,r,w,q⟩=>k x v ae s' r w q)
theorem afu{t:Sem Flow}{Q1:dy->aL->St->Prop}{R:Flow->aw->Prop}(h:bz c.M A t (hU c env ks σ s Q1) s)
  (k:∀fl f e' ae s',ub s'.heap fl f->c8 c (eU env ks) σ s ae s'->eY c env ks e' ae s'.heap->Q1 fl e' ae->R f s'):bz c.M A t R s:=
 fC h (λv s' ⟨fl,e',ae,r,w,f,q⟩=>k fl v e' ae s' r w f q)
theorem zm{t:Sem ak}(w:bK c σ s bT bg)(h:bz c.M A t (cC c bT bg Q) bg):bz c.M A t (cC c σ s Q) bg:=fC h (cC.after w)
theorem afv{t:Sem Flow}{Q:dy->aL->St->Prop}(w:c8 c (eU env ks) σ s bT bg)(h:bz c.M A t (hU c env ks bT bg Q) bg):bz c.M A t (hU c env ks σ s Q) bg:=fC h (hU.after w)
theorem pH.cons{x:Expr}{r:List Expr}{m:EM}{ms:cV}(h1:gJ c n ks x m)(h2:pH c n ks r ms)
  (he:autoParam (∀env,cU (x::r) env=(false,eval x env)::cU r env) aI):pH c n ks (x::r) (ag m ms):=λA wu e σ s Q pos N q=>by
 rw[he]
 exact afq (qS (h1 N q) λx v ao s1 r1 w1 q1=>Tu (h2 pos (N.bu w1) q1) λxs vs ay s2 r2 w2 q2=>
  ⟨x::xs,ay,.cons (r1.bu w1.rel w2) r2,w1.trans w2,q2⟩)
theorem gJ.bin{op:jw}{l r:Expr}{pos:Pos}{m1 m2:EM}(h1:gJ c n ks l m1)(h2:aH c n ks r m2):gJ c n ks (.BinOp l op r pos) (be op m1 m2):=λA env e σ s Q N q=>
 afc (qS (h1 N q) λx v ao s1 r1 w1 q1=>qS (gG (h2 (N.bu w1) q1)) λy w ay s2 r2 w2 q2=>
  zm (w1.trans w2) (gG (Qe w2.rel (r1.bu w1.rel w2) r2 q2)))
theorem IZ{pos:Pos}{fx:List CV}{F:FM}{m:Nat}(hk:dw c f)(hF:kD c m f F)(hm:m<=n)(h:pH c n ks args ms)(N:cO c n A env ks e σ s)(rf:aN s.heap fx first)
  (q:ms e σ λxs ae=>F (fx++xs) [] ae Q)(hp:∀env,(dZ pos (cU args env)).any (λx=>x.1)=false):bz c.M A (lW pos f first (dZ pos (cU args env)) []) (cC c σ s Q) s:=
 afs (P:=c.K.In) (hp env) hk (afr (hp env) (Tu (h pos N q) λxs vs ae s' r w q'=>
  ⟨c.jY.keeps w.rel.base,zm w (hF (N.room.le hm) w.rel ((rf.bu N.rel w).append r) .nil q')⟩))
theorem gJ.call{fx:Expr}{args:List Expr}{pos:Pos}{x:CV}{f:ak}{F:FM}{m:Nat}{ms:cV}(hf:aH c n ks fx (au x))(hx:tN x=some f)(hk:dw c f)(hF:kD c m f F)(hm:m<=n)(h:pH c n ks args ms)
  (he:autoParam (∀env,eval (.Call fx args [] pos) env=(do lW pos (<-eval fx env) [] (dZ pos (cU args env)) (lX pos (lU [] env)))) aI)
  (hp:autoParam (∀env,(dZ pos (cU args env)).any (λx=>x.1)=false) aI):gJ c n ks (.Call fx args [] pos) (aY F ms):=λA env e σ s Q N q=>by
 rw[he];refine bG (qS (gG (hf (Q:=λy ae=>y=x/\ae=σ) N ⟨rfl,rfl⟩)) λy v ao s1 r1 w1 q1=>?_);obtain⟨rfl,rfl⟩:=q1;rw[Cs r1 hx];exact zm w1 (IZ hk hF hm h (N.bu w1) .nil q hp)
theorem gJ.jA{o:Expr}{name:bx}{args:List Expr}{apos pos:Pos}{F:FM}{m C i f:Nat}{mo:EM}{ms:cV}{pl:Env->Sem Bool}(hx:nm i=name)(ho:aH c n ks o mo)(ht:rV C i f=true)(hF:kD c m (.ref f) F)(hm:m<=n)(h:pH c n ks args ms)
  (he:autoParam (∀env,eval (.Call (.Attribute o name apos) args [] pos) env=(do
   let ov <-eval o env
   oe apos.atName
   let(f,first) <-holding [ov] (tF ov name (pl env))
   lW pos f first (dZ pos (cU args env)) (lX pos (lU [] env)))) aI)
  (hp:autoParam (∀env,(dZ pos (cU args env)).any (λx=>x.1)=false) aI):gJ c n ks (.Call (.Attribute o name apos) args [] pos) (bN C i F mo ms):=λA env e σ s Q N q=>by
 subst hx;rw[he];refine bG (qS (gG (ho N q)) λx v ao s1 r1 w1 q1=>bG (gG (k0 (bG (gG (jf (Q9 ht w1.rel r1 q1.1 ?_)))))));obtain⟨_,_,_,_,k4⟩:=c.BC _ _ _ (Ii ht);exact zm w1 (IZ (dw.fn k4) hF hm h (N.bu w1) (.cons r1 .nil) q1.2 hp)
theorem gJ.pz{o:Expr}{name:bx}{args:List Expr}{apos pos:Pos}{F:FM}{m:Nat}{mo:EM}{ms:cV}{recv:CV->St->Prop}{id:String}{pl:Env->Sem Bool}(ho:aH c n ks o mo)(hb:c5 c name id recv)(hF:kD c m (.builtin id) F)(hm:m<=n)(h:pH c n ks args ms)
  (he:autoParam (∀env,eval (.Call (.Attribute o name apos) args [] pos) env=(do
   let ov <-eval o env
   oe apos.atName
   let(f,first) <-holding [ov] (tF ov name (pl env))
   lW pos f first (dZ pos (cU args env)) (lX pos (lU [] env)))) aI)
  (hp:autoParam (∀env,(dZ pos (cU args env)).any (λx=>x.1)=false) aI):gJ c n ks (.Call (.Attribute o name apos) args [] pos) (bJ recv F mo ms):=λA env e σ s Q N q=>by
 rw[he]
 exact bG (qS (gG (ho N q)) λx v ao s1 r1 w1 q1=>bG (gG (k0 (bG (gG (jf (hb w1.rel r1 q1.1
  (zm w1 (IZ (dw.bi id) hF hm h (N.bu w1) (.cons r1 .nil) q1.2 hp)))))))))
theorem g7.cons{x:Stmt}{xs:List Stmt}{m1 m2:SM}(h1:jk c n ks x m1)(h2:g7 c n ks xs m2):g7 c n ks (x::xs) (ah m1 m2):=λA env e σ s Q N q=>by
 refine afe (afu (h1 N q) λfl f e' ae s' r w F q'=>?_)
 induction r with
 |next=>exact afv w (h2 (N.moved F w.rel) q')
 |brk=>exact⟨_,_,_,.brk,w,F,q'⟩
 |cont=>exact⟨_,_,_,.cont,w,F,q'⟩
 |ret r=>exact⟨_,_,_,.ret r,w,F,q'⟩
theorem jk.assign{t x:Expr}{pos:Pos}{m:EM}{a:AM}(h:gJ c n ks x m)(ha:eG c n ks (pv ks) t a)
  (hs:∀env,jj c env ks->swapsWithSole [t] x pos.line env=pure false)(hw:∀env,jj c env ks->qt [t] x env=pure none)(he:autoParam (∀env,qw [t] env=[(false,AY t env)]) aI):jk c n ks (.Assign [t] x pos) (aP m a):=λA env e σ s Q N q=>by
 rw[exec_Assign,hs _ N.ok];refine bG (gG (k0 (bG (dC ?_))))
 rw[if_neg (by decide)]
 refine bG (qS (h N q) λy v ao s1 r w q1=>?_);rw[hw _ N.ok];refine bG (dC ?_)
 show bz c.M A (do assignAll v ((qw [t] env).map (λx=>x.2));pure Flow.next) _ _
 rw[he];exact gG (aC (wA (ha (N.bu w) r q1) λe' ae s' w' f' q'=>aO ⟨_,_,_,.next,(w.dA _).trans w',f',q'⟩))
theorem jk.expr{x:Expr}{pos:Pos}{m:EM}(h:gJ c n ks x m)(hs:autoParam (∀env,mS x none pos.line env=pure false) aI):jk c n ks (.Expr x pos) (cw m):=λA wu e σ s Q N q=>
 afg (qS (h N q) λy v ao s1 r w q1=>⟨_,_,_,.next,w.dA _,(N.bu w).fr,q1⟩) (QM N.ok) (hs _)
theorem jk.ret{x:Expr}{pos:Pos}{m:EM}(h:gJ c n ks x m):jk c n ks (.Return (some x) pos) (bh m):=λA env e σ s Q N q=>
 aff (qS (h N q) λy v ao s1 r w q1=>⟨_,_,_,.ret r,w.dA _,(N.bu w).fr,q1⟩)
theorem jk.while{x:Expr}{b:List Stmt}{pos:Pos}{t:TM}{mb:SM}(h:gI c n ks x t)(hb:g7 c n ks b mb):jk c n ks (.While x b [] pos) (jE t mb):=λA env e σ s Q N q=>by
 obtain⟨I,k,h0,step⟩:=q;refine afi (afj (λk s'=>∃e' ae,c8 c (eU env ks) σ s ae s'/\eY c env ks e' ae s'.heap/\I k e' ae) (λk s' hI=>?_) k ⟨e,σ,(bK.refl N.rel).dA _,N.fr,h0⟩);refine jg hI λe' ae w f hI=>?_;refine fC (Q:=mf c ae s' _) (gG (h _ rfl (N.moved f w.rel) (step k e' ae hI))) (λv s2 q2=>?_);obtain⟨ay,w2,q2⟩:=q2;have N2:=(N.moved f w.rel).bu w2;have nh:=w.trans (w2.dA (eU env ks))
 induction v with
 |false=>
  simp only[pe,if_false]at q2 ⊢
  exact gG (EZ ⟨_,_,_,.next,nh,N2.fr,q2⟩)
 |true=>
  simp only[if_true]at q2 ⊢;refine fC (Q:=hU c env ks ay s2 _) (hb N2 q2) (λfl s3 q3=>?_);obtain⟨Ia,e3,aQ,r3,w3,f3,q3⟩:=q3;have iI:=nh.trans w3
  induction r3 with
  |next=>obtain⟨m,hm,q3⟩:=q3;exact⟨m,hm,e3,aQ,iI,f3,q3⟩
  |cont=>obtain⟨m,hm,q3⟩:=q3;exact⟨m,hm,e3,aQ,iI,f3,q3⟩
  |brk=>exact⟨_,_,_,.next,iI,f3,q3⟩
  |ret r=>exact⟨_,_,_,.ret r,iI,f3,q3⟩
theorem jk.for{t x:Expr}{b:List Stmt}{pos:Pos}{it:IM}{a:AM}{mb:SM}(hi:jU c n ks t x it)(ha:eG c n ks (pv ks) t a)(hb:g7 c n ks b mb)
  (hs:autoParam (∀env v,xH x env v=pure v) aJ):jk c n ks (.For t x b [] pos) (cY it a mb):=λA env e σ s Q N q=>by
 refine afk (b0 (hi N q) (λxv bq d8=>b0 d8 (λit bg dP=>?_) λu u z=>z) λu u z=>z) (hs _);obtain⟨I,fp,items,ok,S,ae,rfl,W,hS,mh,w,q⟩:=dP;have Ib:Apart s ae fp:=⟨λb hb=>(mh b hb).1,λb hb=>(mh b hb).2⟩;obtain⟨Inv,jF⟩:∃Inv:Nat->aw->Prop,∀k s',Inv k s'↔∃i e' ae,k=items.length- i/\i<=items.length/\S i s'.heap/\c8 c (eU env ks) σ s ae s'/\eY c env ks e' ae s'.heap/\Apart s ae fp/\gc ok a mb Q (items.drop i) e' ae:=⟨_,λu u=>Iff.rfl⟩;refine afl Inv (λk s' hI=>cps λG g=>?_) items.length ((jF _ _).2 ⟨0,e,ae,rfl,dE _,hS,w.dA _,(N.bu w).fr,Ib,q⟩);refine A9 ((jF _ _).1 hI) λi e' ae aq ff hS w f ap q=>?_;subst aq;refine g ?_;clear g hI;have base:=ap.base (σ₀:=σ) N.rel
 have nt:∀b∈fp,∀items n,s'.heap.get? b≠some (d7 items n):=λb hb items n z=>by refine a9 (W.here hS b hb) λo ho hn=>?_;rw[ho]at z;exact hn _ _ (bt z)
 cases hx:items[i]? with
 |none=>
  have jG:i=items.length:=qq ff (YE.1 hx);subst jG;rw[L1]at q;refine W.done N.room.h w.rel q.1 hS λh' tk k=>?_;have R':=w.rel.moved k nt λb hb=>⟨ap.out b hb,base b hb⟩
  exact gG (EZ ⟨_,_,_,.next,w.moved R' k ap.new,eY.Cp N ap f k nt,q.2⟩)
 |some y=>
  obtain⟨ck,rfl⟩:=List.getElem?_eq_some_iff.mp hx;rw[Lf ck]at q;obtain⟨q0,q⟩:=q
  refine W.next N.room.h w.rel q0 hx hS λv h1 tk go=>go λh' rv gu k=>?_
  ·have R':=w.rel.moved k nt λb hb=>⟨ap.out b hb,base b hb⟩
   have w':=w.moved (t:=tk) R' k ap.new;have f':=eY.Cp N ap f k nt
   have N':cO c n A env ks e' ae {s' with heap:=h',toks:=tk}:=N.moved f' R'
   refine b0 (Q:=kM c (eU env ks) env ks ae _ _) (E:=No) (ha N' rv q) (λu s2 q2=>cps λG g=>?_) λu u z=>z.elim;obtain⟨e2,ay,w2,f2,q2⟩:=q2;refine g ?_;clear g;refine fC (Q:=hU c env ks ay s2 _) (hb (N'.moved f2 w2.rel) q2) (λfl s3 q3=>cps λG g=>?_);obtain⟨Ia,e3,aQ,r3,w3,f3,q3⟩:=q3;refine g ?_;clear g;have qM:=w2.trans w3;have iI:=w'.trans qM;have tu:=bK.yZ N' qM;have nf:=ap.frame N
   have keep:∀b∈fp,∀o,h'.get? b=some o->s3.heap.get? b=some o:=λb hb o eo=>qM.ext.keep b o (nf b hb).2 eo λz hz=>by exact bo ((ap.out b hb).symm.trans hz)
   have S3:S (i+1) s3.heap:=W.move gu keep tu
   have Ic:Apart s aQ fp:=⟨ap.new,λb hb=>by
     refine a9 (W.here gu b hb) λo ho zz=>?_
     exact qM.ext.gg b o (nf b hb).2 ho (ap.out b hb)⟩
   have again:gc ok a mb Q (items.drop (i+1)) e3 aQ->∃m,m<items.length- i/\Inv m s3:=
    λq=>⟨items.length- (i+1),Ls ck (kZ i),(jF _ _).2 ⟨i+1,e3,aQ,rfl,ck,S3,iI,f3,Ic,q⟩⟩
   induction r3 with
   |next=>exact again q3
   |cont=>exact again q3
   |brk=>exact⟨_,_,_,.next,iI,f3,q3⟩
   |ret r=>exact⟨_,_,_,.ret r,iI,f3,q3⟩
end
end
noncomputable abbrev RE(c:Cx)(n:Nat)(ks:Ks)(x:Expr):={m:EM // gJ c n ks x m/\Ba x}×Fo (∀line env,mS x none line env=pure false)
noncomputable abbrev RLG(c:Cx)(n:Nat)(ks:Ks)(xs:List Expr):={m:cV // pH c n ks xs m/\∀pos env,(dZ pos (cU xs env)).any (λx=>x.1)=false}
noncomputable abbrev Fg(c:Cx):={d:Nat×CV×ak×Nat×FM // x3 c d.1 d.2.1/\tN d.2.1=some d.2.2.1/\dw c d.2.2.1/\kD c d.2.2.2.1 d.2.2.1 d.2.2.2.2}
noncomputable abbrev Mg(c:Cx):={d:Nat×Nat×Nat×Nat×FM // rV d.2.1 d.1 d.2.2.1=true/\kD c d.2.2.2.1 (.ref d.2.2.1) d.2.2.2.2}
noncomputable abbrev Bg(c:Cx):={d:Str×String×(CV->St->Prop)×Nat×FM // c5 c d.1 d.2.1 d.2.2.1/\kD c d.2.2.2.1 (.builtin d.2.1) d.2.2.2.2}
section
variable{c:Cx}{n:Nat}(T:Tb c)(gf:List (Fg c))(gm:List (Mg c))(gb:List (Bg c))(r:Rc c (n+1))(ks:Ks)
section
variable(g:(x:Expr)->Option (RE c (n+1) ks x))
theorem RE.h{x:Expr}(a:RE c n ks x):gJ c n ks x a.1.1:=a.1.2.1
noncomputable def gL:(xs:List Expr)->Option (RLG c (n+1) ks xs)
 |[]=>some ⟨ar,@gZ.g _ _ _ _ _ (@gZ.nil _ _ _),λz z=>rfl⟩
 |x::xs=>(g x).bind λa=>(gL xs).map λb=>⟨ag a.1.1 b.1,@pH.cons _ _ _ _ _ _ _ (@RE.h _ _ _ _ a) (@f7 _ _ b.2) (a.1.2.2 xs),λpos env=>by rw[a.1.2.2];exact b.2.2 pos env⟩
noncomputable def gCa(f:Expr)(a:List Expr)(p:Pos):Option {m:EM // gJ c (n+1) ks (.Call f a [] p) m}:=Bc (M:=λf=>Option {m:EM // gJ c (n+1) ks (.Call f a [] p) m}) (λz=>none)
 (λid q=>(ku id).bind λi=>(gf.find? λe=>rQ e.1.1 i.1).bind λe=>(gL ks g a).bind λms=>
  if h:nm e.1.1=id/\ks.lookup e.1.1=some .globalImplicit/\e.1.1≠rW/\e.1.2.2.2.1<=n+1 then some ⟨_,@gJ.call _ _ _ _ _ _ _ _ _ _ _ (@aH.glob _ _ _ _ _ _ e.1.1 h.1 h.2.1 h.2.2.1 e.2.1) e.2.2.1 e.2.2.2.1 (@vC _ _ e.2.2.2) h.2.2.2 (@f7 _ _ ms.2) (λz=>rfl) (ms.2.2 p)⟩else none)
 (λo x q=>(r.e ks o).bind λmo=>mo.ba.bind λhb=>(gL ks g a).bind λms=>(ku x).bind λi=>
  if h:(q.endLine==p.line)=true/\lg a.length 30=true then
   ((gm.find? λe=>rQ e.1.1 i.1).bind λe=>if k:nm e.1.1=x/\e.1.2.2.2.1<=n+1 then some ⟨_,@gJ.jA _ _ _ _ _ _ _ _ _ _ _ _ _ _ _ _ k.1 (@RX.h _ _ _ _ mo) e.2.1 (@vC _ _ e.2) k.2 (@f7 _ _ ms.2) (Bb hb.down ms.2.2 h.1 h.2) (ms.2.2 p)⟩else none).or
   ((gb.find? λe=>e.1.1==x).bind λe=>if k:e.1.1=x/\e.1.2.2.2.1<=n+1 then some ⟨_,@gJ.pz _ _ _ _ _ _ _ _ _ _ _ _ _ _ _ (@RX.h _ _ _ _ mo) (@c5.to _ _ _ _ _ k.1 (@f7 _ _ e.2)) (@vC _ _ e.2) k.2 (@f7 _ _ ms.2) (Bb hb.down ms.2.2 h.1 h.2) (ms.2.2 p)⟩else none)
  else none)
 (λz z z=>none) f
noncomputable def gE1:(x:Expr)->Option (RE c (n+1) ks x):=mY (λz=>none) (λz z z=>none)
 (λl o y p=>(g l).bind λa=>(r.e ks y).map λb=>⟨⟨_,@gJ.bin _ _ _ _ _ _ _ _ _ (@RE.h _ _ _ _ a) (@RX.h _ _ _ _ b),λz z=>rfl⟩,none⟩)
 (λz z z=>none) (λz z z z=>none) (λz z z=>none) (λz z z z=>none) (λz z z z=>none)
 (λf a k p=>match k with
  |[]=>(gCa gf gm gb r ks g f a p).map λm=>⟨⟨m.1,@eZ _ _ m,λz z=>rfl⟩,some ⟨λz z=>rfl⟩⟩
  |_=>none)
 (λz z z=>none) (λz z z=>none) (λz z z=>none) (λz z=>none) (λz z=>none) (λz z z=>none) (λz z z z=>none)
end
noncomputable def gE:Nat->(x:Expr)->Option (RE c (n+1) ks x)
 |0=>λz=>none
 |k+1=>λx=>((r.e ks x).map λa=>(⟨⟨a.m,@aH.g _ _ _ _ _ (@RX.h _ _ _ _ a),a.st⟩,a.2.2.2⟩:RE c (n+1) ks x)).or (gE1 gf gm gb r ks (gE k) x)
noncomputable abbrev OQ(c:Cx)(n:Nat)(ks:Ks)(x:Stmt):={m:SM // jk c n ks x m}
section
variable(gs:(xs:List Stmt)->{m:SM // g7 c (n+1) ks xs m})
noncomputable def gS1:(x:Stmt)->Option (OQ c (n+1) ks x):=M0 (λx=>none)
 (λo p=>match o with
  |none=>none
  |some x=>(gE gf gm gb r ks 9 x).map λa=>⟨_,@jk.ret _ _ _ _ _ _ (@RE.h _ _ _ _ a)⟩)
 (λt x p=>((M1 T r ks t x p).or (M2 r ks t x p)).elim ((gE gf gm gb r ks 9 x).bind λa=>(pureOf (mS x (some t) p.line (m4 ks))).bind λb=>(pureOf (qt [t] x (m4 ks))).bind λw=>if h:b.1=false/\w.1=none then
   (kA r ks (X:=pv ks) (Bf ks) (λz z h=>h) t).map λm=>(⟨_,@jk.assign _ _ _ _ _ _ _ _ (@RE.h _ _ _ _ a) (@f7 _ _ m.2) (λenv N=>(sw_eq N _ _ _).1.trans (h.1▸b.2)) (λenv N=>(FE N _ _).trans (h.2▸w.2)) (m.2.2 [])⟩:OQ c (n+1) ks (.Assign [t] x p))else none) λm=>some ⟨m.1,@cF.g _ _ _ _ _ (@eZ _ _ m)⟩)
 (λz z z z=>none)
 (λt x b p=>(kI T r ks t x).bind λi=>(kA r ks (X:=pv ks) (Bf ks) (λz z h=>h) t).map λa=>⟨_,@jk.for _ _ _ _ _ _ _ _ _ _ (@f7 _ _ i.2) (@f7 _ _ a.2) (@eZ _ _ (gs b)) i.2.2⟩)
 (λx b p=>(r.b ks x).map λt=>⟨_,@jk.while _ _ _ _ _ _ _ _ (@eZ _ _ t) (@eZ _ _ (gs b))⟩)
 (λz z z z=>none)
 (λx p=>(gE gf gm gb r ks 9 x).bind λa=>a.2.map λh=>⟨_,@jk.expr _ _ _ _ _ _ (@RE.h _ _ _ _ a) (h.down p.line)⟩)
 (λp=>none) (λp=>none)
noncomputable def OR:(xs:List Stmt)->{m:SM // g7 c (n+1) ks xs m}
 |[]=>⟨_,@eQ.g _ _ _ _ _ (@eQ.nil _ _ _)⟩
 |x::xs=>⟨_,@g7.cons _ _ _ _ _ _ _ (@eZ _ _ ((gS1 T gf gm gb r ks gs x).getD ⟨_,@cF.g _ _ _ _ _ (@eZ _ _ (M3 T r ks x))⟩)) (@eZ _ _ (OR xs))⟩
end
noncomputable def gS:Nat->(xs:List Stmt)->{m:SM // g7 c (n+1) ks xs m}
 |0=>λxs=>⟨_,@eQ.g _ _ _ _ _ (@eZ _ _ (r.s ks xs))⟩
 |k+1=>OR T gf gm gb r ks (gS k)
end
section
open PySem.SeqAt
section
variable{c:Cx}{n:Nat}{A:bj}{σ:St}{s:aw}
theorem afw{f:Addr}{m:SM}(ok:vI c f fd body ks)(hm:g7 c n ks body m){ze:List ak}
  (dR:∀i∈ps,fO (ks.lookup i)=true)(ml:fe (n+1) A)(R:Rel c σ s.heap)(hb:rR s fd ⟨ze,kv⟩ ((ps.map nm).zip vs))(r:aN s.heap xs vs)(hl:xs.length=ps.length)(q:ui m (eW ps xs λz=>none) σ Q):
  gh c.M A (.call (.ref f) ⟨ze,kv⟩) (Cy c σ s Q) s:=by
 refine a9 ok.at_ λo ho hd=>?_;have X:=c.jY.keeps R.base
 have nj:∀i∈ps,i<nN:=λi hi=>by
  rcases oF (dR i hi)with h |h<;>exact ok.small _ (lookup_mem h)
 have zf:∀{i:Nat},i<nN->fd.scope.names.lookup (nm i)=ks.lookup i:=λ{i} hi=>by rw[ok.names];exact yQ ok.small hi
 refine afn ml.depth (X _ _ ho) hd ok.co ok.gen ok.body (codeRec_of X ok.code) (hb _ _ _ _ ?_);rw[ok.Ri,ok.glob,ok.blt]
 refine ale ok.kind (λx hx=>?_) λenv he s' ic=>?_
 ·have Ik:=(List.of_mem_zip (show(x.1,x.2)∈_ from hx)).1
  refine a9 (List.mem_map.mp Ik) λi hi Il=>?_;rw[<-Il,zf (nj i hi)]
  rcases oF (dR i hi)with h |h
  ·exact .inl h
  ·refine .inr ⟨h,uh _ _ _ _ (.inl ?_)⟩
   rw[ok.names];exact List.mem_map.mpr ⟨(i,.cell),lookup_mem h,rfl⟩
 ·have oG:env.scope=fd.scope:=by rw[he];rfl
  have jm:∀{i:Nat},i<nN->env.kindOf (nm i)=ks.lookup i:=λ{i} hi=>by unfold Env.kindOf;rw[oG];exact zf hi
  have hL:env.locals=s.heap.objs.size:=by rw[he];rfl
  have keep:=ic.toInCall.keep;have new:∀b,s.heap.objs.size<=b->s.heap.get? b=none:=λb hb=>EI hb
  have nu:s.heap.get? env.locals=none:=new _ (by rw[hL];exact cP _)
  have uj:∀{x a},env.cells.lookup x=some a->s.heap.get? a=none:=λ{x a} h=>new _ (by
   have:=ic.above _ _ (mem_of_lookup h);rw[hL]at this;exact iQ this)
  have R':Rel c σ s'.heap:=R.kept keep
  have e1:∃h' tk,s'={s with heap:=h',toks:=tk}:=ic.toInCall.same
  refine gF e1 λh' tk aq=>?_;clear e1;subst aq
  have B:Bound h' env _ _ (eW ps xs λz=>none):=Bound.go (m:=λz=>none) (cm:=λz=>none) nj hl (r.bQ λb items n e=>keep b _ e) λi v z hv=>by exact bo hv
  have ap:∀i j a,i<nN->j<nN->env.cells.lookup (nm i)=some a->env.cells.lookup (nm j)=some a->i=j:=λi j a hi hj h1 h2=>
   oE hi hj (name_of_addr ic.apart (mem_of_lookup h1) (mem_of_lookup h2))
  have uk:jj c env ks:=⟨by rw[oG];exact ok.names,ok.small,by rw[oG];exact ok.kind,by rw[he];rfl,by rw[he];rfl,ap⟩
  have fr:eY c env ks (eW ps xs λz=>none) σ h':=by
   refine⟨⟨_,ic.toInCall.ns,λi v hi hv=>?_⟩,R.fresh nu,R.out nu,λi hi=>?_⟩
   ·have ff:=uk.lt hi
    exact(B i v ff hv).1 (by rw[jm ff];exact hi)
   ·have um:ks.lookup i=some .cell:=by
     rcases hi with h |h
     ·exact h
     ·exact absurd rfl (ok.free _ (lookup_mem h))
    have ff:=uk.lt um
    have:(env.cells.lookup (nm i)).isSome=true:=by
     rw[he];refine uh _ _ _ _ (.inl ?_);rw[ok.names];exact List.mem_map.mpr ⟨(i,.cell),lookup_mem um,rfl⟩
    obtain⟨a,ha⟩:=Option.isSome_iff_exists.mp this;refine⟨a,_,ha,ic.cell _ _ ha,R.fresh (uj ha),R.out (uj ha),λv hv=>?_⟩
    exact(B i v ff hv).2 (by rw[jm ff,um];simp)
  have N:cO c n (A.deeper env) env ks (eW ps xs λz=>none) σ {s with heap:=h',toks:=tk}:=⟨ml.deeper,uk,fr,R'⟩
  refine⟨c.GN.keeps R'.base,afm ?_⟩;refine fC (hm N q) (λf j4 hq=>?_);obtain⟨fl,e',ae,rf,w,_,q'⟩:=hq
  have ext:Ext σ s.heap ae j4.heap:=lG.ext (Ext.kept keep) w.ext λb hb=>by
   rcases hb with rfl |⟨i,_,hc⟩
   ·exact nu
   ·exact uj hc
  have W:bK c σ s ae j4:=⟨w.rel,ext,w.gens,w.os⟩
  induction rf with
  |next=>exact⟨_,_,.none,W,q'⟩
  |brk=>exact q'.elim
  |cont=>exact q'.elim
  |ret r=>exact⟨_,_,r,W,q'⟩
theorem lZ.def{f:Addr}{m:SM}(ok:vI c f fd body ks)(hm:g7 c n ks body m)(ps:List Nat)(dR:∀i∈ps,fO (ks.lookup i)=true)(hn:ps.Nodup)
  (hp:qz fd.params=true)(ha:fd.params.args.map (λx=>x.arg)=ps.map nm)(hd:vJ c.K fd.defaults=true):lZ c (n+1) (.ref f) (bD ps m):=λA σ s xs vs kx kv Q hr R r rk q=>by
 obtain⟨hl,rfl,q⟩:=q;cases rk
 have nj:∀i∈ps,i<nN:=λi hi=>by
  rcases oF (dR i hi)with h |h<;>exact ok.small _ (lookup_mem h)
 exact afw ok hm dR hr R (Rh hp ha nj hn (by rw[<-r.length,hl]) (Rk hd R)) r hl q
end
end
section
open PySem.SeqAt
theorem Tv:mroOf (.type "bytearray")=pure [.type "bytearray",.type "object"]:=by rw[mroOf_type];kernel_rfl
theorem afx:tD (.type "bytearray") "__new__"=pure (some (.builtin "bytearray.__new__")):=by rw[iO,iM];kernel_rfl
theorem C1:TypeCalled "bytearray" "bytearray.__new__" "bytearray.__init__":=
 ⟨by decide+kernel,by decide+kernel,⟨_,_,Tv⟩,madeBy_type Tv afx (by decide+kernel),by decide+kernel,by rw[lT];kernel_rfl,CQ⟩
theorem afy:checkTypeCall "bytearray" ⟨[],[]⟩=pure ():=by kernel_rfl
theorem afz:EW "bytearray.__new__" ⟨[.type "bytearray"],[]⟩=pure ():=by kernel_rfl
theorem afA:jx table "bytearray.__new__"=some Builtin.«list.__new__»:=entryFor_alias (id':="list.__new__") (by kernel_rfl) rfl (by decide+kernel) (by kernel_rfl)
theorem afB:("bytearray.__new__".splitOn ".__new__").headD ""="bytearray":=by simp+decide [String.splitOn,String.splitOnAux]
theorem I0:isSubtype (.type "bytearray") (.type "bytearray")=pure true:=by rw[lT];kernel_rfl
section
variable{prog:dv}{w:cM}{A:bj}{E:ak->aw->Prop}{s:aw}
theorem afC{Q₁:ak->aw->Prop}(h:Q₁ (.ref s.heap.objs.size) {s with heap:=s.heap.push {cls:=.type "bytearray",data:=.bytearray #[]}}):
  rS (model prog w) A (.call (.builtin "bytearray.__new__") ⟨[.type "bytearray"],[]⟩) (wants Q₁ E) s:=by
 refine codeAny_of_tree ?_
 show aM _ A.in1 (do EW "bytearray.__new__" ⟨[.type "bytearray"],[]⟩;again (.builtin "bytearray.__new__" ⟨[.type "bytearray"],[]⟩)) _ _ s
 refine aC (eF afz (aO ⟨xP (by decide+kernel) _,codeAny_builtin_stack afA rfl λp st=>?_⟩))
 rw[xF (by decide+kernel) _]
 have zp:=I0;have afD:=afB;obtain⟨hp,g,d,tk,os⟩:=s;dsimp only;rw[afD];wp_walk;exact h
theorem afE{P:String->Prop}(h:∀i∈Tq,P i){id:String}(hb:wM id=false):P id:=h id (vo.1 (rE _▸hb))
theorem Tw{M:fA}{self:ak}{Q:Bool->aw->Prop}(h:Q false s):bz M A (alB self) Q s:=λΓ p eD n=>by
 unfold alB;show Q (((Γ.code,p)::Γ.below).any _) s
 rw[List.any_eq_false.mpr]
 ·exact h
 ·rintro⟨c,q⟩ hx
  refine Bool.eq_false_iff.1 ?_
  have hb:j6 c=false:=by
   rcases List.mem_cons.mp hx with e |hx
   ·cases e;exact n.code
   ·exact n.below _ hx
  induction c with
  |builtin id a=>
   obtain⟨vs,kw⟩:=a
   rcases afE (P:=λid=>id="claim.caller"\/id="bytearray.append"\/id="type.__call__"\/id="bytearray.__init__") (by decide) hb with rfl |rfl |rfl |rfl
   all_goals
    induction vs with
    |nil=>kernel_rfl
    |cons v vs=>exact Eq.trans (b:=Builtin.Bytes.sameRef v self&&false) (by kernel_rfl) (Bool.and_false _)
  |_=>rfl
theorem Tx{b:Array UInt8}{o:Obj}{Q:Nat->aw->Prop}{M:fA}(ho:s.heap.get? a=some o)(hd:o.data=.bytearray b 0)(h:Q 0 s):aM M A (alv (.ref a)) Q E s:=by
 unfold alv;refine aC (tE ho ?_);rw[hd];exact aO h
theorem I1{b:Array UInt8}{f:Array UInt8->Array UInt8}{Q:Unit->aw->Prop}{M:fA}(ho:s.heap.get? a=some {cls:=.type "bytearray",data:=.bytearray b})
  (hz:(f b).size<=mT)(h:∀h',h'.get? a=some {cls:=.type "bytearray",data:=.bytearray (f b)}->ju a s.heap h'->Q () {s with heap:=h'}):aM M A (Builtin.Bytes.write (.ref a) f) Q E s:=by
 unfold Builtin.Bytes.write updateBytearray;refine aC (tE ho ?_);refine aC (wpAny_update ho ?_);have hg:(s.heap.update a (Obj.mapBytearray f)).get? a=some {cls:=.type "bytearray",data:=.bytearray (f b)}:=rD _ ho rfl;refine wpAny_lookBehind hg ?_ (h _ hg (mJ ..));unfold Data.pastItsLine;simp;exact hz
end
theorem afF:tD (.type "bytearray") "__bytes__"=pure none:=by rw[iO,iM];kernel_rfl
theorem afG:tD (.type "bytearray") "__index__"=pure none:=by rw[iO,iM];kernel_rfl
theorem I2:tD (.type "bytearray") "__buffer__"=pure (some (.builtin "bytearray.__buffer__")):=by rw[iO,iM];kernel_rfl
theorem afH:tD (.type "bytearray") "__release_buffer__"=pure (some (.builtin "bytearray.__release_buffer__")):=by rw[iO,iM];kernel_rfl
section
variable{prog:dv}{w:cM}{A:bj}{E:ak->aw->Prop}{s:aw}
theorem Tz{b:Array UInt8}{name id:String}{Q:Bool->aw->Prop}(hg:s.heap.get? a=some {cls:=.type "bytearray",data:=.bytearray b})(hl:tD (.type "bytearray") (name:Str)=pure (some (.builtin id)))
  (he:id.endsWith ("."++name)=true)(hd:id.dropRight (name.length+1)="bytearray")(q:Q true s):aM (model prog w) A (alw (.ref a) name) Q E s:=by
 have hT:s.TypeIs (.ref a) "bytearray":=⟨_,hg,rfl⟩;unfold alw;refine aC (vw hT hl ?_);dsimp only
 rw[if_neg (by rw[he];decide)]
 rw[hd];exact AJ hT I0 q
theorem TK{b:Array UInt8}{Q:Bool->aw->Prop}(hg:s.heap.get? a=some {cls:=.type "bytearray",data:=.bytearray b})(q:Q false s):aM (model prog w) A (alr (.ref a)) Q E s:=by
 unfold alr
 exact aC (Tz hg afH (by decide+kernel) (by decide+kernel) (aO q))
theorem TL{b:Array UInt8}{Q:Array UInt8->aw->Prop}{M:fA}(hg:s.heap.get? a=some {cls:=.type "bytearray",data:=.bytearray b})(q:Q b s):aM M A (Builtin.Bytes.payload (.ref a)) Q E s:=by
 unfold Builtin.Bytes.payload Builtin.Bytes.payload?;exact aC (aC (tE hg (aO (aO q))))
theorem afI{b:Array UInt8}{id:String}{f:Bool}{Q:Option (Array UInt8)->aw->Prop}(hg:s.heap.get? a=some {cls:=.type "bytearray",data:=.bytearray b})(q:Q (some b) s):aM (model prog w) A (Ay id (.ref a) f) Q E s:=by
 have hT:s.TypeIs (.ref a) "bytearray":=⟨_,hg,rfl⟩;unfold Ay;refine aC (vw hT I2 ?_)
 refine aC (Tz hg I2 (by decide+kernel) (by decide+kernel) ?_)
 refine qP rfl ?_;refine aC (vw hT I2 ?_);dsimp only;refine aC (TK hg ?_);refine qP rfl ?_;exact aC (TL hg (aO q))
theorem afJ(a:Addr)(b:Array UInt8)(hz:b.size<=mT):Meets (Builtin.«bytes.__new__» ⟨[.type "bytes",.ref a],[]⟩) (λz R s=>s.heap.get? a=some {cls:=.type "bytearray",data:=.bytearray b}/\∀t k,R (.ok (.ret (.bytes b t))) {s with toks:=k}):=by
 refine .of_wp λprog w A R s ⟨hg,h⟩=>?_;have hT:s.TypeIs (.ref a) "bytearray":=⟨_,hg,rfl⟩;unfold Builtin.«bytes.__new__»;refine aC (eF (a:=true) rfl ?_);refine qP rfl ?_;refine aC (eF F.bm_sub ?_);refine qP rfl ?_;refine aC (eF (F.bm_bind _) ?_);refine aC (eF (a:=()) rfl ?_);refine aC (eF (a:=()) rfl ?_);refine qP rfl ?_;refine aC (vw hT afF ?_);refine aC (aC ?_);show aM _ _ (load a >>= _) _ _ _;refine aC (tE hg ?_);refine aO (aO ?_);refine qP rfl ?_;refine aC (vw hT afG ?_)
 rw[if_pos (by rfl)]
 first
  |show aM _ _ (Ay "bytes.__new__" (.ref a) true >>= _) _ _ _
  |(refine aC ?_;show aM _ _ (Ay "bytes.__new__" (.ref a) true >>= _) _ _ _)
 refine aC (afI hg ?_);dsimp only;refine aC (rP (aC (Mj ?_ hz)))
 first
  |exact aO ⟨_,rfl,h _ _⟩
  |exact aO (aO ⟨_,rfl,h _ _⟩)
end
theorem afK(a:Args):j6 (.builtin "bytearray.append" a)=false:=by
 show wM "bytearray.append"=false
 decide+kernel
section
variable{c:Cx}{n:Nat}{A:bj}{σ:St}{s:aw}
theorem TN{id:String}{args:Args}{B:Builtin}{R:lj->aw->Prop}(hp:plainId id=true)(hb:j6 (.builtin id args)=false)(entry:jx table id=some B)
  (h:aM c.M A.in1 (EW id args) (λo bq=>bz c.M A.in1 (B args) (λfin s'=>match fin with |.done f=>R (.ok f) s' |.again c'=>c'.quiet=true/\j6 c'=false/\gh c.M A c' R s') bq) (λo o=>False) s):
  gh c.M A (.call (.builtin id) args) R s:=by
 refine sJ ?_
 show bz _ A.in1 (do EW id args;again (.builtin id args)) _ s
 refine bG (gG (b0 h (λo bq d8=>dC ⟨xP hp _,hb,sJ ?_⟩) λo o z=>z));rw[xF hp _]
 show bz _ _ (match jx table id with |some b=>b args |none=>unsupported ((withoutEnding? id "#data").getD id)) _ bq
 rw[entry];exact d8
theorem sL(R:Rel c σ s.heap)(h:σ a=some (.ba b)):s.heap.get? a=some {cls:=.type "bytearray",data:=.bytearray b.toArray}:=(R.objs _ _ h).2
theorem TO{b':List UInt8}(R:Rel c σ s.heap)(h:σ a=some (.ba b))(hg:h'.get? a=some {cls:=.type "bytearray",data:=.bytearray b'.toArray})(hs:ju a s.heap h')(q:Q .none (upd σ a (.ba b'))):cC c σ s Q .none {s with heap:=h'}:=
 ⟨.none,_,.none,⟨R.set (y:=.ba b') h rfl hs λz=>⟨(R.objs _ _ h).1,hg⟩,Ext.set h rfl hs ⟨_,hg⟩,rfl,rfl⟩,q⟩
noncomputable abbrev TP(c:Cx)(f:ak):CW:=λA s σ vs kv Q=>bz c.M A (call f vs kv) (cC c σ s Q) s
theorem afL{x:UInt8}(h:b.length<=1000):(b.toArray.push x).size<=mT:=by
 rw[Array.size_push];exact aR (qn h) (by rw[A2];decide)
theorem kD.acf:kD c 1 (.builtin "bytearray.append") Tc:=@ig.a2 c 1 .L .I (TP c _) _ λ{A σ s a i v w Q} hr R e e2 q=>by
 refine rU q λb h1 h2 h3 h4 q=>?_;subst e;refine xe e2 λt aq=>?_;clear e2;subst aq;have hg:=sL R h1
 refine C0 (TN (B:=Builtin.«bytearray.append») (by decide+kernel) (afK _) aeB (Sq.check _ _ _ _ _ _ _ _ ⟨_,hg,rfl⟩ (aeC _ _) ?_))
 unfold Builtin.«bytearray.append»;refine bG (gG (eF (a:=(A6 a,Value.int i t)) rfl ?_));dsimp only;refine bG (gG ?_);unfold Builtin.Bytes.byteValue;refine aC (eF (a:=i) rfl ?_)
 rw[if_neg (by rw[decide_eq_false (nZ.2 h2),decide_eq_false (Int.not_le.2 h3)];exact gY)]
 refine aO (bG ?_);unfold Builtin.Bytes.checkResize
 exact bG (bG (Tw (gG (aC (Tx (b:=b.toArray) hg rfl (aO (dC (bG (gG (I1 (b:=b.toArray) hg (afL h4) λh' qT hs=>dC (TO R h1 (by rw[<-List.push_toArray];exact qT) hs q)))))))))))
theorem aU.acb:aU c 1 (.builtin "bytearray.reverse") Td:=aU.a1 λ{A σ s a v Q} hr R e q=>by
 refine bF q λb h1 h4 q=>?_;subst e;have hg:=sL R h1
 refine mR Sr ⟨_,hg,rfl⟩ aeD (aeE _) (S:=λz R s=>s.heap.get? a=some {cls:=.type "bytearray",data:=.bytearray b.toArray}/\∀h',h'.get? a=some {cls:=.type "bytearray",data:=.bytearray b.toArray.reverse}->ju a s.heap h'->R (.ok (.ret .none)) {s with heap:=h'}) (.of_wp λprog w A R s ⟨h1,h2⟩=>?_) ⟨hg,λh' qT hs=>TO R h1 (by rw[<-List.reverse_toArray];exact qT) hs q⟩
 unfold Builtin.«bytearray.reverse»
 exact aC (eF (a:=A6 a) rfl (aC (I1 h1 (by rw[Array.size_reverse];exact dQ h4) λh' qT hs=>aO ⟨_,rfl,h2 h' qT hs⟩)))
theorem aU.ab9:aU c 1 (.type "bytes") IV:=aU.a1 λhr R e q=>by
 refine bF q λb h1 h4 q=>?_;subst e
 exact callType_new F.bm_called (by decide) (F.bm_typeCall _) (F.bm_newCall _) (λobj=>F.args_object_init_2 obj _) F.bm_entry (afJ _ _ (dQ h4)) ⟨sL R h1,λt k=>⟨f6 _ _ _,dq R (.bytes _ _) q⟩⟩
theorem aU.ab8:aU c 1 (.builtin "len") IU:=aU.a1 λ{A σ s a v Q} hr R e q=>by
 refine bF q λb h1 h4 q=>?_;subst e;have hg:=sL R h1
 refine call_len_slot (n:=b.length) ⟨_,hg,rfl⟩ Su (λQ' q'=>mR Su ⟨_,hg,rfl⟩ aeF (aeG _) (S:=λz R s=>s.heap.get? a=some {cls:=.type "bytearray",data:=.bytearray b.toArray}/\R (.ok (.ret (.int b.length s.toks))) {s with toks:=s.toks+1}) (.of_wp λprog w A R s ⟨h1,h2⟩=>?_) ⟨hg,q'⟩) (nZ.2 (fY _)) (Int.not_le.2 (B7 h4)) (dq (t:=s.toks+1+1) R (.int _ _) q)
 unfold Builtin.«bytearray.__len__»;refine aC (eF (a:=(A6 a,[])) rfl ?_);dsimp only;exact aC (TL h1 (aC (Fj (aO ⟨_,rfl,h2⟩))))
theorem ace:c5 c "append" "bytearray.append" CY:=c5.of Si Sq (by kernel_rfl) λR r h=>by
 obtain⟨a,b,rfl,h⟩:=h;obtain rfl:=r.dj;exact⟨⟨_,sL R h,rfl⟩,λb e=>Value.ref.inj e▸⟨_,sL R h,rfl⟩⟩
theorem aca:c5 c "reverse" "bytearray.reverse" CY:=c5.of Si Sr (by kernel_rfl) λR r h=>by
 obtain⟨a,b,rfl,h⟩:=h;obtain rfl:=r.dj;exact⟨⟨_,sL R h,rfl⟩,λb e=>Value.ref.inj e▸⟨_,sL R h,rfl⟩⟩
end
end
section
open PySem.SeqAt
theorem afM(a:Args):j6 (.builtin "type.__call__" a)=false:=by
 show wM "type.__call__"=false
 decide+kernel
theorem afN(a:Args):j6 (.builtin "bytearray.__init__" a)=false:=by
 show wM "bytearray.__init__"=false
 decide+kernel
theorem uu{α:Type}{M:fA}{A:bj}{s:aw}{b:Bool}{x y:Sem α}{Q:α->aw->Prop}(hb:b=false)(h:bz M A y Q s):bz M A (if b=true then x else y) Q s:=by
 rw[if_neg (by rw[hb];decide)];exact h
theorem afO:alf "bytearray.__init__" "bytearray" ["source","encoding","errors"] [] []=pure [none,none,none]:=by kernel_rfl
section
variable{c:Cx}{n:Nat}{A:bj}{σ:St}{s:aw}
theorem afP{id:String}{args:Args}{B:Builtin}{R:lj->aw->Prop}(entry:jx table id=some B)
  (h:bz c.M (A.under (.builtin id args)) (B args) (λfin s'=>match fin with |.done f=>R (.ok f) s' |.again c'=>c'.quiet=true/\j6 c'=false/\gh c.M A c' R s') s):gh c.M A (.builtin id args) R s:=by
 refine sJ ?_
 show bz _ _ (match jx table id with |some b=>b args |none=>unsupported ((withoutEnding? id "#data").getD id)) _ s
 rw[entry];exact h
theorem afQ{R:lj->aw->Prop}(hg:s.heap.get? a=some {cls:=.type "bytearray",data:=.bytearray #[]})(h:∀h',h'.get? a=some {cls:=.type "bytearray",data:=.bytearray #[]}->ju a s.heap h'->R (.ok (.ret .none)) {s with heap:=h'}):
  gh c.M A (.call (.builtin "bytearray.__init__") ⟨[.ref a],[]⟩) R s:=by
 have hT:s.TypeIs (.ref a) "bytearray":=⟨_,hg,rfl⟩
 refine TN (B:=Builtin.«bytearray.__init__») (by decide+kernel) (afN _) aeH (CQ.check _ _ _ _ _ _ _ _ hT (aeI _) ?_)
 unfold Builtin.«bytearray.__init__»;dsimp only;refine bG (gG (TK hg ?_));refine uu rfl ?_;refine bG (gG (eF afO ?_));dsimp only;refine bG (gG (eF (a:=()) rfl ?_));refine bG (gG (eF (a:=()) rfl ?_));refine bG ?_;refine bG (Tw ?_);refine gG (aC (Tx (b:=#[]) hg rfl (aO ?_)));refine uu rfl ?_;refine bG (gG (I1 hg (dE _) λh' qT hs=>?_));refine bG (dC ?_);exact dC (h h' qT hs)
theorem kD.ba:kD c 1 (.type "bytearray") Hm:=@ig.of c 1 (TP c _) _ λ{A σ s xs vs kx Q} hr R r q=>by
 obtain⟨rfl,rfl,q⟩:=q;refine⟨rfl,?_⟩;obtain rfl:=r.jX;refine gF C1.mro λcc tl TQ=>?_;have TR:=C1.made;refine C0 (sJ ?_);show bz _ _ (callAny (.type "bytearray") _) _ _
 refine dC ⟨Code.quiet_builtin _ (by decide+kernel),afM _,afP F.entry_type_call ?_⟩
 rw[Around.under_plain (weight_type_call_type "bytearray" [] []) (units_type_call_type "bytearray" [] [])];unfold Builtin.«type.__call__»;refine uu C1.notType ?_;have h2:=C1.canCreate;dsimp only at h2 ⊢;refine uu h2 ?_;refine bG (gG (eF afy ?_));refine bG (gG (eF TQ ?_));refine uu rfl ?_;refine bG (gG (eF TR ?_));dsimp only;refine bG (dC ?_)
 refine bG (gG (jf (wpAny_call (AZ (afC (E:=No) (Q₁:=λobj bq=>obj=.ref s.heap.objs.size/\bq={s with heap:=s.heap.push {cls:=.type "bytearray",data:=.bytearray #[]}}) ⟨rfl,rfl⟩) λr bq hr=>?_))))
 induction r with
 |error e=>exact hr.elim
 |ok fl=>
  induction fl with
  |ret obj=>
   refine xa hr λaq qN=>?_;clear hr;subst aq;subst qN;have hg:(s.heap.push {cls:=.type "bytearray",data:=.bytearray #[]}).get? s.heap.objs.size=some {cls:=.type "bytearray",data:=.bytearray #[]}:=fX _ rfl
   have hT:Shared.TypeIs {s with heap:=s.heap.push {cls:=.type "bytearray",data:=.bytearray #[]}} (.ref s.heap.objs.size) "bytearray":=⟨_,hg,rfl⟩
   dsimp only;refine bG (gG (AJ hT I0 ?_));refine uu rfl ?_;refine bG (ur ?_);unfold callSpecial?;refine bG (gG (vw hT CQ.lookup ?_));dsimp only;refine ur ?_;refine bG (gG (eF (CQ.bind _) ?_));dsimp only;refine bG (C0 (afQ (a:=s.heap.objs.size) hg λh' qT hs=>?_));refine dC ?_;dsimp only;refine uu rfl ?_;refine dC ?_;have hn:=kK s.heap;have R1:=R.push {cls:=.type "bytearray",data:=.bytearray #[]}
   have keep:∀b o,s.heap.get? b=some o->h'.get? b=some o:=λb o e=>(hs.2 b λz=>by rw[z,hn]at e;exact bo e).trans (dY _ e)
   exact IK (tk:=s.toks) (x:=.ba []) R keep hn (λz=>⟨z,qT⟩) q
  |_=>exact hr.elim
end
end
theorem vL{c:Cx}{n:Nat}{xs:List Stmt}{m:SM}(r:{m:SM // g7 c n ks xs m})(e:autoParam (r.1=m) gD._auto_1):g7 c n ks xs m:=e▸r.2
theorem vM{c:Cx}{n a:Nat}{k:Ks}{p:List Nat}{m:SM}(hK:tS c)(j:Nat)(h:rows[j]?=some (a,i,k,p))(s:g7 c n k (bd i) m):lZ c (n+1) (.ref a) (bD p m):=
 have⟨h1,h2,h3,h4,_⟩:=vH hK j h
 lZ.def h1 s p (vG h).2.1 (vG h).2.2 h2 h3 h4
noncomputable def OS{c:Cx}(Z:GK c):Tb c:={t0 Z.1 with fs:=[⟨(18,_,_,_,_),Z.1 _ _ rfl,rfl,dw.bi _,aU.ab8⟩,⟨(101,_,_,_,_),Z.1 _ _ rfl,rfl,dw.ty _,aU.ab9⟩],bs:=[⟨(_,_,_,_,_),aca,aU.acb⟩]}
theorem acd{c:Cx}(Z:GK c):g7 c 1 M9 (bd 25) OT:=vL (gS (OS Z) [⟨(218,_,_,_,_),Z.1 _ _ rfl,rfl,dw.ty _,kD.ba⟩] [] [⟨(_,_,_,_,_),ace,kD.acf⟩] (lY (OS Z) 0 40) _ 4 _)
theorem acg{c:Cx}(Z:GK c):lZ c 2 (.ref 285) Bx:=vM Z.2 73 rfl (acd Z)
noncomputable def OU{c:Cx}(Z:GK c):Tb c:=t0 Z.1
theorem ach{c:Cx}(Z:GK c):g7 c 2 Nb (bd 24) OV:=vL (gS (OU Z) [(⟨(281,.loc 285,.ref 285,2,Bx),Z.1 _ _ rfl,rfl,kf 285 Z.2,(acg Z).toF⟩:Fg c)] [] [] (lY (OU Z) 1 40) _ 4 _)
theorem aci{c:Cx}(Z:GK c):lZ c 3 (.ref 271) By:=vM Z.2 74 rfl (ach Z)
noncomputable def OX{c:Cx}(Z:GK c):Tb c:=t0 Z.1
theorem acj{c:Cx}(Z:GK c):g7 c 3 Nd (bd 28) OY:=vL (gS (OX Z) [] [(⟨(161,274,271,3,By),rfl,(aci Z).toF⟩:Mg c)] [(⟨(_,_,_,_,_),FO,aU.g aU.append⟩:Bg c)] (lY (OX Z) 2 40) _ 4 _)
theorem ack{c:Cx}(Z:GK c):lZ c 4 (.ref 313) Bz:=vM Z.2 75 rfl (acj Z)
noncomputable def OZ{c:Cx}(Z:GK c):Tb c:={GI Z with ms:=[(⟨(53,539,423,4,rX),rfl,(F8 Z).toF⟩:Me c)]}
theorem acm{c:Cx}(Z:GK c):g7 c 5 Ng (bd 42) O0:=vL (gS (OZ Z) [] [(⟨(161,323,313,4,Bz),rfl,(ack Z).toF⟩:Mg c),(⟨(53,539,423,4,rX),rfl,(F8 Z).toF.g⟩:Mg c)] [] (lY (OZ Z) 4 40) _ 4 _)
theorem acn{c:Cx}(Z:GK c):lZ c 6 (.ref 437) ym:=vM Z.2 76 rfl (acm Z)
noncomputable def O1{c:Cx}(Z:GK c):Tb c:=GI Z
theorem aco{c:Cx}(Z:GK c):g7 c 6 Ni (bd 111) O2:=vL (gS (O1 Z) [] [(⟨(235,539,437,6,ym),rfl,(acn Z).toF⟩:Mg c)] [(⟨(_,_,_,_,_),FO,aU.g aU.append⟩:Bg c)] (lY (O1 Z) 5 40) _ 4 _)
theorem acp{c:Cx}(Z:GK c):lZ c 7 (.ref 1012) BA:=vM Z.2 77 rfl (aco Z)
noncomputable def O5{c:Cx}(Z:GK c):Tb c:=GI Z
theorem acq{c:Cx}(Z:GK c):g7 c 10 Nk (bd 116) O6:=vL (gS (O5 Z) [(⟨(228,.loc 1012,.ref 1012,7,BA),Z.1 _ _ rfl,rfl,kf 1012 Z.2,(acp Z).toF⟩:Fg c)] [] [] (lY (O5 Z) 9 40) _ 4 _)
theorem acr{c:Cx}(Z:GK c):lZ c 11 (.ref 1039) O7:=vM Z.2 78 rfl (acq Z)
noncomputable def fB:List Nat:=([3,91,107,108,134,162,163,168,169,187,231,232,273,274,322,323,390,391,538,539,587,588,608,609,642,643,704,705,760,761,809,810,817,818,957,958,999,1000,1001,1002,1003,1004,1005,1006,1007]++rows.flatMap λr:Nat×Nat×Ks×List Nat=>[r.1,r.1- 1])
noncomputable def GJ(g:Nat->Option Obj):Frag:=fB.filterMap λa=>(g a).map λo=>(a,o)
noncomputable def fragOf(h:Heap):Frag:=GJ h.get?
noncomputable def GL(S:tJ)(a:Nat):Option Obj:=match lg a S.n with
 |true=>alive ((S.tree.get a).getD default)
 |false=>none
theorem acs(S:tJ)(a:Nat):S.abs.heap.get? a=GL S a:=by
 unfold GL
 cases e:lg a S.n with
 |false=>exact abs_get_none (Nat.not_le_of_not_ble_eq_true λh=>nomatch h.symm.trans e)
 |true=>
  show(match(absHeap S.tree S.n S.life).objs[a]? with |some ⟨_,_,.freed,_⟩=>none |o=>o)=_
  rw[absHeap_at,if_pos (show a<S.n from cG e)];generalize(S.tree.get a).getD default=o;obtain⟨c,d,dt,sl⟩:=o;cases dt<;>rfl
theorem acu(h:Heap):(fragOf h).In h:=λa o e=>by
 have m:=lookup_mem e;obtain⟨b,_,hb⟩:=List.mem_filterMap.1 m;obtain⟨o',ho,e'⟩:=tg.1 hb;cases e';exact ho
noncomputable def Pb(K:Frag)(p:Nat×Nat):Bool:=lg p.2 nN&&plainGet K p.1 (nm p.2)&&hasDictIn K p.1&&(findIn K (.ref p.1) (nm p.2)).any (noGet K)&&
 (findIn K (.ref p.1) "__setattr__"==some (some (.builtin "object.__setattr__")))&&plainOver K p.1&&(takerIn K p.1 (nm p.2)==some none)
noncomputable def Pc(K:Frag)(p:(Nat×Nat)×Nat):Bool:=lg p.1.2 nN&&plainGet K p.1.1 (nm p.1.2)&&(findIn K (.ref p.1.1) (nm p.1.2)==some (some (.ref p.2)))&&isFn K (.ref p.2)&&keepIn K (.ref p.2)
noncomputable def Pd(K:Frag)(p:Nat×Nat):Bool:=makesIn K p.1&&(findIn K (.ref p.1) "__init__"==some (some (.ref p.2)))&&isFn K (.ref p.2)&&keepIn K (.ref p.1)
noncomputable def obs(K:Frag):Bool:=(rows.all λr=>Bj K r.1 r.2.2.1 r.2.2.2)&&yn.all (Pb K)&&yo.all (Pc K)&&yp.all (Pd K)&&(nsIn K nV (fL "law")==some (some (.ref 1039)))
noncomputable def tU(K:Frag):Bool×List (List Stmt)×List (Option CV)×List (Option (List CV)):=(obs K,rows.map λr=>x8 K r.1,tP.map λp=>FJ K p.1,(x7.map λd=>FK K d.1)++[pE K 1003,pE K 1007])
noncomputable def seen:Bool×List (List Stmt)×List (Option CV)×List (Option (List CV)):=(true,rows.map λr=>bd r.2.1,tP.map λp=>some p.2,(x7.map λd=>some d.2)++[some m6,some m7])
theorem acv(w:cM)(os:OsState):(vN w os).map (λS=>tU (GJ (GL S)))=some seen:=by
 unfold vN;rw[ak5,ak6,ak7,ak8]
 kernel_rfl
theorem acw(w:cM)(os:OsState):(vN w os).map (λS=>tU (fragOf S.abs.heap))=some seen:=
 (congrArg (λf=>(vN w os).map f) (funext λS=>congrArg (λg=>tU (GJ g)) (funext (acs S)))).trans (acv w os)
theorem acx{α β γ:Type}{X:Option α}{f:α->Bool×β×Unit}{g:α->γ}{b:β}{d:γ}(h1:X.map f=some (true,b,()))(h2:X.map g=some d):X.map (λS=>((f S).1,(f S).2.1,g S))=some (true,b,d):=by
 obtain⟨S,rfl,e⟩:=tg.1 h1;cases h2;rw[Option.map_some,e]
theorem acy:LeftO ot qv BB (λz=>true) (λs=>tU (fragOf s.heap)) (λz=>seen) 8000 true:=
 acz (boot_open rfl rfl λz=>rfl) acA acB λw os=>acx (acC w os) (acw w os)
theorem gK{σ:St}{a b:Addr}(ha:σ a=none)(hb:σ b=some o):b≠a:=λe=>by subst e;exact bo (ha.symm.trans hb)
theorem GW{σ:St}{a b:Addr}{x:CO}(hb:σ b=some x)(n:b≠a):upd σ a o b=some x:=by rw[iU n];exact hb
noncomputable def aF(X:Addr->Prop)(σ ae:St):Prop:=∀a o,σ a=some o->¬X a->ae a=some o
theorem aF.refl(X:Addr->Prop)(σ:St):aF X σ σ:=λz z h z=>h
theorem aF.trans{X:Addr->Prop}(h:aF X b7 bT)(k:aF X bT fD):aF X b7 fD:=λa o e n=>k a o (h a o e n) n
theorem aF.mono{X:Addr->Prop}(h:aF X b7 bT)(k:∀a,X a->Y a):aF Y b7 bT:=λa o e n=>h a o e λz=>n (k a z)
theorem aF.new{X:Addr->Prop}{σ:St}{a:Addr}(h:σ a=none):aF X σ (upd σ a o):=λb x e y=>by
 rw[iU λz=>by subst z;rw[h]at e;cases e];exact e
theorem aF.upd{X:Addr->Prop}{σ:St}{a:Addr}(h:X a):aF X σ (upd σ a o):=λb x e n=>by
 rw[iU λz=>by subst z;exact n h];exact e
noncomputable abbrev one(a:Addr):Addr->Prop:=λb=>b=a
noncomputable abbrev two(a b:Addr):Addr->Prop:=λx=>x=a\/x=b
noncomputable abbrev aS:Addr->Prop:=λz=>False
theorem aF.at{X:Addr->Prop}{σ:St}(p:aF X σ ae){a:Addr}(h:σ a=some o)(n:autoParam (¬X a) aX):ae a=some o:=p a o h n
theorem aF.nx{X:Addr->Prop}(h:aF X b7 bT)(k:aF aS bT fD):aF X b7 fD:=λa o e n=>k a o (h a o e n) id
theorem aF.pn{X:Addr->Prop}(h:aF aS b7 bT)(k:aF X bT fD):aF X b7 fD:=λa o e n=>k a o (h a o e id) n
theorem aF.seq{X:Addr->Prop}(h:aF X b7 bT)(k:aF Y bT fD)(z:∀a,Y a->X a\/b7 a=none):aF X b7 fD:=λa o e n=>k a o (h a o e n) λy=>by
 rcases z a y with z |z
 ·exact n z
 ·exact jy (e.symm.trans z)
theorem aF.sn{X:Addr->Prop}{a:Addr}(h:aF X b7 bT)(k:aF (one a) bT fD)(z:b7 a=none):aF X b7 fD:=h.seq k λo y=>.inr (y▸z)
theorem aF.no{X:Addr->Prop}{a:Addr}(h:aF X b7 bT)(z:bT a=none)(n:autoParam (¬X a) aX):b7 a=none:=by
 cases e:b7 a with
 |none=>rfl
 |some o=>exact jy ((h.at e n).symm.trans z)
structure bI(p:Prop):Prop where
 out:p
noncomputable def Ev(m:EM)(e:aL)(σ:St)(v:CV):Prop:=∀Q:CV->St->Prop,Q v σ->m e σ Q
noncomputable def gq(m:cV)(e:aL)(σ:St)(v:List CV):Prop:=∀Q:List CV->St->Prop,Q v σ->m e σ Q
noncomputable def bM(m:TM)(e:aL)(σ:St)(b:Bool):Prop:=∀Q:Bool->St->Prop,Q b σ->m e σ Q
noncomputable def Vm(F:VM)(σ:St)(v:CV):Prop:=∀Q:CV->St->Prop,Q v σ->F σ Q
noncomputable abbrev It(x y:CV):St->CV->Prop:=Vm (vP x y)
noncomputable abbrev At(i:Nat)(x:CV):St->CV->Prop:=Vm (vQ i x)
noncomputable abbrev Bi(op:jw)(x y:CV):St->CV->Prop:=Vm (tV op x y)
noncomputable abbrev Fn(F:FM)(xs:List CV):St->CV->Prop:=Vm (F xs [])
noncomputable def cx(l:List Nat)(e0 e:aL):Prop:=∀j,l.contains j=false->e j=e0 j
theorem cx.refl{l:List Nat}{e:aL}:cx l e e:=λz z=>rfl
theorem aD(h:True:=by first |assumption |exact .set):True:=h
theorem cx.set{l:List Nat}{e:aL}{i:Nat}{v:CV}(h:autoParam (cx l e0 e) aD._auto_1)(hi:autoParam (l.contains i=true) aA):cx l e0 (bA e i v):=λj hj=>by
 rw[ox λe=>by subst e;rw[hi]at hj;cases hj];exact h j hj
theorem cx.tr{l l':List Nat}{e1 e2:aL}(h:cx l e0 e1)(k:cx l' e1 e2)(hs:autoParam (l'.all (λj=>l.contains j)=true) aA):cx l e0 e2:=λj hj=>by
 rw[k j (by
  cases g:l'.contains j with
  |false=>rfl
  |true=>rw[iz.1 hs j (vo.1 g)]at hj;exact iR hj)]
 exact h j hj
theorem cx.rd{l:List Nat}{e:aL}{j:Nat}{v:CV}(h:autoParam (cx l e0 e) aD._auto_1)(hv:autoParam (e0 j=some v) aB._auto_1)(hj:autoParam (l.contains j=false) aA):e j=some v:=by rw[h j hj];exact hv
noncomputable def bP(σ:St)(a C d:Addr)(fs:List (Nat×CV)):Prop:=σ a=some (.inst C d)/\σ d=some (.iV fs)
section
variable{e:aL}{σ:St}{v x y z:CV}{m m1 m2 m3:EM}{t t1 t2:TM}{b:Bool}{ms:cV}{vs:List CV}{op:jw}{cp:CmpOp}{i:Nat}{F:FM}{a:Addr}{n k:Int}
theorem aE(h:True:=by first |rfl |assumption |exact cx.rd):True:=h
theorem Ev.var(h:autoParam (e i=some v) aE._auto_1):Ev (af i) e σ v:=λQ q=>BH h q
theorem Ev.val:Ev (au x) e σ x:=λQ q=>q
theorem Ev.glob:Ev (fm x) e σ x:=λQ q=>q
theorem Ev.item(h1:Ev m1 e σ x)(h2:Ev m2 e σ y)(h:It x y σ v):Ev (bc m1 m2) e σ v:=λQ q=>h1 _ (h2 _ (h _ q))
theorem Ev.attr(h1:Ev m1 e σ x)(h:At i x σ v):Ev (bf i m1) e σ v:=λQ q=>h1 _ (h _ q)
theorem Ev.bin(h1:Ev m1 e σ x)(h2:Ev m2 e σ y)(h:Bi op x y σ v):Ev (be op m1 m2) e σ v:=λQ q=>h1 _ (h2 _ (h _ q))
theorem Ev.cmp(h1:Ev m1 e σ x)(h2:Ev m2 e σ y)(h:Cm cp x y σ b):Ev (gM cp m1 m2) e σ (.bool b):=λQ q=>h1 _ (h2 _ ⟨_,h,q⟩)
theorem Ev.neg(h1:Ev m1 e σ (.int n)):Ev (qD m1) e σ (.int (-n)):=λQ q=>h1 _ ⟨_,rfl,q⟩
theorem Ev.yu(h:bM t e σ true)(h1:Ev m1 e σ v):Ev (eH t m1 m2) e σ v:=λQ q=>h _ (h1 _ q)
theorem Ev.iff(h:bM t e σ false)(h1:Ev m2 e σ v):Ev (eH t m1 m2) e σ v:=λQ q=>h _ (h1 _ q)
theorem Ev.ite(h:bM t e σ b)(h1:b=true->Ev m1 e σ x)(h2:b=false->Ev m2 e σ y):Ev (eH t m1 m2) e σ (cond b x y):=by
 induction b with
 |true=>exact .yu h (h1 rfl)
 |false=>exact .iff h (h2 rfl)
theorem Ev.and{b1 b2:Bool}(h1:Ev m1 e σ (.bool b1))(h2:b1=true->Ev m2 e σ (.bool b2)):Ev (GX m1 m2) e σ (.bool (b1&&b2)):=λQ q=>h1 _ ⟨b1,rfl,by
 induction b1 with
 |true=>exact h2 rfl _ q
 |false=>exact q⟩
theorem Ev.or{b1 b2:Bool}(h1:Ev m1 e σ (.bool b1))(h2:b1=false->Ev m2 e σ (.bool b2)):Ev (yv m1 m2) e σ (.bool (b1||b2)):=λQ q=>h1 _ ⟨b1,rfl,by
 induction b1 with
 |true=>exact q
 |false=>exact h2 rfl _ q⟩
theorem Ev.call(h:gq ms e σ vs)(h1:Fn F vs σ v):Ev (aY F ms) e σ v:=λQ q=>h _ (h1 _ q)
theorem Ev.jA{C:Nat}(h1:Ev m1 e σ x)(hi:r9 C i x σ)(h:gq ms e σ vs)(hf:Fn F (x::vs) σ v):Ev (bN C i F m1 ms) e σ v:=λQ q=>h1 _ ⟨hi,h _ (hf _ q)⟩
theorem Ev.pz{R:CV->St->Prop}(h1:Ev m1 e σ x)(hr:R x σ)(h:gq ms e σ vs)(hf:Fn F (x::vs) σ v):Ev (bJ R F m1 ms) e σ v:=λQ q=>h1 _ ⟨hr,h _ (hf _ q)⟩
theorem Ev.tup(h:gq ms e σ vs)(hl:autoParam (vs.length<=1000) aG._auto_1):Ev (b8 ms) e σ (.tup vs):=λQ q=>h _ ⟨hl,q⟩
theorem Ev.upB{b:List UInt8}{k:Nat}(h1:Ev m e σ (.bytes b))(h2:Ev m1 e σ (.int k))(hl:b.length<=1000):Ev (jZ m m1) e σ (.bytes (b.take k)):=λQ q=>h1 _ (h2 _ ⟨k,rfl,.kF (aR hl (by decide)) q⟩)
theorem gq.nil:gq ar e σ []:=λQ q=>q
theorem gq.cons(h1:Ev m e σ v)(h2:gq ms e σ vs):gq (ag m ms) e σ (v::vs):=λQ q=>h1 _ (h2 _ q)
theorem gq.one(h1:Ev m e σ v):gq (ag m ar) e σ [v]:=λQ q=>h1 _ q
theorem gq.two(h1:Ev m e σ v)(h2:Ev m1 e σ x):gq (ag m (ag m1 ar)) e σ [v,x]:=λQ q=>h1 _ (h2 _ q)
theorem gq.three(h1:Ev m e σ v)(h2:Ev m1 e σ x)(h3:Ev m2 e σ y):gq (ag m (ag m1 (ag m2 ar))) e σ [v,x,y]:=λQ q=>h1 _ (h2 _ (h3 _ q))
theorem bM.cmp(h1:Ev m1 e σ x)(h2:Ev m2 e σ y)(h:Cm cp x y σ b):bM (aT cp m1 m2) e σ b:=λQ q=>h1 _ (h2 _ ⟨_,h,q⟩)
theorem bM.val(h1:Ev m1 e σ (.bool b)):bM (jh m1) e σ b:=λQ q=>h1 _ ⟨_,rfl,q⟩
theorem bM.not(h1:bM t e σ b):bM (vR t) e σ (!b):=λQ q=>h1 _ q
theorem bM.GY:bM de e σ true:=λQ q=>q
theorem bM.pI(h1:bM t1 e σ true)(h2:bM t2 e σ b):bM (bR t1 t2) e σ b:=λQ q=>h1 _ (h2 _ q)
theorem bM.l0(h1:bM t1 e σ false):bM (bR t1 t2) e σ false:=λQ q=>h1 _ q
theorem bM.lq(h1:bM t1 e σ b):bM (bR t1 (cQ true)) e σ b:=λQ q=>h1 _ (by cases b<;>exact q)
theorem bM.and{b1 b2:Bool}(h1:bM t1 e σ b1)(h2:b1=true->bM t2 e σ b2):bM (bR t1 t2) e σ (b1&&b2):=by
 induction b1 with
 |true=>exact .pI h1 (h2 rfl)
 |false=>exact .l0 h1
theorem bM.GZ(h1:bM t1 e σ true):bM (hH t1 t2) e σ true:=λQ q=>h1 _ q
theorem bM.Po(h1:bM t1 e σ false)(h2:bM t2 e σ b):bM (hH t1 t2) e σ b:=λQ q=>h1 _ (h2 _ q)
theorem bM.BI(h1:bM t1 e σ b):bM (hH t1 (cQ false)) e σ b:=λQ q=>h1 _ (by cases b<;>exact q)
theorem bM.or{b1 b2:Bool}(h1:bM t1 e σ b1)(h2:b1=false->bM t2 e σ b2):bM (hH t1 t2) e σ (b1||b2):=by
 induction b1 with
 |true=>exact .GZ h1
 |false=>exact .Po h1 (h2 rfl)
theorem bM.to{b':Bool}(h:bM t e σ b)(g:b=b'):bM t e σ b':=g▸h
theorem Ev.to(h:Ev m e σ v)(g:v=x):Ev m e σ x:=g▸h
theorem acS{α:Type}{vs:List α}{i:Nat}{v:α}(hv:vs[i]?=some v)(hl:vs.length<=1000):iW vs (i:Int)=some v:=by
 unfold iW;have:=(iL.1 hv).1
 rw[if_pos ⟨by exact fY _,by exact dN.2 (jT this hl rfl)⟩,if_pos (fY _)]
 exact hv
theorem It.tup(h:autoParam (iW vs n=some v) aA):It (.tup vs) (.int n) σ v:=λQ q=>.tup h q
theorem It.li{i:Nat}(hv:vs[i]?=some v)(hl:vs.length<=1000)(h:autoParam (σ a=some (.list vs)) aB._auto_1):It (.loc a) (.int i) σ v:=λQ q=>.li (.inl h) (acS hv hl) q
theorem It.kF{b:List UInt8}{i:Nat}(hi:i<b.length)(hl:b.length<=1000):It (.bytes b) (.int i) σ (.int (b.getD i 0).toNat):=λQ q=>
 .kF (aR hl (by decide)) (by rw[dG,bS hi];rfl) q
theorem It.pi(hv:iW vs n=some v)(h:autoParam (σ a=some (.list vs)) aB._auto_1):It (.loc a) (.int n) σ v:=λQ q=>.li (.inl h) hv q
theorem It.dS{k:Str}{es:List (Str×CV)}(h:autoParam (σ a=some (.dS es)) aB._auto_1)(hv:autoParam (bB es k=some v) aB._auto_1):It (.loc a) (.str k) σ v:=λQ q=>.dS h hv q
theorem It.dB{k:List UInt8}{es:List (List UInt8×CV)}(h:autoParam (σ a=some (.dB es)) aB._auto_1)(hv:autoParam (bB es k=some v) aB._auto_1):It (.loc a) (.bytes k) σ v:=λQ q=>.dB h hv q
theorem It.str{x:Str}{v:Nat}(h:iW x.cps.toList n=some v):It (.str x) (.int n) σ (.str ⟨#[v]⟩):=λQ q=>.str h q
theorem At.of{C d:Addr}{fs:List (Nat×CV)}(h1:σ a=some (.inst C d))(h2:σ d=some (.iV fs))(hf:isField C i=true)(hv:gN fs i=some v):At i (.loc a) σ v:=λQ q=>⟨a,C,d,fs,v,rfl,h1,h2,hf,hv,q⟩
theorem At.ins{C d:Addr}{fs:List (Nat×CV)}(h:autoParam (bP σ a C d fs) aB._auto_1)(hv:autoParam (gN fs i=some v) aA)(hf:autoParam (isField C i=true) aA):At i (.loc a) σ v:=.of h.1 h.2 hf hv
theorem bP.fi{C d:Addr}{fs:List (Nat×CV)}(h:bP σ a C d fs)(hn:autoParam (gN fs i=none) aA):r9 C i (.loc a) σ:=⟨a,d,fs,rfl,h.1,h.2,hn⟩
theorem Bi.add:Bi .Add (.int n) (.int k) σ (.int (n+k)):=λQ q=>.add q
theorem Bi.sub:Bi .Sub (.int n) (.int k) σ (.int (n- k)):=λQ q=>.sub q
theorem Bi.lu{a b:List UInt8}(h:a.length+b.length<=16777216):Bi .Add (.bytes a) (.bytes b) σ (.bytes (a++b)):=λQ q=>.lu h q
theorem Bi.BJ{a b:List CV}(ha:a≠[])(hb:b≠[])(h:a.length+b.length<=1000):Bi .Add (.tup a) (.tup b) σ (.tup (a++b)):=λQ q=>.BJ ha hb h q
theorem Bi.mul(h1:-(2^64)<n)(h2:n<2^64):Bi .Mult (.int n) (.int k) σ (.int (n*k)):=λQ q=>.mul h1 h2 q
theorem Bi.BK{a:List UInt8}(h:a≠[])(hl:a.length<=16)(h0:0<=n)(h1:n<=1000):Bi .Mult (.bytes a) (.int n) σ (.bytes (qr n.toNat a).flatten):=λQ q=>.BK h hl h0 h1 q
theorem Bi.fdiv(h1:k≠0)(h2:k.natAbs<1073741824):Bi .FloorDiv (.int n) (.int k) σ (.int (n.fdiv k)):=λQ q=>.fdiv h1 h2 q
theorem Bi.mod(h1:k≠0):Bi .Mod (.int n) (.int k) σ (.int (n.fmod k)):=λQ q=>.mod h1 q
theorem Bi.shr(h1:0<=k):Bi .RShift (.int n) (.int k) σ (.int (n.fdiv (2^k.toNat))):=λQ q=>.shr h1 q
theorem Bi.and:Bi .BitAnd (.int n) (.int k) σ (.int (vy n k)):=λQ q=>.and q
theorem Bi.or:Bi .BitOr (.int n) (.int k) σ (.int (Md n k)):=λQ q=>.or q
theorem Cm.ib{a b:List UInt8}:Cm .In (.bytes a) (.bytes b) σ (vS a b):=.mem .bb
theorem Cm.BL{a b:List UInt8}:Cm .NotIn (.bytes a) (.bytes b) σ (!vS a b):=.oy .bb
theorem Cm.iS{k:Str}{es:List (Str×CV)}(h:autoParam (σ a=some (.dS es)) aB._auto_1):Cm .In (.str k) (.loc a) σ (bB es k).isSome:=.mem (.dS h)
theorem Cm.iB{k:List UInt8}{es:List (List UInt8×CV)}(h:autoParam (σ a=some (.dB es)) aB._auto_1):Cm .In (.bytes k) (.loc a) σ (bB es k).isSome:=.mem (.dB h)
theorem Cm.G6{k:List UInt8}{es:List (List UInt8×CV)}(h:autoParam (σ a=some (.dB es)) aB._auto_1):Cm .NotIn (.bytes k) (.loc a) σ (!(bB es k).isSome):=.oy (.dB h)
theorem Cm.iTB{k:List UInt8}{is:List (List UInt8)}:Cm .In (.bytes k) (.tup (is.map .bytes)) σ (decide (k∈is)):=.mem .tB
theorem Cm.iTI{is:List Int}:Cm .In (.int n) (.tup (is.map .int)) σ (decide (n∈is)):=.mem .tI
theorem Cm.acT{is:List Int}:Cm .NotIn (.int n) (.tup (is.map .int)) σ (!decide (n∈is)):=.oy .tI
theorem Cm.iIB{k:UInt8}{b:List UInt8}:Cm .In (.int k.toNat) (.bytes b) σ (b.contains k):=.mem .iB
theorem Cm.acU{k:UInt8}{b:List UInt8}:Cm .NotIn (.int k.toNat) (.bytes b) σ (!b.contains k):=.oy .iB
theorem Fn.len{a:Addr}(hl:vs.length<=1000)(h:autoParam (σ a=some (.list vs)) aB._auto_1):Fn eI [.loc a] σ (.int vs.length):=λQ q=>.inl (a1 (k:=.L) ⟨vs,.inl h,hl,q⟩)
theorem Fn.acV{es:List (List UInt8×CV)}(hl:es.length<=1000)(h:autoParam (σ a=some (.dB es)) aB._auto_1):Fn eI [.loc a] σ (.int es.length):=λQ q=>.inr (.inl (a1 (k:=.L) ⟨es,h,hl,q⟩))
theorem Fn.Pp{b:List UInt8}(hl:b.length<=1000000):Fn eI [.bytes b] σ (.int b.length):=λQ q=>.inr (.inr (a1 (k:=.B) ⟨aR hl (by decide),q⟩))
theorem Fn.ord{k:Nat}:Fn G7 [.str ⟨#[k]⟩] σ (.int k):=λQ q=>a1 (k:=.S) ⟨k,rfl,q⟩
theorem Fn.int:Fn G8 [.int n] σ (.int n):=λQ q=>a1 (k:=.I) q
theorem Fn.kF{b:List UInt8}:Fn sf [.bytes b] σ (.bytes b):=λQ q=>.inr (a1 (k:=.B) q)
theorem Fn.Ha{ks:List Nat}(hb:∀k∈ks,k<256)(hl:ks.length<=1000)(h:autoParam (σ a=some (.list (ks.map λ(k:Nat)=>.int k))) aB._auto_1):Fn sf [.loc a] σ (.bytes (ks.map λk=>k.toUInt8)):=λQ q=>
 .inl (a1 (k:=.L) ⟨ks.map λ(k:Nat)=>(k:Int),by rw[h,dp];rfl,λi hi=>by refine a9 (dD.1 hi) λk hk aq=>?_;subst aq;exact⟨fY k,dN.2 (hb k hk)⟩,by rw[aZ];exact hl,by rw[dp];exact q⟩)
theorem Fn.join{s:List UInt8}{ys:List (List UInt8)}(hl:(oz s ys).length<=16777216)(h:autoParam (σ a=some (.list (ys.map .bytes))) aB._auto_1):Fn tW [.bytes s,.loc a] σ (.bytes (oz s ys)):=λQ q=>a2 (k:=.B) (l:=.L) ⟨ys,h,hl,q⟩
theorem Fn.FR{s:Str}{ys:List Str}(hl:(ys.map (λx=>x.length)).sum+ys.length*s.length<=16777216)(h:autoParam (σ a=some (.list (ys.map .str))) aB._auto_1):Fn Hb [.str s,.loc a] σ (.str (Txt.join s ys)):=λQ q=>a2 (k:=.S) (l:=.L) ⟨ys,h,hl,q⟩
theorem Fn.lower{b:List UInt8}(hl:b.length<=1000):Fn Hc [.bytes b] σ (.bytes (Hd b)):=λQ q=>a1 (k:=.B) ⟨hl,q⟩
theorem Fn.find{b d:List UInt8}:Fn He [.bytes b,.bytes d] σ (.int (pJ b d)):=λQ q=>a2 (k:=.B) (l:=.B) q
theorem Fn.count{b d:List UInt8}(h:d≠[]):Fn Hf [.bytes b,.bytes d] σ (.int (yw b d)):=λQ q=>a2 (k:=.B) (l:=.B) ⟨h,q⟩
theorem Fn.all{bs:List Bool}(h:autoParam (σ a=some (.list (bs.map .bool))) aB._auto_1):Fn BM [.loc a] σ (.bool (bs.all id)):=λQ q=>a1 (k:=.L) ⟨bs,h,q⟩
theorem Fn.tup:Fn vT [.tup vs] σ (.tup vs):=λQ q=>.inr (a1 (k:=.V) ⟨vs,rfl,q⟩)
theorem Fn.Pq(hl:vs.length<=1000)(h:autoParam (σ a=some (.list vs)) aB._auto_1):Fn vT [.loc a] σ (.tup vs):=λQ q=>.inl (a1 (k:=.L) ⟨vs,.inl h,hl,q⟩)
theorem Fn.get{k:Str}{es:List (Str×CV)}(h:autoParam (σ a=some (.dS es)) aB._auto_1):Fn si [.loc a,.str k] σ ((bB es k).getD .none):=λQ q=>a2 (k:=.L) (l:=.S) ⟨es,h,q⟩
end
noncomputable def sq(m2:SM)(Q:dy->aL->St->Prop):dy->aL->St->Prop:=λfl e' ae=>match fl with
 |.next=>m2 e' ae Q
 |f=>Q f e' ae
noncomputable def bk(Q:CV->St->Prop):dy->aL->St->Prop:=λfl z ae=>match fl with
 |.ret v=>Q v ae
 |.next=>Q .none ae
 |_=>False
section
variable{e:aL}{σ:St}{v x y z:CV}{m m1 m2:EM}{t:TM}{b:Bool}{ms:cV}{vs:List CV}{s1 s2 r:SM}{Q:dy->aL->St->Prop}{R:CV->St->Prop}{i j l:Nat}{F:FM}{a C d:Addr}{fs:List (Nat×CV)}{op:jw}
theorem df{m:SM}(h:m (eW ps xs λz=>none) σ (bk R))(hl:autoParam (xs.length=ps.length) aA):bD ps m xs [] σ R:=⟨hl,rfl,h⟩
theorem yx{e:aL}{i j:Nat}{v w:CV}(n:j≠i)(h:e j=some w):bA e i v j=some w:=by rw[ox n];exact h
theorem qE{m:SM}(k:∀e,e i=some x->m e σ (bk R)):bD [i] m [x] [] σ R:=⟨rfl,rfl,k (bA (λz=>none) i x) (hJ ..)⟩
theorem yy{m:SM}(k:∀e,e i=some x->e j=some y->m e σ (bk R))(h:autoParam (i≠j) aK):bD [i,j] m [x,y] [] σ R:=⟨rfl,rfl,k (bA (bA (λz=>none) i x) j y) (yx h (hJ ..)) (hJ ..)⟩
theorem Pr{m:SM}{w:CV}{n:Nat}(k:∀e,e i=some x->e j=some y->e n=some w->m e σ (bk R))(h:autoParam (i≠j) aK)(h2:autoParam (i≠n) aK)(h3:autoParam (j≠n) aK):bD [i,j,n] m [x,y,w] [] σ R:=
 ⟨rfl,rfl,k (bA (bA (bA (λz=>none) i x) j y) n w) (yx h2 (yx h (hJ ..))) (yx h3 (hJ ..)) (hJ ..)⟩
theorem gO(h:Ev m e σ v)(k:r (bA e i v) σ Q):ah (aP m (aName i)) r e σ Q:=h _ k
theorem cy(k:m e σ λv ao=>r (bA e i v) ao Q):ah (aP m (aName i)) r e σ Q:=k
theorem lx(h:Ev m e σ v)(h1:Ev m1 e σ x)(h2:Ev m2 e σ y)(k:ly x y v σ λae=>r e ae Q):ah (aP m (dg m1 m2)) r e σ Q:=h _ (h1 _ (h2 _ k))
theorem vU(k:m e σ λv ao=>m1 e ao λx ay=>m2 e ay λy aQ=>ly x y v aQ λae=>r e ae Q):ah (aP m (dg m1 m2)) r e σ Q:=k
theorem vV(k:m e σ λv ao=>m1 e ao λx ay=>yz i x v ay λae=>r e ae Q):ah (aP m (dx i m1)) r e σ Q:=k
theorem Hg(h:Ev m e σ (.tup vs))(k:r (eW is.reverse vs.reverse e) σ Q)(hl:autoParam (vs.length=is.length) aA):ah (gP is m) r e σ Q:=h _ ⟨vs,rfl,hl,k⟩
theorem BN(k:m e σ λv ao=>∃vs,v=.tup vs/\vs.length=is.length/\r (eW is.reverse vs.reverse e) ao Q):ah (gP is m) r e σ Q:=k
theorem Pt{a1 a2:AM}(h:Ev m e σ (.tup [x,y]))(k:a1 x e σ λe' ae=>a2 y e' ae λkH l7=>r kH l7 Q):ah (aP m (eB [a1,a2])) r e σ Q:=h _ ⟨_,rfl,rfl,k⟩
theorem BO{P:aL->St->Prop}(h1:Ev m1 e σ x)(h2:Ev m2 e σ y)(k:ly x y v σ λae=>P e ae):dg m1 m2 v e σ P:=h1 _ (h2 _ k)
theorem BP(h:Ev m e σ (.tup [x,y]))(k:r (bA (bA e i x) j y) σ Q):ah (aP m (eB [aName i,aName j])) r e σ Q:=h _ ⟨_,rfl,rfl,k⟩
theorem acW(k:m e σ λv ao=>∃vs,v=.tup vs/\vs.length=2/\vW [aName i,aName j] vs e ao λe' ae=>r e' ae Q):ah (aP m (eB [aName i,aName j])) r e σ Q:=k
theorem BQ{n:Nat}{P:List CV->Prop}{vs:List CV}(h:vs.length=n)(hn:n<=1000):(vs.length<=1000/\∃us,CV.tup vs=.tup us/\us.length=n/\P us)=P vs:=
 propext ⟨λ⟨_,us,e,_,p⟩=>by cases e;exact p,λp=>⟨h▸hn,vs,rfl,h,p⟩⟩
theorem vX(k:m1 e σ λx ao=>m2 e ao λy ay=>r (bA (bA e j y) i x) ay Q):ah (gP [i,j] (b8 (ag m1 (ag m2 ar)))) r e σ Q:=by
 have h:(λx ao=>m2 e ao λy ay=>[x,y].length<=1000/\∃us,CV.tup [x,y]=.tup us/\us.length=2/\r (eW [i,j].reverse us.reverse e) ay Q)=λx ao=>m2 e ao λy ay=>r (bA (bA e j y) i x) ay Q:=by
  funext x ao
  refine congrArg (m2 e ao) ?_
  funext y ay
  exact BQ rfl (by decide)
 exact Eq.mpr (congrArg (m1 e σ) h) k
theorem acX(k:m1 e σ λx ao=>m2 e ao λy ay=>r (bA (bA e i x) j y) ay Q):ah (aP (b8 (ag m1 (ag m2 ar))) (eB [aName i,aName j])) r e σ Q:=by
 have h:(λx ao=>m2 e ao λy ay=>[x,y].length<=1000/\∃us,CV.tup [x,y]=.tup us/\us.length=2/\vW [aName i,aName j] us e ay λe' ae=>r e' ae Q)=λx ao=>m2 e ao λy ay=>r (bA (bA e i x) j y) ay Q:=by
  funext x ao
  refine congrArg (m2 e ao) ?_
  funext y ay
  exact BQ rfl (by decide)
 exact Eq.mpr (congrArg (m1 e σ) h) k
theorem Pu{m3:EM}(k:m1 e σ λx ao=>m2 e ao λy ay=>m3 e ay λz aQ=>r (bA (bA (bA e i x) j y) l z) aQ Q):ah (aP (b8 (ag m1 (ag m2 (ag m3 ar)))) (eB [aName i,aName j,aName l])) r e σ Q:=by
 have h:(λx ao=>m2 e ao λy ay=>m3 e ay λz aQ=>[x,y,z].length<=1000/\∃us,CV.tup [x,y,z]=.tup us/\us.length=3/\vW [aName i,aName j,aName l] us e aQ λe' ae=>r e' ae Q)=λx ao=>m2 e ao λy ay=>m3 e ay λz aQ=>r (bA (bA (bA e i x) j y) l z) aQ Q:=by
  funext x ao
  refine congrArg (m2 e ao) ?_
  funext y ay
  refine congrArg (m3 e ay) ?_
  funext z aQ
  exact BQ rfl (by decide)
 exact Eq.mpr (congrArg (m1 e σ) h) k
theorem Hh{m3:EM}(k:m1 e σ λx ao=>m2 e ao λy ay=>m3 e ay λz aQ=>r (bA (bA (bA e l z) j y) i x) aQ Q):ah (gP [i,j,l] (b8 (ag m1 (ag m2 (ag m3 ar))))) r e σ Q:=by
 have h:(λx ao=>m2 e ao λy ay=>m3 e ay λz aQ=>[x,y,z].length<=1000/\∃us,CV.tup [x,y,z]=.tup us/\us.length=3/\r (eW [i,j,l].reverse us.reverse e) aQ Q)=λx ao=>m2 e ao λy ay=>m3 e ay λz aQ=>r (bA (bA (bA e l z) j y) i x) aQ Q:=by
  funext x ao
  refine congrArg (m2 e ao) ?_
  funext y ay
  refine congrArg (m3 e ay) ?_
  funext z aQ
  exact BQ rfl (by decide)
 exact Eq.mpr (congrArg (m1 e σ) h) k
theorem bX(h:Ev m e σ v)(k:Q (.ret v) e σ):ah (bh m) r e σ Q:=h _ k
theorem fE(k:m e σ λv ao=>Q (.ret v) e ao):ah (bh m) r e σ Q:=k
theorem iA(k:m e σ λz ao=>r e ao Q):ah (cw m) r e σ Q:=k
theorem Pw{k:Int}(h:Ev m e σ x)(h1:Ev m1 e σ (.int k))(q:yA x k σ R):jZ m m1 e σ R:=h _ (h1 _ ⟨k,rfl,q⟩)
theorem upL{k:Nat}(h:σ a=some (.list vs))(hl:vs.length<=1000)(q:∀l ae,σ l=none->ae l=some (.list (vs.take k))->aF aS σ ae->R (.loc l) ae):yA (.loc a) k σ R:=.li (.inl h) hl λl hn=>q l _ hn (eJ ..) (.new hn)
theorem upR{k:Nat}(h:σ a=some (.ro vs))(hl:vs.length<=1000)(q:∀l ae,σ l=none->ae l=some (.list (vs.take k))->aF aS σ ae->R (.loc l) ae):yA (.loc a) k σ R:=.li (.inr h) hl λl hn=>q l _ hn (eJ ..) (.new hn)
theorem ftX{m3:EM}{j k:Nat}(h:Ev m e σ (.loc a))(h1:Ev m1 e σ (.int j))(h2:Ev m3 e σ (.int k))(hv:σ a=some (.list vs))(yB:j<=k)(hk:k<=vs.length)(hl:vs.length<=1000)(q:∀l ae,σ l=none->ae l=some (.list ((vs.drop j).take (k- j)))->aF aS σ ae->R (.loc l) ae):Hi m m1 m3 e σ R:=
 h _ (h1 _ (h2 _ ⟨j,k,rfl,rfl,a,vs,rfl,hv,yB,hk,hl,λl hn=>q l _ hn (eJ ..) (.new hn)⟩))
theorem Hj(h:Ev m e σ (.loc a))(hv:σ a=some (.list vs))(hl:vs.length<=1000)(q:∀l ae,σ l=none->ae l=some (.list vs.reverse)->aF aS σ ae->R (.loc l) ae):yC m e σ R:=h _ ⟨a,vs,rfl,hv,hl,λl hn=>q l _ hn (eJ ..) (.new hn)⟩
theorem d3X{a b d:Str}{m3:EM}(k:m1 e σ λx ao=>m2 e ao λy ay=>m3 e ay λz aQ=>aQ.new (.dS (bY (bY (bY [] a x) b y) d z)) R):x6 a b d m1 m2 m3 e σ R:=k
theorem mlK{n:Nat}(h1:Ev m1 e σ (.int n))(hv:σ a=some (.list [v]))(hl:n<=1000)(q:∀l ae,σ l=none->ae l=some (.list (qr n v))->aF aS σ ae->R (.loc l) ae):m1 e σ λy ay=>Hk (.loc a) y ay R:=
 h1 _ ⟨a,_,rfl,rfl,n,v,rfl,hv,hl,λl hn=>q l _ hn (eJ ..) (.new hn)⟩
theorem bp(k:Q .next e σ):az e σ Q:=k
theorem oA(k:Q .next e σ):az e σ (sq az Q):=k
theorem acY(k:Q .brk e σ):ah BR r e σ Q:=k
theorem Hl(k:Q .cont e σ):ah yD r e σ Q:=k
theorem Px(k:Q (.ret .none) e σ):ah BS r e σ Q:=k
theorem oB(h:bM t e σ true)(k:s1 e σ (sq r Q)):ah (bC t s1 s2) r e σ Q:=h _ k
theorem e8(h:bM t e σ false)(k:s2 e σ (sq r Q)):ah (bC t s1 s2) r e σ Q:=h _ k
theorem fP(h:bM t e σ b)(k1:b=true->s1 e σ (sq r Q))(k2:b=false->s2 e σ (sq r Q)):ah (bC t s1 s2) r e σ Q:=by
 induction b with
 |true=>exact oB h (k1 rfl)
 |false=>exact e8 h (k2 rfl)
theorem BU{A B:St->Prop}:(λ(v:Bool) (ao:St)=>if v=true then A ao else B ao)=λv ao=>match v with |true=>A ao |false=>B ao:=by
 funext v ao;cases v<;>rfl
theorem vY(k:t e σ λv ao=>match v with |true=>s1 e ao (sq r Q) |false=>s2 e ao (sq r Q)):ah (bC t s1 s2) r e σ Q:=by
 have h:t e σ (λv ao=>if v=true then s1 e ao (sq r Q)else s2 e ao (sq r Q)):=by rw[BU];exact k
 exact h
theorem Py{old v':CV}(h1:Ev m e σ v)(k:r (bA e i v') σ Q)(h:autoParam (e i=some old) aE._auto_1)(h2:vZ op old v v'):ah (v5 i op m) r e σ Q:=⟨old,h,h1 _ ⟨v',h2,k⟩⟩
theorem yE{s:SM}(P:aL->St->Prop)(h1:∀e' ae,P e' ae->r e' ae Q)(h2:∀K:dy->aL->St->Prop,(∀{e' ae},P e' ae->K .next e' ae)->(∀{v e' ae},Q (.ret v) e' ae->K (.ret v) e' ae)->s e σ K):ah s r e σ Q:=h2 _ (λp=>h1 _ _ p) (λq=>q)
theorem tR(h:bM t e σ b)(k1:b=true->s1 e σ Q)(k2:b=false->s2 e σ Q):bC t s1 s2 e σ Q:=by
 induction b with
 |true=>exact h _ (k1 rfl)
 |false=>exact h _ (k2 rfl)
theorem ifX(k:t e σ λv ao=>match v with |true=>s1 e ao Q |false=>s2 e ao Q):bC t s1 s2 e σ Q:=by
 have h:t e σ (λv ao=>if v=true then s1 e ao Q else s2 e ao Q):=by rw[BU];exact k
 exact h
theorem bV(h:Ev m e σ v)(k:R v σ):m e σ R:=h _ k
theorem lA(k:m1 e σ λx ao=>m2 e ao λy ay=>tV op x y ay R):be op m1 m2 e σ R:=k
theorem pK(h:Ev m1 e σ x)(k:m2 e σ λy ay=>tV op x y ay R):be op m1 m2 e σ R:=h _ k
theorem BV(h:bM t e σ true)(k:m1 e σ R):eH t m1 m2 e σ R:=h _ k
theorem yF(h:bM t e σ false)(k:m2 e σ R):eH t m1 m2 e σ R:=h _ k
theorem toF{t1 t2:TM}{B:Bool->St->Prop}(h:bM t1 e σ false)(k:t2 e σ B):hH t1 t2 e σ B:=h _ k
theorem Pz{t1 t2:TM}{B:Bool->St->Prop}(h:bM t1 e σ true)(k:t2 e σ B):bR t1 t2 e σ B:=h _ k
theorem PF{B:Bool->St->Prop}(k:t e σ B):hH t (cQ false) e σ B:=by
 have h:(λ(b:Bool) (ao:St)=>if b=true then B true ao else cQ false e ao B)=B:=by
  funext b ao;cases b<;>rfl
 exact Eq.mpr (congrArg (t e σ) h) k
theorem PH{B:Bool->St->Prop}(k:t e σ B):bR t (cQ true) e σ B:=by
 have h:(λ(b:Bool) (ao:St)=>if b=true then cQ true e ao B else B false ao)=B:=by
  funext b ao;cases b<;>rfl
 exact Eq.mpr (congrArg (t e σ) h) k
theorem v7(k:m e σ λx ao=>vQ i x ao R):bf i m e σ R:=k
theorem gQ(h:Bi op x y σ v)(k:R v σ):tV op x y σ R:=h _ k
theorem itK(h:It x y σ v)(k:R v σ):vP x y σ R:=h _ k
theorem atK(h:At i x σ v)(k:R v σ):vQ i x σ R:=h _ k
theorem BW(h:Fn F vs σ v)(k:R v σ):F vs [] σ R:=h _ k
theorem v8{op:CmpOp}{B:Bool->St->Prop}(k:m1 e σ λx ao=>m2 e ao λy ay=>v9 op x y ay λb=>B b ay):aT op m1 m2 e σ B:=k
theorem wb{op:CmpOp}{B:Bool->Prop}(h:Cm op x y σ b)(k:B b):v9 op x y σ B:=⟨_,h,k⟩
theorem BX{B:Bool->St->Prop}(k:m e σ λx ao=>∃b,x=.bool b/\B b ao):jh m e σ B:=k
theorem dH{K:List CV->St->Prop}(k:m e σ λx ao=>K [x] ao):ag m ar e σ K:=k
theorem j0{K:List CV->St->Prop}(h:Ev m e σ x)(k:ms e σ λxs ao=>K (x::xs) ao):ag m ms e σ K:=h _ k
theorem jC{K:List CV->St->Prop}(k:m e σ λx ao=>ms e ao λxs ay=>K (x::xs) ay):ag m ms e σ K:=k
theorem elK{K:List CV->St->Prop}(h:gq ms e σ vs)(k:K vs σ):ms e σ K:=h _ k
theorem tbK{B:Bool->St->Prop}(h:bM t e σ b)(k:B b σ):t e σ B:=h _ k
theorem baN{σ:St}{R:CV->St->Prop}(h:∀a ae,σ a=none->ae a=some (.ba [])->aF aS σ ae->R (.loc a) ae):Hm [] [] σ R:=⟨rfl,rfl,λa ha=>h a _ ha (eJ ..) (.new ha)⟩
theorem cu(h:gq ms e σ vs)(k:F vs [] σ R):aY F ms e σ R:=h _ k
theorem j1(k:ms e σ λxs ae=>F xs [] ae R):aY F ms e σ R:=k
theorem eX{C:Nat}(h:Ev m e σ x)(hi:r9 C i x σ)(h1:gq ms e σ vs)(k:F (x::vs) [] σ R):bN C i F m ms e σ R:=h _ ⟨hi,h1 _ k⟩
theorem sj{C:Nat}(h:Ev m e σ x)(hi:r9 C i x σ)(k:ms e σ λxs ae=>F (x::xs) [] ae R):bN C i F m ms e σ R:=h _ ⟨hi,k⟩
theorem pL{P:CV->St->Prop}(h:Ev m e σ x)(hi:P x σ)(h1:gq ms e σ vs)(k:F (x::vs) [] σ R):bJ P F m ms e σ R:=h _ ⟨hi,h1 _ k⟩
theorem yG{P:CV->St->Prop}(h:Ev m e σ x)(hi:P x σ)(k:ms e σ λxs ae=>F (x::xs) [] ae R):bJ P F m ms e σ R:=h _ ⟨hi,k⟩
theorem ceT(h:Ev m1 e σ x)(k:m2 e σ λy ay=>vP x y ay R):bc m1 m2 e σ R:=h _ k
theorem cX{σ:St}{Q:CV->St->Prop}(h:∀a ae,σ a=none->ae a=some o->aF aS σ ae->Q (.loc a) ae):σ.new o Q:=λa ha=>h a _ ha (eJ ..) (.new ha)
theorem dh(h:gq ms e σ vs)(k:∀a ae,σ a=none->ae a=some (.list vs)->aF aS σ ae->R (.loc a) ae)(hl:autoParam (vs.length<=1000) aG._auto_1):eList ms e σ R:=h _ ⟨hl,cX k⟩
theorem PJ{a:Addr}{k:Str}{es:List (Str×CV)}{P:St->Prop}(h:σ a=some (.dS es))(hl:es.length<=1000)(q:∀ae,ae a=some (.dS (bY es k v))->aF (one a) σ ae->P ae):ly (.loc a) (.str k) v σ P:=.dS h hl (q _ (eJ ..) (.upd rfl))
theorem BY{a:Addr}{k:List UInt8}{es:List (List UInt8×CV)}{P:St->Prop}(h:σ a=some (.dB es))(hl:es.length<=1000)(q:∀ae,ae a=some (.dB (bY es k v))->aF (one a) σ ae->P ae):ly (.loc a) (.bytes k) v σ P:=.dB h hl (q _ (eJ ..) (.upd rfl))
theorem fsI{a:Addr}{k:Int}{es:List (Int×CV)}{P:St->Prop}(h:σ a=some (.dI es))(hl:es.length<=1000)(q:∀ae,ae a=some (.dI (bY es k v))->aF (one a) σ ae->P ae):ly (.loc a) (.int k) v σ P:=.dI h hl (q _ (eJ ..) (.upd rfl))
theorem fsL{a:Addr}{k:Nat}{P:St->Prop}(h:σ a=some (.list vs))(hk:k<vs.length)(hl:vs.length<=1000)(q:∀ae,ae a=some (.list (vs.set k v))->aF (one a) σ ae->P ae):ly (.loc a) (.int k) v σ P:=.li h hk hl (q _ (eJ ..) (.upd rfl))
theorem bP.a7{X:Addr->Prop}{σ:St}{a C d:Addr}{fs:List (Nat×CV)}(h:bP σ a C d fs)(p:aF X σ ae)(na:autoParam (¬X a) aX)(nd:autoParam (¬X d) aX):bP ae a C d fs:=⟨p.at h.1 na,p.at h.2 nd⟩
theorem bP.ne(h:bP σ a C d fs):a≠d:=λe=>by have:=h.1;rw[e,h.2]at this;cases this
theorem sk{P:St->Prop}(h:bP σ a C d fs)(q:∀ae,bP ae a C d (j2 fs i v)->aF (one d) σ ae->P ae)(hf:autoParam (isField C i=true) aA)(hb:autoParam (v.tX=false) aA)(hl:autoParam (fs.length<=20) aG._auto_1):yz i (.loc a) v σ P:=
 ⟨a,C,d,fs,rfl,h.1,h.2,hf,hb,hl,q _ ⟨GW h.1 h.ne,eJ ..⟩ (.upd rfl)⟩
theorem fF(h:Ev m e σ v)(h1:e j=some (.loc a))(hi:bP σ a C d fs)(q:∀ae,bP ae a C d (j2 fs i v)->aF (one d) σ ae->r e ae Q)(hf:autoParam (isField C i=true) aA)(hb:autoParam (v.tX=false) aA)(hl:autoParam (fs.length<=20) aG._auto_1):ah (aP m (dx i (af j))) r e σ Q:=
 h _ (BH h1 (sk hi q hf hb hl))
theorem BZ{n:CV}(h:σ a=some (.list (vs++[n])))(hl:vs.length+1<=1000)(q:∀ae,ae a=some (.list vs)->aF (one a) σ ae->R n ae):sr [.loc a] [] σ R:=.inl (a1 (k:=.L) ⟨vs,n,h,hl,q _ (eJ ..) (.upd rfl)⟩)
theorem FP{n:CV}{k:Nat}(h:σ a=some (.list vs))(hv:vs[k]?=some n)(hl:vs.length<=1000)(q:∀ae,ae a=some (.list (vs.eraseIdx k))->aF (one a) σ ae->R n ae):sr [.loc a,.int k] [] σ R:=.inr (a2 (k:=.L) (l:=.I) ⟨k,vs,n,rfl,h,hv,hl,q _ (eJ ..) (.upd rfl)⟩)
theorem we(h:σ a=some (.list vs))(hl:vs.length<=1000)(q:∀ae,ae a=some (.list (vs++[v]))->aF (one a) σ ae->R .none ae):cN [.loc a,v] [] σ R:=a2 (k:=.L) (l:=.V) ⟨vs,h,hl,q _ (eJ ..) (.upd rfl)⟩
theorem yH(h:Ev m e σ (.loc a))(h1:Ev m1 e σ v)(ha:σ a=some (.list vs))(hl:vs.length<=1000)(q:∀ae,ae a=some (.list (vs++[v]))->aF (one a) σ ae->r e ae Q):ah (cw (bJ cD cN m (ag m1 ar))) r e σ Q:=h _ ⟨⟨_,_,rfl,ha⟩,h1 (λx ao=>cN [.loc a,x] [] ao λz ao=>r e ao Q) (we ha hl q)⟩
theorem PM{a b:List UInt8}{l:List (List UInt8)}(hs:lB a b=l)(hb:b≠[])(hp:∀p∈l,p.length<=1000)(hl:l.length<=1000)(q:∀x ae,σ x=none->ae x=some (.list (l.map .bytes))->aF aS σ ae->R (.loc x) ae):yI [.bytes a,.bytes b] [] σ R:=by
 subst hs;exact a2 (k:=.B) (l:=.B) ⟨hb,hp,hl,cX q⟩
theorem mxK{is:List Int}(h:σ a=some (.list (is.map .int)))(h0:0<is.length)(k:∀m,m∈is->(∀i∈is,i<=m)->R (.int m) σ):Hn [.loc a] [] σ R:=a1 (k:=.L) ⟨is,h,h0,k⟩
theorem exK{b:Addr}(h1:σ a=some (.list vs))(h2:σ b=some (.list ws))(hl:vs.length+ws.length<=1000)(q:∀ae,ae a=some (.list (vs++ws))->aF (one a) σ ae->R .none ae):Ho [.loc a,.loc b] [] σ R:=a2 (k:=.L) (l:=.L) ⟨vs,ws,h1,h2,hl,q _ (eJ ..) (.upd rfl)⟩
theorem PN{b:Addr}(h1:σ a=some (.list vs))(h2:σ b=some (.list ws))(hl:vs.length+ws.length<=1000)(q:∀l ae,σ l=none->ae l=some (.list (vs++ws))->aF aS σ ae->R (.loc l) ae):tV .Add (.loc a) (.loc b) σ R:=.PO h1 h2 hl (cX q)
theorem tY{α:Type}{f:α->CV}{xs:List α}{u:α}(h:σ a=some (.list (xs.map f)))(hl:xs.length<=1000)(q:∀ae,ae a=some (.list ((xs++[u]).map f))->aF (one a) σ ae->R .none ae):cN [.loc a,f u] [] σ R:=
 we h (by rw[aZ];exact hl) λae g p=>q ae (by rw[cR];exact g) p
theorem su{α:Type}{xs:List α}(f:α->CV)(u:α)(h:Ev m e σ (.loc a))(h1:Ev m1 e σ (f u))(ha:σ a=some (.list (xs.map f)))(hl:xs.length<=1000)(q:∀ae,ae a=some (.list ((xs++[u]).map f))->aF (one a) σ ae->r e ae Q):ah (cw (bJ cD cN m (ag m1 ar))) r e σ Q:=
 yH h h1 ha (by rw[aZ];exact hl) λae g p=>q ae (by rw[cR];exact g) p
theorem sv(h:Ev m e σ (.loc a))(ha:σ a=some (.list vs))(k:m1 e σ λv ao=>cN [.loc a,v] [] ao R):bJ cD cN m (ag m1 ar) e σ R:=h _ ⟨⟨_,_,rfl,ha⟩,k⟩
theorem pM(h:∀a d ao,σ a=none->σ d=none->bP ao a C d []->aF aS σ ao->F (.loc a::xs) [] ao λv ae=>v=.none/\R (.loc a) ae):eV C F xs [] σ R:=λa d n ha hd=>
 h a d _ ha hd ⟨eJ ..,GW (eJ ..) (Ne.symm n)⟩ λb o e z=>by
  have h1:b≠a:=gK ha e;have h2:b≠d:=gK hd e;rw[iU h1,iU h2];exact e
theorem Hp{x:Addr}{B:Bool->St->Prop}(hx:σ x=some (.list vs))(h:∀ae,aF aS σ ae->B (decide (vs≠[])) ae):σ.new (.list []) (λy ay=>v9 .NotEq (.loc x) y ay λb=>B b ay):=λa ha=>by
 have p:aF aS σ (upd σ a (.list [])):=.new ha
 have e:(!vs.isEmpty)=decide (vs≠[]):=by cases vs<;>simp
 exact⟨_,.tL (p.at hx) (eJ ..),by rw[e];exact h _ p⟩
theorem B0{l:Addr}(h:Ev m e σ (.loc l))(hx:σ l=some (.list vs))(k1:vs≠[]->∀ae,aF aS σ ae->s1 e ae (sq r Q))(k2:vs=[]->∀ae,aF aS σ ae->s2 e ae (sq r Q)):
  ah (bC (aT .NotEq m (eList ar)) s1 s2) r e σ Q:=h _ ⟨dE _,Hp hx λae p=>by
 by_cases g:vs=[]
 ·rw[decide_eq_false (λz=>z g)];exact k2 g ae p
 ·rw[decide_eq_true g];exact k1 g ae p⟩
end
section
variable{e:aL}{σ:St}{m m1 m2:EM}{R:CV->St->Prop}{vs:List CV}
theorem acZ{l:Addr}(h:Ev m e σ (.loc l))(hx:σ l=some (.list vs))(k1:vs≠[]->∀ae,aF aS σ ae->m1 e ae R)(k2:vs=[]->∀ae,aF aS σ ae->m2 e ae R):eH (aT .NotEq m (eList ar)) m1 m2 e σ R:=h _ ⟨dE _,Hp hx λae p=>by
 by_cases g:vs=[]
 ·rw[decide_eq_false (λz=>z g)];exact k2 g ae p
 ·rw[decide_eq_true g];exact k1 g ae p⟩
end
section
variable{e:aL}{σ:St}{v x y z:CV}{m m1 m2:EM}{t:TM}{b r:SM}{vs:List CV}{Q:dy->aL->St->Prop}{R:CV->St->Prop}{i j:Nat}{a:Addr}{A:AM}{ok:St->Prop}
theorem yJ(o:ok σ)(k:Q .next e σ):gc ok A b Q [] e σ:=⟨o,k⟩
theorem jD(h:Ev m e σ (.loc a))(ha:σ a=some (.list vs))(k:∀ok:St->Prop,(∀ae,ae a=some (.list vs)->ok ae)->gc ok A b (sq r Q) vs e σ):ah (cY (bO m) A b) r e σ Q:=h _ (.li (.inl ha) (k _ λz=>.inl))
theorem PQ(h:Ev m e σ (.loc a))(ha:σ a=some (.list vs))(k:∀ok:St->Prop,(∀ae,ae a=some (.list vs)->ok ae)->gc ok A b (sq r Q) (qx 0 vs) e σ):ah (cY (tQ m) A b) r e σ Q:=h _ ⟨a,vs,rfl,.inl ha,k _ λz=>.inl⟩
theorem Hr(h:Ev m e σ (.tup vs))(k:gc pN A b (sq r Q) vs e σ):ah (cY (bO m) A b) r e σ Q:=h _ (.tu k)
theorem Hs{bs:List UInt8}(h:Ev m e σ (.bytes bs))(k:gc pN A b (sq r Q) (yK bs) e σ):ah (cY (bO m) A b) r e σ Q:=h _ (.by k)
theorem wg(k:m e σ λx ao=>B1 x ao λitems ok ay=>gc ok A b (sq r Q) items e ay):ah (cY (bO m) A b) r e σ Q:=k
theorem iX{P:List CV->(St->Prop)->St->Prop}(ha:σ a=some (.list vs))(k:∀ok:St->Prop,(∀ae,ae a=some (.list vs)->ok ae)->P vs ok σ):B1 (.loc a) σ P:=.li (.inl ha) (k _ λz=>.inl)
structure yL(L:List Nat)(e:aL)(J:aL->St->Prop)(Q K:dy->aL->St->Prop):Prop where
 nx:∀{e' ae},J e' ae->autoParam (cx L e e') aD._auto_1->K .next e' ae
 ct:∀{e' ae},J e' ae->autoParam (cx L e e') aD._auto_1->K .cont e' ae
 br:∀{e σ},Q .next e σ->K .brk e σ
 rt:∀{v e σ},Q (.ret v) e σ->K (.ret v) e σ
theorem yM{α:Type}(L:List Nat)(f:α->CV)(I:List α->aL->St->Prop)(hs:∀x xs e' ae,cx L e e'->I (x::xs) e' ae->ok ae/\∀K,yL L e (I xs) Q K->A (f x) e' ae λe1 ao=>b e1 ao K)(he:∀e' ae,cx L e e'->I [] e' ae->ok ae/\Q .next e' ae):
  ∀{xs:List α} {e':aL} {σ:St},cx L e e'->I xs e' σ->gc ok A b Q (xs.map f) e' σ
 |[],_,_,s,h=>he _ _ s h
 |x::xs,_,_,s,h=>⟨(hs x xs _ _ s h).1,(hs x xs _ _ s h).2 _ ⟨λz s=>yM L f I hs he s z,λz s=>yM L f I hs he s z,λz=>z,λz=>z⟩⟩
theorem qF{α:Type}{xs:List α}(L:List Nat)(f:α->CV)(I:List α->aL->St->Prop)(h0:I xs e σ)(hs:∀x xs e' ae,cx L e (bA e' i (f x))->I (x::xs) e' ae->ok ae/\∀K,yL L e (I xs) Q K->b (bA e' i (f x)) ae K)(he:∀e' ae,cx L e e'->I [] e' ae->ok ae/\Q .next e' ae)(hi:autoParam (L.contains i=true) aA):gc ok (aName i) b Q (xs.map f) e σ:=
 yM L f I (λx xs e' ae s h=>hs x xs e' ae (s.set hi) h) he .refl h0
theorem pO{α:Type}{xs:List α}(L:List Nat)(f:α->CV)(I:List α->St->Prop)(h0:I xs σ)(hs:∀x xs e' ae,cx L e e'->e' i=some (f x)->I (x::xs) ae->ok ae/\∀K,yL L e (λz=>I xs) Q K->b e' ae K)(he:∀e' ae,cx L e e'->I [] ae->ok ae/\Q .next e' ae)(hi:autoParam (L.contains i=true) aA):gc ok (aName i) b Q (xs.map f) e σ:=
 yM L f (λxs z=>I xs) (λx xs e' ae s h=>hs x xs _ ae (s.set hi) (hJ ..) h) he .refl h0
theorem ac0{α:Type}{xs:List α}(L:List Nat)(f g:α->CV)(I:List α->St->Prop)(h0:I xs σ)(hs:∀x xs e' ae,cx L e e'->e' i=some (f x)->e' j=some (g x)->I (x::xs) ae->ok ae/\∀K,yL L e (λo=>I xs) Q K->b e' ae K)(he:∀e' ae,cx L e e'->I [] ae->ok ae/\Q .next e' ae)(yN:autoParam (i≠j) aK)(hi:autoParam (L.contains i=true) aA)(hj:autoParam (L.contains j=true) aA):gc ok (eB [aName i,aName j]) b Q (xs.map λx=>.tup [f x,g x]) e σ:=
 yM L (λx=>.tup [f x,g x]) (λxs o=>I xs) (λx xs e' ae s h=>
  have z:=hs x xs _ ae ((s.set hi).set hj) (by rw[ox yN];exact hJ ..) (hJ ..) h
  ⟨z.1,λK k=>⟨_,rfl,rfl,z.2 K k⟩⟩) he .refl h0
theorem Ht{vs:List CV}(L:List Nat)(I:Nat->aL->St->Prop)(h0:I 0 e σ)
  (hs:∀(k:Nat) v e' ae,vs[k]?=some v->cx L e (bA (bA e' i (.int k)) j v)->I k e' ae->ok ae/\∀K,yL L e (I (k+1)) Q K->b (bA (bA e' i (.int k)) j v) ae K)
  (he:∀e' ae,cx L e e'->I vs.length e' ae->ok ae/\Q .next e' ae)(hi:autoParam (L.contains i=true) aA)(hj:autoParam (L.contains j=true) aA):gc ok (eB [aName i,aName j]) b Q (qx 0 vs) e σ:=by
 have key:∀(rest done:List CV),vs=done++rest->∀e' σ,cx L e e'->I done.length e' σ->gc ok (eB [aName i,aName j]) b Q (qx done.length rest) e' σ:=by
  intro rest
  induction rest with
  |nil=>intro done hd e' σ s hI;rw[fj]at hd;subst hd;exact he e' σ s hI
  |cons v rest ih=>
   intro done hd e' σ s hI
   refine xa (hs done.length v e' σ (by rw[hd,EC (cP _),Nat.sub_self];rfl) ((s.set hi).set hj) hI) λh1 h2=>?_
   have ih:=ih (done++[v]) (by rw[hd,fK];rfl)
   rw[bW,mH]at ih;exact⟨h1,_,rfl,rfl,h2 _ ⟨λz s=>ih _ _ s z,λz s=>ih _ _ s z,λz=>z,λz=>z⟩⟩
 exact key vs [] rfl e σ .refl h0
theorem PR(k:m e σ λx ao=>∃i,x=.int i/\-(2^62)<=i/\i<2^62/\gc pN A b (sq r Q) (m8 i) e ao):ah (cY (oh m) A b) r e σ Q:=k
theorem ac1(k:m e σ λx ao=>∃a vs,x=.loc a/\(ao a=some (.list vs)\/ao a=some (.ro vs))/\gc (pP a vs) A b (sq r Q) (qx 0 vs) e ao):ah (cY (tQ m) A b) r e σ Q:=k
noncomputable def nI(i:Nat):CV:=.int i
theorem B2(n:Nat):m8 (n:Int)=(mQ 0 n).map nI:=by
 unfold m8;rw[pf,List.range_eq_range'];rfl
theorem PU{n:Nat}(hn:n<=1000)(k:gc pN A b Q ((mQ 0 n).map nI) e σ):∃i,CV.int n=.int i/\-(2^62)<=i/\i<2^62/\gc pN A b Q (m8 i) e σ:=
 ⟨n,rfl,by exact fY _,by exact ko.2 (lz hn rfl),by rw[B2];exact k⟩
noncomputable def wl(W:aL->St->Prop)(Q:dy->aL->St->Prop):dy->aL->St->Prop:=λfl e' ae=>match fl with
 |.next |.cont=>W e' ae
 |.brk=>Q .next e' ae
 |.ret x=>Q (.ret x) e' ae
noncomputable def tZ(t:TM)(b:SM)(Q:dy->aL->St->Prop)(W:aL->St->Prop)(e:aL)(σ:St):Prop:=t e σ λv ao=>if v=true then b e ao (wl W Q)else Q .next e ao
noncomputable def oD(t:TM)(b:SM)(Q:dy->aL->St->Prop):Nat->aL->St->Prop
 |0=>λz z=>False
 |n+1=>λe σ=>oD t b Q n e σ\/tZ t b Q (oD t b Q n) e σ
theorem B3:∀{n:Nat} {e:aL} {σ:St},oD t b Q n e σ↔∃m,m<n/\tZ t b Q (oD t b Q m) e σ
 |0,_,_=>⟨False.elim,λ⟨_,h,_⟩=>(xM _ h).elim⟩
 |n+1,e,σ=>by
  refine Iff.trans (or_congr_left B3) ⟨?_,?_⟩
  ·rintro(⟨m,h,k⟩ |k)
   ·exact⟨m,xI h,k⟩
   ·exact⟨n,kZ n,k⟩
  ·rintro⟨m,h,k⟩
   rcases Nat.lt_succ_iff_lt_or_eq.1 h with h |rfl
   ·exact .inl ⟨m,h,k⟩
   ·exact .inr k
theorem whU{n:Nat}(h:oD t b Q n e σ):jE t b e σ Q:=by
 refine a9 (B3.1 h) λm zz h=>?_;refine⟨λm=>tZ t b Q (oD t b Q m),m,h,λk e σ h=>?_⟩
 have eq:(λ(fl:dy) (e':aL) (ae:St)=>match fl with |.next |.cont=>∃m,m<k/\tZ t b Q (oD t b Q m) e' ae |.brk=>Q .next e' ae |.ret x=>Q (.ret x) e' ae)=wl (oD t b Q k) Q:=by
  funext fl e' ae
  induction fl with
  |next=>exact propext B3.symm
  |cont=>exact propext B3.symm
  |brk=>rfl
  |ret x=>rfl
 exact Eq.mpr (congrArg (λF:dy->aL->St->Prop=>t e σ λv ao=>if v=true then b e ao F else Q .next e ao) eq) h
theorem ac2{n m:Nat}(h:n<=m)(k:oD t b Q n e σ):oD t b Q m e σ:=by
 induction h with
 |refl=>exact k
 |step _ ih=>exact .inl ih
theorem qG(L:List Nat)(I:Nat->aL->St->Prop){n:Nat}(h0:I n e σ)(hs:∀n e' ae,cx L e e'->I n e' ae->∀W:aL->St->Prop,(∀{m kH l7},m<n->I m kH l7->autoParam (cx L e kH) aD._auto_1->W kH l7)->tZ t b Q W e' ae):jE t b e σ Q:=by
 have key:∀n e' ae,cx L e e'->I n e' ae->oD t b Q (n+1) e' ae:=λn=>by
  induction n using Nat.strongRecOn with
  |ind n ih=>exact λe' ae s h=>.inr (hs n e' ae s h _ λ{m kH l7} hm h s=>ac2 hm (ih m hm kH l7 s h))
 exact whU (key _ _ _ .refl h0)
theorem pQ(k:jE t b e σ (sq r Q)):ah (jE t b) r e σ Q:=k
theorem sA{W:aL->St->Prop}{b1:Bool}(h:bM t e σ b1)(k1:b1=true->b e σ (wl W Q))(k2:b1=false->Q .next e σ):tZ t b Q W e σ:=by
 induction b1 with
 |true=>exact h _ (k1 rfl)
 |false=>exact h _ (k2 rfl)
theorem PV{W:aL->St->Prop}{l:Addr}(h:Ev m e σ (.loc l))(hx:σ l=some (.list vs))(k1:vs≠[]->∀ae,aF aS σ ae->b e ae (wl W Q))(k2:vs=[]->∀ae,aF aS σ ae->Q .next e ae):
  tZ (aT .NotEq m (eList ar)) b Q W e σ:=h _ ⟨dE _,Hp hx λae p=>by
 by_cases g:vs=[]
 ·rw[decide_eq_false (λz=>z g)];exact k2 g ae p
 ·rw[decide_eq_true g];exact k1 g ae p⟩
end
noncomputable def Src(it:IM)(e:aL)(σ:St)(vs:List CV):Prop:=∀Q:List CV->(St->Prop)->St->Prop,(∀ok:St->Prop,ok σ->Q vs ok σ)->it e σ Q
noncomputable def iC(raw:Ks):List Nat:=(raw.filter λp=>fO (some p.2)).map (λx=>x.1)
theorem B4(raw:Ks)(e:aL):cx (iC raw) e (lC raw e):=λj hj=>by
 unfold lC;refine if_neg λh=>?_
 cases q:raw.lookup j with
 |none=>rw[q]at h;exact eP h
 |some k=>
  rw[q]at h;have:j∈iC raw:=dD.2 ⟨(j,k),rK.2 ⟨lookup_mem q,h⟩,rfl⟩;rw[<-vo,hj]at this;exact eP this
section
variable{e:aL}{σ:St}{m el:EM}{t:TM}{vs:List CV}{R:CV->St->Prop}{i j:Nat}{a:Addr}{it:IM}{raw:Ks}{α:Type}
theorem Src.li(h:Ev m e σ (.loc a))(ha:autoParam (σ a=some (.list vs)) aB._auto_1):Src (bO m) e σ vs:=λQ q=>h _ (.li (.inl ha) (q _ (.inl ha)))
theorem Src.tu(h:Ev m e σ (.tup vs)):Src (bO m) e σ vs:=λQ q=>h _ (.tu (q _ trivial))
theorem Src.st{x:Str}(h:Ev m e σ (.str x))(ha:x.cps.all (·<128)=true):Src (bO m) e σ (yO x):=λQ q=>h _ (.st ha (q _ trivial))
theorem Src.rg{n:Nat}(h:Ev m e σ (.int n))(hn:n<=1000):Src (oh m) e σ ((mQ 0 n).map nI):=λQ q=>h _ ⟨n,rfl,by exact fY _,by exact ko.2 (lz hn rfl),by rw[B2];exact q _ trivial⟩
theorem yP{ok:St->Prop}{Q:List CV->St->Prop}{A:AM}{l:List Nat}(f:α->CV)(p:α->Bool)(g:α->CV)(S:α->aL->Prop)(o:ok σ)(hA:∀x ce (T:aL->St->Prop),cx l e ce->(∀mc,cx l e mc->S x mc->T mc σ)->A (f x) ce σ T)
  :∀(xs:List α),(∀x∈xs,∀ce,cx l e ce->S x ce->bM t ce σ (p x)/\(p x=true->Ev el ce σ (g x)))->∀(ce:aL) (acc:List CV),cx l e ce->acc.length+xs.length<=1000->Q (acc++(xs.filter p).map g) σ->hM ok A t el Q (xs.map f) ce acc σ
 |[],_,ce,acc,s,hl,q=>⟨o,by rw[List.filter_nil,Fc,fj]at q;exact q⟩
 |x::xs,hb,ce,acc,s,hl,q=>⟨o,aR (mL _ _) hl,hA x ce _ s λmc s' sx=>by
  refine xa (hb x (.head _) mc s' sx) λh1 h2=>?_;rw[jP]at hl;refine h1 _ ?_
  cases g0:p x with
  |true=>
   rw[mM,if_pos g0,gC]at q
   exact h2 g0 _ (yP f p g S o hA xs (λy hy=>hb y (.tail _ hy)) mc _ s' (by rw[bW];show _+1+_<=_;exact l1 hl (by simp+arith only)) (by rw[fK];exact q))
  |false=>
   rw[mM,if_neg (by rw[g0];exact gY)]at q
   exact yP f p g S o hA xs (λy hy=>hb y (.tail _ hy)) mc _ s' (iQ hl) q⟩
theorem Hu{ok:St->Prop}{xs:List α}(f:α->CV)(p:α->Bool)(g:α->CV)(o:ok σ)(hl:xs.length<=1000)
  (hb:∀x∈xs,∀ce,cx (iC raw) e ce->ce i=some (f x)->bM t ce σ (p x)/\(p x=true->Ev el ce σ (g x)))
  (k:∀l ae,σ l=none->ae l=some (.list ((xs.filter p).map g))->aF aS σ ae->R (.loc l) ae)(hi:autoParam ((iC raw).contains i=true) aA):hM ok (aName i) t el (λacc aQ=>aQ.new (.list acc) R) (xs.map f) (lC raw e) [] σ:=
 yP f p g (λx ce=>ce i=some (f x)) o (λx ce T s h=>h _ (s.set hi) (hJ ..)) xs hb _ [] (B4 raw e) (by rw[tv,mO];exact hl) (cX k)
theorem wj{ok:St->Prop}{xs:List α}(f:α->CV)(g:α->CV)(o:ok σ)(hl:xs.length<=1000)
  (hb:∀x∈xs,∀ce,cx (iC raw) e ce->ce i=some (f x)->Ev el ce σ (g x))
  (k:∀l ae,σ l=none->ae l=some (.list (xs.map g))->aF aS σ ae->R (.loc l) ae)(hi:autoParam ((iC raw).contains i=true) aA):hM ok (aName i) de el (λacc aQ=>aQ.new (.list acc) R) (xs.map f) (lC raw e) [] σ:=
 Hu f (λz=>true) g o hl (λx hx ce s h=>⟨.GY,λz=>hb x hx ce s h⟩) (by rw[EK.2 λz z=>rfl];exact k) hi
theorem Hv{xs:List α}(f:α->CV)(p:α->Bool)(g:α->CV)(hs:Src it e σ (xs.map f))(hl:xs.length<=1000)
  (hb:∀x∈xs,∀ce,cx (iC raw) e ce->ce i=some (f x)->bM t ce σ (p x)/\(p x=true->Ev el ce σ (g x)))
  (k:∀l ae,σ l=none->ae l=some (.list ((xs.filter p).map g))->aF aS σ ae->R (.loc l) ae)(hi:autoParam ((iC raw).contains i=true) aA):cT raw it (aName i) t el e σ R:=
 hs _ λok o=>Hu f p g o hl hb k hi
theorem md{xs:List α}(f:α->CV)(g:α->CV)(hs:Src it e σ (xs.map f))(hl:xs.length<=1000)
  (hb:∀x∈xs,∀ce,cx (iC raw) e ce->ce i=some (f x)->Ev el ce σ (g x))
  (k:∀l ae,σ l=none->ae l=some (.list (xs.map g))->aF aS σ ae->R (.loc l) ae)(hi:autoParam ((iC raw).contains i=true) aA):cT raw it (aName i) de el e σ R:=
 hs _ λok o=>wj f g o hl hb k hi
theorem ac3{xs:List α}(f1 f2:α->CV)(g:α->CV)(hs:Src it e σ (xs.map λx=>.tup [f1 x,f2 x]))(hl:xs.length<=1000)
  (hb:∀x∈xs,∀ce,cx (iC raw) e ce->ce i=some (f1 x)->ce j=some (f2 x)->Ev el ce σ (g x))
  (k:∀l ae,σ l=none->ae l=some (.list (xs.map g))->aF aS σ ae->R (.loc l) ae)(yN:autoParam (i≠j) aK)(hi:autoParam ((iC raw).contains i=true) aA)(hj:autoParam ((iC raw).contains j=true) aA):cT raw it (eB [aName i,aName j]) de el e σ R:=
 hs _ λok o=>yP (λx=>.tup [f1 x,f2 x]) (λz=>true) g (λx ce=>ce i=some (f1 x)/\ce j=some (f2 x)) o (λx ce T s h=>⟨_,rfl,rfl,h _ ((s.set hi).set hj) ⟨by rw[ox yN];exact hJ ..,hJ ..⟩⟩) xs (λx hx ce s h=>⟨.GY,λz=>hb x hx ce s h.1 h.2⟩) _ [] (B4 raw e) (by rw[tv,mO];exact hl) (by rw[EK.2 λz z=>rfl];exact cX k)
theorem me{A:AM}(k:m e σ λx ao=>B1 x ao λitems ok ay=>hM ok A t el (λacc aQ=>aQ.new (.list acc) R) items (lC raw e) [] ay):cT raw (bO m) A t el e σ R:=k
theorem coR{A:AM}{n:Nat}(h:Ev m e σ (.int n))(hn:n<=1000)(k:hM pN A t el (λacc aQ=>aQ.new (.list acc) R) ((mQ 0 n).map nI) (lC raw e) [] σ):cT raw (oh m) A t el e σ R:=h _ ⟨n,rfl,by exact fY _,by exact ko.2 (lz hn rfl),by rw[B2];exact k⟩
theorem Hw{ok:St->Prop}{Q:List CV->St->Prop}{L:List Nat}(f:α->CV)(I:List α->List CV->St->Prop)
  (hb:∀x xs acc ae ce,I (x::xs) acc ae->acc.length+xs.length<=999->cx L e ce->ce i=some (f x)->ok ae/\∀(KY:CV->St->Prop) (KN:St->Prop),(∀v ay,I xs (acc++[v]) ay->KY v ay)->(∀ay,I xs acc ay->KN ay)->t ce ae λb ay=>match b with |true=>el ce ay KY |false=>KN ay)
  (he:∀acc ae,I [] acc ae->ok ae/\Q acc ae)(hi:L.contains i=true):∀(xs:List α) (ce:aL) (acc:List CV) (σ:St),cx L e ce->acc.length+xs.length<=1000->I xs acc σ->hM ok (aName i) t el Q (xs.map f) ce acc σ
 |[],_,_,_,_,_,h=>he _ _ h
 |x::xs,ce,acc,σ,s,hl,h=>by
  rw[jP]at hl;have s':=s.set (v:=f x) hi;refine xa (hb x xs acc σ _ h (EG hl) s' (hJ ..)) λh1 h2=>?_;refine⟨h1,aR (mL _ _) hl,?_⟩
  have h3:=h2 (λv ay=>hM ok (aName i) t el Q (xs.map f) (bA ce i (f x)) (acc++[v]) ay) (λay=>hM ok (aName i) t el Q (xs.map f) (bA ce i (f x)) acc ay)
   (λv ay z=>Hw f I hb he hi xs _ _ _ s' (by rw[bW];show _+1+_<=_;exact l1 hl (by simp+arith only)) z) (λay z=>Hw f I hb he hi xs _ _ _ s' (iQ hl) z)
  have e1:(λ(b:Bool) (ay:St)=>if b=true then el (bA ce i (f x)) ay λv aQ=>hM ok (aName i) t el Q (xs.map f) (bA ce i (f x)) (acc++[v]) aQ else hM ok (aName i) t el Q (xs.map f) (bA ce i (f x)) acc ay)=λb ay=>match b with |true=>el (bA ce i (f x)) ay λv aQ=>hM ok (aName i) t el Q (xs.map f) (bA ce i (f x)) (acc++[v]) aQ |false=>hM ok (aName i) t el Q (xs.map f) (bA ce i (f x)) acc ay:=BU
  exact Eq.mpr (congrArg (t (bA ce i (f x)) σ) e1) h3
theorem Hx{ok:St->Prop}{Q:List CV->St->Prop}{xs:List α}(f:α->CV)(I:List α->List CV->St->Prop)(h0:I xs [] σ)(hl:xs.length<=1000)
  (hb:∀x xs acc ae ce,I (x::xs) acc ae->acc.length+xs.length<=999->cx (iC raw) e ce->ce i=some (f x)->ok ae/\∀(KY:CV->St->Prop) (KN:St->Prop),(∀v ay,I xs (acc++[v]) ay->KY v ay)->(∀ay,I xs acc ay->KN ay)->t ce ae λb ay=>match b with |true=>el ce ay KY |false=>KN ay)
  (he:∀acc ae,I [] acc ae->ok ae/\Q acc ae)(hi:autoParam ((iC raw).contains i=true) aA):hM ok (aName i) t el Q (xs.map f) (lC raw e) [] σ:=
 Hw f I hb he hi xs _ _ _ (B4 raw e) (by rw[tv,mO];exact hl) h0
theorem B5{ok:St->Prop}{Q:List CV->St->Prop}{xs:List α}(f:α->CV)(I:List α->List CV->St->Prop)(h0:I xs [] σ)(hl:xs.length<=1000)
  (hb:∀x xs acc ae ce,I (x::xs) acc ae->acc.length+xs.length<=999->cx (iC raw) e ce->ce i=some (f x)->ok ae/\∀KY:CV->St->Prop,(∀v ay,I xs (acc++[v]) ay->KY v ay)->el ce ae KY)
  (he:∀acc ae,I [] acc ae->ok ae/\Q acc ae)(hi:autoParam ((iC raw).contains i=true) aA):hM ok (aName i) de el Q (xs.map f) (lC raw e) [] σ:=
 Hx f I h0 hl (λx xs acc ae ce h hl s hv=>⟨(hb x xs acc ae ce h hl s hv).1,λKY KN y z=>(hb x xs acc ae ce h hl s hv).2 KY y⟩) he hi
end
noncomputable abbrev agM:Str:=fL "cells"
noncomputable abbrev agN:Str:=fL "mixed"
noncomputable abbrev agO:Str:=fL "turn"
noncomputable def UL(c:Addr)(m t:Int):List (Str×CV):=[(agM,.loc c),(agN,.int m),(agO,.int t)]
theorem wQ{a b:Int}(h:0<b):0<=a.fmod b/\a.fmod b<b:=by
 rw[alg _ (Int.le_of_lt h)];exact⟨Int.emod_nonneg _ (Mn h),Int.emod_lt_of_pos _ h⟩
structure zE(σ:St)(d c:Addr)(T:Int):Prop where
 ok:∃(cs:List Int) (m t:Int),σ d=some (.dS (UL c m t))/\σ c=some (.list (cs.map .int))/\cs.length<=12/\0<=t/\t<=T
theorem zE.ne{c:Addr}{T:Int}(h:zE σ d c T):c≠d:=λe=>by
 refine f9 h.ok λcs m t hd hc zz=>?_;subst e;rw[hd]at hc;cases hc
theorem UM{f b:Int}{R:CV->St->Prop}(h1:e 151=some (.int f))(h2:e 100=some (.int b))(h0:0<b)(q:∀r,0<=r->r<b->R (.int r) σ):
  ah (aP (be .Mod (be .Mult (be .Mod (af 151) (au (.int 2147483629))) (au (.int 40692))) (au (.int 2147483647))) (aName 151)) (ah (aP (be .Mod (be .Add (be .Mult (af 151) (af 151)) (au (.int 5569))) (au (.int 2147483587))) (aName 151)) (ah (bh (be .Mod (be .FloorDiv (be .Mod (be .Mult (af 151) (au (.int 39373))) (au (.int 2147483579))) (au (.int 64))) (af 100))) az)) e σ (bk R):=by
 have r1:=wQ (a:=f) (b:=2147483629) (by decide)
 refine gO (.bin (.bin (.bin .var .val (.mod (by decide))) .val (.mul (tm (by decide) r1.1) (ph r1.2 (by decide)))) .val (.mod (by decide))) ?_
 have r2:=wQ (a:=f.fmod 2147483629*40692) (b:=2147483647) (by decide)
 generalize(f.fmod 2147483629*40692).fmod 2147483647=g at*
 refine gO (.bin (.bin (.bin .var .var (.mul (tm (by decide) r2.1) (ph r2.2 (by decide)))) .val .add) .val (.mod (by decide))) ?_
 have r3:=wQ (a:=g*g+5569) (b:=2147483587) (by decide)
 generalize(g*g+5569).fmod 2147483587=k at*;have r4:=wQ (a:=((k*39373).fmod 2147483579).fdiv 64) h0
 exact bX (.bin (.bin (.bin (.bin .var .val (.mul (tm (by decide) r3.1) (ph r3.2 (by decide)))) .val (.mod (by decide))) .val (.fdiv (by decide) (by decide))) .var (.mod (Mn h0))) (q _ r4.1 r4.2)
theorem agP{c:Addr}{T b:Int}(h:zE σ d c T)(hT:T<=1000000)(h0:0<b)(h1:b<1073741824)
  (q:bI (∀r ae,0<=r->r<b->zE ae d c (T+1)->aF (two d c) σ ae->Q (.int r) ae)):jB [.loc d,.int b] [] σ Q:=by
 have ne:=h.ne;refine Fu h.ok λcs m t hd hc hl Dj ht=>?_
 refine df (lx (.bin (.item .var .val .dS) .val .add) .var .val (PJ hd (by decide:3<=1000) λao UN p1=>?_))
 have sQ:=p1.at hc ne
 have t1:0<=t+1/\t+1<=T+1:=⟨Int.add_nonneg Dj (by decide),Az ht 1⟩
 have m1:-(2^64:Int)<65563*(t+1)/\65563*(t+1)<2^64:=⟨tm (by decide) (Int.mul_nonneg (by decide) t1.1),Lu (Int.mul_le_mul_of_nonneg_left (rO t1.2 (Az hT 1)) (by decide)) (by decide)⟩
 refine gO (.bin (.item .var .val .dS) (.bin (.bin .val (.item .var .val .dS) (.mul (by decide) (by decide))) (.item .var .val .dS) (.mul m1.1 m1.2)) .add) ?_
 generalize m+65563*(t+1)*(t+1)=f
 refine B0 (.item .var .val .dS) sQ (λg ay p2=>?_) λg ay p2=>?_
 ·obtain⟨xs,x,rfl⟩:∃xs x,cs=xs++[x]:=⟨cs.dropLast,cs.getLast (λz=>g (by rw[z];rfl)),(vi _).symm⟩
  rw[bW]at hl;rw[cR]at sQ;have hd2:=p2.at UN;have C7:=p2.at sQ
  refine cy (pL (.item .var .val .dS) ⟨_,_,rfl,C7⟩ .nil (BZ C7 (by rw[aZ];exact aR hl (by decide)) λaQ Jk p3=>?_))
  have UO:=p3.at hd2 ne.symm;have P3:aF (two d c) σ aQ:=((p1.mono λo=>.inl).trans (p2.mono λo=>False.elim)).trans (p3.mono λo=>.inr)
  refine fP (.cmp .var .val .ge) (λg=>?_) λg=>?_
  ·have r4:=wQ (a:=x) h0
   refine iA (pL (.item .var .val .dS) ⟨_,_,rfl,Jk⟩ (.one (.bin .var .var (.fdiv (Mn h0) (by lia)))) (we Jk (by rw[aZ];lia) λbU IC p4=>?_))
   exact bX (.bin .var .var (.mod (Mn h0))) (q.out _ _ r4.1 r4.2 ⟨xs++[x.fdiv b],m,t+1,p4.at UO ne.symm,by rw[IC,cR];rfl,by rw[bW];exact hl,t1.1,Az ht 1⟩ (P3.trans (p4.mono λo=>.inr)))
  ·refine bp (gO (.bin .var (.bin .var .val (.mod (by decide))) .add) (bp (UM rfl rfl h0 λr a b=>q.out _ _ a b ⟨xs,m,t+1,UO,Jk,by lia,t1.1,Az ht 1⟩ P3)))
 ·refine bp (UM rfl rfl h0 λr a b=>q.out _ _ a b ⟨cs,m,t+1,p2.at UN,p2.at sQ,hl,t1.1,Az ht 1⟩ ((p1.mono λo=>.inl).trans (p2.mono λo=>False.elim)))
theorem agQ{C:Nat}(h1:σ a=some (.inst C d))(h2:σ d=some (.iV fs))(h3:gN fs i=none):r9 C i (.loc a) σ:=⟨a,d,fs,rfl,h1,h2,h3⟩
noncomputable def signs(x:Str):List Nat:=x.cps.toList
noncomputable def wR(x:Str):List UInt8:=(signs x).map λk=>k.toUInt8
theorem UP{x:Str}(ha:x.cps.all (·<128)=true)(hl:(signs x).length<=1000)(q:bI (∀ae,aF aS σ ae->Q (.bytes (wR x)) ae)):qA [.str x] [] σ Q:=by
 have hs:∀k∈signs x,k<128:=λk hk=>by
  rw[<-Zi]at ha;exact of_decide_eq_true (List.all_eq_true.mp ha k hk)
 refine df (cy (md (λy=>.str ⟨#[y]⟩) (λ(y:Nat)=>.int y) (.st .var ha) hl (λy z ce s h=>.call (.one .var) .ord) λa ao z c6 P=>jD .var c6 λok bw=>?_))
 refine qF [160] (λ(y:Nat)=>.int y) (λxs z ae=>ae=ao/\∀k∈xs,k<128) ⟨rfl,hs⟩ (λk ks e' ae s h=>?_) λe' ae s h=>?_
 ·obtain⟨rfl,h⟩:=h
  have hk:=h k (.head _)
  exact⟨bw _ c6,λK kk=>e8 (.to (.cmp .var .val .gt) (decide_eq_false (nZ.2 (ko.2 (cB (iQ hk) rfl))))) (bp (bp (kk.nx ⟨rfl,λk hk=>h k (.tail _ hk)⟩)))⟩
 ·obtain⟨rfl,_⟩:=h
  exact⟨bw _ c6,bX (.call (.one .var) (.Ha (λk hk=>jQ (hs k hk) (by decide)) hl)) (q.out _ P)⟩
noncomputable def wU(n:Nat):Nat:=(signs (ax "0123456789abcdef")).getD n 0
noncomputable def oK(b:List UInt8):List Nat:=b.flatMap λo=>[wU (o.toNat/16),wU (o.toNat%16)]
noncomputable def sR(n:Nat):Str:=⟨#[n]⟩
noncomputable def nD(b:List UInt8):List UInt8:=(oK b).map λk=>k.toUInt8
theorem UQ:∀n,n<16->iW (ax "0123456789abcdef").cps.toList ((n:Nat):Int)=some (wU n):=by decide+kernel
theorem UR:∀n,n<16->wU n<128:=by decide+kernel
theorem agR:∀n,n<256->vy ((n:Nat):Int) 15=((n%16:Nat):Int):=by decide+kernel
theorem agS:∀n,n<256->((n:Nat):Int).fdiv (2^(4:Int).toNat)=((n/16:Nat):Int):=by decide+kernel
theorem Dl(b:List UInt8):(oK b).length=2*b.length:=by
 unfold oK
 induction b with
 |nil=>rfl
 |cons x b ih=>rw[List.flatMap_cons,bW,ih];simp;exact tC ..
theorem agT:∀k∈oK b,k<128:=λk hk=>by
 unfold oK at hk;refine a9 (List.mem_flatMap.mp hk) λo ho h=>?_;have:o.toNat<256:=o.toNat_lt
 rcases List.mem_cons.mp h with rfl |h
 ·exact UR _ (Mq this)
 ·rw[List.mem_singleton.mp h];exact UR _ (Fl _ (cG rfl))
theorem US:∀l:List Nat,(l.map ((λx=>x.length)∘sR)).sum=l.length
 |[]=>rfl
 |x::l=>by rw[gC,List.sum_cons,US l,jP];show 1+_=_;exact tC ..
theorem UT:∀(l:List Nat) (acc:Array Nat),((l.map sR).foldl (λacc p=>acc++(ax "").cps++p.cps) acc).toList=acc.toList++l
 |[],acc=>by simp
 |x::l,acc=>by
  rw[gC,km,UT l];have e:(ax "").cps=#[]:=rfl;rw[e];simp[sR]
theorem join_ones(l:List Nat):signs (Txt.join (ax "") (l.map sR))=l:=by
 induction l with
 |nil=>rfl
 |cons x l=>
  show((l.map sR).foldl (λacc p=>acc++(ax "").cps++p.cps) (sR x).cps).toList=x::l;rw[UT];rfl
theorem agU(l:List UInt8)(o:UInt8):oK (l++[o])=oK l++[wU (o.toNat/16),wU (o.toNat%16)]:=by unfold oK;rw[List.flatMap_append];rfl
theorem agV(hl:b.length<=100)(q:bI (∀x ae,signs x=oK b->aF aS σ ae->Q (.str x) ae)):vK [.bytes b] [] σ Q:=by
 refine df (cy (dh .nil λa ao ha c6 P=>Hs .var (qF [118] (λo:UInt8=>.int o.toNat) (λtl z ae=>∃done,b=done++tl/\ae a=some (.list (((oK done).map sR).map .str))/\aF (one a) ao ae) ⟨[],rfl,c6,.refl _ _⟩ (λo tl e ae s h=>?_) λe ae s h=>?_)))
 ·refine bF h λdone hb hv P'=>?_
  have ho:o.toNat<256:=o.toNat_lt
  have lp:(oK done).length<=200:=by rw[Dl];rw[hb,bW]at hl;exact l1 (eN 2 hl) (by simp+arith only)
  refine⟨trivial,λK kk=>?_⟩
  refine yH .var (.item .glob (.bin .var .val (.shr (by decide))) (.str (by rw[agS _ ho];exact UQ _ (Mq ho)))) hv (by rw[aZ,aZ];exact cB lp rfl) λay hv2 p2=>?_
  refine yH .var (.item .glob (.bin .var .val .and) (.str (by rw[agR _ ho];exact UQ _ (Fl _ (cG rfl))))) hv2 (by rw[bW,aZ,aZ,mH];exact lz lp rfl) λaQ UU p3=>?_
  exact bp (kk.nx ⟨done++[o],by rw[hb,fK];rfl,by rw[UU,agU,cR,cR,fK];rfl,(P'.trans p2).trans p3⟩)
 ·refine bF h λdone hb hv P'=>?_
  rw[fj]at hb;subst hb;refine⟨trivial,bX (.pz .val ⟨_,rfl⟩ (.one .var) (.FR ?_)) (q.out _ _ (join_ones _) (P.seq P' λb h=>.inr (h▸ha)))⟩;rw[dp,aZ];show List.sum (List.map ((λx=>x.length)∘sR) _)+_*0<=_;rw[US,Dl];exact cB (eN _ hl) rfl
theorem be0:∀n,n<256->vy (((n:Nat):Int).fdiv (2^(24:Int).toNat)) 255=0:=by decide+kernel
theorem be1:∀n,n<256->vy (((n:Nat):Int).fdiv (2^(16:Int).toNat)) 255=0:=by decide+kernel
theorem be2:∀n,n<256->vy (((n:Nat):Int).fdiv (2^(8:Int).toNat)) 255=0:=by decide+kernel
theorem be3:∀n,n<256->vy (((n:Nat):Int).fdiv (2^(0:Int).toNat)) 255=(n:Int):=by decide+kernel
noncomputable def fS(n:Nat):List UInt8:=[0,0,0,n.toUInt8]
theorem UW{n m:Nat}(hn:n<256)(hm:m<256)(h:fS n=fS m):n=m:=by
 simp only[fS,L9,true_and,and_true]at h;have:=congrArg UInt8.toNat h;simpa[Lz hn,Lz hm]using this
theorem agW{n:Nat}(hn:n<256)(q:bI (∀ae,aF aS σ ae->Q (.bytes (fS n)) ae)):Bl [.int n,.int 4] [] σ Q:=by
 refine df (fE (j1 ?_))
 refine md (xs:=mQ 0 4) nI (λk=>.int ([0,0,0,n].getD k 0)) (.rg (n:=4) .var (by decide)) (by decide) (λk hk ce s h=>?_) λa ao z c6 P=>?_
 ·have ev:∀j:Int,0<=8*(4- 1- (k:Int))->vy ((n:Int).fdiv (2^(8*(4- 1- (k:Int))).toNat)) 255=j->Ev (be .BitAnd (be .RShift (af 160) (be .Mult (au (.int 8)) (be .Sub (be .Sub (af 61) (au (.int 1))) (af 4)))) (au (.int 255))) ce σ (.int j):=λj h0 g=>g▸.bin (.bin .var (.bin .val (.bin (.bin .var .val .sub) .var .sub) (.mul (by decide) (by decide))) (.shr h0)) .val .and
  match k,hk with
  |0,_=>exact ev _ (by decide) (be0 n hn)
  |1,_=>exact ev _ (by decide) (be1 n hn)
  |2,_=>exact ev _ (by decide) (be2 n hn)
  |3,_=>exact ev _ (by decide) (be3 n hn)
  |k+4,hk=>exact absurd (Y9.1 hk).2 (Zf (Nat.le_add_left ..))
 ·exact Fn.Ha (ks:=[0,0,0,n]) (λk hk=>by
   simp only[eO,rJ,or_false]at hk
   exact ZA hn hk) (cG rfl) c6 _ (q.out _ P)
noncomputable def tabI(l:List (List UInt8)):List (List UInt8×CV):=l.zipIdx.map λp=>(p.1,.int ((p.2+1:Nat):Int))
theorem Jl(l:List (List UInt8)):(tabI l).length=l.length:=by simp[tabI]
noncomputable def pos{α:Type}[DecidableEq α](x:α):List α->Nat
 |[]=>0
 |y::l=>if y=x then 0 else pos x l+1
theorem Jm{α:Type}[DecidableEq α]{x:α}:∀{l:List α},x∈l->l[pos x l]?=some x
 |y::l,h=>by
  unfold pos
  by_cases e:y=x
  ·subst e;simp
  ·rw[if_neg e,aly]
   exact Jm ((List.mem_cons.mp h).resolve_left λz=>e z.symm)
theorem UX{α:Type}[DecidableEq α]{x:α}{l:List α}(h:x∈l):pos x l<l.length:=(List.getElem?_eq_some_iff.mp (Jm h)).1
theorem UY{α:Type}[DecidableEq α](f:Nat->CV)(x:α):∀(l:List α) (k:Nat),bB ((l.zipIdx k).map λp=>(p.1,f p.2)) x=if x∈l then some (f (k+pos x l))else none
 |[],k=>rfl
 |y::l,k=>by
  have ih:=UY f x l (k+1);unfold bB at ih ⊢;rw[EV,gC,rM]
  by_cases h:y=x
  ·subst h;simp[pos]
  ·have h':¬x=y:=λe=>h e.symm
   simp only[h,decide_false];rw[ih]
   by_cases hm:x∈l
   ·simp[hm,pos,h];congr 1;exact AX ..
   ·simp[hm,h']
theorem Dm(l:List (List UInt8))(x:List UInt8):bB (tabI l) x=if x∈l then some (.int ((pos x l+1:Nat):Int))else none:=by
 unfold tabI;have:=UY (λi=>CV.int ((i+1:Nat):Int)) x l 0;simpa using this
theorem UZ{κ:Type}[DecidableEq κ]{es:List (κ×CV)}{k:κ}(h:bB es k=none):bY es k x=es++[(k,x)]:=by
 unfold bY;rw[if_neg];intro ha;refine a9 (List.any_eq_true.mp ha) λkv h1 h2=>?_;unfold bB at h;rw[YJ,Lv]at h;exact h kv h1 h2
theorem agX(l:List (List UInt8))(x:List UInt8):tabI (l++[x])=tabI l++[(x,.int ((l.length+1:Nat):Int))]:=by
 unfold tabI;rw[List.zipIdx_append];simp
noncomputable def uB(n:Nat):Str:=((toString (n:Int):String):Str)
noncomputable def jJ(n:Nat):List UInt8:=wR (uB n)
theorem U0(n:Nat):signs (uB n)=((toString (n:Int)).toList).map Char.toNat:=signs_ofString _
theorem U1(n:Nat):∀k∈signs (uB n),48<=k/\k<=57:=λk hk=>by
 rw[U0]at hk;refine a9 (List.mem_map.mp hk) λc hc aq=>?_;subst aq;rw[Int.toString_eq_repr,Int.repr_eq_if,if_pos (fY _),pf,Nat.toList_repr]at hc
 exact digit_range (Nat.isDigit_of_mem_toDigits (by decide) (by decide) hc)
theorem agY(n:Nat):(uB n).cps.all (·<128)=true:=by
 rw[<-Zi,iz];intro k hk;have:=U1 n k hk
 simp;exact l1 this.2 (by simp+arith only)
theorem U2{n:Nat}(h:n<10^9):(signs (uB n)).length<=9:=by
 rw[U0,aZ,Int.toString_eq_repr,Int.repr_eq_if,if_pos (fY _),pf,Nat.toList_repr]
 exact(Nat.length_toDigits_le_iff (by decide) (by decide)).mpr (by simpa using h)
theorem U3(n:Nat):(0:UInt8)∉jJ n:=λh=>by
 unfold jJ wR at h;refine a9 (List.mem_map.mp h) λk hk e=>?_;have:=U1 n k hk;have e2:=congrArg UInt8.toNat e;simp at e2;exact ZC this e2
theorem Jn{n:Nat}(h:n<10^9):(jJ n).length<=9:=by unfold jJ wR;rw[aZ];exact U2 h
theorem Fn.num{n:Nat}(h:n<10^9):Fn CR [.int n] σ (.str (uB n)):=λQ q=>a1 (k:=.I) ⟨jQ h (by decide),q⟩
noncomputable def dF(kind content:List UInt8):List UInt8:=kind++[32]++jJ content.length++[0]++content
theorem U4{n:Nat}(h:n<10^9)(q:bI (∀ae,aF aS σ ae->Q (.bytes (jJ n)) ae)):qA [.str (uB n)] [] σ Q:=
 UP (agY n) (aR (U2 h) (by decide)) q
theorem agZ(hk:kind.length<=100)(hc:content.length<=100000)(q:bI (∀ae,aF aS σ ae->Q (.bytes (dF kind content)) ae)):F7 [.bytes kind,.bytes content] [] σ Q:=by
 have hn:content.length<10^9:=je hc (by decide)
 have nl:=Jn hn
 have l1:(kind++[32]).length<=101:=by rw[bW];exact iN hk 1
 have l2:(kind++[32]++jJ content.length).length<=110:=by rw[bW];exact gk l1 nl
 have l3:(kind++[32]++jJ content.length++[0]).length<=111:=by rw[bW];exact iN l2 1
 refine df (fE (lA (lA (pK (.bin .var .val (.lu (aR (iN hk 1) (by decide)))) (cu (.one (.call (.one (.call (.one .var) (.Pp (aR hc (by decide))))) (.num hn))) (U4 hn ⟨λae P=>?_⟩))))))
 exact gQ (.lu (cB (gk l1 nl) rfl)) (bV .val (gQ (.lu (aR (iN l2 1) (by decide))) (bV .var (gQ (.lu (cB (gk l3 hc) rfl)) (q.out _ P)))))
noncomputable def Jo(name ij:List UInt8)(jK:Nat)(zone:List UInt8):List (Nat×CV):=[(66,.bytes name),(105,.bytes ij),(91,.int jK),(93,.bytes zone)]
noncomputable def Dn(name ij:List UInt8)(jK:Nat)(zone:List UInt8):List UInt8:=name++[32,60]++ij++[62,32]++jJ jK++[32]++zone
theorem ag0{name ij zone:List UInt8}{jK:Nat}(h:bP σ a 232 d [])
  (q:bI (∀ae,bP ae a 232 d (Jo name ij jK zone)->aF (one d) σ ae->Q .none ae)):tT [.loc a,.bytes name,.bytes ij,.int jK,.bytes zone] [] σ Q:=
 df (fF .var rfl h λao h1 p1=>fF .var rfl h1 λay h2 p2=>fF .var rfl h2 λaQ h3 p3=>fF .var rfl h3 λbU h4 p4=>bp (q.out _ h4 (((p1.trans p2).trans p3).trans p4)))
theorem U5{name ij zone:List UInt8}{jK:Nat}(h:bP σ a 232 d (Jo name ij jK zone))(hw:jK<10^9)(hl:name.length<=100/\ij.length<=100/\zone.length<=100)
  (q:bI (∀ae,aF aS σ ae->Q (.bytes (Dn name ij jK zone)) ae)):Bn [.loc a] [] σ Q:=by
 refine pq hl λh1 h2 h3=>?_;have nl:=Jn hw
 have l1:(name++[32,60]).length<=102:=by rw[bW];exact iN h1 2
 have l2:(name++[32,60]++ij).length<=202:=by rw[bW];exact gk l1 h2
 have l3:(name++[32,60]++ij++[62,32]).length<=204:=by rw[bW];exact iN l2 2
 have l4:(name++[32,60]++ij++[62,32]++jJ jK).length<=213:=by rw[bW];exact gk l3 nl
 have l5:(name++[32,60]++ij++[62,32]++jJ jK++[32]).length<=214:=by rw[bW];exact iN l4 1
 have ad:∀{x y:List UInt8} {σ:St},x.length<=300->y.length<=300->Bi .Add (.bytes x) (.bytes y) σ (.bytes (x++y)):=λhx hy=>.lu (aR (gk hx hy) (by decide))
 refine df (fE (lA (lA (pK (.bin (.bin (.bin (.attr .var .ins) .val (ad (cB h1 rfl) (by decide))) (.attr .var .ins) (ad (cB l1 rfl) (cB h2 rfl))) .val (ad (cB l2 rfl) (by decide))) (cu (.one (.call (.one (.attr .var .ins)) (.num hw))) (U4 hw ⟨λae P=>?_⟩))))))
 have h':=h.a7 P
 exact gQ (ad (cB l3 rfl) (cB nl rfl)) (bV .val (gQ (ad (cB l4 rfl) (by decide)) (bV (.attr .var .ins) (gQ (ad (cB l5 rfl) (cB h3 rfl)) (q.out _ P)))))
noncomputable def Dp(kn:Addr):List (Nat×CV):=[(81,.int 4),(112,.loc kn)]
theorem ag1(h:bP σ a 108 d [])(q:bI (∀kn ae,σ kn=none->bP ae a 108 d (Dp kn)->ae kn=some (.dB [])->aF (one d) σ ae->Q .none ae)):Bm [.loc a,.int 4] [] σ Q:=
 df (fF .var rfl h λao h1 p1=>vV (cX λkn ay hk h2 P2=>bV .var (sk (h1.a7 P2) λaQ h3 p3=>bp (q.out kn aQ (p1.no hk λe=>by have:=h1.2;rw[<-e,hk]at this;exact bo this) h3 (p3.at h2 λe=>gK hk h1.2 e.symm) ((p1.nx P2).trans p3)))))
noncomputable def mu(l:List (List UInt8))(x:List UInt8):List (List UInt8):=if x∈l then l else l++[x]
theorem Dq{α:Type}[DecidableEq α]{x:α}:∀{l:List α},x∉l->pos x (l++[x])=l.length
 |[],_=>by simp[pos]
 |y::l,h=>by
  have h1:y≠x:=λe=>h (e▸.head _);rw[xK,pos,if_neg h1,Dq λhm=>h (.tail _ hm)];rfl
theorem ag2{h hd kn:Addr}{l:List (List UInt8)}{x:List UInt8}(hi:bP σ h 108 hd (Dp kn))(hk:σ kn=some (.dB (tabI l)))(hl:l.length<=100)
  (q:bI (∀ae,ae kn=some (.dB (tabI (mu l x)))->aF (one kn) σ ae->Q (.bytes (fS (pos x (mu l x)+1))) ae)):FT [.loc h,.bytes x] [] σ Q:=by
 have jH:hd≠kn:=λe=>by have:=hi.2;rw[e,hk]at this;cases this
 have ag3:h≠kn:=λe=>by have:=hi.1;rw[e,hk]at this;cases this
 have fin:∀{l' ae e},x∈l'->l'.length<=101->ae kn=some (.dB (tabI l'))->aF (one kn) σ ae->l'=mu l x->e 78=some (.loc h)->e 175=some (.bytes x)->ah (bh (aY Bl (ag (bc (bf 112 (af 78)) (af 175)) (ag (bf 81 (af 78)) ar)))) az e ae (bk Q):=λ{l' ae e} hm qL c4 P g h78 alV=>by
  subst g;have ff:=hi.a7 P ag3 jH;have hp:=UX hm
  exact fE (cu (.two (.item (.attr .var .ins) .var (.dB c4 (by rw[Dm,if_pos hm]))) (.attr .var .ins)) (agW (l2 qL hp (by simp+arith only)) ⟨λaQ P3=>q.out aQ (P3.at c4) (P.nx P3)⟩))
 refine df (gO (.call (.one .var) .kF) (fP (.cmp .var (.attr .var .ins) .G6) (λg=>?_) λg=>?_))
 ·have hm:x∉l:=λhm=>by rw[Dm,if_pos hm]at g;exact eP g
  have hn:bB (tabI l) x=none:=by rw[Dm,if_neg hm]
  refine lx (.bin (.call (.one (.attr .var .ins)) (.acV (by rw[Jl];exact cB hl rfl) hk)) .val .add) (.attr .var .ins) .var (BY hk (by rw[Jl];exact cB hl rfl) λao h1 p1=>bp ?_)
  rw[UZ hn,Jl]at h1
  exact fin (l':=l++[x]) (kY _ (.head _)) (by rw[bW];exact iN hl 1) (by rw[agX];exact h1) p1 (by unfold mu;rw[if_neg hm]) rfl rfl
 ·have hm:x∈l:=by
   refine YF λhm=>?_;rw[Dm,if_neg hm]at g;exact iR g
  exact bp (fin hm (rG hl) hk (.refl _ _) (by unfold mu;rw[if_pos hm]) rfl rfl)
theorem ag4(hl:b.length<=100)(q:bI (∀ae,aF aS σ ae->Q (.bytes (nD b)) ae)):vK [.bytes b] [] σ λx ao=>qA [x] [] ao Q:=
 agV hl ⟨λx ao hx P=>UP (by
   rw[<-Zi,iz];intro k hk
   have:=agT (b:=b) k (by rw[<-hx];exact hk)
   simpa using this) (by rw[hx,Dl];exact cB (eN _ hl) rfl) ⟨λae P'=>by
   have e:wR x=nD b:=by unfold wR nD;rw[hx]
   rw[e];exact q.out _ (P.trans P')⟩⟩
theorem wV(b:List UInt8):(nD b).length=2*b.length:=by unfold nD;rw[aZ,Dl]
noncomputable def qZ(tree:List UInt8)(pl al cl el:Addr)(msg:List UInt8):List (Nat×CV):=[(87,.bytes tree),(185,.loc pl),(144,.loc al),(219,.loc cl),(107,.loc el),(179,.bytes msg)]
theorem ag5{tree:List UInt8}{pl el:Addr}(h:bP σ a 391 d [])
  (q:bI (∀ae,bP ae a 391 d (qZ tree pl al cl el msg)->aF (one d) σ ae->Q .none ae)):yb [.loc a,.bytes tree,.loc pl,.loc al,.loc cl,.loc el,.bytes msg] [] σ Q:=
 df (fF .var rfl h λao h1 p1=>fF .var rfl h1 λay h2 p2=>fF .var rfl h2 λaQ h3 p3=>fF .var rfl h3 λbU h4 p4=>fF .var rfl h4 λfH h5 p5=>fF .var rfl h5 λfI h6 p6=>
  bp (q.out _ h6 (((((p1.trans p2).trans p3).trans p4).trans p5).trans p6)))
noncomputable def nE(p:List UInt8):List UInt8:=[112,97,114,101,110,116,32]++nD p++[10]
noncomputable def Jp(tree:List UInt8)(ps:List (List UInt8))(A C msg:List UInt8):List (List UInt8):=
 [[116,114,101,101,32]++nD tree++[10]]++ps.map nE++[[97,117,116,104,111,114,32]++A++[10]]++[[99,111,109,109,105,116,116,101,114,32]++C++[10]]++[[10]++msg]
noncomputable def mv(tree:List UInt8)(ps:List (List UInt8))(A C msg:List UInt8):List UInt8:=(Jp tree ps A C msg).flatten
theorem Dr:∀l:List (List UInt8),oz [] l=l.flatten
 |[]=>rfl
 |x::xs=>by
  show x++(xs.map (λy=>[]++y)).flatten=_;simp
theorem U6:∀{ps:List (List UInt8)},(∀p∈ps,p.length<=100)->(ps.map nE).flatten.length<=208*ps.length
 |[],_=>cP _
 |p::ps,h=>by
  have h1:=h p (.head _);have h2:=U6 λq hq=>h q (.tail _ hq)
  have h3:(nE p).length<=208:=by unfold nE;simp[wV];exact cB (eN _ h1) rfl
  rw[gC,AH,bW,jP];exact l2 h2 h3 (by simp+arith only)
theorem U7{tree A C:List UInt8}{ps:List (List UInt8)}(dR:ps.length<=100/\∀p∈ps,p.length<=100)(ht:tree.length<=100)(hA:A.length<=400)(hC:C.length<=400)(hm:msg.length<=1000):(mv tree ps A C msg).length<=30000:=by
 have h1:=U6 dR.2;have h2:=dR.1;unfold mv Jp;simp only[List.flatten_append,bW,AH,Zj,fj,jP,tv,wV]
 exact l6 (eN 2 ht) h1 (eN 208 dR.1) hA hC hm (by simp+arith only)
structure kR where
 name:List UInt8
 ij:List UInt8
 jK:Nat
 zone:List UInt8
noncomputable def kR.B(p:kR):List UInt8:=Dn p.name p.ij p.jK p.zone
structure kR.Ok(p:kR):Prop where
 w:p.jK<10^9
 l:p.name.length<=100/\p.ij.length<=100/\p.zone.length<=100
noncomputable def mw(σ:St)(a d:Addr)(p:kR):Prop:=bP σ a 232 d (Jo p.name p.ij p.jK p.zone)
theorem kR.Ok.len{p:kR}(h:p.Ok):p.B.length<=400:=by
 have:=Jn h.w;refine pq h.l λh1 h2 h3=>?_;unfold kR.B Dn
 simp;exact l4 this h1 h2 h3 (by simp+arith only)
theorem U8{m:EM}(h:Ev m e σ (.bytes b))(hl:b.length<=100)(q:∀ae,aF aS σ ae->Q (.bytes (nD b)) ae):aY qA (ag (aY vK (ag m ar)) ar) e σ Q:=h _ (ag4 hl ⟨q⟩)
theorem ag6{c pl el:Addr}{tree:List UInt8}{ps:List (List UInt8)}{pa pc:kR}(h:bP σ c 391 cd (qZ tree pl al cl el msg))(hp:σ pl=some (.list (ps.map .bytes)))(ha:mw σ al ad pa)(hc:mw σ cl iJ pc)(he:σ el=some (.list []))
  (oa:pa.Ok)(oc:pc.Ok)(ht:tree.length<=100)(dR:ps.length<=100/\∀p∈ps,p.length<=100)(hm:msg.length<=1000)
  (q:bI (∀ae,aF aS σ ae->Q (.bytes (mv tree ps pa.B pc.B msg)) ae)):F6 [.loc c] [] σ Q:=by
 have ad:∀{x y:List UInt8} {σ:St},x.length<=1000->y.length<=1000->Bi .Add (.bytes x) (.bytes y) σ (.bytes (x++y)):=λhx hy=>.lu (aR (gk hx hy) (by decide))
 have ap:∀{x y:List UInt8},x.length<=20->y.length<=400->(x++y).length<=1000:=λhx hy=>by rw[bW];exact aR (gk hx hy) (by decide)
 have xl:∀{x:List UInt8},x.length<=100->(nD x).length<=400:=λhx=>by rw[wV];exact cB (eN _ hx) rfl
 have u4:∀{n:Nat},n<=400->n<=1000:=λh=>aR h (by decide)
 have hd:=dR.1;refine df (cy (?_:eList (ag (be _ (be _ (au _) (aY _ _)) _) ar) _ _ _))
 refine lA (pK .val (U8 (.attr .var .ins) ht λao P1=>gQ (ad (by decide) (u4 (xl ht))) (bV .val (gQ (ad (ap (by decide) (xl ht)) (by decide)) ⟨cG rfl,cX λa ay mx c6 P2=>?_⟩))))
 have P:=P1.trans P2;have Dt:=P1.no mx;have h':=h.a7 P
 refine jD (.attr .var .ins) (P.at hp) λok bw=>qF [21] .bytes (λtl u ae=>∃done,ps=done++tl/\ae a=some (.list (([[116,114,101,101,32]++nD tree++[10]]++done.map nE).map .bytes))/\aF aS σ ae) ⟨[],rfl,c6,P⟩ (λo tl e ae s z=>?_) λe ae s z=>?_
 ·refine bF z λdone hb hv P'=>?_
  have ho:o.length<=100:=dR.2 o (by rw[hb];exact kY _ (.head _))
  have hl:done.length<=100:=by rw[hb,bW]at hd;exact aR (mL ..) hd
  refine⟨bw _ (P'.at hp),λK kk=>iA (sv .var hv (lA (pK .val (U8 .var ho λaQ P3=>gQ (ad (by decide) (u4 (xl ho))) (bV .val (gQ (ad (ap (by decide) (xl ho)) (by decide)) (tY (P3.at hv) ?_ λbU h4 P4=>bp (kk.nx ⟨done++[o],?_,?_,(P'.trans P3).sn P4 Dt⟩))))))))⟩
  ·rw[bW,aZ];exact aR (AD hl 1) (by decide)
  ·rw[hb,fK];rfl
  ·rw[h4,cR (l₁:=done),fK];rfl
 refine bF z λdone hb hv P'=>?_;rw[fj]at hb;subst hb;refine⟨bw _ (P'.at hp),?_⟩;have h1:=h.a7 P'
 have lm:([[116,114,101,101,32]++nD tree++[10]]++ps.map nE).length<=101:=by rw[bW,aZ];exact AD hd 1
 refine iA (sv .var hv (lA (pK .val (eX (.attr .var .ins) (ha.a7 P').fi .nil (U5 (ha.a7 P') oa.w oa.l ⟨λaQ P3=>gQ (ad (by decide) (u4 oa.len)) (bV .val (gQ (ad (ap (by decide) oa.len) (by decide)) (tY (P3.at hv) (aR lm (by decide)) λbU h4 P4=>?_)))⟩)))))
 have P5:=(P'.trans P3).sn P4 Dt;have h2:=h.a7 P5
 refine iA (sv .var h4 (lA (pK .val (eX (.attr .var .ins) (hc.a7 P5).fi .nil (U5 (hc.a7 P5) oc.w oc.l ⟨λfH P6=>gQ (ad (by decide) (u4 oc.len)) (bV .val (gQ (ad (ap (by decide) oc.len) (by decide)) (tY (P6.at h4) (by rw[bW];exact aR (iN lm 1) (by decide)) λfI h6 P7=>?_)))⟩)))))
 have P8:=(P5.trans P6).sn P7 Dt;have h3:=h.a7 P8;refine jD (.attr .var .ins) (P8.at he) λok bw=>yJ (bw _ (P8.at he)) ?_
 refine su .bytes _ .var (.bin .val (.attr .var .ins) (ad (by decide) hm)) h6 (by rw[bW,bW];exact aR (iN (iN lm 1) 1) (by decide)) λnF h7 P9=>?_
 exact bX (.pz .val ⟨_,rfl⟩ (.one .var) (.join (by rw[Dr];exact aR (U7 dR ht oa.len oc.len hm) (by decide)) h7)) (by rw[Dr];exact q.out _ (P8.sn P9 Dt))
structure gy where
 st:Addr
 sd:Addr
 h:Addr
 hd:Addr
 kn:Addr
 kp:Addr
noncomputable abbrev Objs:=List (List UInt8×List UInt8×CV)
noncomputable def Jq(h kp:Addr):List (Nat×CV):=[(153,.loc h),(54,.loc kp)]
noncomputable def qe(O:Objs):List (List UInt8×CV):=O.zipIdx.map λp=>(fS (p.2+1),.tup [.bytes p.1.2.1,p.1.2.2])
structure eE(σ:St)(A:gy)(O:Objs):Prop where
 s:bP σ A.st 539 A.sd (Jq A.h A.kp)
 h:bP σ A.h 108 A.hd (Dp A.kn)
 kn:σ A.kn=some (.dB (tabI (O.map (λx=>x.1))))
 kp:σ A.kp=some (.dB (qe O))
 len:O.length<=60
 nd:(O.map (λx=>x.1)).Nodup
 ne:A.kn≠A.kp
noncomputable def SX(A:gy):Addr->Prop:=two A.kn A.kp
theorem ag7(O:Objs):(qe O).length=O.length:=by simp[qe]
theorem U9:∀(O:Objs) (k i:Nat),i+k<250->O.length+k<250->bB ((O.zipIdx k).map λp=>(fS (p.2+1),CV.tup [.bytes p.1.2.1,p.1.2.2])) (fS (i+k+1))=(O[i]?).map λp=>CV.tup [.bytes p.2.1,p.2.2]
 |[],k,i,_,_=>by simp[bB]
 |x::O,k,0,h,h2=>by simp[bB,EV]
 |x::O,k,i+1,h,h2=>by
  have ih:=U9 O (k+1) i (l1 h (by simp+arith only)) (by simp at h2;exact l1 h2 (by simp+arith only))
  rw[aly,<-ih];unfold bB;rw[EV,gC,rM]
  have jH:fS (k+1)≠fS (i+1+k+1):=λe=>by have:=UW (l1 h (by simp+arith only)) (l1 h (by simp+arith only)) e;exact ZD this
  simp only[jH,decide_false]
  rw[show i+1+k+1=i+(k+1)+1 by exact congrArg (·+1) (Y1 ..)]
theorem Du{O:Objs}(h:i<200)(h2:O.length<200):bB (qe O) (fS (i+1))=(O[i]?).map λp=>CV.tup [.bytes p.2.1,p.2.2]:=by
 have:=U9 O 0 i (cB h rfl) (cB h2 rfl);simpa[qe]using this
theorem ag8(O:Objs)(x:List UInt8×List UInt8×CV):qe (O++[x])=qe O++[(fS (O.length+1),.tup [.bytes x.2.1,x.2.2])]:=by
 unfold qe;rw[List.zipIdx_append];simp
noncomputable def j9(O:Objs)(o kind:List UInt8)(cW:CV):Objs:=if o∈O.map (λx=>x.1)then O else O++[(o,kind,cW)]
theorem ag9(O:Objs)(o kind:List UInt8)(cW:CV):(j9 O o kind cW).map (λx=>x.1)=mu (O.map (λx=>x.1)) o:=by
 unfold j9 mu
 split<;>simp
theorem eE.a7{X:Addr->Prop}{A:gy}{O:Objs}(h:eE σ A O)(p:aF X σ ae)(n:∀a∈[A.st,A.sd,A.h,A.hd,A.kn,A.kp],¬X a):eE ae A O:=
 ⟨h.s.a7 p (n _ (by simp)) (n _ (by simp)),h.h.a7 p (n _ (by simp)) (n _ (by simp)),p.at h.kn (n _ (by simp)),p.at h.kp (n _ (by simp)),h.len,h.nd,h.ne⟩
theorem eE.p0{A:gy}{O:Objs}(h:eE σ A O)(p:aF aS σ ae):eE ae A O:=h.a7 p λz z h=>h
theorem eE.q5{A:gy}{O:Objs}(h:eE σ A O):(A.st≠A.kn/\A.sd≠A.kn/\A.h≠A.kn/\A.hd≠A.kn)/\(A.st≠A.kp/\A.sd≠A.kp/\A.h≠A.kp/\A.hd≠A.kp):=by
 have a1:=h.s.1;have a2:=h.s.2;have a3:=h.h.1;have a4:=h.h.2;have a5:=h.kn;have a6:=h.kp
 have k:∀{x y:Addr} {o p:CO},σ x=some o->σ y=some p->o≠p->x≠y:=λh1 h2 n e=>n (by rw[e,h2]at h1;exact(bt h1).symm)
 exact⟨⟨k a1 a5 CO.noConfusion,k a2 a5 CO.noConfusion,k a3 a5 CO.noConfusion,k a4 a5 CO.noConfusion⟩,k a1 a6 CO.noConfusion,k a2 a6 CO.noConfusion,k a3 a6 CO.noConfusion,k a4 a6 CO.noConfusion⟩
theorem Va{A:gy}{O:Objs}(S:eE σ A O)(hO:O.length<=59)(hk:kind.length<=100)(hc:content.length<=100000)
  (q:bI (∀ae,eE ae A (j9 O (dF kind content) kind cW)->aF (SX A) σ ae->Q (.bytes (fS (pos (dF kind content) ((j9 O (dF kind content) kind cW).map (λx=>x.1))+1))) ae)):
  rX [.loc A.st,.bytes kind,.bytes content,cW] [] σ Q:=by
 obtain⟨⟨n1,n2,n3,n4⟩,n5,n6,n7,n8⟩:=S.q5;have Ss:=S.s;refine df (cy (sj (.attr .var .ins) S.h.fi (cu (.two .var .var) (agZ hk hc ⟨λao P1=>?_⟩))));have S1:=S.p0 P1
 refine ag2 (l:=O.map (λx=>x.1)) S1.h S1.kn (by rw[aZ];exact cB hO rfl) ⟨λay ik P2=>?_⟩
 have P:aF (SX A) σ ay:=P1.pn (P2.mono λa ha=>.inl ha);rw[ag9]at q;have s2:=S1.s.a7 P2 n1 n2;have h2:=S1.h.a7 P2 n3 n4;have Vb:=P2.at S1.kp (λe=>S.ne e.symm);generalize hx:dF kind content=x at*
 refine fP (.cmp .var (.attr .var .ins) .G6) (λg=>?_) λg=>?_
 ·have hm:x∉O.map (λx=>x.1):=λhm=>by
   have hp:=UX hm
   rw[mu,if_pos hm,Du (by rw[aZ]at hp;exact jT hp hO rfl) (l1 hO (by simp+arith only)),bS (by rw[aZ]at hp;exact hp)]at g
   exact eP g
  have e1:mu (O.map (λx=>x.1)) x=O.map (λx=>x.1)++[x]:=by unfold mu;rw[if_neg hm]
  have e2:j9 O x kind cW=O++[(x,kind,cW)]:=by unfold j9;rw[if_neg hm]
  have ep:pos x (O.map (λx=>x.1)++[x])=O.length:=by rw[Dq hm,aZ]
  rw[e1,ep,e2]at q;rw[e1]at ik;rw[e1,ep]
  have hn:bB (qe O) (fS (O.length+1))=none:=by rw[Du (l1 hO (by simp+arith only)) (l1 hO (by simp+arith only)),List.getElem?_eq_none (cP _)];rfl
  refine lx (.tup (.two .var .var)) (.attr .var .ins) .var (BY Vb (by rw[ag7];exact cB hO rfl) λaQ h3 p3=>bp (bX .var (q.out _ ⟨s2.a7 p3 n5 n6,h2.a7 p3 n7 n8,by rw[cR];exact p3.at ik S.ne,by rw[ag8,h3,UZ hn],by rw[bW];exact iN hO 1,?_,S.ne⟩ (P.trans (p3.mono λz=>.inr)))))
  rw[cR,nT]
  exact⟨S.nd,mN.2 ⟨rJ,.nil⟩,λa ha b hb e=>hm (by rw[<-show b=x from cL.1 hb,<-e];exact ha)⟩
 ·have hm:x∈O.map (λx=>x.1):=YF λhm=>by
   rw[mu,if_neg hm,Dq hm,aZ,Du (l1 hO (by simp+arith only)) (l1 hO (by simp+arith only)),List.getElem?_eq_none (cP _)]at g
   exact iR g
  have e1:mu (O.map (λx=>x.1)) x=O.map (λx=>x.1):=by unfold mu;rw[if_pos hm]
  have e2:j9 O x kind cW=O:=by unfold j9;rw[if_pos hm]
  rw[e1,e2]at q;rw[e1]at ik;rw[e1];exact bp (bX .var (q.out _ ⟨s2,h2,ik,Vb,S.len,S.nd,S.ne⟩ P))
theorem aha{A:gy}{O:Objs}(S:eE σ A O)(hO:O.length<=59)(hc:content.length<=100000)
  (q:bI (∀ae,eE ae A (j9 O (dF [98,108,111,98] content) [98,108,111,98] (.bytes content))->aF (SX A) σ ae->Q (.bytes (fS (pos (dF [98,108,111,98] content) ((j9 O (dF [98,108,111,98] content) [98,108,111,98] (.bytes content)).map (λx=>x.1))+1))) ae)):
  Br [.loc A.st,.bytes [98,108,111,98],.bytes content] [] σ Q:=
 df (e8 (.cmp .var .glob .Ca) (bp (fE (eX .var S.s.fi (.three .glob .var (.call (.one .var) .kF)) (Va S hO (by decide) hc ⟨λae S' P=>q.out _ S' P⟩)))))
variable {O O':Objs}
inductive kT(O:Objs)(x kind:List UInt8)(cW:CV):Objs->Nat->Prop
 |old {i k t} (h:O[i]?=some (x,k,t)):kT O x kind cW O i
 |new (h:x∉O.map (λx=>x.1)):kT O x kind cW (O++[(x,kind,cW)]) O.length
theorem Vc(O:Objs)(x kind:List UInt8)(cW:CV):kT O x kind cW (j9 O x kind cW) (pos x ((j9 O x kind cW).map (λx=>x.1))):=by
 by_cases h:x∈O.map (λx=>x.1)
 ·have e:j9 O x kind cW=O:=by unfold j9;rw[if_pos h]
  rw[e];have:=Jm h;rw[dM]at this
  cases g:O[pos x (O.map (λx=>x.1))]? with
  |none=>rw[g]at this;exact bo this
  |some p=>
   rw[g]at this;obtain⟨a,b,c⟩:=p;obtain rfl:=bt this
   exact .old g
 ·have e:j9 O x kind cW=O++[(x,kind,cW)]:=by unfold j9;rw[if_neg h]
  rw[e,cR,show([(x,kind,cW)]:Objs).map (λx=>x.1)=[x]from rfl,Dq h,aZ];exact .new h
theorem Vd{A:gy}(S:eE σ A O)(hO:O.length<=59)(hk:kind.length<=100)(hc:content.length<=100000)
  (q:bI (∀ae O' i,eE ae A O'->kT O (dF kind content) kind cW O' i->aF (SX A) σ ae->Q (.bytes (fS (i+1))) ae)):
  rX [.loc A.st,.bytes kind,.bytes content,cW] [] σ Q:=
 Va S hO hk hc ⟨λae S' P=>q.out _ _ _ S' (Vc ..) P⟩
theorem ahb{A:gy}(S:eE σ A O)(hO:O.length<=59)(hc:content.length<=100000)
  (q:bI (∀ae O' i,eE ae A O'->kT O (dF [98,108,111,98] content) [98,108,111,98] (.bytes content) O' i->aF (SX A) σ ae->Q (.bytes (fS (i+1))) ae)):
  Br [.loc A.st,.bytes [98,108,111,98],.bytes content] [] σ Q:=
 aha S hO hc ⟨λae S' P=>q.out _ _ _ S' (Vc ..) P⟩
theorem ahc{h:Addr}(i:bP σ a 539 d [])
  (q:bI (∀kp ae,σ kp=none->bP ae a 539 d (Jq h kp)->ae kp=some (.dB [])->aF (one d) σ ae->Q .none ae)):Bq [.loc a,.loc h] [] σ Q:=
 df (fF .var rfl i λao h1 p1=>vV (cX λkn ay hk h2 P2=>bV .var (sk (h1.a7 P2) λaQ h3 p3=>bp (q.out kn aQ (p1.no hk λe=>by have:=h1.2;rw[<-e,hk]at this;exact bo this) h3 (p3.at h2 λe=>gK hk h1.2 e.symm) ((p1.nx P2).trans p3)))))
noncomputable def oct:Nat->Nat->List UInt8->Option (List UInt8)
 |0,_,_=>none
 |k+1,n,bs=>if n=0/\bs≠[]then some bs else oct k (n/8) (bs++[(48+n%8).toUInt8])
noncomputable def wW:List UInt8:=[49,48,48,54,52,52]
theorem ahd:oct 7 33188 []=some wW.reverse:=by decide
theorem Fn.ahe(h:σ a=some (.ba b))(hl:b.length<=1000):Fn IU [.loc a] σ (.int b.length):=λQ q=>a1 (k:=.L) ⟨b,h,hl,q⟩
theorem Fn.ahf(h:σ a=some (.ba b))(hl:b.length<=1000):Fn IV [.loc a] σ (.bytes b):=λQ q=>a1 (k:=.L) ⟨b,h,hl,q⟩
theorem ahg(q:bI (∀ae,aF aS σ ae->Q (.bytes wW) ae)):Bx [.int 33188] [] σ Q:=by
 refine df (cy (cu .nil (baN λba ao hn hb P=>pQ (qG [160] (λk e ae=>∃(n:Nat) (bs:List UInt8),bs.length+k=7/\oct k n bs=some wW.reverse/\e 160=some (.int n)/\ae ba=some (.ba bs)/\aF aS σ ae) (n:=7) ⟨33188,[],rfl,ahd,rfl,hb,P⟩ λj e ae s z W hW=>?_))));refine mX z λn bs hl ho alW jn P'=>?_
 cases j with
 |zero=>exact bo ho
 |succ j=>
  have l8:bs.length<=7:=by exact aR (mL ..) (el hl)
  refine sA (b1:=!decide (n=0/\bs≠[])) (.to (.or (.cmp .var .val .gt) λo=>.BI (.cmp (.call (.one .var) (.ahe jn (aR l8 (by decide)))) .val .eq)) ?_) (λg=>?_) λg=>?_
  ·cases n<;>cases bs<;>simp<;>exact ZE _
  ·have g:=of_decide_eq_false (mK _▸g)
   replace ho:=(if_neg g).symm.trans ho
   have f8:((n:Int).fmod 8)=((n%8:Nat):Int):=by rw[alg _ (by decide)];rfl
   have g0:(0:Int)<=48+(n:Int).fmod 8:=by rw[f8];exact fY _
   have g1:(48:Int)+(n:Int).fmod 8<256:=by rw[f8];exact ZF n
   refine iA (pL .var ⟨_,_,rfl,jn⟩ (.one (.bin .val (.bin .var .val (.mod (by decide))) .add)) (a2 (k:=.L) (l:=.I) ⟨bs,jn,g0,g1,aR l8 (by decide),?_⟩))
   refine gO (.bin .var .val (.fdiv (by decide) (by decide))) (bp (hW (kZ j) ⟨n/8,bs++[(48+n%8).toUInt8],by rw[bW,<-hl];show _+1+j=_;exact AX ..,ho,?_,?_,P'.sn (a:=ba) (.upd rfl) hn⟩))
   ·show some (CV.int ((n:Int).fdiv 8))=_
    rw[alh _ (by decide)];rfl
   ·rw[eJ,f8];rfl
  ·have g:=of_decide_eq_true (rE _▸g)
   replace ho:=(if_pos g).symm.trans ho
   obtain rfl:=bt ho
   refine iA (pL .var ⟨_,_,rfl,jn⟩ .nil (a1 (k:=.L) ⟨_,jn,aR l8 (by decide),?_⟩))
   refine bX (.call (.one .var) (.ahf (eJ ..) (by decide))) ?_
   exact q.out _ (P'.sn (a:=ba) (.upd rfl) hn)
noncomputable def uD(dT:List UInt8):List (Nat×CV):=[(63,.int 33188),(66,.bytes [102]),(21,.bytes dT)]
theorem ahh(h:bP σ a 274 d [])
  (q:bI (∀ae,bP ae a 274 d (uD dT)->aF (one d) σ ae->Q .none ae)):Bo [.loc a,.int 33188,.bytes [102],.bytes dT] [] σ Q:=
 df (fF .var rfl h λao h1 p1=>fF .var rfl h1 λay h2 p2=>fF .var rfl h2 λaQ h3 p3=>bp (q.out _ h3 ((p1.trans p2).trans p3)))
noncomputable def Jr(l:Addr):List (Nat×CV):=[(176,.loc l)]
theorem ahi(h:bP σ a 323 d [])
  (q:bI (∀ae,bP ae a 323 d (Jr l)->aF (one d) σ ae->Q .none ae)):ya [.loc a,.loc l] [] σ Q:=
 df (fF .var rfl h λao h1 p1=>bp (q.out _ h1 p1))
theorem ahj(h:bP σ a 274 d (uD dT))(q:Q (.bytes [102]) σ):Bp [.loc a] [] σ Q:=
 df (bX (.iff (.cmp (.attr .var .ins) .glob .eq) (.attr .var .ins)) q)
noncomputable def oL(dT:List UInt8):List UInt8:=wW++[32]++[102]++[0]++dT
theorem Ve(h:dT.length<=100):(oL dT).length<=200:=by
 unfold oL;rw[bW];exact aR (gk (show _<=9 by decide) h) (by decide)
theorem ahk(h:bP σ a 274 d (uD dT))(hl:dT.length<=100)(q:bI (∀ae,aF aS σ ae->Q (.bytes (oL dT)) ae)):By [.loc a] [] σ Q:=by
 refine df (fE (lA (lA (lA (lA (cu (.one (.attr .var .ins)) (ahg ⟨λao P=>?_⟩)))))));have h1:=h.a7 P
 exact bV .val (gQ (.lu (by decide)) (bV (.attr .var .ins) (gQ (.lu (by decide)) (bV .val (gQ (.lu (by decide)) (bV (.attr .var .ins) (gQ (.lu (aR (AD hl _) (by decide))) (q.out _ P))))))))
structure lJ(σ:St)(t td l:Addr)(o:Option (List UInt8)):Prop where
 t:bP σ t 323 td (Jr l)
 l:match o with
  |none=>σ l=some (.list [])
  |some dT=>∃en ed,σ l=some (.list [.loc en])/\bP σ en 274 ed (uD dT)
theorem lJ.a7{X:Addr->Prop}{t:Addr}{o:Option (List UInt8)}(h:lJ σ t td l o)(p:aF X σ ae)(n:∀a,X a->∃o,σ a=some o/\(∀C d,o≠.inst C d)/\(∀f,o≠.iV f)/\(∀l,o≠.list l)):lJ ae t td l o:=by
 have n1:∀{a C d},σ a=some (.inst C d)->¬X a:=λh x=>by refine bF (n _ x) λo g g1 zz=>?_;obtain rfl:=bt (h.symm.trans g);exact g1 _ _ rfl
 have n2:∀{a f},σ a=some (.iV f)->¬X a:=λh x=>by refine cz (n _ x) λo g zz g1 zz=>?_;obtain rfl:=bt (h.symm.trans g);exact g1 _ rfl
 have n3:∀{a f},σ a=some (.list f)->¬X a:=λh x=>by obtain⟨o,g,_,_,g1⟩:=n _ x;obtain rfl:=bt (h.symm.trans g);exact g1 _ rfl
 refine⟨h.t.a7 p (n1 h.t.1) (n2 h.t.2),?_⟩;have hl:=h.l
 induction o with
 |none=>exact p.at hl (n3 hl)
 |some dT=>
  obtain⟨en,ed,g1,g2⟩:=hl;exact⟨en,ed,p.at g1 (n3 g1),g2.a7 p (n1 g2.1) (n2 g2.2)⟩
theorem lJ.p0{t:Addr}{o:Option (List UInt8)}(h:lJ σ t td l o)(p:aF aS σ ae):lJ ae t td l o:=h.a7 p λz x=>x.elim
noncomputable def oM:Option (List UInt8)->List UInt8
 |none=>[]
 |some dT=>oL dT
theorem ahl{t:Addr}{o:Option (List UInt8)}(h:lJ σ t td l o)(ho:∀x,o=some x->x.length<=100)(q:bI (∀ae,aF aS σ ae->Q (.bytes (oM o)) ae)):Bz [.loc t] [] σ Q:=by
 refine df (cy (dh .nil λpa ao hn hp P=>?_));have h1:=h.p0 P;have ht:=h1.t
 have fin:∀{ay e} (ys:List (List UInt8)),e 121=some (.loc pa)->ay pa=some (.list (ys.map .bytes))->aF aS σ ay->ys.flatten=oM o->ys.flatten.length<=200->ah (bh (bJ jI tW (au (.bytes [])) (ag (af 121) ar))) az e ay (bk Q):=λ{ay e} ys he hy P2 g hl=>by
  refine bX (.pz .val ⟨_,rfl⟩ (.one .var) (.join (by rw[Dr];exact aR hl (by decide)) hy)) ?_
  rw[Dr,g];exact q.out _ P2
 induction o with
 |none=>
  have hl:ao l=some (.list []):=h1.l
  exact jD (.attr .var .ins) hl λok bw=>yJ (bw _ hl) (fin [] rfl hp P rfl (dE _))
 |some dT=>
  refine gH h1.l λen ed g1 g2=>?_;refine jD (.attr .var .ins) g1 λok bw=>⟨bw _ g1,iA (sv .var hp (eX .var g2.fi .nil (ahk g2 (ho _ rfl) ⟨λay P2=>tY (xs:=[]) (P2.at hp) (dE _) λaQ h3 P3=>?_⟩)))⟩
  exact bp ⟨bw _ (P3.at (P2.at g1) (λe=>(nomatch (bt (g1.symm.trans (e▸hp)):CO.list [CV.loc en]=.list [])))),fin [oL dT] rfl h3 ((P.trans P2).sn P3 hn) (fj _) (by show(oL dT++[]).length<=_;rw[fj];exact Ve (ho _ rfl))⟩
theorem ahm:pJ [102] [47]=-1:=by decide
theorem ahn:pJ [102] [0]=-1:=by decide
theorem aho(q:bI (∀ae,aF aS σ ae->Q (.bool false) ae)):FU [.bytes [102],.bytes [47,0]] [] σ Q:=by
 refine df (Hs .var (qF [79] (λo:UInt8=>.int o.toNat) (λxs u ae=>(∀x∈xs,pJ [102] [x]=-1)/\aF aS σ ae) ⟨?_,.refl _ _⟩ (λx xs e ae s z=>⟨trivial,λK kk=>vY (v8 (yG .var ⟨_,rfl⟩ (dH (j1 (dH (dh (.one .var) λl ay hn hl P2=>?_))))))⟩) λe ae s z=>⟨trivial,bX .val (q.out _ z.2)⟩))
 ·intro x hx
  rcases eO.1 hx with rfl |hx
  ·exact ahm
  ·rw[cL.1 hx];exact ahn
 ·refine BW (Fn.Ha (ks:=[x.toNat]) (λk hk=>by rw[cL.1 hk];exact x.toNat_lt) (cG rfl) hl) (BW .find (bV .val (wb .ge ?_)))
  rw[show[x.toNat].map (λk=>k.toUInt8)=[x] by rw[List.map_singleton,show x.toNat.toUInt8=x from UInt8.ofNat_toNat],z.1 x (.head _)]
  exact bp (bp (kk.nx ⟨λy hy=>z.1 y (.tail _ hy),z.2.trans P2⟩))
theorem ahp(q:bI (∀ae,aF aS σ ae->Q .none ae)):FX [.bytes [102]] [] σ Q:=by
 exact df<|e8 (.cmp .var .val .t7)<|bp<|e8 (.cmp .var (.tup (.two .val .val)) (Cm.iTB (is:=[[46],[46,46]])))<|bp<|e8 (.to (.cmp (.pz .var ⟨_,rfl⟩ .nil (.lower (by decide))) .val .t7) (by decide))<|bp<|
  vY<|BX<|cu (.two .var .val)<|aho ⟨λao P=>⟨_,rfl,bp<|bX .val (q.out _ P)⟩⟩
theorem ahq{n:Nat}(h1:0<n)(h2:n<256)(q:Q (.bool false) σ):FV [.bytes (fS n),.bytes [0]] [] σ Q:=by
 refine df (Hs .var (qF [79] (λo:UInt8=>.int o.toNat) (λxs y ae=>n.toUInt8∈xs/\ae=σ) ⟨.tail _ (.tail _ (.tail _ (.head _))),rfl⟩ (λx xs e ae s z=>⟨trivial,λK kk=>fP (.cmp .var .var .acU) (λg=>bX .val (kk.rt (by rw[z.2];exact q))) λg=>bp (bp (kk.nx ⟨?_,z.2⟩))⟩) λe ae s z=>cA z.1))
 refine(eO.1 z.1).resolve_left λe=>?_
 have g:x=0:=by
  have:=rE _▸g;simpa using this
 have:=congrArg UInt8.toNat (e.trans g);rw[show n.toUInt8.toNat=n%256 from rfl,Lz h2]at this;exact absurd this (vz h1)
theorem ahr{t:Addr}{o:Option (List UInt8)}(h:lJ σ t td l o)(ho:∀x,o=some x->∃n,0<n/\n<256/\x=fS n)(q:bI (∀fa ae,ae fa=some (.list [])->aF aS σ ae->Q (.loc fa) ae)):F0 [.loc t] [] σ Q:=by
 refine df<|BN<|show b8 _ _ _ _ from jC<|dh .nil λfa ao hn hf P1=>jC<|cX λka ay Dv hk P2=>jC<|bV .val ⟨by exact cG rfl,_,rfl,rfl,?_⟩
 have P:=P1.trans P2;have sP:=P2.at hf;have h2:=h.p0 P;have ht:=h2.t;have hnk:=P1.no Dv;have nkf:fa≠ka:=gK Dv hf;clear P1 P2 Dv hf
 induction o with
 |none=>
  have hl:ay l=some (.list []):=h2.l
  exact jD (.attr .var .ins) hl λok bw=>yJ (bw _ hl)<|bX .var (q.out _ _ sP P)
 |some dT=>
  refine gH h2.l λen ed g1 g2=>?_;refine bF (ho _ rfl) λn n1 n2 aq=>?_;subst aq;refine jD (.attr .var .ins) g1 λok bw=>⟨bw _ g1,e8 (.cmp (.attr .var .ins) .glob (Cm.acT (is:=[33188,33261,40960,16384,57344])))<|bp<|cy<|cu (.one (.attr .var .ins))<|ahp ⟨λaQ P3=>?_⟩⟩;have g2:=g2.a7 P3;have g1:=P3.at g1;have hk:=P3.at hk
  have k2:∀{x:Addr} {p:CO},aQ x=some p->p≠.dB []->x≠ka:=λh1 n e=>n (by rw[e,hk]at h1;exact(bt h1).symm)
  refine e8 (.cmp .var .val .iY)<|bp<|e8 (.cmp (.attr .var .ins) .var (.iB hk))<|e8 (.l0 (.cmp .var .val .iY))<|oA<|vY<|BX<|cu (.two (.attr .var .ins) .val)<|ahq n1 n2 ⟨_,rfl,bp<|
   lx .val .var (.attr .var .ins)<|BY hk (dE _) λbU hk4 u1=>?_⟩
  have g3:=g2.a7 u1 (k2 g2.1 CO.noConfusion) (k2 g2.2 CO.noConfusion);exact cy<|eX .var g3.fi .nil<|ahj g3<|bp ⟨bw _ (u1.at g1 (k2 g1 CO.noConfusion)),bX .var (q.out _ _ (u1.at (P3.at sP) nkf) ((P.trans P3).sn u1 hnk))⟩
theorem ahs{t:Addr}{o:Option (List UInt8)}(h:lJ σ t td l o)(ho:∀x,o=some x->∃n,0<n/\n<256/\x=fS n)(q:bI (∀ae,aF aS σ ae->Q .none ae)):F2 [.loc t] [] σ Q:=
 df<|cy<|cu (.one .var)<|ahr h ho ⟨λfa ae hf P=>e8 (.cmp (.call (.one .var) (.len (dE _) hf)) .val .gt)<|oA (q.out _ P)⟩
theorem aht{o:Option (List UInt8)}(ho:∀x,o=some x->x.length<=100):(oM o).length<=200:=by
 induction o with
 |none=>exact dE _
 |some x=>exact Ve (ho _ rfl)
theorem ahu{A:gy}{t:Addr}{o:Option (List UInt8)}(S:eE σ A O)(hO:O.length<=59)(h:lJ σ t td l o)(ho:∀x,o=some x->∃n,0<n/\n<256/\x=fS n)
  (q:bI (∀ae O' i,eE ae A O'->kT O (dF [116,114,101,101] (oM o)) [116,114,101,101] (.loc t) O' i->aF (SX A) σ ae->Q (.bytes (fS (i+1))) ae)):
  ym [.loc A.st,.loc t] [] σ Q:=by
 have c7:∀x,o=some x->x.length<=100:=λx e=>by obtain⟨n,_,_,rfl⟩:=ho x e;exact show 4<=100 by decide
 refine df<|iA<|cu (.one .var)<|ahs h ho ⟨λao P1=>fE<|sj .var (S.p0 P1).s.fi<|j0 .glob<|jC<|eX .var (h.p0 P1).t.fi .nil<|ahl (h.p0 P1) c7 ⟨λay P2=>bV .var<|
  Vd (S.p0 (P1.trans P2)) hO (by decide) (aR (aht c7) (by decide)) ⟨λae O' i S' p P3=>q.out _ _ _ S' p ((P1.trans P2).pn P3)⟩⟩⟩
theorem ahv{A:gy}{c pl el:Addr}{tree:List UInt8}{ps:List (List UInt8)}{pa pc:kR}(S:eE σ A O)(hO:O.length<=59)
  (h:bP σ c 391 cd (qZ tree pl al cl el msg))(hp:σ pl=some (.list (ps.map .bytes)))(ha:mw σ al ad pa)(hc:mw σ cl iJ pc)(he:σ el=some (.list []))
  (oa:pa.Ok)(oc:pc.Ok)(ht:tree.length<=100)(dR:ps.length<=100/\∀p∈ps,p.length<=100)(hm:msg.length<=1000)
  (q:bI (∀ae O' i,eE ae A O'->kT O (dF [99,111,109,109,105,116] (mv tree ps pa.B pc.B msg)) [99,111,109,109,105,116] (.loc c) O' i->aF (SX A) σ ae->Q (.bytes (fS (i+1))) ae)):Bs [.loc A.st,.loc c] [] σ Q:=
 df<|fE<|sj .var S.s.fi<|j0 .glob<|jC<|eX .var h.fi .nil<|ag6 h hp ha hc he oa oc ht dR hm ⟨λao P=>bV .var<|
  Vd (S.p0 P) hO (by decide) (aR (U7 dR ht oa.len oc.len hm) (by decide)) ⟨λae O' i S' p P3=>q.out _ _ _ S' p (P.pn P3)⟩⟩
structure Dk(W σ:St)(d c:Addr)(T:Nat):Prop where
 dk:zE σ d c T
 fr:aF aS W σ
 wd:W d=none
 wc:W c=none
theorem Dk.ext{W:St}{c:Addr}{T:Nat}(h:Dk W σ d c T)(p:aF aS σ ae):Dk W ae d c T:=by
 refine f9 h.dk.ok λcs m t hd hc r=>?_;exact⟨⟨cs,m,t,p.at hd,p.at hc,r⟩,h.fr.trans p,h.wd,h.wc⟩
theorem Dk.up{W:St}{c:Addr}{T:Nat}(h:Dk W σ d c T)(l:T<=T'):Dk W σ d c T':=by
 refine Fu h.dk.ok λcs m t hd hc r1 r2 r3=>?_
 exact⟨⟨cs,m,t,hd,hc,r1,r2,by exact rO r3 (ko.2 l)⟩,h.fr,h.wd,h.wc⟩
theorem Dk.other{X:Addr->Prop}{W:St}{c:Addr}{T:Nat}(h:Dk W σ d c T)(p:aF X σ ae)(n:∀a,X a->a≠d/\a≠c/\W a=none):Dk W ae d c T:=by
 refine f9 h.dk.ok λcs m t hd hc r=>?_;exact⟨⟨cs,m,t,p.at hd (λx=>(n _ x).1 rfl),p.at hc (λx=>(n _ x).2.1 rfl),r⟩,λa o e z=>p a o (h.fr.at e) λx=>(bo (((n _ x).2.2).symm.trans e)),h.wd,h.wc⟩
theorem Dk.fz{W:St}{c:Addr}{T:Nat}(h:Dk W σ d c T)(ha:σ a=some o)(hd:a≠d)(hc:a≠c):∃W',aF aS W W'/\W' a=some o/\Dk W' σ d c T/\∀b,b≠a->W' b=W b:=by
 refine⟨upd W a o,λb x e z=>?_,eJ ..,⟨h.dk,λb x e z=>?_,by rw[iU hd.symm];exact h.wd,by rw[iU hc.symm];exact h.wc⟩,λb hb=>iU hb⟩
 ·by_cases g:b=a
  ·subst g
   have:=h.fr.at e
   rw[eJ,<-ha,this]
  ·rw[iU g];exact e
 ·by_cases g:b=a
  ·subst g
   rw[eJ]at e;rw[ha,e]
  ·rw[iU g]at e;exact h.fr.at e
theorem Dk.hd{W σ:St}{d c:Addr}{T:Nat}(h:Dk W σ d c T):∃m t,σ d=some (.dS (UL c m t)):=by
 refine f9 h.dk.ok λcs m t hd hc r=>?_;exact⟨_,_,hd⟩
theorem Dk.hc{W:St}{c:Addr}{T:Nat}(h:Dk W σ d c T):∃cs,σ c=some (.list cs):=by
 refine f9 h.dk.ok λcs m t hd hc r=>?_;exact⟨_,hc⟩
theorem Dk.new{W:St}{c:Addr}{T:Nat}(h:Dk W σ d c T)(ha:σ a=none):a≠d/\a≠c:=by
 obtain⟨_,_,h1⟩:=h.hd;obtain⟨_,h2⟩:=h.hc
 exact⟨λe=>(by rw[e,h1]at ha;exact jy ha),λe=>(by rw[e,h2]at ha;exact jy ha)⟩
theorem Dk.nw{W:St}{c:Addr}{T:Nat}(h:Dk W σ d c T)(ha:σ a=none):W a=none:=by
 cases e:W a with
 |none=>rfl
 |some o=>exact jy ((h.fr.at e).symm.trans ha)
theorem Dk.Vf{W:St}{c:Addr}{T:Nat}(h:Dk W σ d c T)(ha:W a=some o):a≠d/\a≠c:=
 ⟨λe=>(by rw[e,h.wd]at ha;exact bo ha),λe=>(by rw[e,h.wc]at ha;exact bo ha)⟩
theorem nG{W:St}{c:Addr}{T:Nat}{b:Int}(h:Dk W σ d c T)(hT:T<=1000000)(h0:0<b)(h1:b<1073741824)
  (q:bI (∀(r:Nat) ae,(r:Int)<b->Dk W ae d c (T+1)->aF (two d c) σ ae->Q (.int r) ae)):jB [.loc d,.int b] [] σ Q:=
 agP h.dk (ko.2 hT) h0 h1 ⟨λr ae r0 r1 D P=>by
  have:=q.out r.toNat ae (ZG h0 r1) ⟨by simpa using D,λa o e z=>P a o (h.fr.at e) λx=>?_,h.wd,h.wc⟩ P
  ·rwa[YS r0]at this
  ·rcases x with rfl |rfl
   ·exact bo (h.wd.symm.trans e)
   ·rw[h.wc]at e;cases e⟩
theorem ahw{α:Type}{vs:List α}{v:α}(h:vs[i]?=some v)(hl:vs.length<=1000):iW vs (i:Int)=some v:=by
 rw[adq _ _ (by have:=(iL.1 h).1;exact ey this hl)];exact h
theorem ahx{vs:List CV}{v:CV}(h:σ a=some (.list vs)\/σ a=some (.ro vs))(hv:vs[i]?=some v)(hl:vs.length<=1000)(q:Q v σ):vP (.loc a) (.int i) σ Q:=.li h (ahw hv hl) q
theorem zF{W:St}{c:Addr}{T:Nat}{vs:List CV}(h:Dk W σ d c T)(hT:T<=1000000)(ha:(σ a=some (.list vs)/\a≠c)\/σ a=some (.ro vs))(hv:vs≠[])(hl:vs.length<=1000)
  (q:bI (∀(i:Nat) v ae,vs[i]?=some v->Dk W ae d c (T+1)->aF (two d c) σ ae->Q v ae)):pG [.loc d,.loc a] [] σ Q:=by
 have hp:=ER.2 hv;have hf:Fn eI [.loc a] σ (.int vs.length):=λQ q=>.inl (a1 (k:=.L) ⟨vs,ha.imp f7 id,hl,q⟩)
 refine df<|fE<|ceT .var<|cu (.two .var (.call (.one .var) hf))<|nG h hT (dN.2 hp) (dN.2 (je hl (by decide))) ⟨λr ae hr D P=>?_⟩
 have hr:r<vs.length:=dN.1 hr;refine gF h.hd λm t hd=>?_;refine xe h.hc λcs hc=>?_;refine ahx (v:=vs[r]) (vs:=vs) ?_ (bS hr) hl (q.out r _ _ (bS hr) D P)
 rcases ha with⟨ha,hac⟩ |ha
 ·refine .inl (P.at ha λx=>x.elim (λx=>?_) hac)
  rw[x,hd]at ha;cases ha
 ·refine .inr (P.at ha λx=>x.elim (λx=>?_) λx=>?_)
  ·rw[x,hd]at ha;cases ha
  ·rw[x,hc]at ha;cases ha
noncomputable def reach(k:Nat):Nat->List (List Nat×List Nat)
 |0=>[(cS k,[])]
 |t+1=>(reach k t).flatMap λp=>if p.1=[]then[p]else(cS p.1.length).map λi=>(p.1.eraseIdx i,p.2++[p.1.getD i 0])
theorem ahy{k t:Nat}(h:([],r)∈reach k t):([],r)∈reach k (t+1):=by
 unfold reach
 exact EX.2 ⟨_,h,by simp⟩
theorem ahz{k t x:Nat}{l:List Nat}(h:(l,r)∈reach k t)(hx:l[i]?=some x):(l.eraseIdx i,r++[x])∈reach k (t+1):=by
 unfold reach;have hi:=(iL.1 hx).1;refine EX.2 ⟨_,h,?_⟩
 have hn:l≠[]:=λe=>by rw[e]at hi;exact absurd hi (by simp)
 rw[if_neg hn]
 refine dD.2 ⟨i,by simpa using hi,?_⟩
 simp[hx]
noncomputable def uE(k:Nat):List (List Nat):=((cS 4).flatMap λt=>(reach k t).map (λx=>x.2)).eraseDups
theorem ahA{α:Type}[BEq α][LawfulBEq α](l:List α)(x:α)(h:x∈l):x∈l.eraseDups:=List.mem_eraseDups.2 h
theorem ahB{k t:Nat}{l:List Nat}(h:(l,r)∈reach k t)(ht:t<4):r∈uE k:=
 ahA _ _ (EX.2 ⟨t,by simpa using ht,dD.2 ⟨_,h,rfl⟩⟩)
noncomputable def lK(rows:List (List Nat)):Prop:=∀k r,rows[k]?=some r->r∈uE k
structure kb(W:St)(c9:List Addr)(rows:List (List Nat)):Prop where
 len:c9.length=rows.length
 at_:∀(k:Nat) (a:Addr) (r:List Nat),c9[k]?=some a->rows[k]?=some r->W a=some (.list (r.map nI))
noncomputable def ke(W:St)(l:Addr)(rows:List (List Nat)):Prop:=∃c9,W l=some (.list (c9.map .loc))/\kb W c9 rows
theorem kb.mono{W:St}{rows:List (List Nat)}(h:kb W c9 rows)(p:aF aS W W'):kb W' c9 rows:=⟨h.len,λk a r h1 h2=>p.at (h.at_ k a r h1 h2)⟩
theorem q6{α:Type}{l:List α}{x y:α}(h:(l++[x])[i]?=some y):(i<l.length/\l[i]?=some y)\/(i=l.length/\y=x):=by
 rw[List.getElem?_append]at h
 split at h
 ·exact .inl ⟨by assumption,h⟩
 ·have:=(iL.1 h).1
  have e:i- l.length=0:=by simpa using this
  rw[e]at h
  exact .inr ⟨qq (YL e) (EY (by assumption)),by simpa using h.symm⟩
theorem kb.snoc{W:St}{rows:List (List Nat)}(h:kb W c9 rows)(ha:W a=some (.list (r.map nI))):kb W (c9++[a]) (rows++[r]):=by
 refine⟨by simp[h.len],λk b s h1 h2=>?_⟩
 have hl:=h.len
 rcases q6 h1 with⟨i1,g1⟩ |⟨i1,rfl⟩<;>rcases q6 h2 with⟨i2,g2⟩ |⟨i2,rfl⟩
 ·exact h.at_ k b s g1 g2
 ·exact(iP i1 (i2.trans hl.symm)).elim
 ·exact(iP i2 (i1.trans hl)).elim
 ·exact ha
theorem lK.snoc{rows:List (List Nat)}(h:lK rows)(hr:r∈uE rows.length):lK (rows++[r]):=λk s h2=>by
 rcases q6 h2 with⟨i2,g2⟩ |⟨i2,rfl⟩
 ·exact h k s g2
 ·rw[i2];exact hr
theorem Vg{α β:Type}(f:α->β):∀(l:List α) (i:Nat),(l.map f).eraseIdx i=(l.eraseIdx i).map f
 |[],i=>by simp
 |x::l,0=>by simp
 |x::l,i+1=>by simp[Vg f l i]
theorem ahC{W:St}{c:Addr}{k m T:Nat}{Q:dy->aL->St->Prop}(h:Dk W σ d c T)(hT:T<=1000)(hk:k<=3)(hm:m<=3)(h57:e 57=some (.loc la))(h27:e 27=some (.loc ra))(h46:e 46=some (.loc d))
  (hl:σ la=some (.list ((mQ 0 k).map nI)))(hr:σ ra=some (.list []))(nl:la≠d/\la≠c/\W la=none)(nr:ra≠d/\ra≠c/\W ra=none)(Dw:la≠ra)
  (q:∀e' ae r,cx [88] e e'->r∈uE k->ae ra=some (.list (r.map nI))->Dk W ae d c (T+m)->aF (λa=>(a=d\/a=c)\/a=la\/a=ra) σ ae->Q .next e' ae):
  gc pN (aName 88) (ah (bC (aT .NotEq (af 57) (eList ar)) (ah (cw (bJ cD cN (af 27) (ag (bJ cD sr (af 57) (ag (aY jB (ag (af 46) (ag (aY eI (ag (af 57) ar)) ar))) ar)) ar))) az) az) az) Q ((mQ 0 m).map nI) e σ:=by
 refine qF [88] nI (λxs o ae=>∃t l r,t+xs.length=m/\(l,r)∈reach k t/\l.length+r.length=k/\ae la=some (.list (l.map nI))/\ae ra=some (.list (r.map nI))/\Dk W ae d c (T+t)/\aF (λa=>(a=d\/a=c)\/a=la\/a=ra) σ ae)
  ⟨0,mQ 0 k,[],by rw[ES,mO],cL.2 (by rw[List.range_eq_range']),by rw[ES];rfl,hl,hr,h,.refl _ _⟩ (λx xs e' ae s z=>⟨trivial,λK kk=>?_⟩) λe' ae s z=>⟨trivial,?_⟩
 ·refine A9 z λt l r ht gi hlen hl hr D P=>?_
  rw[jP]at ht
  have q7:t+1+xs.length=m:=by rw[<-ht,Y1];rfl
  have l3:l.length<=3:=by exact l2 hk (el hlen) (by simp+arith only)
  refine B0 .var hl (λg ao P1=>?_) λg ao P1=>?_
  ·have Vh:0<l.length:=by rw[<-aZ (f:=nI)];exact ER.2 g
   have j8:=P1.at hl
   refine iA<|sv .var (P1.at hr)<|yG .var ⟨_,_,rfl,j8⟩<|dH<|cu (.two .var (.call (.one .var) (.len (by rw[aZ];exact cB l3 rfl) j8)))<|nG (D.ext P1) (l4 hT hm (eN 2 (el ht)) (er ht) (by simp+arith only)) (by rw[aZ];exact dN.2 Vh) (by rw[aZ];exact ko.2 (lz l3 rfl)) ⟨λi ay hi D2 P2=>?_⟩
   rw[aZ]at hi;have hi:i<l.length:=dN.1 hi
   refine FP (P2.at j8 (λx=>x.elim nl.1 nl.2.1)) (n:=nI l[i]) (by rw[dM,bS hi];rfl) (by rw[aZ];exact cB l3 rfl) λaQ zG P3=>?_
   refine tY (f:=nI) (u:=l[i]) (P3.at (P2.at (P1.at hr) (λx=>x.elim nr.1 nr.2.1)) (λe=>Dw e.symm)) (l2 hk (el hlen) (by simp+arith only)) λbU Js P4=>oA<|kk.nx ⟨t+1,l.eraseIdx i,r++[l[i]],q7,ahz gi (bS hi),?_,?_,Js,?_,?_⟩
   ·rw[YR,if_pos hi,bW,mH];exact ZH hlen Vh
   ·rw[P4.at zG Dw,Vg]
   ·exact(D2.other P3 (λa x=>by cases x;exact nl)).other P4 (λa x=>by cases x;exact nr)
   ·exact(((P.nx P1).trans (P2.mono λa=>.inl)).trans (P3.mono λa x=>.inr (.inl x))).trans (P4.mono λa x=>.inr (.inr x))
  ·have:l=[]:=xG.1 g
   subst this
   exact oA<|kk.nx ⟨t+1,[],r,q7,ahy gi,hlen,P1.at hl,P1.at hr,(D.ext P1).up (nW _),P.nx P1⟩
 ·refine A9 z λt l r ht gi hlen hl hr D P=>?_
  have ht:t=m:=ht;subst ht;exact q e' ae r s (ahB gi (Za hm)) hr D P
theorem ahD{v:CV}(h:[CV.int 1,.int 1,.int 1,.int 2,.int 2,.int 3,.int 0][i]?=some v):∃m:Nat,v=.int m/\m<=3:=
 match i,h with
 |0,h |1,h |2,h=>⟨1,(bt h).symm,by decide⟩
 |3,h |4,h=>⟨2,(bt h).symm,by decide⟩
 |5,h=>⟨3,(bt h).symm,by decide⟩
 |6,h=>⟨0,(bt h).symm,by decide⟩
theorem lrX{m:EM}{n:Nat}{R:CV->St->Prop}(h:Ev m e σ (.int n))(hn:n<=1000)(k:∀a ae,σ a=none->ae a=some (.list ((mQ 0 n).map nI))->aF aS σ ae->R (.loc a) ae):IH m e σ R:=
 h _ ⟨n,rfl,by exact fY _,by exact ko.2 hn,cX (by rw[B2];exact k)⟩
theorem ahE{W:St}{c:Addr}{T:Nat}(h:Dk W σ d c T)(hT:T<=900)
  (q:bI (∀rl rows W' ae,lK rows->2<=rows.length->rows.length<=4->aF aS W W'->ke W' rl rows->Dk W' ae d c (T+20)->Q (.loc rl) ae)):GA [.loc d,.int 4] [] σ Q:=by
 refine df<|cy<|dh .nil λrl ao hn cI P1=>PR<|pK .val<|cu (.two .var (.bin .var .val .sub))<|nG (h.ext P1) (cB hT rfl) (by decide) (by decide) ⟨λn0 ay hn0 D2 P2=>gQ .add<|?_⟩
 have lL:=h.new hn;have zH:n0<3:=dN.1 hn0
 refine PU (n:=2+n0) (l1 zH (by simp+arith only))<|qF [1,57,27,88] nI (λxs y ae=>∃(k:Nat) (W':St) (c9:List Addr) (rows:List (List Nat)),xs=mQ k (2+n0- k)/\k<=2+n0/\rows.length=k/\lK rows/\aF aS W W'/\W' rl=none/\kb W' c9 rows/\ae rl=some (.list (c9.map .loc))/\Dk W' ae d c (T+1+4*k))
  ⟨0,W,[],[],rfl,dE _,rfl,λy y h=>(bo h),.refl _ _,h.nw hn,⟨rfl,λy y y h=>(bo h)⟩,P2.at cI (λx=>x.elim lL.1 lL.2),D2⟩ (λk xs e ae s z=>⟨trivial,λK kk=>?_⟩) λe ae s z=>⟨trivial,?_⟩
 ·refine MJ z λk' W' c9 rows hx c4 hlen bw PW hW RI cI D=>?_
  obtain⟨j,hj⟩:∃j,2+n0- k'=j+1:=by
   cases g:2+n0- k' with
   |zero=>rw[g]at hx;exact og hx
   |succ j=>exact⟨j,rfl⟩
  rw[hj,List.range'_succ]at hx;refine xa (List.cons.inj hx) λaq hx=>?_;subst aq
  have k3:k<=3:=l2 (YM hj) zH (by simp+arith only)
  refine BN<|show b8 _ _ _ _ from jC<|lrX .var (cB k3 rfl) λla aQ Dx c6 P3=>dH<|dh .nil λra bU Dy gV P4=>⟨by exact cG rfl,_,rfl,rfl,?_⟩
  have P5:=P3.trans P4;have nl:=D.new Dx;have nr:=(D.ext P3).new Dy;have ahF:=P4.at c6;have Dw:la≠ra:=gK Dy c6;have Dz:=P5.at cI;have n1:rl≠la:=gK Dx cI;have n2:rl≠ra:=gK Dy (P3.at cI)
  refine PR<|j1<|j0 .var<|dH<|dh (.cons .val (.cons .val (.cons .val (.cons .val (.cons .val (.cons .val (.one .val))))))) λpa fH ahG q8 P6=>zF ((D.ext P5).ext P6) (l2 hT (eN 4 k3) (by simp+arith only)) (.inl ⟨q8,((D.ext P5).new ahG).2⟩) (by decide) (by decide) ⟨λi v fI hv D6 P7=>?_⟩
  refine a9 (ahD hv) λm aq hm=>?_;subst aq;have X:∀{a o},bU a=some o->a≠d->a≠c->fI a=some o:=λha h1 h2=>P7.at (P6.at ha) λx=>x.elim h1 h2
  refine PU (n:=m) (cB hm rfl)<|ahC (la:=la) (ra:=ra) D6 (l2 hT (eN 4 k3) (by simp+arith only)) k3 hm rfl rfl ?_ (X ahF nl.1 nl.2) (X gV nr.1 nr.2) ⟨nl.1,nl.2,D.nw Dx⟩ ⟨nr.1,nr.2,(D.ext P3).nw Dy⟩ Dw λe' nF r he hr ahH D7 P8=>?_
  ·exact s.rd (j:=46) rfl rfl
  have s2:cx [1,57,27,88] (bA (eW [46,65] [.loc d,.int 4] λy=>none) 76 (.loc rl)) e':=λj hj=>by
   rw[he j (by
    cases g:[88].contains j with
    |false=>rfl
    |true=>rw[vo,cL]at g;rw[g]at hj;exact iR hj)]
   exact((s.set).set) j hj
  have ahI:=P8.at (X Dz lL.1 lL.2) λx=>x.elim (λx=>x.elim lL.1 lL.2) λx=>x.elim n1 n2
  refine su .loc ra .var (.var ((he.rd (v:=.loc ra) rfl rfl))) ahI (by rw[RI.len,hlen];exact cB k3 rfl) λsS ahJ u=>?_
  have D8:=D7.other u (λa x=>by obtain rfl:=x.symm;exact⟨lL.1,lL.2,hW⟩)
  refine cz (D8.fz (a:=ra) (u.at ahH (λx=>n2 x.symm)) nr.1 nr.2) λW2 cJ ahK D9 hW2=>?_
  exact bp<|kk.nx ⟨k+1,W2,c9++[ra],rows++[r],by rw[hx];congr 1;exact(Mv hj).symm,by exact YM hj,by rw[bW,hlen];rfl,bw.snoc (by rw[hlen];exact hr),PW.trans cJ,by rw[hW2 _ n2];exact hW,(RI.mono cJ).snoc ahK,ahJ,D9.up (AD hm _)⟩
 ·refine MJ z λk W' c9 rows hx c4 hlen bw PW hW RI cI D=>?_
  have:rows.length=2+n0:=by
   cases g:2+n0- k with
   |zero=>exact hlen.trans (qq c4 (YL g))
   |succ j=>rw[g]at hx;exact vD hx
  refine cz (D.fz (a:=rl) cI lL.1 lL.2) λW2 cJ ahL D9 zz=>?_
  exact bX .var (q.out rl rows W2 ae bw (aR (mL ..) (er this)) (l2 (el this) zH (by simp+arith only)) (PW.trans cJ) ⟨c9,ahL,RI.mono cJ⟩ (D9.up (l3 (eN 4 (er hlen)) (eN 4 (el this)) (eN 4 zH) (by simp+arith only))))
noncomputable def wX(n:Nat)(times:List Nat):Prop:=times.length=n/\∀t∈times,t<2000
theorem ahM{W:St}{c:Addr}{n T:Nat}(h:Dk W σ d c T)(hT:T<=900)(h1:1<=n)(hn:n<=4)
  (q:bI (∀tl times W' ae,wX n times->aF aS W W'->W' tl=some (.list (times.map nI))->Dk W' ae d c (T+5)->Q (.loc tl) ae)):GB [.loc d,.int n] [] σ Q:=by
 have fin:∀(times:List Nat) (T':Nat) {ae ay:St} {tl:Addr},T'<=T+5->wX n times->Dk W ae d c T'->ae tl=none->ay tl=some (.list (times.map nI))->aF aS ae ay->Q (.loc tl) ay:=λtimes T' {ae ay tl} zI ok D hn ht P=>by
  refine cz ((D.ext P).fz ht (D.new hn).1 (D.new hn).2) λW2 P2 h2 D2 zz=>?_;exact q.out tl times W2 ay ok P2 h2 (D2.up zI)
 have Vi:∀(f:Nat->Nat),(∀k,k<4->f k<2000)->wX n ((mQ 0 n).map f):=λf hf=>⟨by rw[aZ,ES],λt ht=>by
  refine a9 (dD.1 ht) λk hk aq=>?_;subst aq
  exact hf k (ey (Y9.1 hk).2 (by rw[mO];exact hn))⟩
 have ln:(mQ 0 n).length<=1000:=by rw[ES];exact aR hn (by decide)
 have n3:n<=1000:=aR hn (by decide)
 refine df<|cy<|cu (.two .var .val)<|nG h (aR hT (by decide)) (by decide) (by decide) ⟨λway ao hw D P=>?_⟩
 have T1:T+1<=T+5:=AD (by decide) T
 refine fP (.cmp .var .val .eq) (λo=>?_) λo=>bp<|fP (.cmp .var .val .eq) (λo=>?_) λo=>bp<|fP (.cmp .var .val .eq) (λo=>?_) λo=>bp ?_
 ·exact fE<|md nI (λk=>nI (100+10*k)) (.rg .var n3) ln (λk hk ce s hv=>.bin .val (.bin .val .var (.mul (by decide) (by decide))) .add) λl ae hn hl P2=>fin _ _ T1 (Vi (λk=>100+10*k) (λk hk=>by exact l1 (eN 10 hk) (by simp+arith only))) D hn (by rw[dp];exact hl) P2
 ·refine fE<|dh (.one .val) λla ay Dx c6 P2=>mlK .var c6 n3 λl ae hn hl P3=>fin (qr n 500) _ T1 ⟨List.length_replicate,λt ht=>by rw[(List.mem_replicate.1 ht).2];decide⟩ (D.ext P2) hn (by rw[List.map_replicate];exact hl) P3
 ·refine fE<|md nI (λk=>.int (900- 10*k)) (.rg .var n3) ln (λk hk ce s hv=>.bin .val (.bin .val .var (.mul (by decide) (by decide))) .sub) λl ae yW hl P2=>fin _ _ T1 (Vi (λk=>900- 10*k) (λk hk=>by exact je (A3 ..) (by decide))) D yW ?_ P2
  rw[hl,dp]
  congr 2
  refine pd λk hk=>?_;have:=(Y9.1 hk).2;show CV.int _=.int ((900- 10*k:Nat):Int)
  congr 1;exact ZI this hn
 ·refine fE<|coR .var n3<|B5 nI (λxs acc ae=>∃times:List Nat,acc=times.map nI/\times.length+xs.length=n/\(∀t∈times,t<2000)/\Dk W ae d c (T+1+times.length)) ⟨[],rfl,by rw[ES];exact mO _,λo h=>(cA h),D⟩ ln (λx xs acc ae ce z hl s hv=>⟨trivial,λKY y=>?_⟩) λacc ae z=>⟨trivial,?_⟩
  ·refine cz z λtimes aq hlen ck D3=>?_;clear z;subst aq
   rw[jP]at hlen
   refine pK .val<|cu (.two .var .val)<|nG D3 (l3 hT hn (el hlen) (by simp+arith only)) (by decide) (by decide) ⟨λr ay hr D4 P4=>gQ .add<|y _ _ ⟨times++[1000+r],by rw[cR];rfl,by rw[bW,<-hlen,Y1];rfl,λt ht=>?_,by rw[bW];exact D4⟩⟩
   rcases fZ.1 ht with ht |ht
   ·exact ck t ht
   ·rw[cL.1 ht];exact l1 (ko.1 hr) (by simp+arith only)
  ·refine cz z λtimes aq hlen ck D3=>?_;clear z;subst aq
   have hlen:times.length=n:=hlen
   exact cX λl ay yW hl P2=>fin times _ (l2 (el hlen) hn (by simp+arith only)) ⟨hlen,ck⟩ D3 yW hl P2
theorem ahN{s:Addr}{vs:List Int}(hs:σ s=some (.ro (vs.map .int)))(hl:vs.length<=100)
  (q:bI (∀d c W ae,aF aS σ W->Dk W ae d c 0->Q (.loc d) ae)):Gz [.loc s] [] σ Q:=by
 have hk:(vs.take 12).length<=12:=by rw[L0];exact Nat.min_le_left ..
 refine df<|BN<|show b8 _ _ _ _ from jC<|me<|Pw .var .val<|upR (k:=12) hs (by rw[aZ];exact cB hl rfl) λa1 ao zH zJ P1=>?_
 rw[<-List.map_take]at zJ;generalize vs.take 12=cs at*
 have Vj:∀{n:Nat},n<=12->n<=1000:=λh=>aR h (by decide)
 refine iX zJ λok bw=>wj CV.int CV.int (bw _ zJ) (Vj hk) (λx o ce s h=>.call (.one .var) .int) λa2 ay Dv sU P2=>dH<|bV .val ⟨by exact cG rfl,_,rfl,rfl,?_⟩
 have P:=P1.trans P2
 refine jD .var sU λok bw=>qF [44,117] CV.int (λo e ae=>(∃m:Int,e 117=some (.int m)/\0<=m/\m<2147483648)/\ae=ay) ⟨⟨5565,rfl,by decide,by decide⟩,rfl⟩ (λx xs e ae s z=>?_) λe ae s z=>?_
 ·obtain⟨⟨m,Jt,m0,m1⟩,rfl⟩:=z
  have b1:=wQ (a:=m*48271+x.fmod 2147483629+5565) (b:=2147483587) (by decide)
  exact⟨bw _ sU,λK kk=>gO (.bin (.bin (.bin (.bin (.var Jt) .val (.mul (tm (by decide) m0) (ph m1 (by decide)))) (.bin .var .val (.mod (by decide))) .add) .val .add) .val (.mod (by decide)))<|bp<|kk.nx ⟨⟨_,rfl,b1.1,ph b1.2 (by decide)⟩,rfl⟩⟩
 ·obtain⟨⟨m,Jt,m0,m1⟩,rfl⟩:=z
  refine⟨bw _ sU,fE<|d3X<|Hj .var sU (by rw[aZ];exact Vj hk) λc aQ hn3 hc P3=>bV (.var Jt)<|bV .val<|cX λd bU CL hd P4=>?_⟩
  exact q.out d c σ bU (.refl _ _) ⟨⟨cs.reverse,m,0,hd,by rw[P4.at hc,vr],by rw[EL];exact hk,by decide,by decide⟩,(P.trans P3).trans P4,(P.trans P3).no CL,P.no hn3⟩
noncomputable abbrev oN:List UInt8:=[98,108,111,98]
noncomputable abbrev q9:List UInt8:=[116,114,101,101]
noncomputable abbrev lM:List UInt8:=[99,111,109,109,105,116]
noncomputable abbrev Vk:List UInt8:=[43,48,48,48,48]
noncomputable abbrev ahO:List UInt8:=[43,48,49,51,48]
noncomputable def kB(n:Nat):List UInt8:=(qr n [107]).flatten++[10]
noncomputable def sW(t:Nat):kR:=⟨[90],[122,64,122],t,ahO⟩
noncomputable def jL(bH:List UInt8×List UInt8)(k:Nat):kR:=⟨bH.1,bH.2,5+k,Vk⟩
theorem Vl{X Y:List UInt8}(hx:X.head?=some 97)(hy:Y.head?=some 97):∀(ps qs:List (List UInt8)),(∀p∈ps,p.length=4)->(∀p∈qs,p.length=4)->(ps.map nE).flatten++X=(qs.map nE).flatten++Y->X=Y
 |[],[],_,_,h=>h
 |[],q::qs,_,_,h=>by
  rw[Fc,Zj,vx]at h;rw[h]at hx
  simp[nE]at hx
 |p::ps,[],_,_,h=>by
  rw[Fc,Zj,vx]at h;rw[<-h]at hy
  simp[nE]at hy
 |p::ps,q::qs,h1,h2,h=>by
  simp only[gC,AH,fK]at h
  have e:=(List.append_inj h (by simp[nE,wV,h1 p (by simp),h2 q (by simp)])).2
  exact Vl hx hy ps qs (λp hp=>h1 p (by simp[hp])) (λp hp=>h2 p (by simp[hp])) e
theorem Vn(t:List UInt8)(ps:List (List UInt8))(A C m:List UInt8):∃r,mv t ps A C m=[116,114,101,101,32]++(nD t++([10]++((ps.map nE).flatten++([97,117,116,104,111,114,32]++(A++r))))):=
 ⟨_,by unfold mv Jp;simp only[xK,vx,AH,List.flatten_append,fK];rfl⟩
theorem ahP{t t' m m' C C' A A':List UInt8}{ps qs:List (List UInt8)}(ht:t.length=4)(q7:t'.length=4)(hp:∀p∈ps,p.length=4)(hq:∀p∈qs,p.length=4)(h:mv t ps A C m=mv t' qs A' C' m'):∃r r',A++r=A'++r':=by
 refine xe (Vn t ps A C m) λr e=>?_;refine xe (Vn t' qs A' C' m') λr' e'=>?_;have h:=vm (e.symm.trans (h.trans e'))
 have h:=(List.append_inj h (by rw[wV,wV,ht,q7])).2
 exact⟨r,r',vm (Vl rfl rfl ps qs hp hq (vm h))⟩
theorem Vo:∀{a b x y:List UInt8},(0:UInt8)∉a->(0:UInt8)∉b->a++0::x=b++0::y->a=b/\x=y
 |[],[],x,y,_,_,h=>⟨rfl,by simpa using h⟩
 |[],b::bs,x,y,_,hb,h=>by
  simp only[vx,xK,L9]at h
  exact absurd (by rw[<-h.1];simp) hb
 |a::as,[],x,y,ha,_,h=>by
  simp only[vx,xK,L9]at h
  exact absurd (by rw[h.1];simp) ha
 |a::as,b::bs,x,y,ha,hb,h=>by
  simp only[xK,L9]at h;obtain⟨rfl,h⟩:=h
  refine xa (Vo (λz=>ha (by simp[z])) (λz=>hb (by simp[z])) h) λaq e=>?_;subst aq
  exact⟨rfl,e⟩
theorem ahQ{k k' c:List UInt8}(hk:(0:UInt8)∉k)(c4:(0:UInt8)∉k')(h:dF k c=dF k' c'):k++[32]++jJ c.length=k'++[32]++jJ c'.length/\c=c':=by
 unfold dF at h;simp only[fK,xK,vx]at h;have n1:=U3 c.length;have n2:=U3 c'.length
 have:=Vo (a:=k++32::jJ c.length) (b:=k'++32::jJ c'.length) (x:=c) (y:=c') (by simp[hk,n1]) (by simp[c4,n2]) (by simpa using h)
 refine⟨by simpa using this.1,this.2⟩
theorem Ju{k c:List UInt8}(hk:(0:UInt8)∉k)(h:dF k c=dF k c'):c=c':=(ahQ hk hk h).2
theorem Vp{c:List UInt8}:dF oN c≠dF q9 c':=λh=>absurd (xE h) (by decide)
theorem Vq{c:List UInt8}:dF oN c≠dF lM c':=λh=>absurd (xE h) (by decide)
theorem Vr{c:List UInt8}:dF q9 c≠dF lM c':=λh=>absurd (xE h) (by decide)
theorem ahR:∀n,n<10->jJ n=[(48+n).toUInt8]:=by decide+kernel
theorem ahS:∀n,n<3->∀m,m<3->kB n=kB m->n=m:=by decide
theorem ahT{bH zK:List UInt8×List UInt8}{k:Nat}(h1:bH∈nC)(h2:zK∈nC)(hk:k<4)(c4:k'<4){r r':List UInt8}(h:(jL bH k).B++r=(jL zK k').B++r'):k=k':=by
 have e:∀j,j<4->jJ (5+j)=[(53+j).toUInt8]:=λj hj=>by rw[ahR _ (l1 hj (by simp+arith only))];exact congrArg (λn=>[n.toUInt8]) (AV 48 5 j).symm
 have inj:∀j,j<4->∀i,i<4->(53+j).toUInt8=(53+i).toUInt8->j=i:=by decide
 have hd:∀w∈nC,∀(k:Nat) (r:List UInt8),((jL w k).B++r).head?=w.1.head?:=λw hw k r=>by
  rcases eO.1 hw with rfl |hw
  ·rfl
  rcases eO.1 hw with rfl |hw
  ·rfl
  rw[cL.1 hw];rfl
 have wi:∀w∈nC,∀w'∈nC,w.1.head?=w'.1.head?->w=w':=by decide
 obtain rfl:=wi _ h1 _ h2 ((hd _ h1 k r).symm.trans ((congrArg List.head? h).trans (hd _ h2 k' r')));unfold jL kR.B Dn at h;rw[e k hk,e k' c4]at h;simp only[fK]at h;exact inj _ hk _ c4 (xE (vm (vm (vm (vm h)))))
theorem ahU{t t' m m' C C':List UInt8}{ps qs:List (List UInt8)}{bH zK:List UInt8×List UInt8}{k:Nat}(ht:t.length=4)(q7:t'.length=4)(hp:∀p∈ps,p.length=4)(hq:∀p∈qs,p.length=4)
  (h1:bH∈nC)(h2:zK∈nC)(hk:k<4)(c4:k'<4)(h:dF lM (mv t ps (jL bH k).B C m)=dF lM (mv t' qs (jL zK k').B C' m')):k=k':=by
 refine gF (ahP ht q7 hp hq (Ju (by decide) h)) λr r' e=>?_
 exact ahT h1 h2 hk c4 e
theorem ahV{a:List UInt8}(h:oL a=oL b):a=b:=by unfold oL at h;exact vm h
theorem ahW{a b:Option (List UInt8)}(h:oM a=oM b):a=b:=by
 induction a with
 |none=>
  induction b with
  |none=>rfl
  |some y=>simp[oM,oL,wW]at h
 |some x=>
  induction b with
  |none=>simp[oM,oL,wW]at h
  |some y=>rw[ahV h]
structure Cd where
 row:List Nat
 time:Nat
 cnt:Option Nat
 note:List UInt8×List UInt8
 bH:List UInt8×List UInt8
structure Cd.Ok(D:Cd)(k:Nat):Prop where
 row:∀j∈D.row,j<k
 len:D.row.length<=4
 time:D.time<2000
 cnt:∀n,D.cnt=some n->n<3
 note:D.note∈j5
 bH:D.bH∈nC
noncomputable def fT(i:Nat):List UInt8:=fS (i+1)
noncomputable def my(is row:List Nat):List (List UInt8):=row.map λj=>fT (is.getD j 0)
noncomputable def wY(O:Objs)(i n:Nat):Prop:=O[i]?=some (dF oN (kB n),oN,.bytes (kB n))
noncomputable def rb(O:Objs)(o:Option (List UInt8)):Option Nat->Prop
 |none=>o=none
 |some n=>∃bi,bi<60/\o=some (fT bi)/\wY O bi n
noncomputable def oO(W:St)(O:Objs)(i:Nat)(cnt:Option Nat):Prop:=∃t td l o,O[i]?=some (dF q9 (oM o),q9,.loc t)/\lJ W t td l o/\rb O o cnt
structure ahX(W:St)(O:Objs)(is:List Nat)(k i:Nat)(D:Cd)(c cd pl al ad cl iJ el:Addr)(ti:Nat):Prop where
 at_:O[i]?=some (dF lM (mv (fT ti) (my is D.row) (jL D.bH k).B (sW D.time).B D.note.1),lM,.loc c)
 c:bP W c 391 cd (qZ (fT ti) pl al cl el D.note.1)
 p:W pl=some (.list ((my is D.row).map .bytes))
 a:mw W al ad (jL D.bH k)
 cm:mw W cl iJ (sW D.time)
 e:W el=some (.list [])
 tl:ti<60
 t:oO W O ti D.cnt
noncomputable def uF(W:St)(O:Objs)(is:List Nat)(k i:Nat)(D:Cd):Prop:=∃c cd pl al ad cl iJ el ti,ahX W O is k i D c cd pl al ad cl iJ el ti
structure fJ(W:St)(O:Objs)(is:List Nat)(Ds:List Cd):Prop where
 len:is.length=Ds.length
 ok:∀(k:Nat) (D:Cd),Ds[k]?=some D->D.Ok k
 comm:∀(k i:Nat) (D:Cd),is[k]?=some i->Ds[k]?=some D->uF W O is k i D
 cls:∀(i:Nat) (e:List UInt8×List UInt8×CV),O[i]?=some e->(∃n,n<3/\e=(dF oN (kB n),oN,.bytes (kB n)))\/(∃cnt,oO W O i cnt)\/∃k:Nat,is[k]?=some i
 inc:is.Pairwise (·<·)
 lt:∀i∈is,i<O.length
noncomputable def wZ(O O':Objs):Prop:=∀(i:Nat) (e:List UInt8×List UInt8×CV),O[i]?=some e->O'[i]?=some e
theorem wZ.snoc(O:Objs)(x:List UInt8×List UInt8×CV):wZ O (O++[x]):=λi e h=>by
 rw[xD (iL.1 h).1];exact h
theorem kT.ext{x:List UInt8}(h:kT O x kind cW O' i):wZ O O':=by
 induction h with
 |old h=>exact λz z h=>h
 |new h=>exact .snoc _ _
theorem kT.len{x:List UInt8}(h:kT O x kind cW O' i):O'.length<=O.length+1/\i<O'.length:=by
 induction h with
 |old h=>exact⟨by exact mL ..,(iL.1 h).1⟩
 |new h=>simp
theorem rb.ext{o:Option (List UInt8)}{cnt:Option Nat}(h:rb O o cnt)(e:wZ O O'):rb O' o cnt:=by
 induction cnt with
 |none=>exact h
 |some n=>obtain⟨bi,h1,h2,h3⟩:=h;exact⟨bi,h1,h2,e _ _ h3⟩
theorem oO.ext{W:St}{cnt:Option Nat}(h:oO W O i cnt)(p:aF aS W W')(e:wZ O O'):oO W' O' i cnt:=by
 obtain⟨t,td,l,o,h1,h2,h3⟩:=h;exact⟨t,td,l,o,e _ _ h1,h2.p0 p,h3.ext e⟩
theorem uF.ext{W:St}{k:Nat}{D:Cd}(h:uF W O is k i D)(p:aF aS W W')(e:wZ O O'):uF W' O' is k i D:=by
 obtain⟨c,cd,pl,al,ad,cl,iJ,el,ti,H⟩:=h;exact⟨c,cd,pl,al,ad,cl,iJ,el,ti,e _ _ H.at_,H.c.a7 p,p.at H.p,H.a.a7 p,H.cm.a7 p,p.at H.e,H.tl,H.t.ext p e⟩
theorem fJ.up{W:St}{Ds:List Cd}(h:fJ W O is Ds)(p:aF aS W W'):fJ W' O is Ds:=
 ⟨h.len,h.ok,λk i D h1 h2=>(h.comm k i D h1 h2).ext p λz z h=>h,λi e he=>(h.cls i e he).imp id (Or.imp (λ⟨cnt,g⟩=>⟨cnt,g.ext p λz z h=>h⟩) id),h.inc,h.lt⟩
theorem Jv(is row:List Nat):∀p∈my is row,p.length=4:=λp hp=>by
 refine a9 (dD.1 hp) λj zz aq=>?_;subst aq;rfl
theorem fJ.zM{W:St}{Ds:List Cd}(h:fJ W O is Ds){k:Nat}{e:List UInt8×List UInt8×CV}(he:O[i]?=some e)(hk:is[k]?=some i):∃D c,∃t ps,Ds[k]?=some D/\t.length=4/\(∀p∈ps,p.length=4)/\e=(dF lM (mv t ps (jL D.bH k).B (sW D.time).B D.note.1),lM,.loc c):=by
 have hl:=(iL.1 hk).1;rw[h.len]at hl;obtain⟨c,cd,pl,al,ad,cl,iJ,el,ti,H⟩:=h.comm k i Ds[k] hk (bS hl);have:=H.at_;rw[he]at this;obtain rfl:=bt this;exact⟨Ds[k],c,_,_,bS hl,rfl,Jv _ _,rfl⟩
theorem fJ.blob{W:St}{Ds:List Cd}{n:Nat}(h:fJ W O is Ds)(hn:n<3)(p:kT O (dF oN (kB n)) oN (.bytes (kB n)) O' i):fJ W O' is Ds/\wY O' i n:=by
 have E:=p.ext
 induction p with
 |old g=>
  refine⟨h,?_⟩
  rcases h.cls _ _ g with⟨m,hm,e⟩ |⟨cnt,t,td,l,o,e,_⟩ |⟨k,hk⟩
  ·have e1:=ahS n hn m hm (Ju (by decide) (k8 e).1)
   subst e1;unfold wY
   rw[g,e]
  ·rw[g]at e
   exact absurd (k8 (bt e)).1 Vp
  ·obtain⟨D,c,t,ps,_,_,_,e⟩:=h.zM g hk
   exact absurd (k8 e).1 Vq
 |new g=>
  refine⟨⟨h.len,h.ok,λk i D h1 h2=>(h.comm k i D h1 h2).ext (.refl _ _) E,λi e he=>?_,h.inc,λi hi=>by have:=h.lt i hi;simp;exact xI this⟩,by unfold wY;simp⟩
  rcases q6 he with⟨_,he⟩ |⟨_,rfl⟩
  ·exact(h.cls i e he).imp id (Or.imp (λ⟨cnt,g⟩=>⟨cnt,g.ext (.refl _ _) E⟩) id)
  ·exact .inl ⟨n,hn,rfl⟩
theorem fJ.tree{W:St}{Ds:List Cd}{t:Addr}{o:Option (List UInt8)}{cnt:Option Nat}(h:fJ W O is Ds)(ht:lJ W t td l o)(hc:rb O o cnt)(p:kT O (dF q9 (oM o)) q9 (.loc t) O' i):fJ W O' is Ds/\oO W O' i cnt:=by
 have E:=p.ext
 induction p with
 |old g=>
  refine⟨h,?_⟩
  rcases h.cls _ _ g with⟨m,hm,e⟩ |⟨ahY,t',Vs,l',o',e,h2,h3⟩ |⟨k,hk⟩
  ·exact absurd (k8 e).1.symm Vp
  ·rw[g]at e
   have e1:=ahW (Ju (by decide) (k8 (bt e)).1)
   subst e1
   exact⟨t',Vs,l',o,by rw[g,e],h2,hc⟩
  ·obtain⟨D,c,t,ps,_,_,_,e⟩:=h.zM g hk
   exact absurd (k8 e).1 Vr
 |new g=>
  have T:oO W (O++[(dF q9 (oM o),q9,.loc t)]) O.length cnt:=⟨t,td,l,o,by simp,ht,hc.ext E⟩
  refine⟨⟨h.len,h.ok,λk i D h1 h2=>(h.comm k i D h1 h2).ext (.refl _ _) E,λi e he=>?_,h.inc,λi hi=>by have:=h.lt i hi;simp;exact xI this⟩,T⟩
  rcases q6 he with⟨_,he⟩ |⟨rfl,rfl⟩
  ·exact(h.cls i e he).imp id (Or.imp (λ⟨cnt,g⟩=>⟨cnt,g.ext (.refl _ _) E⟩) id)
  ·exact .inr (.inl ⟨cnt,T⟩)
theorem Vt{row:List Nat}{k:Nat}(h:∀j∈row,j<k)(hk:k<=is.length):my (is++[i]) row=my is row:=by
 unfold my;refine pd λj hj=>?_;have:=h j hj;rw[dG,xD (ey this hk),<-dG]
theorem uF.more{W:St}{k m:Nat}{D:Cd}(h:uF W O is k i D)(ok:D.Ok k)(hk:k<=is.length):uF W O (is++[m]) k i D:=by
 obtain⟨c,cd,pl,al,ad,cl,iJ,el,ti,H⟩:=h;have e:=Vt (i:=m) ok.row hk
 exact⟨c,cd,pl,al,ad,cl,iJ,el,ti,by rw[e];exact H.at_,H.c,by rw[e];exact H.p,H.a,H.cm,H.e,H.tl,H.t⟩
theorem fJ.put{W:St}{Ds:List Cd}{ti:Nat}{D:Cd}{c pl el:Addr}(h:fJ W O is Ds)(hk:is.length<4)(ok:D.Ok is.length)
  (hc:bP W c 391 cd (qZ (fT ti) pl al cl el D.note.1))(hp:W pl=some (.list ((my is D.row).map .bytes)))(ha:mw W al ad (jL D.bH is.length))(hm:mw W cl iJ (sW D.time))(he:W el=some (.list []))(Jw:ti<60)(ht:oO W O ti D.cnt)
  (p:kT O (dF lM (mv (fT ti) (my is D.row) (jL D.bH is.length).B (sW D.time).B D.note.1)) lM (.loc c) O' i):fJ W O' (is++[i]) (Ds++[D])/\i=O.length:=by
 have E:=p.ext
 induction p with
 |old g=>
  exfalso
  rcases h.cls _ _ g with⟨m,hm,e⟩ |⟨ahY,t',Vs,l',o',e,h2,h3⟩ |⟨k,c4⟩
  ·exact absurd (k8 e).1.symm Vq
  ·rw[g]at e
   exact absurd (k8 (bt e)).1.symm Vr
  ·refine tM (h.zM g c4) λD' c' t ps hD h1 h2 e=>?_
   have hl:=(iL.1 c4).1;have:=ahU (k:=is.length) (k':=k) rfl h1 (Jv _ _) h2 ok.bH (h.ok k D' hD).bH hk (jQ hl hk) (k8 e).1
   exact vz hl this
 |new g=>
  have e1:=Vt (i:=O.length) ok.row (cP _)
  refine⟨⟨by simp[h.len],λk D1 h2=>?_,λk i D1 h1 h2=>?_,λi e he=>?_,?_,λi hi=>?_⟩,rfl⟩
  ·rcases q6 h2 with⟨_,h2⟩ |⟨rfl,rfl⟩
   ·exact h.ok k D1 h2
   ·rw[<-h.len];exact ok
  ·have hl:=h.len
   rcases q6 h1 with⟨l1,h1⟩ |⟨l1,rfl⟩<;>rcases q6 h2 with⟨l2,h2⟩ |⟨l2,rfl⟩
   ·exact((h.comm k i D1 h1 h2).ext (.refl _ _) E).more (h.ok k D1 h2) (iQ l1)
   ·exact(iP l1 (l2.trans hl.symm)).elim
   ·exact(iP l2 (l1.trans hl)).elim
   ·rw[l1]
    exact⟨c,cd,pl,al,ad,cl,iJ,el,ti,by rw[e1];simp,hc,by rw[e1];exact hp,ha,hm,he,Jw,ht.ext (.refl _ _) E⟩
  ·rcases q6 he with⟨_,he⟩ |⟨rfl,rfl⟩
   ·refine(h.cls i e he).imp id (Or.imp (λ⟨cnt,g⟩=>⟨cnt,g.ext (.refl _ _) E⟩) λ⟨k,hk⟩=>⟨k,?_⟩)
    rw[xD (iL.1 hk).1];exact hk
   ·exact .inr (.inr ⟨is.length,by simp⟩)
  ·rw[Lq]
   exact⟨h.inc,by simp,λa ha b hb=>by rw[cL.1 hb];exact h.lt a ha⟩
  ·rcases fZ.1 hi with hi |hi
   ·have:=h.lt i hi;simp;exact xI this
   ·rw[cL.1 hi];simp
variable {D:Cd}{Ds done:List Cd}
theorem Vu{σ:St}{p:kR}(q:bI (∀a d ae,σ a=none->σ d=none->mw ae a d p->aF aS σ ae->Q (.loc a) ae)):eV 232 tT [.bytes p.name,.bytes p.ij,.int p.jK,.bytes p.zone] [] σ Q:=
 pM λa d ao na nd i1 P1=>ag0 i1 ⟨λay i2 P2=>⟨rfl,q.out a d ay na nd i2 (P1.seq P2 λb hb=>.inr (hb▸nd))⟩⟩
theorem ahZ{σ:St}(q:bI (∀a d ae,σ a=none->σ d=none->bP ae a 274 d (uD dT)->aF aS σ ae->Q (.loc a) ae)):eV 274 Bo [.int 33188,.bytes [102],.bytes dT] [] σ Q:=
 pM λa d ao na nd i1 P1=>ahh i1 ⟨λay i2 P2=>⟨rfl,q.out a d ay na nd i2 (P1.seq P2 λb hb=>.inr (hb▸nd))⟩⟩
theorem ah0{σ:St}(q:bI (∀a d ae,σ a=none->σ d=none->bP ae a 323 d (Jr l)->aF aS σ ae->Q (.loc a) ae)):eV 323 ya [.loc l] [] σ Q:=
 pM λa d ao na nd i1 P1=>ahi i1 ⟨λay i2 P2=>⟨rfl,q.out a d ay na nd i2 (P1.seq P2 λb hb=>.inr (hb▸nd))⟩⟩
theorem ah1{σ:St}{tree:List UInt8}{pl el:Addr}(q:bI (∀a d ae,σ a=none->σ d=none->bP ae a 391 d (qZ tree pl al cl el msg)->aF aS σ ae->Q (.loc a) ae)):eV 391 yb [.bytes tree,.loc pl,.loc al,.loc cl,.loc el,.bytes msg] [] σ Q:=
 pM λa d ao na nd i1 P1=>ag5 i1 ⟨λay i2 P2=>⟨rfl,q.out a d ay na nd i2 (P1.seq P2 λb hb=>.inr (hb▸nd))⟩⟩
theorem ah2{σ:St}(q:bI (∀a d kn ae,σ kn=none->bP ae a 108 d (Dp kn)->ae kn=some (.dB [])->aF aS σ ae->Q (.loc a) ae)):eV 108 Bm [.int 4] [] σ Q:=
 pM λa d ao na nd i1 P1=>ag1 i1 ⟨λkn ay nk i2 hk P2=>⟨rfl,q.out a d kn ay (P1.no nk) i2 hk (P1.seq P2 λb hb=>.inr (hb▸nd))⟩⟩
theorem ah3{σ:St}{h:Addr}(q:bI (∀a d kp ae,σ kp=none->bP ae a 539 d (Jq h kp)->ae kp=some (.dB [])->aF aS σ ae->Q (.loc a) ae)):eV 539 Bq [.loc h] [] σ Q:=
 pM λa d ao na nd i1 P1=>ahc i1 ⟨λkp ay nk i2 hk P2=>⟨rfl,q.out a d kp ay (P1.no nk) i2 hk (P1.seq P2 λb hb=>.inr (hb▸nd))⟩⟩
noncomputable def CO.dJ:CO->Bool
 |.list _=>true
 |_=>false
structure Wk(W σ:St)(d c:Addr)(T:Nat)(A:gy)(O:Objs)(il tl:Addr)(ids gz:List CV):Prop where
 dk:Dk W σ d c T
 S:eE σ A O
 hi:σ il=some (.list ids)
 ht:σ tl=some (.list gz)
 wi:W il=none/\il≠d/\il≠c
 wt:W tl=none/\tl≠d/\tl≠c/\il≠tl
 wn:W A.kn=none/\W A.kp=none
section
variable{W σ ae:St}{d c:Addr}{T:Nat}{A:gy}{O O':Objs}{il tl:Addr}{ids gz:List CV}
theorem Wk.ext(h:Wk W σ d c T A O il tl ids gz)(p:aF aS σ ae):Wk W ae d c T A O il tl ids gz:=
 ⟨h.dk.ext p,h.S.p0 p,p.at h.hi,p.at h.ht,h.wi,h.wt,h.wn⟩
theorem Wk.draw(h:Wk W σ d c T A O il tl ids gz)(D:Dk W ae d c (T+1))(p:aF (two d c) σ ae):Wk W ae d c (T+1) A O il tl ids gz:=by
 refine gF h.dk.hd λm t hd=>?_;refine xe h.dk.hc λcs hc=>?_
 have k:∀{a o},σ a=some o->(∀x,o≠.dS x)->(∀x,o≠.list x)->¬two d c a:=λe n1 n2 x=>by
  rcases x with rfl |rfl
  ·obtain rfl:=bt (hd.symm.trans e);exact n1 _ rfl
  ·obtain rfl:=bt (hc.symm.trans e);exact n2 _ rfl
 have S:=h.S
 refine⟨D,⟨S.s.a7 p (k S.s.1 (λz e=>nomatch e) (λz e=>nomatch e)) (k S.s.2 (λz e=>nomatch e) (λz e=>nomatch e)),S.h.a7 p (k S.h.1 (λz e=>nomatch e) (λz e=>nomatch e)) (k S.h.2 (λz e=>nomatch e) (λz e=>nomatch e)),p.at S.kn (k S.kn (λz e=>nomatch e) (λz e=>nomatch e)),p.at S.kp (k S.kp (λz e=>nomatch e) (λz e=>nomatch e)),S.len,S.nd,S.ne⟩,
  p.at h.hi (λx=>x.elim h.wi.2.1 h.wi.2.2),p.at h.ht (λx=>x.elim h.wt.2.1 h.wt.2.2.1),h.wi,h.wt,h.wn⟩
theorem Wk.put(h:Wk W σ d c T A O il tl ids gz)(S:eE ae A O')(p:aF (SX A) σ ae):Wk W ae d c T A O' il tl ids gz:=by
 have k:∀{a o},σ a=some o->(∀x,o≠.dB x)->¬SX A a:=λe n1 x=>by
  rcases x with rfl |rfl
  ·obtain rfl:=bt (h.S.kn.symm.trans e);exact n1 _ rfl
  ·obtain rfl:=bt (h.S.kp.symm.trans e);exact n1 _ rfl
 refine gF h.dk.hd λm t hd=>?_;refine xe h.dk.hc λcs hc=>?_;refine⟨h.dk.other p λa x=>⟨λe=>k hd (λz e=>nomatch e) (e▸x),λe=>k hc (λz e=>nomatch e) (e▸x),?_⟩,S,p.at h.hi (k h.hi (λz e=>nomatch e)),p.at h.ht (k h.ht (λz e=>nomatch e)),h.wi,h.wt,h.wn⟩
 rcases x with rfl |rfl
 ·exact h.wn.1
 ·exact h.wn.2
theorem Wk.ni(h:Wk W σ d c T A O il tl ids gz):∀a∈[A.st,A.sd,A.h,A.hd,A.kn,A.kp],a≠il/\a≠tl:=by
 have S:=h.S
 have k:∀{a o},σ a=some o->(∀x,o≠.list x)->a≠il/\a≠tl:=λ{a o} e n=>⟨λx=>by rw[x,h.hi]at e;obtain rfl:=bt e;exact n _ rfl,λx=>by rw[x,h.ht]at e;obtain rfl:=bt e;exact n _ rfl⟩
 have kl:∀{o:CO},o.dJ=false->∀x,o≠.list x:=λh x e=>by rw[e]at h;exact iR h
 intro a ha
 rcases ha with _ |⟨_,_ |⟨_,_ |⟨_,_ |⟨_,_ |⟨_,_ |⟨_,ha⟩⟩⟩⟩⟩⟩
 ·exact k S.s.1 (kl rfl)
 ·exact k S.s.2 (kl rfl)
 ·exact k S.h.1 (kl rfl)
 ·exact k S.h.2 (kl rfl)
 ·exact k S.kn (kl rfl)
 ·exact k S.kp (kl rfl)
 ·exact cA ha
theorem Wk.ah4(h:Wk W σ d c T A O il tl ids gz){Vv:List CV}(hi:ae il=some (.list Vv))(u:aF (one il) σ ae):Wk W ae d c T A O il tl Vv gz:=
 ⟨h.dk.other u λa e=>by obtain rfl:=e.symm;exact⟨h.wi.2.1,h.wi.2.2,h.wi.1⟩,h.S.a7 u λa ha e=>(h.ni a ha).1 e,hi,u.at h.ht λe=>h.wt.2.2.2 e.symm,h.wi,h.wt,h.wn⟩
theorem Wk.ah5(h:Wk W σ d c T A O il tl ids gz){Vw:List CV}(ht:ae tl=some (.list Vw))(u:aF (one tl) σ ae):Wk W ae d c T A O il tl ids Vw:=
 ⟨h.dk.other u λa e=>by obtain rfl:=e.symm;exact⟨h.wt.2.1,h.wt.2.2.1,h.wt.1⟩,h.S.a7 u λa ha e=>(h.ni a ha).2 e,u.at h.hi h.wt.2.2.2,ht,h.wi,h.wt,h.wn⟩
theorem Wk.fz(h:Wk W σ d c T A O il tl ids gz)(ha:σ a=some o)(n1:a≠d)(n2:a≠c)(n3:a≠il)(n4:a≠tl)(n5:a≠A.kn)(n6:a≠A.kp):∃W',aF aS W W'/\W' a=some o/\Wk W' σ d c T A O il tl ids gz:=by
 refine cz (h.dk.fz ha n1 n2) λW' P hW D hb=>?_
 exact⟨W',P,hW,D,h.S,h.hi,h.ht,⟨by rw[hb _ n3.symm];exact h.wi.1,h.wi.2⟩,⟨by rw[hb _ n4.symm];exact h.wt.1,h.wt.2⟩,by rw[hb _ n5.symm];exact h.wn.1,by rw[hb _ n6.symm];exact h.wn.2⟩
end
structure Nm(A:gy)(d c il tl a:Addr):Prop where
 d:a≠d
 c:a≠c
 il:a≠il
 tl:a≠tl
 kn:a≠A.kn
 kp:a≠A.kp
section
variable{W σ ae:St}{d c:Addr}{T:Nat}{A:gy}{O O':Objs}{il tl a:Addr}{ids gz:List CV}
theorem Wk.nm(h:Wk W σ d c T A O il tl ids gz)(na:σ a=none):Nm A d c il tl a:=by
 have k:∀{b o},σ b=some o->a≠b:=λe x=>by rw[x,e]at na;exact jy na
 refine gF h.dk.hd λm t hd=>?_;refine xe h.dk.hc λcs hc=>?_;exact⟨k hd,k hc,k h.hi,k h.ht,k h.S.kn,k h.S.kp⟩
theorem Wk.w5(h:Wk W σ d c T A O il tl ids gz)(ha:σ a=some o)(n:Nm A d c il tl a):∃W',aF aS W W'/\W' a=some o/\Wk W' σ d c T A O il tl ids gz:=
 h.fz ha n.d n.c n.il n.tl n.kn n.kp
theorem Wk.sX{b:Addr}(h:Wk W σ d c T A O il tl ids gz)(ha:bP σ a C b fs)(n:Nm A d c il tl a)(n2:Nm A d c il tl b):∃W',aF aS W W'/\bP W' a C b fs/\Wk W' σ d c T A O il tl ids gz:=by
 refine bF (h.w5 ha.1 n) λW1 P1 h1 k1=>?_;refine bF (k1.w5 ha.2 n2) λW2 P2 h2 k2=>?_;exact⟨W2,P1.trans P2,⟨P2.at h1,h2⟩,k2⟩
end
noncomputable def kU(D:Cd):CV:=.tup [.bytes D.note.1,.bytes D.note.2,.bytes D.bH.1,.bytes D.bH.2]
noncomputable def mz(i:Nat):CV:=.bytes (fT i)
noncomputable def nH:Option Nat->CV
 |none=>.none
 |some n=>.int n
noncomputable def Jx(W:St)(la:Addr)(o:Option (List UInt8)):Prop:=match o with
  |none=>W la=some (.list [])
  |some dT=>∃en ed,W la=some (.list [.loc en])/\bP W en 274 ed (uD dT)
theorem ah6{k:Nat}(h:D.bH∈nC)(hk:k<4):(jL D.bH k).Ok:=by
 refine⟨ey (Nat.add_lt_add_left hk 5) (by decide),?_⟩
 have:∀w∈nC,(jL w k).name.length<=100/\(jL w k).ij.length<=100/\(jL w k).zone.length<=100:=λw hw=>(show∀w∈nC,w.1.length<=100/\w.2.length<=100/\Vk.length<=100 by decide) w hw
 exact this _ h
theorem ah7{n:List UInt8×List UInt8}(h:n∈j5):n.1.length<=1000:=(show∀n∈j5,n.1.length<=1000 by decide) n h
theorem ah8{O:Objs}{o:Option (List UInt8)}{n:Option Nat}(hO:O.length<=60)(hc:rb O o n):∀x,o=some x->∃n,0<n/\n<256/\x=fS n:=λx e=>by
 unfold rb at hc
 cases hD:n with
 |none=>rw[hD]at hc;exact bo (hc.symm.trans e)
 |some n=>
  rw[hD]at hc;obtain⟨bi,g1,g2,g3⟩:=hc;obtain rfl:=bt (g2.symm.trans e)
  exact⟨bi+1,nU _,by exact l1 g1 (by simp+arith only),rfl⟩
theorem ah9{W σ:St}{d c:Addr}{T:Nat}{A:gy}{O:Objs}{il tl w6:Addr}{o:Option (List UInt8)}{K:dy->aL->St->Prop}
  (h:Wk W σ d c T A O il tl (is.map mz) (Ds.map kU))(w:fJ W O is Ds)(hl:O.length<=3*is.length+1)(hk:is.length<4)(ok:D.Ok is.length)(he:Jx W la o)(hc:rb O o D.cnt)
  (fU:times.length<=4)(oP:W w6=some (.list (times.map nI)))(Jw:times[is.length]?=some D.time)(gV:W ra=some (.list (D.row.map nI)))
  (w7:e 131=some (.loc A.st))(DA:e 14=some (.loc il))(Vx:e 85=some (.loc tl))(uG:e 133=some (.loc w6))(e1:e 1=some (.int is.length))(Vy:e 27=some (.loc ra))(zN:e 68=some (sI D.note))(zO:e 33=some (sI D.bH))(Vz:e 176=some (.loc la))
  (q:∀W' ae O' i e',aF aS W W'->Wk W' ae d c T A O' il tl ((is++[i]).map mz) ((Ds++[D]).map kU)->fJ W' O' (is++[i]) (Ds++[D])->O'.length<=3*is.length+3->cx [144,165,87] e e'->K .next e' ae):
  (ah (gP [144,165] (b8 (ag (aY (eV 232 tT) (ag (bc (af 33) (au (.int 0))) (ag (bc (af 33) (au (.int 1))) (ag (be .Add (au (.int 5)) (af 1)) (ag (au (.bytes [43,48,48,48,48])) ar))))) (ag (aY (eV 232 tT) (ag (au (.bytes [90])) (ag (au (.bytes [122,64,122])) (ag (bc (af 133) (af 1)) (ag (au (.bytes [43,48,49,51,48])) ar))))) ar)))) (ah (aP (bN 539 235 ym (af 131) (ag (aY (eV 323 ya) (ag (af 176) ar)) ar)) (aName 87)) (ah (cw (bJ cD cN (af 14) (ag (bN 539 257 Bs (af 131) (ag (aY (eV 391 yb) (ag (af 87) (ag (cT [(3,.local),(0,.local),(14,.free)] (bO (af 27)) (aName 0) de (bc (af 14) (af 0))) (ag (af 144) (ag (af 165) (ag (eList ar) (ag (bc (af 68) (au (.int 0))) ar))))))) ar)) ar))) (ah (cw (bJ cD cN (af 85) (ag (be .Add (af 68) (af 33)) ar))) az)))) e σ K:=by
 have c4:is.length<=3:=AE hk;refine BN<|show b8 _ _ _ _ from jC<|cu (.cons (.item (.var zO) .val .tup) (.cons (.item (.var zO) .val .tup) (.cons (.to (.bin .val .var .add) rfl) (.one .val))))<|Vu (p:=jL D.bH is.length) ⟨λal ad ao Jy uH hA P1=>?_⟩;refine bF ((h.ext P1).sX hA (h.nm Jy) (h.nm uH)) λW1 ip hA1 h1=>?_
 refine dH<|cu (.cons .val (.cons .val (.cons (.item .var .var (.li (by rw[dM,Jw];rfl) (by rw[aZ];exact cB fU rfl) (h1.dk.fr.at (ip.at oP)))) (.one .val))))<|Vu (p:=sW D.time) ⟨λcl iJ ay rh VA hC P2=>?_⟩
 refine bF ((h1.ext P2).sX hC (h1.nm rh) (h1.nm VA)) λW2 cJ hC2 h2=>?_
 refine⟨by exact cG rfl,_,rfl,rfl,cy<|sj .var h2.S.s.fi<|dH<|cu (.one .var)<|ah0 ⟨λt td aQ nt ntd hT P3=>?_⟩⟩
 clear P1 P2 hA hC Jy uH rh VA;refine bF ((h2.ext P3).sX hT (h2.nm nt) (h2.nm ntd)) λW3 dU hT3 h3=>?_;have PW:=(ip.trans cJ).trans dU
 have TA:lJ W3 t td la o:=⟨hT3,by
  unfold Jx at he
  induction o with
  |none=>exact PW.at he
  |some dT=>obtain⟨en,ed,g1,g2⟩:=he;exact⟨en,ed,PW.at g1,g2.a7 PW⟩⟩
 refine ahu h3.S (l2 hl (eN 3 hk) (by simp+arith only)) (TA.p0 h3.dk.fr) (ah8 h3.S.len hc) ⟨λbU O4 ti S4 p4 P4=>?_⟩
 have h4:=h3.put S4 P4;refine xa ((w.up PW).tree TA hc p4) λw4 T4=>?_;have VB:=p4.len
 have Jz:O4.length<=3*is.length+2:=by exact l2 hl VB.1 (by simp+arith only)
 have rl:=ok.len;have Sst:=h4.S.s.fi (i:=257);have VC:=h4.hi
 refine iA<|sv .var VC<|sj .var Sst<|dH<|j1<|j0 .var<|jC<|md nI (λj=>mz (is.getD j 0)) (.li .var (h4.dk.fr.at (PW.at gV))) (cB rl rfl) (λj hj ce s hv=>.item .var .var (.li ?_ (by rw[aZ];exact cB (iQ hk) rfl) VC)) λpl fH DB jo P5=>?_
 ·rw[dM,dG,bS (ok.row j hj)];rfl
 refine bF ((h4.ext P5).w5 jo (h4.nm DB)) λW5 lN aia h5=>?_;refine j0 .var<|j0 .var<|jC<|dh .nil λel fI nel wO P6=>?_;refine bF ((h5.ext P6).w5 wO (h5.nm nel)) λW6 JA VD h6=>?_;refine dH<|bV (.item (.var zN) .val .tup)<|ah1 ⟨λc cd nF nc ncd hC7 P7=>?_⟩;refine bF ((h6.ext P7).sX hC7 (h6.nm nc) (h6.nm ncd)) λW7 JB hC h7=>?_;have Q5:aF aS W5 W7:=JA.trans JB;have Q3:aF aS W3 W7:=lN.trans Q5;have Q2:aF aS W2 W7:=dU.trans Q3;have pA:mw W7 al ad (jL D.bH is.length):=hA1.a7 (cJ.trans Q2);have pC:mw W7 cl iJ (sW D.time):=hC2.a7 Q2
 have VE:W7 pl=some (.list ((my is D.row).map .bytes)):=by rw[Q5.at aia];unfold my;rw[dp];rfl
 have fr:=h7.dk.fr
 have oC:(sW D.time).Ok:=⟨jQ ok.time (by decide),cG rfl,cG rfl,cG rfl⟩
 refine ahv h7.S (l2 (eN 3 hk) Jz (by simp+arith only)) (hC.a7 fr) (fr.at VE) (pA.a7 fr) (pC.a7 fr) (fr.at (JB.at VD)) (ah6 ok.bH hk) oC (cG rfl) ⟨by rw[my,aZ];exact cB rl rfl,λp hp=>by rw[Jv _ _ p hp];decide⟩ (ah7 ok.note) ⟨λsS O8 i S8 p8 P8=>?_⟩
 have h8:=h7.put S8 P8
 refine xa ((w4.up Q3).put hk ok hC VE pA pC (JB.at VD) (l3 (eN 3 hk) VB.2 Jz (by simp+arith only)) (T4.ext Q3 λz z h=>h) p8) λw8 aq=>?_;subst aq
 refine tY (u:=O4.length) h8.hi (cB (iQ hk) rfl) λuI hi9 u9=>?_;have h9:=h8.ah4 hi9 u9
 refine su kU D .var (.bin (.var zN) (.var zO) (.BJ (λe=>og e) (λe=>og e) (cG rfl))) h9.ht (by have:=w.len;exact l2 hk (er this) (by simp+arith only)) λDC aib u10=>bp ?_
 exact q W7 _ O8 O4.length _ (PW.trans Q3) (h9.ah5 aib u10) w8 (by have:=p8.len;exact l2 Jz this.1 (by simp+arith only)) (.set (.set (.set .refl)))
noncomputable def JC(n:Nat)(counts:List (Option Nat)):Prop:=counts.length=n/\∀m,some m∈counts->m<3
structure JD(Ds:List Cd)(rows:List (List Nat))(times:List Nat)(counts:List (Option Nat)):Prop where
 r:Ds.map (λx=>x.row)=rows
 t:Ds.map (λx=>x.time)=times
 c:Ds.map (λx=>x.cnt)=counts
theorem aic:∀k,k<4->∀r∈uE k,(∀j∈r,j<k)/\r.length<=4:=by decide+kernel
theorem take_snoc{α:Type}{l:List α}{k:Nat}{x:α}(h:l[k]?=some x):l.take (k+1)=l.take k++[x]:=by
 rw[Lx,h];rfl
theorem Wk.sY{W:St}{c:Addr}{T:Nat}{A:gy}{ids gz vs:List CV}(h:Wk W σ d c T A O il tl ids gz)(ha:σ a=some (.list vs))(n:Nm A d c il tl a)(hw:W a=none)(p:aF (one a) σ ae):Wk W ae d c T A O il tl ids gz:=by
 have S:=h.S
 have k:∀{b o},σ b=some o->(∀x,o≠.list x)->¬one a b:=λ{b o} e n x=>by obtain rfl:=x.symm;obtain rfl:=bt (ha.symm.trans e);exact n _ rfl
 exact⟨h.dk.other p λb e=>by obtain rfl:=e.symm;exact⟨n.d,n.c,hw⟩,⟨S.s.a7 p (k S.s.1 (λz e=>nomatch e)) (k S.s.2 (λz e=>nomatch e)),S.h.a7 p (k S.h.1 (λz e=>nomatch e)) (k S.h.2 (λz e=>nomatch e)),p.at S.kn (k S.kn (λz e=>nomatch e)),p.at S.kp (k S.kp (λz e=>nomatch e)),S.len,S.nd,S.ne⟩,
  p.at h.hi (λe=>n.il e.symm),p.at h.ht (λe=>n.tl e.symm),h.wi,h.wt,h.wn⟩
theorem Dk.all{W:St}{c:Addr}{T:Nat}(h:Dk W σ d c T):∃W',aF aS W W'/\(∀{a o},σ a=some o->a≠d->a≠c->W' a=some o)/\Dk W' σ d c T:=by
 refine⟨λa=>if a=d\/a=c then none else σ a,λa o e z=>?_,λ{a o} e n1 n2=>?_,h.dk,λa o e z=>?_,if_pos (.inl rfl),if_pos (.inr rfl)⟩
 ·exact(if_neg λx=>x.elim (h.Vf e).1 (h.Vf e).2).trans (h.fr.at e)
 ·exact(if_neg λx=>x.elim n1 n2).trans e
 ·have e:(if a=d\/a=c then none else σ a)=some o:=e
  split at e
  ·exact bo e
  ·exact e
theorem VF{m:Nat}(h:m<3):(qr m [(107:UInt8)]).flatten.length<=2/\(kB m).length<=100000:=
 match m,h with
 |0,_=>by decide
 |1,_=>by decide
 |2,_=>by decide
theorem aid{W:St}{c w6:Addr}{T n:Nat}{rows:List (List Nat)}
  (h:Dk W σ d c T)(hT:T<=900)(hN:W 1003=some (.ro m6))(hP:W 1007=some (.ro m7))(hR:ke W rl rows)(ro:lK rows)(rn:rows.length=n)(n4:n<=4)(oP:W w6=some (.list (times.map nI)))(to:wX n times)(hG:W cl=some (.list (counts.map nH)))(co:JC n counts)
  (q:bI (∀W' ae A O is Ds il tl,aF aS W W'->fJ W' O is Ds->eE W' A O->JD Ds rows times counts->W' il=some (.list (is.map mz))->W' tl=some (.list (Ds.map kU))->Dk W' ae d c (T+8)->Q (.tup [.loc A.st,.loc il,.loc tl]) ae)):
  BA [.loc d,.loc rl,.loc w6,.loc cl] [] σ Q:=by
 obtain⟨c9,cI,RI⟩:=hR;refine df<|Pu<|j1<|dH<|cu (.one .val)<|ah2 ⟨λha had kn ao uJ iH ik P1=>ah3 ⟨λsa sd kp ay JE iS zt P2=>?_⟩⟩;refine dh .nil λil aQ nil jG P3=>dh .nil λtl bU zP fU P4=>?_
 obtain⟨A,eA,h0⟩:∃A:gy,sa=A.st/\Wk W bU d c T A [] il tl [] []:=by
  have D1:=h.ext P1;have D2:=D1.ext P2;have D3:=D2.ext P3;refine⟨⟨sa,sd,ha,had,kn,kp⟩,rfl,D3.ext P4,⟨(iS.a7 P3).a7 P4,((iH.a7 P2).a7 P3).a7 P4,P4.at (P3.at (P2.at ik)),P4.at (P3.at zt),dE _,.nil,gK JE ik⟩,P4.at jG,fU,⟨D2.nw nil,(D2.new nil).1,(D2.new nil).2⟩,⟨D3.nw zP,(D3.new zP).1,(D3.new zP).2,gK zP jG⟩,h.nw uJ,D1.nw JE⟩
 subst eA;clear P1 P2 P3 P4 ik zt iH iS jG fU uJ JE nil zP;have w0:fJ W [] [] []:=⟨rfl,λy y h=>(bo h),λy y y h=>(bo h),λy y h=>(bo h),Y4,λy h=>(cA h)⟩
 refine PQ .var (h0.dk.fr.at cI) λok bw=>Ht [1,27,33,68,176,144,165,87] (λk e ae=>∃W' O is Ds,is.length=k/\aF aS W W'/\Wk W' ae d c (T+2*k) A O il tl (is.map mz) (Ds.map kU)/\fJ W' O is Ds/\O.length<=3*k/\JD Ds (rows.take k) (times.take k) (counts.take k))
  ⟨W,[],[],[],rfl,.refl _ _,h0,w0,dE _,⟨rfl,rfl,rfl⟩⟩ (λk v e ae hv s z=>?_) λe ae s z=>?_
 ·refine Fv z λW' O is Ds aq PW h1 w lO wo=>?_;clear z;subst aq
  refine⟨bw _ (h1.dk.fr.at (PW.at cI)),λK kk=>?_⟩;refine a9 (tg.1 (dM▸hv)) λr hr aq=>?_;obtain rfl:=aq;have gi:=RI.len;have qY:=(iL.1 hr).1
  have i7:is.length<rows.length:=by exact ey qY (el gi)
  have k4:is.length<4:=by exact l4 n4 qY (el rn) (el gi) (by simp+arith only)
  have gV:=RI.at_ _ _ _ hr (bS i7)
  have VG:is.length<times.length:=by have:=to.1;exact l4 qY (el rn) (el gi) (er this) (by simp+arith only)
  have wD:is.length<counts.length:=by have:=co.1;exact l4 qY (el rn) (el gi) (er this) (by simp+arith only)
  have JF:counts.length<=4:=by have:=co.1;exact aR (el this) n4
  refine vX<|cu (.two .var .glob)<|zF h1.dk (l2 hT (eN 2 k4) (by simp+arith only)) (.inr (h1.dk.fr.at (PW.at hN))) (by decide) (by decide) ⟨λni nv fH VH D5 P5=>?_⟩
  have h2:=h1.draw D5 P5;refine a9 (dD.1 (tj VH)) λnote aie aq=>?_;subst aq
  refine cu (.two .var .glob)<|zF h2.dk (l2 hT (eN 2 k4) (by simp+arith only)) (.inr (h2.dk.fr.at (PW.at hP))) (by decide) (by decide) ⟨λwi wv fI VI D6 P6=>?_⟩
  have h3:=h2.draw D6 P6;refine a9 (dD.1 (tj VI)) λbH aif aq=>?_;subst aq;refine cy<|dh .nil λla nF lP c6 P7=>?_;clear D5 P5 D6 P6 VH VI;have h4:=h3.ext P7;have zQ:=h3.nm lP;have ecl:nF cl=some (.list (counts.map nH)):=h4.dk.fr.at (PW.at hG)
  have okD:(⟨rows[is.length],times[is.length],counts[is.length],note,bH⟩:Cd).Ok is.length:=by
   have hr:=aic _ k4 _ (ro _ _ (bS i7))
   exact⟨hr.1,hr.2,to.2 _ (vt _),λm hm=>co.2 m (by rw[<-hm];exact vt _),aie,aif⟩
  have rc:It (.loc cl) (.int is.length) nF (nH counts[is.length]):=.li (by rw[dM,bS wD];rfl) (by rw[aZ];exact cB JF rfl) ecl
  have tail:=λ{W3 aQ O3 o e3} (dU:aF aS W' W3) (h:Wk W3 aQ d c (T+2*is.length+1+1) A O3 il tl (is.map mz) (Ds.map kU)) (w:fJ W3 O3 is Ds) (hl:O3.length<=3*is.length+1) (he:Jx W3 la o) (hc:rb O3 o counts[is.length]) (w7:e3 131=some (.loc A.st)) (DA:e3 14=some (.loc il)) (Vx:e3 85=some (.loc tl)) (uG:e3 133=some (.loc w6)) (e1:e3 1=some (.int is.length)) (Vy:e3 27=some (.loc r)) (zN:e3 68=some (sI note)) (zO:e3 33=some (sI bH)) (Vz:e3 176=some (.loc la)) (s3:cx [1,27,33,68,176,144,165,87] _ e3)=>
   ah9 (K:=K) (e:=e3) (D:=⟨rows[is.length],times[is.length],counts[is.length],note,bH⟩) h w hl k4 okD he hc (by have:=to.1;exact aR (el this) n4) (dU.at (PW.at oP)) (bS VG) (dU.at (PW.at gV)) w7 DA Vx uG e1 Vy zN zO Vz λW9 uI O9 i9 e9 PW9 h9 w9 l9 he9=>
    kk.nx ⟨W9,O9,is++[i9],Ds++[_],bW,PW.trans (dU.trans PW9),h9,w9,l9,by rw[cR,wo.r,take_snoc (bS i7)];rfl,by rw[cR,wo.t,take_snoc (bS VG)];rfl,by rw[cR,wo.c,take_snoc (bS wD)];rfl⟩
     (λj hj=>by rw[he9 j (by
      rw[<-Bool.not_eq_true,vo]at hj ⊢
      exact λh=>hj (.tail _ (.tail _ (.tail _ (.tail _ (.tail _ h))))))];exact s3 j hj)
  have s3:=(((s.set (i:=33) (v:=sI bH)).set (i:=68) (v:=sI note)).set (i:=176) (v:=.loc la))
  cases JG:counts[is.length]with
  |none=>
   rw[JG]at rc tail;refine bF (h4.w5 c6 zQ) λW8 VJ hW8 h8=>?_
   exact e8 (.cmp (.item .var .var rc) .val .iY)<|bp<|tail (o:=none) VJ h8 (w.up VJ) (rG lO) hW8 rfl (s3.rd (j:=131) rfl rfl) (s3.rd (j:=14) rfl rfl) (s3.rd (j:=85) rfl rfl) (s3.rd (j:=133) rfl rfl) rfl rfl rfl rfl rfl s3
  |some m=>
   have DD:m<3:=co.2 m (by rw[<-JG];exact vt _)
   rw[JG]at rc tail;have rc:It (.loc cl) (.int is.length) nF (.int m):=rc
   refine oB (.cmp (.item .var .var rc) .val .iY)<|iA<|sv .var c6<|j1<|j0 .val<|j0 .val<|dH<|eX .var h4.S.s.fi (.two .val (.bin (.bin .val (.item .var .var rc) (.BK (λe=>og e) (by decide) (fY _) (ko.2 (aR (iQ DD) (by decide))))) .val (.lu (aR (iN (VF DD).1 1) (by decide))))) ?_
   rw[pf]
   refine ahb h4.S (l3 lO (eN 3 wD) (eN 3 JF) (by simp+arith only)) (VF DD).2 ⟨λsS O8 i8 S8 p8 P8=>ahZ ⟨λen ed uI VK VL hE P9=>?_⟩⟩
   have p8':kT O (dF oN (kB m)) oN (.bytes (kB m)) O8 i8:=p8;refine xa (w.blob DD p8') λw8 B8=>?_;have JH:=p8.len;have h5:=h4.put S8 P8;have DG:=P8.at c6 (λx=>x.elim zQ.kn zQ.kp);refine we (P9.at DG) (dE _) λDC aih u=>?_;have h7:=(h5.ext P9).sY (P9.at DG) zQ (h3.dk.nw lP) u;refine bF (h7.sX (hE.a7 u (λe=>gK VK DG e.symm) (λe=>gK VL DG e.symm)) (h5.nm VK) (h5.nm VL)) λW1 ip hE1 h8=>?_;refine bF (h8.w5 aih zQ) λW2 cJ aii h9=>?_;have VN:=ip.trans cJ
   exact bp<|tail (o:=some (fT i8)) VN h9 (w8.up VN) (l2 lO JH.1 (by simp+arith only)) ⟨en,ed,aii,hE1.a7 cJ⟩ ⟨i8,by exact l5 lO (eN 3 wD) (eN 3 JF) JH.1 JH.2 (by simp+arith only),rfl,B8⟩ (s3.rd (j:=131) rfl rfl) (s3.rd (j:=14) rfl rfl) (s3.rd (j:=85) rfl rfl) (s3.rd (j:=133) rfl rfl) rfl rfl rfl rfl rfl s3
 ·refine Fv z λW' O is Ds lk PW h1 w lO wo=>?_
  have gi:=RI.len
  have hn:(c9.map CV.loc).length=n:=by rw[aZ,gi,rn]
  rw[hn]at wo h1 lk lO;refine⟨bw _ (h1.dk.fr.at (PW.at cI)),bX (.tup (.three .var .var .var)) ?_⟩;have D:=h1.dk;refine gF D.hd λm t hd=>?_;refine xe D.hc λcs hc=>?_;refine bF D.all λW2 P2 F D2=>?_
  have f:∀{a o},ae a=some o->(∀x,o≠.dS x)->(∀x,o≠.list x)->W2 a=some o:=λ{a o} e n1 n2=>F e (λx=>by rw[x,hd]at e;cases e;exact n1 _ rfl) λx=>by rw[x,hc]at e;cases e;exact n2 _ rfl
  have S:=h1.S;have nS:∀{o:CO},(∀x,o≠.dS x)->(∀x,o≠.list x)->(∀x,o≠.dS x)/\(∀x,o≠.list x):=λa b=>⟨a,b⟩;have l2:=to.1;have l3:=co.1;rw[vn (rN rn),vn (rN l2),vn (rN l3)]at wo
  exact q.out W2 ae A O is Ds il tl (PW.trans P2) (w.up P2) ⟨⟨f S.s.1 (λy e=>nomatch e) (λy e=>nomatch e),f S.s.2 (λy e=>nomatch e) (λy e=>nomatch e)⟩,⟨f S.h.1 (λy e=>nomatch e) (λy e=>nomatch e),f S.h.2 (λy e=>nomatch e) (λy e=>nomatch e)⟩,f S.kn (λy e=>nomatch e) (λy e=>nomatch e),f S.kp (λy e=>nomatch e) (λy e=>nomatch e),S.len,S.nd,S.ne⟩ wo (F h1.hi h1.wi.2.1 h1.wi.2.2) (F h1.ht h1.wt.2.1 h1.wt.2.2.1) (D2.up (l1 (eN 2 n4) (by simp+arith only)))
set_option tactic.hygienic true
noncomputable def dc(is:List Nat)(k:Nat):List UInt8:=fT (is.getD k 0)
noncomputable def Inj(is:List Nat):Prop:=∀j k,j<is.length->k<is.length->dc is j=dc is k->j=k
theorem aij(hi:i<200)(hj:j<200)(h:fT i=fT j):i=j:=by
 have:=UW (l1 hi (by simp+arith only)) (l1 hj (by simp+arith only)) h;exact Nat.succ.inj this
theorem fJ.inj{W:St}(h:fJ W O is Ds)(hO:O.length<=60):Inj is:=by
 intro j k hj hk e;unfold dc at e
 have ej:is.getD j 0=is[j]:=by rw[dG,bS hj];rfl
 have ek:is.getD k 0=is[k]:=by rw[dG,bS hk];rfl
 rw[ej,ek]at e;have l1:=h.lt _ (vt hj);have l2:=h.lt _ (vt hk);have e:=aij (jT l1 hO rfl) (jT l2 hO rfl) e;have P:=List.pairwise_iff_getElem.1 h.inc
 rcases Nat.lt_trichotomy j k with g |g |g
 ·have:=P j k hj hk g;exact absurd e (iP this)
 ·exact g
 ·have:=P k j hk hj g;exact absurd e (vz this)
noncomputable def qf(is:List Nat)(l:List (Nat×CV)):List (List UInt8×CV):=l.map λp=>(dc is p.1,p.2)
theorem aik(is:List Nat)(l:List (Nat×CV)):(qf is l).length=l.length:=aZ ..
theorem DH(hi:Inj is){k:Nat}(hk:k<is.length):∀{l:List (Nat×CV)},(∀p∈l,p.1<is.length)->bB (qf is l) (dc is k)=bB l k
 |[],_=>rfl
 |p::l,h=>by
  have ih:=DH hi hk (l:=l) λq hq=>h q (.tail _ hq);unfold bB qf at ih ⊢;rw[gC,rM,rM]
  by_cases e:p.1=k
  ·simp[e]
  ·have:dc is p.1≠dc is k:=λz=>e (hi _ _ (h p (.head _)) hk z)
   simp only[this,e,decide_false];exact ih
theorem ail(hi:Inj is){k:Nat}(hk:k<is.length)(v:CV){l:List (Nat×CV)}(h:∀p∈l,p.1<is.length):bY (qf is l) (dc is k) v=qf is (bY l k v):=by
 have e:∀p∈l,(dc is p.1=dc is k)=(p.1=k):=λp hp=>propext ⟨λz=>hi _ _ (h p hp) hk z,λz=>by rw[z]⟩
 have ea:(qf is l).any (λkv=>kv.1=dc is k)=l.any (λkv=>kv.1=k):=by
  unfold qf;rw[List.any_map];rw[rL,vv,vv]
  constructor
  ·rintro⟨p,hp,z⟩;exact⟨p,hp,by simpa[e p hp]using z⟩
  ·rintro⟨p,hp,z⟩;exact⟨p,hp,by simpa[e p hp]using z⟩
 unfold bY;rw[ea]
 split
 ·unfold qf
  rw[dp,dp];refine pd λp hp=>?_
  show(if dc is p.1=dc is k then _ else _)=_
  simp only[e p hp,Mi]
  split
  ·rename_i g;simp[g]
  ·rfl
 ·unfold qf;rw[cR];rfl
theorem VO{n k:Nat}{v:CV}{l:List (Nat×CV)}(h:∀p∈l,p.1<n)(hk:k<n):∀p∈bY l k v,p.1<n:=λp hp=>by
 unfold bY at hp
 split at hp
 ·refine a9 (dD.1 hp) λq hq aq=>?_;subst aq
  by_cases e:q.1=k
  ·simp[e];exact hk
  ·simp[e];exact h q hq
 ·rcases fZ.1 hp with hp |hp
  ·exact h p hp
  ·rw[cL.1 hp];exact hk
theorem uK{κ:Type}[DecidableEq κ]{k j:κ}{v:CV}:∀{l:List (κ×CV)},bB (bY l k v) j=if j=k then some v else bB l j:=by
 intro l;unfold bY
 split
 ·rename_i ha
  induction l with
  |nil=>simp at ha
  |cons p l ih=>
   unfold bB at ih ⊢;rw[gC,rM,rM]
   by_cases e:p.1=k
   ·rw[if_pos e]
    by_cases ej:j=k
    ·simp[ej,e]
    ·have hk:¬p.1=j:=λz=>ej (by rw[<-z,e])
     simp only[hk,e,decide_false,if_neg ej]
     by_cases uL:l.any (λkv=>kv.1=k)
     ·have:=ih uL
      rw[if_neg ej]at this;have c4:¬k=j:=λz=>ej z.symm;simp only[c4,decide_false]at*
      exact this
     ·have:l.map (λkv=>if kv.1=k then(kv.1,v)else kv)=l:=by
       conv=>rhs;rw[<-List.map_id l]
       refine pd λq hq=>?_
       have:¬q.1=k:=λz=>uL (vv.2 ⟨q,hq,by simp[z]⟩)
       rw[if_neg this];rfl
      have c4:¬k=j:=λz=>ej z.symm
      simp only[c4,decide_false,this]
   ·rw[if_neg e]
    have uL:l.any (λkv=>kv.1=k)=true:=by
     simp only[xO,e,decide_false,Bool.false_or]at ha;exact ha
    by_cases ej:p.1=j
    ·have:¬j=k:=λz=>e (by rw[ej,z])
     simp[ej,this]
    ·simp only[ej,decide_false]
     exact ih uL
 ·rename_i ha
  unfold bB;rw[List.find?_append]
  by_cases ej:j=k
  ·subst ej
   have:l.find? (λkv=>decide (kv.1=j))=none:=by
    rw[Lv];intro q hq z;exact ha (vv.2 ⟨q,hq,z⟩)
   simp[this]
  ·have c4:¬k=j:=λz=>ej z.symm
   simp[ej,c4]
theorem oQ:∀(n:Nat) (l:List Nat),l.Nodup->(∀x∈l,x<n)->l.length<=n
 |0,[],_,_=>cP _
 |0,x::l,_,h=>absurd (h x (.head _)) (xM _)
 |n+1,l,hn,h=>by
  have h1:=oQ n (l.erase n) (hn.erase n) λx hx=>by
   have y:=(List.Nodup.mem_erase_iff hn).1 hx;have:=h x y.2;exact Nat.lt_of_le_of_ne (AE this) y.1
  by_cases hm:n∈l
  ·have:=YG hm;exact Nat.le_add_of_sub_le (this▸h1)
  ·rw[List.erase_of_not_mem hm]at h1;exact rG h1
set_option tactic.hygienic false
structure DI(σ:St)(is:List Nat)(a:Addr)(l:List (Nat×CV)):Prop where
 at_:σ a=some (.dB (qf is l))
 lt:∀p∈l,p.1<is.length
 len:l.length<=100
theorem DI.a7{X:Addr->Prop}{σ:St}{l:List (Nat×CV)}(h:DI σ is a l)(p:aF X σ ae)(n:autoParam (¬X a) aX):DI ae is a l:=⟨p.at h.at_ n,h.lt,h.len⟩
theorem Cm.JI{σ:St}{a k:Nat}{l:List (Nat×CV)}(hi:Inj is)(h:DI σ is a l)(hk:k<is.length):Cm .NotIn (.bytes (dc is k)) (.loc a) σ (!(bB l k).isSome):=DH hi hk h.lt▸.oy (.dB h.at_)
theorem Cm.iD{σ:St}{a k:Nat}{l:List (Nat×CV)}(hi:Inj is)(h:DI σ is a l)(hk:k<is.length):Cm .In (.bytes (dc is k)) (.loc a) σ (bB l k).isSome:=DH hi hk h.lt▸.mem (.dB h.at_)
theorem It.id{σ:St}{a k:Nat}{l:List (Nat×CV)}{v:CV}(hi:Inj is)(h:DI σ is a l)(hk:k<is.length)(hv:bB l k=some v):It (.loc a) (.bytes (dc is k)) σ v:=.dB h.at_ (by rw[DH hi hk h.lt];exact hv)
theorem aim{k:Nat}{v:CV}(l:List (Nat×CV)):(bY l k v).length<=l.length+1:=by
 unfold bY
 split
 ·rw[aZ];exact nW _
 ·rw[bW];exact cP _
theorem JJ{σ:St}{a k:Nat}{l:List (Nat×CV)}{v:CV}{P:St->Prop}(hi:Inj is)(h:DI σ is a l)(hk:k<is.length)(hl:l.length<=99)(q:∀ae,DI ae is a (bY l k v)->aF (one a) σ ae->P ae):ly (.loc a) (.bytes (dc is k)) v σ P:=
 BY h.at_ (by rw[aik];exact aR h.len (by decide)) λae g p=>q ae ⟨by rw[g,ail hi hk v h.lt],VO h.lt hk,aR (aim l) (qn hl)⟩ p
section
variable{σ:St}{A:gy}{O:Objs}{i:Nat}{x kind:List UInt8}{cW:CV}
theorem ain(S:eE σ A O)(h:O[i]?=some (x,kind,cW)):Fn F9 [.loc A.st,.bytes (fT i)] σ (.tup [.bytes kind,cW]):=λQ q=>by
 have hl:=S.len;have hi:=(iL.1 h).1
 have hg:bB (qe O) (fT i)=some (.tup [.bytes kind,cW]):=by unfold fT;rw[Du (jT hi hl rfl) (l1 hl (by simp+arith only)),h];rfl
 have Ss:=S.s
 exact df<|e8 (.to (.cmp .var (.attr .var .ins) (.G6 S.kp)) (by rw[hg];rfl))<|bp<|bX (.item (.attr .var .ins) .var (.dB S.kp hg)) q
theorem JK(S:eE σ A O)(h:O[i]?=some (x,kind,cW)):Fn yd [.loc A.st,.bytes (fT i),.bytes kind] σ cW:=λQ q=>
 df<|BP (.jA .var S.s.fi (.one .var) (ain S h))<|e8 (.to (.cmp .var .var .Ca) (by rw[decide_eq_true rfl];rfl))<|bp<|bX .var q
theorem aio(S:eE σ A O)(h:O[i]?=some (x,oN,cW)):Fn Ga [.loc A.st,.bytes (fT i)] σ cW:=λQ q=>df<|bX (.jA .var S.s.fi (.two .var .glob) (JK S h)) q
theorem aip(S:eE σ A O)(h:O[i]?=some (x,q9,cW)):Fn Gb [.loc A.st,.bytes (fT i)] σ cW:=λQ q=>df<|bX (.jA .var S.s.fi (.two .var .glob) (JK S h)) q
theorem JL(S:eE σ A O)(h:O[i]?=some (x,lM,cW)):Fn ye [.loc A.st,.bytes (fT i)] σ cW:=λQ q=>df<|bX (.jA .var S.s.fi (.two .var .glob) (JK S h)) q
end
structure Row where
 r:Int
 c:Nat
 w:CV
noncomputable def qV(x:Row):CV:=.tup [.int x.r,.int x.c,x.w]
noncomputable def Row.lt(x y:Row):Bool:=lexLt x.r x.c y.r y.c
noncomputable def Row.le(x y:Row):Bool:=lexLe x.r x.c y.r y.c
noncomputable def DJ(l:Addr)(b9:Nat):List (Nat×CV):=[(76,.loc l),(43,.int b9)]
structure lQ(σ:St)(q qd l:Addr)(b9:Nat)(h:List Row):Prop where
 q:bP σ q 588 qd (DJ l b9)
 l:σ l=some (.list (h.map qV))
noncomputable def ja:Row:=⟨0,0,.none⟩
noncomputable def oR(h:List Row)(a b:Nat):List Row:=(h.set a (h.getD b ja)).set b (h.getD a ja)
noncomputable def up:Nat->List Row->Nat->List Row
 |0,h,_=>h
 |k+1,h,at_=>if at_=0 then h else if Row.le (h.getD ((at_- 1)/2) ja) (h.getD at_ ja)then h else up k (oR h ((at_- 1)/2) at_) ((at_- 1)/2)
theorem uM(h:List Row)(a b:Nat):(oR h a b).length=h.length:=by simp[oR]
theorem It.q{h:List Row}(hl:σ l=some (.list (h.map qV)))(hh:h.length<=100)(hi:i<h.length):It (.loc l) (.int i) σ (qV (h.getD i ja)):=
 .li (by rw[dM,bS hi,dG,bS hi];rfl) (by rw[aZ];exact aR hh (by decide)) hl
theorem Ev.DK{m:EM}{x:Row}(h:Ev m e σ (qV x)):Ev (jZ m (au (.int 2))) e σ (.tup [.int x.r,.int x.c]):=λQ q=>h _ ⟨2,rfl,.tup (vs:=[.int x.r,.int x.c,x.w]) (cP 3) (cG rfl) q⟩
theorem zR{h:List Row}{x:Row}{P:St->Prop}(hl:σ l=some (.list (h.map qV)))(hh:h.length<=100)(hi:i<h.length)(q:∀ae,ae l=some (.list ((h.set i x).map qV))->aF (one l) σ ae->P ae):ly (.loc l) (.int i) (qV x) σ P:=
 fsL hl (by rw[aZ];exact hi) (by rw[aZ];exact aR hh (by decide)) λae g p=>q ae (by rw[g,List.map_set]) p
theorem aiq(h:bP σ a 588 d [])(q:bI (∀l ae,σ l=none->lQ ae a d l 0 []->aF (one d) σ ae->Q .none ae)):yf [.loc a] [] σ Q:=
 qE λe he=>vV<|dh .nil λl ao hn hl P1=>bV .var<|sk (h.a7 P1) λay h2 P2=>fF .val he h2 λaQ h3 P3=>bp (q.out l aQ hn ⟨h3,P3.at (P2.at hl (gK hn h.2).symm) (gK hn h.2).symm⟩ (P1.pn (P2.trans P3)))
theorem VP(q:bI (∀a d l ae,σ a=none->σ d=none->σ l=none->lQ ae a d l 0 []->aF aS σ ae->Q (.loc a) ae)):eV 588 yf [] [] σ Q:=
 pM λa d ao na nd i1 P1=>aiq i1 ⟨λl ay nl i2 P2=>⟨rfl,q.out a d l ay na nd (P1.no nl) i2 (P1.sn P2 nd)⟩⟩
theorem air{q:Addr}{h:List Row}(H:lQ σ q qd l b9 h)(hl:h.length<=100):Fn yg [.loc q] σ (.int h.length):=λQ k=>by
 have Hq:=H.q
 exact df<|bX (.call (.one (.attr .var .ins)) (.len (by rw[aZ];exact aR hl (by decide)) H.l)) (by rw[aZ];exact k)
theorem ais{q:Addr}{h:List Row}{rank:Int}{w:CV}(H:lQ σ q qd l b9 h)(hl:h.length<=3)
  (k:bI (∀ae,lQ ae q qd l (b9+1) (up 4 (h++[⟨-rank,b9,w⟩]) h.length)->aF (two qd l) σ ae->Q .none ae)):qB [.loc q,.int rank,w] [] σ Q:=by
 have n1:q≠l:=λe=>(by have:=H.q.1;rw[e,H.l]at this;cases this)
 have n2:qd≠l:=λe=>(by have:=H.q.2;rw[e,H.l]at this;cases this)
 have Hq:=H.q
 refine Pr λe he xb qO=>yH (.attr .var .ins) (.tup (.three (.neg .var) (.attr .var .ins) .var)) H.l (by rw[aZ];exact cB hl rfl) λao l1 u1=>?_
 have q1:=Hq.a7 u1 n1 n2
 have l1:ao l=some (.list ((h++[(⟨-rank,b9,w⟩:Row)]).map qV)):=by rw[l1,cR];rfl
 have h0:(h++[(⟨-rank,b9,w⟩:Row)]).length=h.length+1:=bW;refine show ah (H8 _ _ _ _) _ _ _ _ from bV .var<|atK .ins<|bV .val ⟨_,.add,sk q1 λay q2 P2=>?_⟩;have q2:bP ay q 588 qd (DJ l (b9+1)):=q2
 refine gO (.to (.bin (.call (.one (.attr .var .ins)) (.len (by rw[aZ];exact l2 hl (el h0) (by simp+arith only)) (P2.at l1 n2.symm))) .val .sub) (show CV.int (((List.map qV _).length:Nat)- 1)=.int h.length by rw[aZ,h0];congr 1;exact xV _)) ?_
 generalize JM:up 4 (h++[(⟨-rank,b9,w⟩:Row)]) h.length=res at k;have l2:=P2.at l1 n2.symm;generalize h++[(⟨-rank,b9,w⟩:Row)]=h1 at*
 refine pQ<|qG [4,96] (λf e ae=>∃h' at_,e 4=some (.int (at_:Nat))/\at_<f/\at_<h'.length/\h'.length=h.length+1/\up f h' at_=res/\bP ae q 588 qd (DJ l (b9+1))/\ae l=some (.list (h'.map qV))/\aF (two qd l) σ ae) (n:=4)
  ⟨h1,h.length,rfl,by exact qn hl,by rw[h0];exact kZ _,h0,JM,q2,l2,(u1.mono λo=>.inr).trans (P2.mono λo=>.inl)⟩ λf e' ae s z W hW=>?_
 obtain⟨h',at_,e4,hf,mq,hlen,uN,q',l',P'⟩:=z
 cases f with
 |zero=>exact absurd hf (xM _)
 |succ f=>
 refine sA (.cmp .var .val .gt) (λg=>?_) λg=>?_
 ·have g:0<at_:=dN.1 (of_decide_eq_true g)
  rw[up,if_neg (vz g)]at uN;have kP:(at_- 1)/2<at_:=Mr g
  have mA:h'.length<=100:=by exact l4 hl (el h0) (er h0) (el hlen) (by simp+arith only)
  have ed:((at_:Int)- 1).fdiv 2=(((at_- 1)/2:Nat):Int):=by rw[alh _ (by decide)];exact Ms g
  refine gO (.to (.bin (.bin .var .val .sub) .val (.fdiv (by decide) (by decide))) (congrArg CV.int ed)) ?_
  generalize(at_- 1)/2=ab at*;have DL:=jQ kP mq
  refine fP (.cmp (.DK (.item (.attr .var .ins) .var (.q l' mA DL))) (.DK (.item (.attr .var .ins) (.var e4) (.q l' mA mq))) .lex) (λg=>?_) λg=>bp ?_
  ·rw[if_pos (show Row.le _ _=true from g)]at uN
   subst uN
   exact Px (k.out _ ⟨q',l'⟩ P')
  ·rw[if_neg (show¬Row.le _ _=true from by rw[show Row.le _ _=false from g];exact gY)]at uN
   refine Pt (.tup (.two (.item (.attr .var .ins) (.var e4) (.q l' mA mq)) (.item (.attr .var .ins) .var (.q l' mA DL))))<|BO (.attr .var .ins) .var<|zR l' mA DL λaQ l3 u3=>?_;have q3:=q'.a7 u3 n1 n2
   refine BO (.attr .var .ins) (.var e4)<|zR l3 (by rw[E5];exact mA) (by rw[E5];exact mq) λbU l4 u4=>?_
   exact gO .var<|bp<|hW (kZ f) ⟨oR h' ab at_,ab,rfl,ey kP (AE hf),by rw[uM];exact DL,by rw[uM];exact hlen,uN,q3.a7 u4 n1 n2,l4,(P'.trans (u3.mono λo=>.inr)).trans (u4.mono λo=>.inr)⟩
 ·have g:at_=0:=YK λh=>absurd (dN.2 h) (of_decide_eq_false g)
  rw[up,if_pos g]at uN;subst uN;exact k.out _ ⟨q',l'⟩ P'
set_option tactic.hygienic true
noncomputable def low(h:List Row)(l b:Nat):Nat:=if decide (b<h.length)&&Row.lt (h.getD b ja) (h.getD l ja)then b else l
noncomputable def mB(h:List Row)(a:Nat):Nat:=low h (low h a (2*a+1)) (2*a+2)
noncomputable def down:Nat->List Row->Nat->List Row
 |0,h,_=>h
 |k+1,h,a=>if mB h a=a then h else down k (oR h (mB h a) a) (mB h a)
theorem JN(h:List Row)(l b:Nat):low h l b=l\/(low h l b=b/\b<h.length):=by
 unfold low
 split
 ·rename_i g
  simp at g
  exact .inr ⟨rfl,g.1⟩
 ·exact .inl rfl
theorem VQ(h:List Row)(a:Nat):mB h a=a\/(a<mB h a/\mB h a<h.length):=by
 unfold mB
 rcases JN h (low h a (2*a+1)) (2*a+2)with g |⟨g,l⟩
 ·rw[g]
  rcases JN h a (2*a+1)with g2 |⟨g2,l⟩
  ·exact .inl g2
  ·rw[g2];exact .inr ⟨by exact(by simp+arith only),l⟩
 ·rw[g];exact .inr ⟨by exact(by simp+arith only),l⟩
theorem VR{q:Addr}{h:List Row}{a b:Nat}{K:dy->aL->St->Prop}(H:lQ σ q qd l b9 h)(hl:h.length<=100)(ha:a<h.length)(fg:e 78=some (.loc q))(JO:e 61=some (.int h.length))(VS:e 113=some (.int a))(JP:e 100=some (.int b))
  (k:∀e',e' 113=some (.int (low h a b:Nat))->cx [113] e e'->K .next e' σ):
  ah (bC (bR (aT .Lt (af 100) (af 61)) (bR (aT .Lt (jZ (bc (bf 76 (af 78)) (af 100)) (au (.int 2))) (jZ (bc (bf 76 (af 78)) (af 113)) (au (.int 2)))) (cQ true))) (ah (aP (af 100) (aName 113)) az) az) az e σ K:=by
 have Hq:=H.q;refine fP (.and (.cmp (.var JP) (.var JO) .lt) λg=>.lq (.cmp (.DK (.item (.attr (.var fg) .ins) (.var JP) (.q H.l hl (dN.1 (of_decide_eq_true g))))) (.DK (.item (.attr (.var fg) .ins) (.var VS) (.q H.l hl ha))) .Qj)) (λg=>?_) λg=>?_
 all_goals
  have ed:decide ((b:Int)<(h.length:Nat))=decide (b<h.length):=by rw[decide_eq_decide];exact dN
  rw[ed]at g
  change (decide (b<h.length)&&Row.lt (h.getD b ja) (h.getD a ja))=_ at g
 ·exact gO (.var JP)<|oA<|k _ (by unfold low;rw[g];rfl) (.set .refl)
 ·exact bp<|bp<|k _ (by unfold low;rw[g];exact VS) .refl
theorem ait{q:Addr}{h:List Row}(H:lQ σ q qd l b9 h)(hl:h.length<=4)(h0:h≠[])
  (k:bI (∀ae,lQ ae q qd l b9 (down 4 h 0)->aF (one l) σ ae->Q .none ae)):Gc [.loc q] [] σ Q:=by
 have n1:q≠l:=λe=>(by have:=H.q.1;rw[e,H.l]at this;cases this)
 have n2:qd≠l:=λe=>(by have:=H.q.2;rw[e,H.l]at this;cases this)
 have hp:=ER.2 h0;have Hq:=H.q;generalize JM:down 4 h 0=res at k
 refine qE λe fg=>vX<|bV .val<|bV (.to (.call (.one (.attr .var .ins)) (.len (by rw[aZ];exact cB hl rfl) H.l)) (by rw[aZ])) ?_
 refine pQ<|qG [4,113,100] (λf e ae=>∃(h':List Row) (a:Nat),e 4=some (.int a)/\a<h'.length/\h'.length<=a+f/\h'.length=h.length/\down f h' a=res/\lQ ae q qd l b9 h'/\aF (one l) σ ae) (n:=4) ⟨h,0,rfl,hp,by exact hl,rfl,JM,H,.refl _ _⟩ λf e' ae s z W hW=>?_
 obtain⟨h',a,e4,ha,hf,hlen,DM,H',P'⟩:=z
 cases f with
 |zero=>exact absurd ha (Nat.not_lt.2 hf)
 |succ f=>
 have mA:h'.length<=100:=by exact xW hlen hl rfl
 have DO:e' 78=some (.loc q):=s.rd (j:=78) fg rfl
 have JQ:e' 61=some (.int h'.length):=by rw[hlen];exact s.rd (j:=61) rfl rfl
 have Hq':=H'.q
 refine sA (.val .val) (λo=>gO (.var e4)<|Hr (.tup (.two (.to (.bin (.bin .val (.var e4) (.mul (by decide) (by decide))) .val .add) (show _=CV.int ((2*a+1:Nat):Int)from rfl)) (.to (.bin (.bin .val (.var e4) (.mul (by decide) (by decide))) .val .add) (show _=CV.int ((2*a+2:Nat):Int)from rfl)))) ⟨trivial,?_⟩) (λg=>iR g)
 refine VR H' mA ha DO JQ rfl rfl λe1 f1 xb=>⟨trivial,?_⟩
 have j8:low h' a (2*a+1)<h'.length:=by rcases JN h' a (2*a+1)with g |⟨g,g2⟩<;>rw[g]<;>assumption
 refine VR H' mA j8 (xb.rd (j:=78) DO rfl) (xb.rd (j:=61) JQ rfl) f1 rfl λe2 f2 qO=>⟨trivial,?_⟩;change e2 113=some (.int (mB h' a:Nat))at f2;have s2:cx [4,113,100] e' e2:=((((cx.set (i:=113) .refl).set (i:=100)).tr xb).set (i:=100)).tr qO;have s3:=s.tr s2;have qg:e2 78=some (.loc q):=s2.rd (j:=78) DO rfl;have f4:e2 4=some (.int a):=qO.rd (j:=4) (xb.rd (j:=4) e4 rfl) rfl;clear DO JQ e4 s xb qO s2 f1
 refine fP (.cmp (.var f2) (.var f4) .eq) (λg=>?_) λg=>bp ?_
 ·have g:mB h' a=a:=AR (of_decide_eq_true g)
  rw[down,if_pos g]at DM;subst DM
  exact Px (k.out _ H' P')
 ·have g:¬mB h' a=a:=λx=>of_decide_eq_false g (congrArg Int.ofNat x)
  rw[down,if_neg g]at DM;obtain⟨lt1,jT⟩:=(VQ h' a).resolve_left g;generalize mB h' a=b at*;refine Pt (.tup (.two (.item (.attr (.var qg) .ins) (.var f4) (.q H'.l mA ha)) (.item (.attr (.var qg) .ins) (.var f2) (.q H'.l mA jT))))<|BO (.attr (.var qg) .ins) (.var f2)<|zR H'.l mA jT λaQ l3 u3=>?_;have q3:=Hq'.a7 u3 n1 n2
  refine BO (.attr (.var qg) .ins) (.var f4)<|zR l3 (by rw[E5];exact mA) (by rw[E5];exact ha) λbU l4 u4=>?_
  exact gO (.var f2)<|bp<|hW (kZ f) ⟨oR h' b a,b,rfl,by rw[uM];exact jT,by rw[uM];exact l2 hf lt1 (by simp+arith only),by rw[uM];exact hlen,DM,⟨q3.a7 u4 n1 n2,l4⟩,(P'.trans u3).trans u4⟩
noncomputable def uO(h:List Row):List Row:=match h.dropLast with
 |[]=>[]
 |x::xs=>down 4 ((x::xs).set 0 (h.getLastD ja)) 0
theorem aiu{y:Row}{ys:List Row}{x:Row}:uO (y::ys++[x])=down 4 ((y::ys).set 0 x) 0:=by
 unfold uO;rw[List.dropLast_concat];show down 4 ((y::ys).set 0 ((y::ys++[x]).getLastD ja)) 0=_;rw[List.getLastD_concat]
theorem aiv{q:Addr}{h:List Row}(H:lQ σ q qd l b9 h)(hl:h.length<=4)(h0:h≠[])
  (k:bI (∀ae,lQ ae q qd l b9 (uO h)->aF (one l) σ ae->Q (h.getD 0 ja).w ae)):yh [.loc q] [] σ Q:=by
 have n1:q≠l:=λe=>(by have:=H.q.1;rw[e,H.l]at this;cases this)
 have n2:qd≠l:=λe=>(by have:=H.q.2;rw[e,H.l]at this;cases this)
 have Hq:=H.q
 refine qE λe fg=>gO (.item (.attr .var .ins) .val (.q (i:=0) H.l (aR hl (by decide)) (ER.2 h0))) ?_
 obtain⟨xs,x,rfl⟩:∃xs x,h=xs++[x]:=⟨h.dropLast,h.getLast h0,(vi h0).symm⟩;rw[bW,mH]at hl
 refine cy<|pL (.attr .var .ins) ⟨_,_,rfl,H.l⟩ .nil<|BZ (by rw[H.l,cR];rfl) (by rw[aZ];exact cB hl rfl) λao l1 u1=>?_
 have q1:=Hq.a7 u1 n1 n2;generalize(xs++[x]).getD 0 ja=first at*;have fin:∀{ay},lQ ay q qd l b9 (uO (xs++[x]))->aF (one l) σ ay->ah (bh (bc (af 108) (au (.int 2)))) az (bA (bA e 108 (qV first)) 56 (qV x)) ay (bk Q):=λ{ay} H2 P2=>bX (.item .var .val (.tup (vs:=[.int first.r,.int first.c,first.w]))) (k.out ay H2 P2)
 refine B0 (.attr .var .ins) l1 (λg ay P2=>?_) λg ay P2=>?_
 ·induction xs with
  |nil=>exact absurd rfl g
  |cons y ys=>
   have q2:=q1.a7 P2
   have hy:((y::ys).set 0 x).length<=4:=by rw[E5];exact iQ hl
   refine lx .var (.attr .var .ins) .val<|zR (i:=0) (P2.at l1) (aR (AG hl) (by decide)) (nU _) λaQ l3 u3=>?_
   have q3:=q2.a7 u3 n1 n2
   exact iA<|eX .var q3.fi .nil<|ait ⟨q3,l3⟩ hy (λe=>og e) ⟨λbU H4 P4=>bp<|fin (by rw[aiu];exact H4) (((u1.nx P2).trans u3).trans P4)⟩
 ·have:xs=[]:=xG.1 g
  subst this;exact bp<|fin ⟨q1.a7 P2,P2.at l1⟩ (u1.nx P2)
theorem gd{h:List Row}(hi:i<h.length):h.getD i ja=h[i]:=by rw[dG,bS hi];rfl
theorem VT{h:List Row}{a b:Nat}(kP:a<b)(hb:b<h.length):(oR h a b).Perm h:=by
 unfold oR;rw[gd hb,gd (jQ kP hb)];exact List.set_set_perm (jQ kP hb) hb
theorem VU:∀(k:Nat) (h:List Row) (a:Nat),a<h.length->(up k h a).Perm h
 |0,h,a,_=>.refl _
 |k+1,h,a,ha=>by
  unfold up
  split
  ·exact .refl _
  ·split
   ·exact .refl _
   ·exact(VU k _ _ (by rw[uM];exact je (aR (Nat.div_le_self ..) (A3 ..)) ha)).trans (VT (Mr (Nat.pos_of_ne_zero (by assumption))) ha)
theorem aiw{h:List Row}{a b:Nat}(kP:a≠b):oR h b a=oR h a b:=by
 unfold oR;exact List.set_comm _ _ (λe=>kP e.symm)
theorem VV:∀(k:Nat) (h:List Row) (a:Nat),a<h.length->(down k h a).Perm h
 |0,h,a,_=>.refl _
 |k+1,h,a,ha=>by
  unfold down
  split
  ·exact .refl _
  ·rename_i hn
   obtain⟨l1,l2⟩:=(VQ h a).resolve_left hn
   refine(VV k _ _ (by rw[uM];exact l2)).trans ?_
   rw[aiw (iP l1)];exact VT l1 l2
theorem aix{h:List Row}(h0:h≠[]):(h.getD 0 ja::uO h).Perm h:=by
 obtain⟨xs,x,rfl⟩:∃xs x,h=xs++[x]:=⟨h.dropLast,h.getLast h0,(vi h0).symm⟩;unfold uO;rw[List.dropLast_concat]
 induction xs with
 |nil=>exact .refl _
 |cons y ys=>
  show(y::down 4 ((y::ys).set 0 ((y::ys++[x]).getLastD ja)) 0).Perm _;rw[List.getLastD_concat]
  refine((VV 4 _ 0 (by simp)).cons y).trans ?_
  show(y::x::ys).Perm (y::(ys++[x]));exact(List.perm_append_singleton x ys).symm.cons y
noncomputable def Le(x y:Row):Prop:=x.r<y.r\/(x.r=y.r/\x.c<=y.c)
theorem le_iff{x y:Row}:Row.le x y=true↔Le x y:=by
 unfold Row.le lexLe Le;simp
theorem Le.trans{x y z:Row}(h:Le x y)(k:Le y z):Le x z:=by unfold Le at*;exact h.elim (λa=>.inl (k.elim (λb=>ph a b) λb=>b.1▸a)) λa=>k.elim (λb=>.inl (a.1▸b)) λb=>.inr ⟨a.1.trans b.1,aR a.2 b.2⟩
theorem Le.xc{x y:Row}(h:¬Row.le x y=true):Le y x:=by rw[le_iff]at h;unfold Le at*;exact(Y6 x.r y.r).elim (λa=>(h (.inl a)).elim) λa=>a.elim (λa=>.inr ⟨a.symm,Nat.le_of_not_le λb=>h (.inr ⟨a,b⟩)⟩) .inl
theorem Le.lt{x y:Row}(h:Row.lt x y=true):Le x y:=by unfold Row.lt lexLt at h;unfold Le;simp at h;exact h.imp id λa=>⟨a.1,iQ a.2⟩
theorem Le.DP{x y:Row}(h:¬Row.lt x y=true):Le y x:=by unfold Row.lt lexLt at h;unfold Le;simp at h;exact(Int.lt_or_eq_of_le h.1).imp id λe=>⟨e,h.2 e.symm⟩
theorem Le.refl(x:Row):Le x x:=.inr ⟨rfl,cP _⟩
noncomputable def HeapOk:List Row->Prop
 |[]=>True
 |[_]=>True
 |[a,b]=>Le a b
 |[a,b,c]=>Le a b/\Le a c
 |[a,b,c,d]=>Le a b/\Le a c/\Le b d
 |_=>False
theorem aiy:∀{h:List Row},HeapOk h->∀x∈h,Le (h.getD 0 ja) x
 |[],_,_,h=>cA h
 |[a],_,x,h=>by rw[cL.1 h];exact .refl a
 |[a,b],H,x,h=>by
  rcases h with _ |⟨_,_ |⟨_,h⟩⟩
  ·exact .refl a
  ·exact H
  ·exact cA h
 |[a,b,c],H,x,h=>by
  rcases h with _ |⟨_,_ |⟨_,_ |⟨_,h⟩⟩⟩
  ·exact .refl a
  ·exact H.1
  ·exact H.2
  ·exact cA h
 |[a,b,c,d],H,x,h=>by
  rcases h with _ |⟨_,_ |⟨_,_ |⟨_,_ |⟨_,h⟩⟩⟩⟩
  ·exact .refl a
  ·exact H.1
  ·exact H.2.1
  ·exact H.1.trans H.2.2
  ·exact cA h
 |_::_::_::_::_::_,H,_,_=>H.elim
theorem aiz{x:Row}:∀{h:List Row},HeapOk h->h.length<=3->HeapOk (up 4 (h++[x]) h.length)
 |[],_,_=>trivial
 |[a],H,_=>by
  show HeapOk (up 4 [a,x] 1)
  rw[up,if_neg (by decide:¬1=0)]
  split
  ·rename_i g;exact le_iff.1 g
  ·rename_i g;show HeapOk (up 3 [x,a] 0);rw[up,if_pos rfl];exact Le.xc g
 |[a,b],H,_=>by
  show HeapOk (up 4 [a,b,x] 2)
  rw[up,if_neg (by decide:¬2=0)]
  split
  ·rename_i g;exact⟨H,le_iff.1 g⟩
  ·rename_i g;show HeapOk (up 3 [x,b,a] 0);rw[up,if_pos rfl];exact⟨(Le.xc g).trans H,Le.xc g⟩
 |[a,b,c],H,_=>by
  show HeapOk (up 4 [a,b,c,x] 3)
  rw[up,if_neg (by decide:¬3=0)]
  split
  ·rename_i g;exact⟨H.1,H.2,le_iff.1 g⟩
  ·rename_i g
   show HeapOk (up 3 [a,x,c,b] 1)
   rw[up,if_neg (by decide:¬1=0)]
   split
   ·rename_i g2;exact⟨le_iff.1 g2,H.2,Le.xc g⟩
   ·rename_i g2;show HeapOk (up 2 [x,a,c,b] 0);rw[up,if_pos rfl];exact⟨Le.xc g2,(Le.xc g2).trans H.2,H.1⟩
 |_::_::_::_::_,_,hl=>absurd hl (λh=>nomatch (EG (EG (EG h))))
theorem aiA{x b:Row}:mB [x,b] 0=if Row.lt b x=true then 1 else 0:=by
 show low [x,b] (if Row.lt b x=true then 1 else 0) 2=_
 rfl
theorem aiB{x b c:Row}:mB [x,b,c] 0=if Row.lt b x=true then(if Row.lt c b=true then 2 else 1)else if Row.lt c x=true then 2 else 0:=by
 show low [x,b,c] (if Row.lt b x=true then 1 else 0) 2=_
 cases Row.lt b x<;>rfl
theorem aiC:∀{h:List Row},HeapOk h->h≠[]->HeapOk (uO h)
 |[],_,h0=>absurd rfl h0
 |[a],_,_=>trivial
 |[a,b],_,_=>trivial
 |[a,b,c],_,_=>by
  show HeapOk (down 4 [c,b] 0);rw[down,aiA]
  cases g:Row.lt b c with
  |true=>exact Le.lt g
  |false=>exact Le.DP (by rw[g];exact gY)
 |[a,b,c,d],_,_=>by
  show HeapOk (down 4 [d,b,c] 0);rw[down,aiB]
  cases g:Row.lt b d with
  |true=>
   have g:=Le.lt g
   cases g2:Row.lt c b with
   |true=>have g2:=Le.lt g2;exact⟨g2,g2.trans g⟩
   |false=>exact⟨g,Le.DP (x:=c) (y:=b) (by rw[g2];exact gY)⟩
  |false=>
   have g:Le d b:=Le.DP (by rw[g];exact gY)
   cases g2:Row.lt c d with
   |true=>have g2:=Le.lt g2;exact⟨g2.trans g,g2⟩
   |false=>exact⟨g,Le.DP (x:=c) (y:=d) (by rw[g2];exact gY)⟩
 |_::_::_::_::_::_,H,_=>H.elim
noncomputable def kW(t:Nat->Int):List Nat->Nat
 |[]=>0
 |k::ks=>(k::ks).foldl (λh j=>if t j>t h then j else h) k
noncomputable def uP(t:Nat->Int)(cf:Nat->Nat)(ks:List Nat)(k:Nat):Prop:=k∈ks/\∀j∈ks,t j<t k\/(t j=t k/\cf k<=cf j)
theorem VW(t:Nat->Int)(cf:Nat->Nat):∀(ks done:List Nat) (b:Nat),uP t cf done b->(done++ks).Pairwise (λa b=>cf a<cf b)->uP t cf (done++ks) (ks.foldl (λh j=>if t j>t h then j else h) b)
 |[],done,b,h,_=>by simpa using h
 |k::ks,done,b,h,hp=>by
  rw[km]
  have e:done++k::ks=(done++[k])++ks:=by simp
  rw[e]at hp ⊢;refine VW t cf ks (done++[k]) _ ?_ hp;have h1:=(Lq.1 (Lq.1 hp).1).2.2
  split
  ·rename_i g
   refine⟨by simp,λj hj=>?_⟩
   rcases fZ.1 hj with hj |hj
   ·rcases h.2 j hj with z |⟨z,_⟩
    ·left;exact ph z g
    ·left;exact Lu (Int.le_of_eq z) g
   ·rw[cL.1 hj];exact .inr ⟨rfl,cP _⟩
  ·rename_i g
   refine⟨EJ _ h.1,λj hj=>?_⟩
   rcases fZ.1 hj with hj |hj
   ·exact h.2 j hj
   ·rw[cL.1 hj]
    have:=h1 b h.1 k (by simp)
    by_cases z:t k=t b
    ·exact .inr ⟨z,iQ this⟩
    ·left;exact Int.lt_iff_le_and_ne.2 ⟨nZ.1 g,z⟩
theorem aiD{ks:List Nat}(h0:ks≠[])(hp:ks.Pairwise (λa b=>cf a<cf b)):uP t cf ks (kW t ks):=by
 induction ks with
 |nil=>exact absurd rfl h0
 |cons k ks=>
  show uP t cf (k::ks) ((k::ks).foldl (λh j=>if t j>t h then j else h) k)
  rw[km,if_neg (Int.lt_irrefl _)]
  have:=VW t cf ks [k] k ⟨by simp,λj hj=>by rw[cL.1 hj];exact .inr ⟨rfl,cP _⟩⟩ (by simpa using hp)
  simpa using this
theorem aiE{ks:List Nat}(hp:ks.Pairwise (λa b=>cf a<cf b)){a b:Nat}(ha:a∈ks)(hb:b∈ks)(h:cf a=cf b):a=b:=by
 induction ks with
 |nil=>exact cA ha
 |cons k ks ih=>
  rw[List.pairwise_cons]at hp
  rcases eO.1 ha with e |uL<;>rcases eO.1 hb with e' |jn
  ·rw[e,e']
  ·have:=hp.1 b jn;rw[e]at h;exact absurd h (iP this)
  ·have:=hp.1 a uL;rw[e']at h;exact absurd h (vz this)
  ·exact ih hp.2 uL jn
theorem aiF{ks:List Nat}(hp:ks.Pairwise (λa b=>cf a<cf b)){a b:Nat}(ha:uP t cf ks a)(hb:uP t cf ks b):a=b:=by
 have h1:=ha.2 b hb.1;have h2:=hb.2 a ha.1;exact aiE hp ha.1 hb.1 (h1.elim (λx=>h2.elim (λy=>absurd y (Int.lt_asymm x)) λy=>absurd x (y.1▸Int.lt_irrefl _)) λx=>h2.elim (λy=>absurd y (x.1▸Int.lt_irrefl _)) λy=>qq x.2 y.2)
noncomputable def ri(is:List Nat)(t:Nat->Int)(cf:Nat->Nat)(k:Nat):Row:=⟨-(t k),cf k,.bytes (dc is k)⟩
structure QS(σ:St)(is:List Nat)(q qd l:Addr)(t:Nat->Int)(b9:Nat)(ks:List Nat):Prop where
 at_:∃h cf,lQ σ q qd l b9 h/\HeapOk h/\h.Perm (ks.map (ri is t cf))/\ks.Pairwise (λa b=>cf a<cf b)/\∀k∈ks,cf k<b9
theorem QS.inst{q:Addr}{ks:List Nat}(h:QS σ is q qd l t b9 ks):∃c,bP σ q 588 qd (DJ l c)/\∃vs,σ l=some (.list vs):=by
 refine gH h.at_ λh cf H zz=>?_;exact⟨_,H.q,_,H.l⟩
theorem QS.a7{X:Addr->Prop}{q:Addr}{ks:List Nat}(h:QS σ is q qd l t b9 ks)(p:aF X σ ae)(n1:autoParam (¬X q) aX)(n2:autoParam (¬X qd) aX)(n3:autoParam (¬X l) aX):QS ae is q qd l t b9 ks:=by
 refine gH h.at_ λh cf H r=>?_;exact⟨h,cf,⟨H.q.a7 p n1 n2,p.at H.l n3⟩,r⟩
theorem VX{q:Addr}(H:lQ σ q qd l 0 []):QS σ is q qd l t 0 []:=⟨[],λz=>0,H,trivial,.refl _,Y4,λz h=>by cases h⟩
theorem VY{q:Addr}{ks:List Nat}(h:QS σ is q qd l t b9 ks)(hl:ks.length<=4):Fn yg [.loc q] σ (.int ks.length):=by
 refine mX h.at_ λh cf H HO hp hw hc=>?_;have e:=hp.length_eq;rw[aZ]at e;rw[<-e]at hl ⊢
 exact air H (aR hl (by decide))
theorem VZ{q:Addr}{ks:List Nat}{k:Nat}{rank:Int}(h:QS σ is q qd l t b9 ks)(hl:ks.length<=3)(hk:k∉ks)(hr:rank=t k)
  (z:bI (∀ae,QS ae is q qd l t (b9+1) (ks++[k])->aF (two qd l) σ ae->Q .none ae)):qB [.loc q,.int rank,.bytes (dc is k)] [] σ Q:=by
 subst hr;refine mX h.at_ λh cf H HO hp hw hc=>?_;have e:=hp.length_eq;rw[aZ]at e
 have zS:∀j∈ks,(λj=>if j=k then b9 else cf j) j=cf j:=λj hj=>by
  have:j≠k:=λe=>hk (e▸hj);simp[this]
 refine ais H (aR (el e) hl) ⟨λae H' P=>z.out ae ⟨_,λj=>if j=k then b9 else cf j,H',aiz HO (aR (el e) hl),?_,?_,?_⟩ P⟩
 ·refine(VU 4 _ _ (by simp)).trans ?_
  rw[cR]
  have e1:ks.map (ri is t λj=>if j=k then b9 else cf j)=ks.map (ri is t cf):=pd λj hj=>by unfold ri;rw[zS j hj]
  rw[e1]
  have e2:[k].map (ri is t λj=>if j=k then b9 else cf j)=[⟨-(t k),b9,.bytes (dc is k)⟩]:=by simp[ri]
  rw[e2]
  exact hp.append_right _
 ·rw[Lq]
  refine⟨?_,by simp,λa ha b hb=>?_⟩
  ·refine hw.imp_of_mem λ{a b} ha hb kP=>?_
   rw[zS a ha,zS b hb];exact kP
  ·rw[cL.1 hb,zS a ha]
   simp
   exact hc a ha
 ·intro j hj
  rcases fZ.1 hj with hj |hj
  ·rw[zS j hj];have:=hc j hj;exact rG this
  ·rw[cL.1 hj];simp
theorem V0{k:Nat}:∀{ks:List Nat},ks.Pairwise (λa b=>cf a<cf b)->k∈ks->(k::ks.filter (·≠k)).Perm ks
 |[],_,h=>by exact cA h
 |j::ks,hp,h=>by
  rw[List.pairwise_cons]at hp
  by_cases e:j=k
  ·subst e
   have:(j::ks).filter (·≠j)=ks:=by
    rw[EE (by simp)]
    refine EK.2 λa ha=>?_;have:=hp.1 a ha
    have:a≠j:=λe=>by rw[e]at this;exact AU _ this
    simpa using this
   rw[this]
  ·have hk:k∈ks:=(eO.1 h).resolve_left λz=>e z.symm
   rw[EF (by simpa using e)]
   exact(List.Perm.swap j k _).trans ((V0 hp.2 hk).cons j)
theorem V1{q:Addr}{ks:List Nat}(h:QS σ is q qd l t b9 ks)(hl:ks.length<=4)(h0:ks≠[])
  (z:bI (∀ae,QS ae is q qd l t b9 (ks.filter (·≠kW t ks))->aF (one l) σ ae->Q (.bytes (dc is (kW t ks))) ae)):yh [.loc q] [] σ Q:=by
 refine mX h.at_ λh cf H HO hp hw hc=>?_;have e:=hp.length_eq;rw[aZ]at e
 have hn:h≠[]:=λz=>by rw[z]at e;exact h0 (Av e.symm)
 have hm:h.getD 0 ja∈h:=by
  induction h with
  |nil=>exact absurd rfl hn
  |cons a h=>simp
 refine a9 (dD.1 (hp.mem_iff.1 hm)) λk hk ek=>?_
 have hb:uP t cf ks k:=⟨hk,λj hj=>by
  have:=aiy HO (ri is t cf j) (hp.mem_iff.2 (dD.2 ⟨j,hj,rfl⟩));rw[<-ek]at this;unfold Le ri at this
  exact this.imp Int.lt_of_neg_lt_neg λh=>⟨(Int.neg_inj.1 h.1).symm,h.2⟩⟩
 have ep:=aiF hw hb (aiD h0 hw);refine aiv H (aR (el e) hl) hn ⟨λae H' P=>?_⟩
 have ew:(h.getD 0 ja).w=.bytes (dc is (kW t ks)):=by rw[<-ek,ep];rfl
 rw[ew];refine z.out ae ⟨_,cf,H',aiC HO hn,?_,hw.filter _,λj hj=>hc j (rK.1 hj).1⟩ P;have p1:=(aix hn).trans hp;have p2:=(V0 hw hk).map (ri is t cf);rw[gC,ek]at p2;rw[<-ep];exact(p1.trans p2.symm).cons_inv
set_option tactic.hygienic false
noncomputable def JR(st sh kn lv:Addr):List (Nat×CV):=[(131,.loc st),(189,.loc sh),(112,.loc kn),(156,.loc lv)]
structure Wx where
 A:gy
 O:Objs
 is:List Nat
 Ds:List Cd
 wk:Addr
 wd:Addr
 sh:Addr
 kn:Addr
 lv:Addr
 d:Addr
 c:Addr
noncomputable def Wx.row(X:Wx)(k:Nat):List Nat:=((X.Ds[k]?).map (λx=>x.row)).getD []
noncomputable def Wx.time(X:Wx)(k:Nat):Nat:=((X.Ds[k]?).map (λx=>x.time)).getD 0
noncomputable def Wx.cnt(X:Wx)(k:Nat):Option Nat:=((X.Ds[k]?).map (λx=>x.cnt)).getD none
noncomputable def uQ(row:Nat->List Nat):Nat->Nat->Nat
 |0,_=>0
 |f+1,k=>1+((row k).map (uQ row f)).foldl max 0
noncomputable def iu(row:Nat->List Nat)(k:Nat):Nat:=uQ row (k+1) k
theorem aiG{row:Nat->List Nat}(h:∀k,∀j∈row k,j<k):∀(f k:Nat),k<f->uQ row f k=iu row k:=by
 have key:∀(k f g:Nat),k<f->k<g->uQ row f k=uQ row g k:=by
  intro k
  induction k using Nat.strongRecOn with
  |ind k ih=>
   intro f g hf hg
   cases f with
   |zero=>exact absurd hf (xM _)
   |succ f=>
    induction g with
    |zero=>exact absurd hg (xM _)
    |succ g=>
     unfold uQ
     congr 2
     exact pd λj hj=>ih j (h k j hj) f g (by have:=h k j hj;exact l2 hf this (by simp+arith only)) (by have:=h k j hj;exact l2 hg this (by simp+arith only))
 intro f k hf;exact key k f (k+1) hf (cP _)
theorem aiH{row:Nat->List Nat}(h:∀k,∀j∈row k,j<k)(k:Nat):iu row k=1+((row k).map (iu row)).foldl max 0:=by
 unfold iu;rw[uQ]
 congr 2
 exact pd λj hj=>aiG h k j (h k j hj)
noncomputable def cb(is:List Nat)(k:Nat):CV:=.bytes (dc is k)
structure JS(X:Wx)(W:St)(k:Nat)(a ad pl:Addr)(ti:Nat):Prop where
 i:bP W a 609 ad [(185,.loc pl),(87,.bytes (fT ti)),(45,.int (X.time k))]
 p:W pl=some (.list ((X.row k).map (cb X.is)))
 t:oO W X.O ti (X.cnt k)
noncomputable def DQ(X:Wx)(W:St)(k:Nat)(v:CV):Prop:=∃a ad pl ti,v=.loc a/\JS X W k a ad pl ti
theorem DQ.up{X:Wx}{W:St}{k:Nat}{v:CV}(h:DQ X W k v)(p:aF aS W W'):DQ X W' k v:=by
 obtain⟨a,ad,pl,ti,e,H⟩:=h;exact⟨a,ad,pl,ti,e,H.i.a7 p,p.at H.p,H.t.ext p λz z h=>h⟩
structure WF(X:Wx)(W:St):Prop where
 w:fJ W X.O X.is X.Ds
 S:eE W X.A X.O
 n4:X.is.length<=4
 wk:bP W X.wk 958 X.wd (JR X.A.st X.sh X.kn X.lv)
 sh:W X.sh=some (.dB [])
theorem WF.up{X:Wx}{W:St}(h:WF X W)(p:aF aS W W'):WF X W':=⟨h.w.up p,h.S.p0 p,h.n4,h.wk.a7 p,p.at h.sh⟩
theorem WF.inj{X:Wx}{W:St}(h:WF X W):Inj X.is:=h.w.inj h.S.len
theorem WF.ds{X:Wx}{W:St}(h:WF X W){k:Nat}(hk:k<X.is.length):∃D,X.Ds[k]?=some D/\X.row k=D.row/\X.time k=D.time/\X.cnt k=D.cnt:=by
 have hl:=h.w.len
 have c4:k<X.Ds.length:=by exact ey hk (el hl)
 exact⟨X.Ds[k],bS c4,by simp[Wx.row,c4],by simp[Wx.time,c4],by simp[Wx.cnt,c4]⟩
theorem WF.fh{X:Wx}{W:St}(h:WF X W):∀k,∀j∈X.row k,j<k:=λk j hj=>by
 unfold Wx.row at hj
 cases e:X.Ds[k]? with
 |none=>rw[e]at hj;exact cA hj
 |some D=>rw[e]at hj;exact(h.w.ok k D e).row j hj
theorem WF.kg{X:Wx}{W:St}(h:WF X W):∀k,(X.row k).length<=4:=λk=>by
 unfold Wx.row
 cases e:X.Ds[k]? with
 |none=>simp
 |some D=>exact(h.w.ok k D e).len
structure WS(X:Wx)(W σ:St)(T:Nat)(ls:List Nat):Prop where
 f:WF X W
 dk:Dk W σ X.d X.c T
 kn:∃ks:List (Nat×CV),DI σ X.is X.kn ks/\(ks.map (λx=>x.1)).Nodup/\∀k v,bB ks k=some v->DQ X W k v
 lv:DI σ X.is X.lv (ls.map λk=>(k,.int (iu X.row k)))
 ln:ls.Nodup
 fk:W X.kn=none/\X.kn≠X.d/\X.kn≠X.c
 fl:W X.lv=none/\X.lv≠X.d/\X.lv≠X.c
 sZ:X.kn≠X.lv
theorem WS.ext{X:Wx}{W:St}{T:Nat}(h:WS X W σ T ls)(p:aF aS σ ae):WS X W ae T ls:=by
 refine bF h.kn λks h1 h2 h3=>?_;exact⟨h.f,h.dk.ext p,⟨ks,h1.a7 p,h2,h3⟩,h.lv.a7 p,h.ln,h.fk,h.fl,h.sZ⟩
theorem WS.sY{X:Wx}{W:St}{T:Nat}(h:WS X W σ T ls)(p:aF Y σ ae)(n:∀a,Y a->(a≠X.d/\a≠X.c/\W a=none)/\a≠X.kn/\a≠X.lv):WS X W ae T ls:=by
 refine bF h.kn λks h1 h2 h3=>?_;exact⟨h.f,h.dk.other p λa y=>(n a y).1,⟨ks,h1.a7 p λy=>(n _ y).2.1 rfl,h2,h3⟩,h.lv.a7 p λy=>(n _ y).2.2 rfl,h.ln,h.fk,h.fl,h.sZ⟩
structure Nx(X:Wx)(a:Addr):Prop where
 d:a≠X.d
 c:a≠X.c
 kn:a≠X.kn
 lv:a≠X.lv
theorem WS.nx{X:Wx}{W:St}{T:Nat}(h:WS X W σ T ls)(na:σ a=none):Nx X a:=by
 have k:∀{b o},σ b=some o->a≠b:=λe x=>by rw[x,e]at na;exact jy na
 refine gF h.dk.hd λm t hd=>?_;refine xe h.dk.hc λcs hc=>?_;refine a9 h.kn λks h1 zz=>?_;exact⟨k hd,k hc,k h1.at_,k h.lv.at_⟩
structure Gw(σ W W':St):Prop where
 p:aF aS W W'
 n:∀a o,σ a=some o->W a=none->W' a=none
theorem Gw.refl(σ W:St):Gw σ W W:=⟨.refl _ _,λz z z h=>h⟩
theorem Gw.trans{W W2:St}(g:Gw σ W W1)(p:aF Y σ ao)(g2:Gw ao W1 W2)(hY:∀a,Y a->W2 a=none):Gw σ W W2:=
 ⟨g.p.trans g2.p,λa o h hw=>Classical.byCases (λy:Y a=>hY a y) λy=>g2.n a o (p.at h y) (g.n a o h hw)⟩
theorem WS.fz{X:Wx}{W:St}{T:Nat}(h:WS X W σ T ls)(ha:σ a=some o)(n:Nx X a):∃W',aF aS W W'/\W' a=some o/\WS X W' σ T ls/\∀b,b≠a->W' b=W b:=by
 refine cz (h.dk.fz ha n.d n.c) λW' P hW D hb=>?_;refine bF h.kn λks h1 h2 h3=>?_
 exact⟨W',P,hW,⟨h.f.up P,D,⟨ks,h1,h2,λk v e=>(h3 k v e).up P⟩,h.lv,h.ln,⟨by rw[hb _ n.kn.symm];exact h.fk.1,h.fk.2⟩,⟨by rw[hb _ n.lv.symm];exact h.fl.1,h.fl.2⟩,h.sZ⟩,hb⟩
theorem WS.sX{X:Wx}{W:St}{T:Nat}{b:Addr}(h:WS X W σ T ls)(ha:bP σ a C b fs)(n:Nx X a)(n2:Nx X b):∃W',aF aS W W'/\bP W' a C b fs/\WS X W' σ T ls/\∀c,c≠a->c≠b->W' c=W c:=by
 refine cz (h.fz ha.1 n) λW1 P1 h1 k1 e1=>?_;refine cz (k1.fz ha.2 n2) λW2 P2 h2 k2 e2=>?_
 exact⟨W2,P1.trans P2,⟨P2.at h1,h2⟩,k2,λc n1 n2=>by rw[e2 c n2,e1 c n1]⟩
theorem qh{W:St}(p:aF aS W W')(na:σ a=none)(e:∀b,b≠a->W' b=W b):Gw σ W W':=
 ⟨p,λb o hb hw=>by rw[e b (λz=>by rw[z,na]at hb;exact bo hb)];exact hw⟩
theorem aiI{W:St}{a':Addr}(p:aF aS W W')(na:σ a=none)(na':σ a'=none)(e:∀b,b≠a->b≠a'->W' b=W b):Gw σ W W':=
 ⟨p,λb o hb hw=>by rw[e b (λz=>by rw[z,na]at hb;exact bo hb) (λz=>by rw[z,na']at hb;exact bo hb)];exact hw⟩
theorem Gw.from{W:St}(g:Gw ao W W')(p:aF aS σ ao):Gw σ W W':=⟨g.p,λa o h hw=>g.n a o (p.at h) hw⟩
theorem Gw.tr{W W2:St}(g:Gw σ W W1)(g2:Gw σ W1 W2):Gw σ W W2:=⟨g.p.trans g2.p,λa o h hw=>g2.n a o h (g.n a o h hw)⟩
variable {X:Wx}
set_option tactic.hygienic true
theorem aiJ{pl:Addr}{tree:List UInt8}{t:Nat}(q:bI (∀a d ae,σ a=none->σ d=none->bP ae a 609 d [(185,.loc pl),(87,.bytes tree),(45,.int t)]->aF aS σ ae->Q (.loc a) ae)):eV 609 Gd [.loc pl,.bytes tree,.int t] [] σ Q:=
 pM λa d ao na nd i1 P1=>df<|fF .var rfl i1 λay h2 p2=>fF .var rfl h2 λaQ h3 p3=>fF .var rfl h3 λbU h4 p4=>bp ⟨rfl,q.out a d bU na nd h4 (P1.sn ((p2.trans p3).trans p4) nd)⟩
theorem DR{ks:List (Nat×CV)}{k:Nat}(h:bB ks k=none):k∉ks.map (λx=>x.1):=λhm=>by
 refine a9 (dD.1 hm) λp hp e=>?_;unfold bB at h;rw[YJ,Lv]at h
 exact h p hp (by simpa using e)
theorem JT{ks:List (Nat×CV)}{k:Nat}{v:CV}(h:bB ks k=none):bY ks k v=ks++[(k,v)]:=by
 unfold bY;rw[if_neg];intro z;refine a9 (vv.1 z) λp hp e=>?_
 exact DR h (dD.2 ⟨p,hp,by simpa using e⟩)
theorem V2{ks:List (Nat×CV)}(hn:(ks.map (λx=>x.1)).Nodup)(hl:∀p∈ks,p.1<is.length):ks.length<=is.length:=by
 have:=oQ is.length (ks.map (λx=>x.1)) hn λx hx=>by
  refine a9 (dD.1 hx) λp hp aq=>?_;subst aq;exact hl p hp
 simpa using this
theorem Fn.list{σ:St}{a:Addr}{vs:List CV}{Q:CV->St->Prop}(h:σ a=some (.list vs))(hl:vs.length<=1000)(q:∀l ae,σ l=none->ae l=some (.list vs)->aF aS σ ae->Q (.loc l) ae):sH [.loc a] [] σ Q:=a1 (k:=.L) ⟨vs,.inl h,hl,cX q⟩
theorem xd{W:St}{T:Nat}{k:Nat}(h:WS X W σ T ls)(hk:k<X.is.length)
  (q:bI (∀W' ae a ad pl ti,Gw σ W W'->WS X W' ae T ls->JS X W' k a ad pl ti->aF (one X.kn) σ ae->Q (.loc a) ae)):rY [.loc X.wk,.bytes (dc X.is k)] [] σ Q:=by
 have hi:=h.f.inj;refine bF h.kn λks pX zT V3=>?_;have fr:=h.dk.fr;have wk:=h.f.wk.a7 fr
 refine yy λe fg V4=>fP (.cmp .var (.attr .var .ins) (.JI hi pX hk)) (λg=>?_) λg=>bp ?_
 ·have hg:bB ks k=none:=by
   cases e:bB ks k with
   |none=>rfl
   |some v=>rw[e]at g;exact eP g
  refine cz (h.f.ds hk) λD hD eR eT eC=>?_;have xf:X.is[k]?=some X.is[k]:=bS hk;obtain⟨c,cd,pl,al,ad,cl,iJ,el,ti,H⟩:=h.f.w.comm k _ D xf hD;have mq:=H.at_
  rw[<-show X.is.getD k 0=X.is[k] by rw[dG,xf];rfl]at mq
  have S:=h.f.S.p0 fr;have sh:DI σ X.is X.sh []:=⟨fr.at h.f.sh,λz h=>(cA h),dE _⟩;have hc:=H.c.a7 fr
  refine gO (.jA (.attr .var .ins) S.s.fi (.one .var) (JL S mq))<|cy<|show eH _ _ _ _ _ _ from(bM.to (.cmp .var (.attr .var .ins) (.iD hi sh hk)) (show(bB [] k:Option CV).isSome=false from rfl):bM _ _ _ false) _<|cu (.one (.attr .var .ins))<|Fn.list (fr.at H.p) (by rw[aZ,my,aZ];have:=h.f.kg k;rw[eR]at this;exact cB this rfl) λJU ao DB jo P1=>?_
  refine cz ((h.ext P1).fz jo (h.nx DB)) λW1 ip aiL h1 e1=>?_;have sQ:=hc.a7 P1;have V5:=(H.cm.a7 ip).a7 h1.dk.fr;refine vU<|cu (.three .var (.attr .var .ins) (.attr (.attr .var .ins) .ins))<|aiJ (t:=D.time) ⟨λa JV ay na uH ha P2=>?_⟩;refine cz ((h1.ext P2).sX ha (h1.nx na) (h1.nx uH)) λW2 cJ sU h2 e2=>?_;have G:=(qh ip DB e1).tr ((aiI cJ na uH e2).from P1)
  have wc:JS X W2 k a JV JU ti:=by
   refine⟨by rw[eT];exact sU,?_,by rw[eC];exact(H.t.ext ip λz z h=>h).ext cJ λz z h=>h⟩
   rw[cJ.at aiL,eR];unfold my;rw[dp];rfl
  have wk2:=h2.f.wk.a7 h2.dk.fr;have hl:=V2 zT pX.lt;have n4:=h.f.n4;refine bV (.attr .var (.ins wk2))<|bV .var<|JJ hi ((pX.a7 P1).a7 P2) hk (jT hl n4 rfl) λaQ h3 P3=>bp ?_
  have S3:WS X W2 aQ T ls:=by
   refine⟨h2.f,h2.dk.other P3 λa e=>by subst e;exact⟨h2.fk.2.1,h2.fk.2.2,h2.fk.1⟩,⟨_,h3,?_,λj v hj=>?_⟩,h2.lv.a7 P3 λe=>h2.sZ e.symm,h2.ln,h2.fk,h2.fl,h2.sZ⟩
   ·rw[JT hg,cR,nT]
    exact⟨zT,mN.2 ⟨rJ,.nil⟩,λa ha b hb e=>DR hg (by rw[<-show b=k from cL.1 hb,<-e];exact ha)⟩
   ·rw[uK]at hj
    split at hj
    ·rename_i e
     obtain rfl:=bt hj;rw[e]
     exact⟨a,JV,JU,ti,rfl,wc⟩
    ·exact(V3 j v hj).up (ip.trans cJ)
  have wk3:=S3.f.wk.a7 S3.dk.fr
  exact bX (.item (.attr .var .ins) .var (.id hi h3 hk (v:=.loc a) (by rw[uK,if_pos rfl]))) (q.out W2 aQ a JV JU ti G S3 wc ((P1.trans P2).pn P3))
 ·cases hg:bB ks k with
  |none=>rw[hg]at g;exact iR g
  |some v=>
   obtain⟨a,ad,pl,ti,rfl,H⟩:=V3 k v hg;exact bX (.item (.attr .var .ins) .var (.id hi pX hk hg)) (q.out W σ a ad pl ti (.refl _ _) h H (.refl _ _))
set_option tactic.hygienic false
theorem WS.iw{X:Wx}{W σ:St}{T:Nat}{ls:List Nat}(h:WS X W σ T ls):bP σ X.wk 958 X.wd (JR X.A.st X.sh X.kn X.lv):=h.f.wk.a7 h.dk.fr
theorem WS.inst{X:Wx}{W σ:St}{T:Nat}{ls:List Nat}(h:WS X W σ T ls)(hf:gN (JR X.A.st X.sh X.kn X.lv) i=none):r9 958 i (.loc X.wk) σ:=agQ h.iw.1 h.iw.2 hf
section
variable{X:Wx}{W σ:St}{T:Nat}{ls:List Nat}{k:Nat}{Q:CV->St->Prop}
theorem aiM(h:WS X W σ T ls)(hk:k<X.is.length)
  (q:bI (∀W' ae,Gw σ W W'->WS X W' ae T ls->aF (one X.kn) σ ae->Q (.int (X.time k)) ae)):yj [.loc X.wk,.bytes (dc X.is k)] [] σ Q:=
 df<|fE<|v7<|eX .var (h.inst rfl) (.one .var)<|xd h hk ⟨λW' ae a ad pl ti PW h' H P=>atK (.ins (H.i.a7 h'.dk.fr)) (q.out W' ae PW h' P)⟩
theorem aiN(h:WS X W σ T ls)(hk:k<X.is.length)
  (q:bI (∀W' ae ti,Gw σ W W'->WS X W' ae T ls->aF (one X.kn) σ ae->oO W' X.O ti (X.cnt k)->Q (.bytes (fT ti)) ae)):Gq [.loc X.wk,.bytes (dc X.is k)] [] σ Q:=
 df<|fE<|v7<|eX .var (h.inst rfl) (.one .var)<|xd h hk ⟨λW' ae a ad pl ti PW h' H P=>atK (.ins (H.i.a7 h'.dk.fr)) (q.out W' ae ti PW h' P H.t)⟩
theorem aiO(h:WS X W σ T ls)(hk:k<X.is.length)
  (q:bI (∀W' ae pl,Gw σ W W'->WS X W' ae T ls->aF (one X.kn) σ ae->W' pl=some (.list ((X.row k).map (cb X.is)))->Q (.loc pl) ae)):Gh [.loc X.wk,.bytes (dc X.is k)] [] σ Q:=by
 refine df<|fE<|j1<|dH<|v7<|eX .var (h.inst rfl) (.one .var)<|xd h hk ⟨λW' ae a ad pl ti PW h' H P=>atK (.ins (H.i.a7 h'.dk.fr))<|Fn.list (h'.dk.fr.at H.p) (by rw[aZ];exact aR (h.f.kg k) (by decide)) λl ay nl hl P2=>?_⟩
 refine cz ((h'.ext P2).fz hl (h'.nx nl)) λW2 cJ lH h2 e2=>?_
 exact q.out W2 ay l (PW.trans P (qh cJ nl e2) λa e=>by subst e;exact h2.fk.1) h2 (P.nx P2) lH
theorem aiP(h:WS X W σ T ls)(hk:k<X.is.length)
  (q:bI (∀W' ae pl,Gw σ W W'->WS X W' ae T ls->aF (one X.kn) σ ae->W' pl=some (.list ((X.row k).map (cb X.is)))->Q (.loc pl) ae)):Gk [.loc X.wk,.bytes (dc X.is k),.bool false] [] σ Q:=
 df<|cy<|v7<|eX .var (h.inst rfl) (.one .var)<|xd h hk ⟨λW' ae a ad pl ti PW h' H P=>atK (.ins (H.i.a7 h'.dk.fr))<|bX (.iff (.val .var) .var) (q.out W' ae pl PW h' P H.p)⟩
end
set_option tactic.hygienic true
noncomputable def uR(ls ks:List Nat):Nat:=match ks.getLast? with
 |none=>0
 |some t=>if t∈ls then 16 else 5*t
noncomputable def rj(n:Nat)(ls ks:List Nat):Nat:=16*(n- ls.length)+ks.length+uR ls ks
theorem JW{ls ks:List Nat}(h:∀k∈ks,k<4):uR ls ks<=16:=by
 unfold uR
 split
 ·exact dE _
 ·rename_i t e
  have:=h t (List.mem_of_getLast? e)
  split<;>(first |exact cP _ |exact cB (eN 5 (AE this)) rfl)
theorem V6(ls xs:List Nat)(t:Nat):uR ls (xs++[t])=if t∈ls then 16 else 5*t:=by
 unfold uR;rw[List.getLast?_concat]
theorem aiQ{α:Type}(xs:List α)(x:α)(h:xs.length<=1000):iW (xs++[x]) (-1)=some x:=by
 unfold iW
 rw[if_pos (by decide),if_neg (by decide),if_pos (by simp;exact ko.2 (nU _))]
 have:((-1:Int)+((xs++[x]).length:Int)).toNat=xs.length:=by simp;exact Zu _
 rw[this];simp
theorem It.last{σ:St}{vs:List CV}{v:CV}(h:σ a=some (.list (vs++[v])))(hl:vs.length<=1000):It (.loc a) (.int (-1)) σ v:=.pi (aiQ vs v hl) h
theorem JX{f:Nat->CV}{ls:List Nat}{k:Nat}:bB (ls.map λk=>(k,f k)) k=if k∈ls then some (f k)else none:=by
 induction ls with
 |nil=>rfl
 |cons j ls ih=>
  unfold bB at ih ⊢;rw[gC,rM]
  by_cases e:j=k
  ·simp[e]
  ·have:¬k=j:=λz=>e z.symm
   simp only[e,decide_false,eO,this,false_or];exact ih
theorem foldl_max(l:List Nat):∀m,m<=l.foldl max m/\(∀x∈l,x<=l.foldl max m)/\(l.foldl max m=m\/l.foldl max m∈l):=by
 induction l with
 |nil=>intro m;simp
 |cons a l ih=>
  intro m;refine pq (ih (max m a)) λh1 h2 h3=>?_;rw[km]
  refine⟨aR (Nat.le_max_left ..) h1,λx hx=>?_,?_⟩
  ·rcases eO.1 hx with rfl |hx
   ·exact aR (Nat.le_max_right ..) h1
   ·exact h2 x hx
  ·rcases h3 with h3 |h3
   ·by_cases g:a<=m
    ·left;exact h3.trans (Nat.max_eq_left g)
    ·right;rw[h3];simp;left;exact Nat.max_eq_right (Nat.le_of_not_le g)
   ·right;simp[h3]
theorem WS.aiR{X:Wx}{W σ:St}{T:Nat}{ls:List Nat}{k:Nat}(h:WS X W σ T ls)(hk:k∉ls)(hl:DI ae X.is X.lv ((ls++[k]).map λk=>(k,.int (iu X.row k))))(p:aF (one X.lv) σ ae):WS X W ae T (ls++[k]):=by
 refine bF h.kn λks h1 h2 h3=>?_
 refine⟨h.f,h.dk.other p λa e=>by subst e;exact⟨h.fl.2.1,h.fl.2.2,h.fl.1⟩,⟨ks,h1.a7 p λe=>h.sZ e,h2,h3⟩,hl,?_,h.fk,h.fl,h.sZ⟩
 rw[nT]
 exact⟨h.ln,mN.2 ⟨rJ,.nil⟩,λa ha b hb e=>hk (by rw[<-cL.1 hb,<-e];exact ha)⟩
theorem WS.V7{X:Wx}{W σ:St}{T:Nat}{ls:List Nat}(h:WS X W σ T ls):∀k∈ls,k<X.is.length:=λk hk=>
 h.lv.lt (k,.int (iu X.row k)) (dD.2 ⟨k,hk,rfl⟩)
theorem WS.V8{X:Wx}{W σ:St}{T:Nat}{ls:List Nat}(h:WS X W σ T ls):ls.length<=X.is.length:=oQ _ _ h.ln h.V7
section
variable{X:Wx}{W σ:St}{T:Nat}{ls:List Nat}{k:Nat}{Q:CV->St->Prop}
theorem V9{f:Nat->CV}:(bB (ls.map λk=>(k,f k)) k).isSome=decide (k∈ls):=by
 rw[JX]
 split
 ·rename_i h;rw[decide_eq_true h];rfl
 ·rename_i h;rw[decide_eq_false h];rfl
theorem WS.iLv(h:WS X W σ T ls)(hk:k<X.is.length):Cm .In (.bytes (dc X.is k)) (.loc X.lv) σ (decide (k∈ls)):=V9 (k:=k)▸Cm.iD h.f.inj h.lv hk
theorem WS.aiS(h:WS X W σ T ls)(hk:k<X.is.length):Cm .NotIn (.bytes (dc X.is k)) (.loc X.lv) σ (!decide (k∈ls)):=V9 (k:=k)▸Cm.JI h.f.inj h.lv hk
theorem WS.Wa(h:WS X W σ T ls)(hk:k∈ls):It (.loc X.lv) (.bytes (dc X.is k)) σ (.int (iu X.row k)):=.id h.f.inj h.lv (h.V7 k hk) (by rw[JX,if_pos hk])
theorem WS.zU(h:WS X W σ T ls)(fg:e 78=some (.loc X.wk)):Ev (bf 156 (af 78)) e σ (.loc X.lv):=.attr (.var fg) (.ins h.iw)
theorem aiT{row:Nat->List Nat}(fh:∀k,∀j∈row k,j<k){m:Int}(h1:m∈(row k).map (λj=>(iu row j:Int))++[0])(h2:∀i∈(row k).map (λj=>(iu row j:Int))++[0],i<=m):1+m=(iu row k:Int):=by
 rw[aiH fh k];refine pq (foldl_max ((row k).map (iu row)) 0) λf1 f2 f3=>?_
 have a1:((((row k).map (iu row)).foldl max 0:Nat):Int)<=m:=by
  rcases f3 with f3 |f3
  ·rw[f3];exact h2 0 (kY _ (.head _))
  ·refine a9 (dD.1 f3) λj hj ej=>?_
   rw[<-ej];exact h2 _ (EJ _ (dD.2 ⟨j,hj,rfl⟩))
 have a2:m<=((((row k).map (iu row)).foldl max 0:Nat):Int):=by
  rcases fZ.1 h1 with h1 |h1
  ·refine a9 (dD.1 h1) λj hj aq=>?_;subst aq
   exact ko.2 (f2 _ (dD.2 ⟨j,hj,rfl⟩))
  ·rw[cL.1 h1];exact fY _
 exact congrArg (1+·) (Int.le_antisymm a2 a1)
theorem Wb{n t:Nat}{ls xs left:List Nat}{f:Nat->CV}(g:left.map f≠[])(hl:left.length<=4)(h:∀y∈left,y<t/\y∉ls):rj n ls (xs++[t]++left)<16*(n- ls.length)+(xs.length+1)+5*t:=by
 obtain⟨ys,y,rfl⟩:∃ys y,left=ys++[y]:=⟨left.dropLast,left.getLast (λz=>g (by rw[z];rfl)),(vi _).symm⟩
 refine xa (h y (kY _ (.head _))) λh1 h2=>?_;rw[bW,mH]at hl;unfold rj;rw[<-fK,V6,if_neg h2,bW,bW,bW,mH,mH]
 exact l2 hl (eN 5 h1) (by simp+arith only)
noncomputable def xg(X:Wx)(wa:Addr):Addr->Prop:=λa=>(a=X.kn\/a=X.lv)\/a=wa
theorem Gw.go{σ aQ W W3:St}{T:Nat}{ls:List Nat}{X:Wx}(g:Gw σ W W')(p:aF (xg X wa) σ ae)(g2:Gw ae W' W3)(h:WS X W3 aQ T ls)(nw:W3 wa=none):Gw σ W W3:=g.trans p g2 λa y=>by
 rcases y with(y |y) |y
 ·rw[y];exact h.fk.1
 ·rw[y];exact h.fl.1
 ·rw[y];exact nw
theorem aiU(h:WS X W σ T ls)(hk:k<X.is.length)
  (q:bI (∀W' ae cE,Gw σ W W'->WS X W' ae T cE->aF (two X.kn X.lv) σ ae->Q (.int (iu X.row k)) ae)):yk [.loc X.wk,.bytes (dc X.is k)] [] σ Q:=by
 have n4:=h.f.n4;refine yy λe fg V4=>cy<|dh (.one .var) λwa ao xh s6 P1=>?_;have nx:=h.nx xh
 have hm0:rj X.is.length ls [k]<=100:=by unfold rj;have:=JW (ls:=ls) (ks:=[k]) (λj hj=>by rw[cL.1 hj];exact ey hk n4);rw[mH];exact l2 (eN 16 (aR (A3 ..) n4)) this (by simp+arith only)
 refine pQ<|qG [51,185,57] (λf w ae=>f<=100/\∃W' cE ks,rj X.is.length cE ks<=f/\(∀j∈ks,j<X.is.length)/\(k∈cE\/k∈ks)/\ae wa=some (.list (ks.map (cb X.is)))/\Gw σ W W'/\W' wa=none/\WS X W' ae T cE/\aF (xg X wa) σ ae)
  ⟨hm0,W,ls,[k],cP _,λj hj=>by rw[cL.1 hj];exact hk,.inr (.head _),s6,.refl _ _,h.dk.nw xh,h.ext P1,P1.mono λw h=>h.elim⟩ λf e' ae s z V hV=>?_
 obtain⟨hf,W',cE,ks,hm,pX,DS,s6,PW,nw,h',P⟩:=z;have fg:e' 78=some (.loc X.wk):=s.rd (j:=78) fg rfl;have rm:e' 191=some (.loc wa):=s.rd (j:=191) rfl rfl
 refine PV .var s6 (λh0 ay P2=>?_) λh0 ay P2=>?_
 ·obtain⟨xs,t,rfl⟩:∃xs t,ks=xs++[t]:=⟨ks.dropLast,ks.getLast (λz=>h0 (by rw[z];rfl)),(vi _).symm⟩
  have rp:=P2.at s6;have h2:=h'.ext P2;have P:=P.nx P2;have ht:t<X.is.length:=pX t (kY _ (.head _));have wN:∀j∈xs,j<X.is.length:=λj hj=>pX j (EJ _ hj);have tw:=V6 cE xs t;have aiV:=h2.V8;have tx:uR cE xs<=16:=JW λj hj=>ey (wN j hj) n4;have oS:=hm;unfold rj at oS;rw[bW,mH,tw]at oS
  have DT:xs.length<=100:=by exact l2 hf oS (by simp+arith only)
  have aiW:t∈cE->k∈cE\/k∈xs:=λfU=>DS.elim .inl λg=>(fZ.1 g).elim .inr λg=>by rw[cL.1 g];exact .inl fU
  rw[cR]at rp
  refine gO (.item .var (.neg .val) (.last (v:=cb X.is t) rp (by rw[aZ];exact cB DT rfl))) ?_
  refine fP (.cmp .var (h2.zU fg) (h2.iLv ht)) (λg=>?_) λg=>bp ?_
  ·have fU:=of_decide_eq_true g
   rw[if_pos fU]at oS
   refine iA<|pL .var ⟨_,_,rfl,rp⟩ .nil<|BZ rp (by rw[aZ];exact lz DT rfl) λaQ DU u=>Hl<|hV ?_ ⟨?_,W',cE,xs,cP _,wN,aiW fU,DU,PW,nw,h2.sY u λa e=>by cases e;exact⟨⟨nx.d,nx.c,nw⟩,nx.kn,nx.lv⟩,P.trans (u.mono λw=>.inr)⟩
   all_goals
    unfold rj
    (first |(refine l2 tx oS ?_;simp+arith only;done) |exact l3 hf tx oS (by simp+arith only))
  ·have fU:=of_decide_eq_false g
   rw[if_neg fU]at oS;refine cy<|v7<|eX (.var fg) (h2.inst rfl) (.one .var)<|xd h2 ht ⟨λW3 aQ a ad pl ti dU h3 H P3=>atK (.ins (H.i.a7 h3.dk.fr)) ?_⟩;have jo:=h3.dk.fr.at H.p;have DU:=P3.at rp (λe=>nx.kn e);have DV:=dU.n wa _ rp nw;have G3:=PW.go P dU h3 DV;have P3:=P.trans (P3.mono λa e=>.inl (.inl e));have mC:=h3.f.fh t;have cI:=h3.f.kg t;have zV:∀j∈X.row t,j<X.is.length:=λj hj=>jQ (mC j hj) ht
   have zW:(X.row t).length<=1000:=aR cI (by decide)
   have Wc:∀a,one wa a->(a≠X.d/\a≠X.c/\W3 a=none)/\a≠X.kn/\a≠X.lv:=λa e=>by cases e;exact⟨⟨nx.d,nx.c,DV⟩,nx.kn,nx.lv⟩
   refine cy<|Hv (cb X.is) (λj=>!decide (j∈cE)) (cb X.is) (.li .var jo) zW (λj hj ce s hv=>⟨.cmp .var (h3.zU (s.rd (j:=78) fg rfl)) (h3.aiS (zV j hj)),λw=>.var⟩) λla bU lP c6 P4=>?_;have zX:∀j∈(X.row t).filter (λj=>!decide (j∈cE)),j∈X.row t/\j∉cE:=λj hj=>⟨(rK.1 hj).1,of_decide_eq_false (mK _▸(rK.1 hj).2)⟩
   have sM:(X.row t).filter (λj=>!decide (j∈cE))=[]->∀j∈X.row t,j∈cE:=λz j hj=>YF λy=>by
    have:=Ln.1 z j hj;rw[decide_eq_false y]at this;exact this rfl
   have JY:((X.row t).filter (λj=>!decide (j∈cE))).length<=4:=aR (EH _ _) cI;generalize(X.row t).filter (λj=>!decide (j∈cE))=left at*
   refine B0 .var c6 (λg fH P5=>?_) λg fH P5=>bp ?_
   ·have Wd:=P5.at (P4.at DU)
    refine iA<|pL (.var rm) ⟨_,_,rfl,Wd⟩ (.one .var)<|exK Wd (P5.at c6) (by rw[bW,aZ,aZ,aZ,mH];exact l2 DT JY (by simp+arith only)) λfI aiX u=>Hl<|hV ?_ ⟨?_,W3,cE,xs++[t]++left,cP _,?_,?_,by rw[aiX,cR,cR],G3,DV,((h3.ext P4).ext P5).sY u Wc,((P3.nx P4).nx P5).trans (u.mono λw=>.inr)⟩
    ·exact ey (Wb g JY λy hy=>⟨mC y (zX y hy).1,(zX y hy).2⟩) oS
    ·exact aR (iQ (Wb g JY λy hy=>⟨mC y (zX y hy).1,(zX y hy).2⟩)) (aR oS hf)
    ·exact λj hj=>(fZ.1 hj).elim (pX j) λhj=>zV j (zX j hj).1
    ·exact DS.imp id λg=>EJ _ g
   ·have hl0:left=[]:=xG.1 g
    have h5:=(h3.ext P4).ext P5;have sM:=sM hl0;refine vU<|pK .val<|j1<|dH<|lA<|md (cb X.is) (λj=>nI (iu X.row j)) (.li .var (P5.at (P4.at jo))) zW (λj hj ce s hv=>.item (h5.zU (s.rd (j:=78) fg rfl)) .var (h5.Wa (sM j hj))) λl1 fI We j8 P6=>?_
    refine dh (.one .val) λl2 nF Wf lH P7=>PN (P7.at j8) lH (by rw[aZ];exact qn (aR cI (by decide))) λl3 sS nl3 zG P8=>mxK (is:=(X.row t).map (λj=>(iu X.row j:Int))++[0]) (by rw[zG,cR,dp];rfl) (by rw[bW];exact nU _) λm V5 hm2=>gQ .add ?_
    rw[aiT h5.f.fh V5 hm2];have JZ:=(P6.trans P7).trans P8;have h8:=h5.ext JZ
    refine bV (h8.zU fg)<|bV .var<|JJ h8.f.inj h8.lv ht (by rw[aZ];exact jT aiV n4 rfl) λuI h9 zY=>?_
    rw[JT (by rw[JX,if_neg fU])]at h9
    have S9:=h8.aiR fU (by rw[cR];exact h9) zY
    have Wg:=zY.at (JZ.at (P5.at (P4.at DU))) (λe=>nx.lv e);have J0:=S9.V8;have Wh:uR (cE++[t]) xs<=16:=JW λj hj=>ey (wN j hj) n4;rw[bW,mH]at J0
    refine iA<|pL (.var rm) ⟨_,_,rfl,Wg⟩ .nil<|BZ Wg (by rw[aZ];exact lz DT rfl) λDC aiY u=>bp<|hV ?_ ⟨?_,W3,cE++[t],xs,cP _,wN,?_,aiY,G3,DV,S9.sY u Wc,((((P3.nx P4).nx P5).nx JZ).trans (zY.mono λa e=>.inl (.inr e))).trans (u.mono λw=>.inr)⟩
    ·unfold rj;rw[bW,mH];exact Internal.l3 oS (eN 16 (Mt J0)) Wh (by simp+arith only)
    ·unfold rj;rw[bW,mH];exact Internal.l4 oS hf (eN 16 (Mt J0)) Wh (by simp+arith only)
    ·exact DS.elim (λg=>.inl (EJ _ g)) λg=>(fZ.1 g).elim .inr λg=>.inl (kY _ g)
 ·have h0:ks=[]:=xG.1 h0
  subst h0;have h2:=h'.ext P2
  exact bX (.item (h2.zU fg) (.var (s.rd (j:=21) V4 rfl)) (h2.Wa (DS.resolve_right rJ))) (q.out W' ay cE PW h2 λa o e n=>(P.nx P2).at e λx=>x.elim n λx=>by rw[x,xh]at e;exact bo e)
end
structure DF(σ:St)(is:List Nat)(a:Addr)(f:Nat->Option CV):Prop where
 ex:∃l,DI σ is a l/\(l.map (λx=>x.1)).Nodup/\∀k,bB l k=f k
noncomputable def eM{α:Type}(f:Nat->Option α)(k:Nat)(v:α):Nat->Option α:=λj=>if j=k then some v else f j
theorem DF.a7{f:Nat->Option CV}(h:DF σ is a f)(p:aF Y σ ae)(n:autoParam (¬Y a) aX):DF ae is a f:=by
 refine bF h.ex λl h1 h2 h3=>?_;exact⟨l,h1.a7 p n,h2,h3⟩
theorem DF.there{f:Nat->Option CV}(h:DF σ is a f):∃es,σ a=some (.dB es):=by
 refine bF h.ex λl h1 h2 h3=>?_;exact⟨_,h1.at_⟩
theorem DW(h:σ a=some (.dB [])):DF σ is a λz=>none:=⟨[],⟨h,λz h=>(cA h),by simp⟩,E8,λz=>rfl⟩
theorem DF.congr{f g:Nat->Option CV}(h:DF σ is a f)(e:∀k,f k=g k):DF σ is a g:=by
 refine bF h.ex λl h1 h2 h3=>?_;exact⟨l,h1,h2,λk=>(h3 k).trans (e k)⟩
theorem Cm.DX{a k:Nat}{f:Nat->Option CV}(hi:Inj is)(h:DF σ is a f)(hk:k<is.length):Cm .NotIn (.bytes (dc is k)) (.loc a) σ (!(f k).isSome):=by
 refine bF h.ex λl h1 h2 h3=>?_;exact h3 k▸Cm.JI hi h1 hk
theorem Cm.iF{a k:Nat}{f:Nat->Option CV}(hi:Inj is)(h:DF σ is a f)(hk:k<is.length):Cm .In (.bytes (dc is k)) (.loc a) σ (f k).isSome:=by
 refine bF h.ex λl h1 h2 h3=>?_;exact h3 k▸Cm.iD hi h1 hk
theorem It.df{a k:Nat}{f:Nat->Option CV}{v:CV}(hi:Inj is)(h:DF σ is a f)(hk:k<is.length)(hv:f k=some v):It (.loc a) (.bytes (dc is k)) σ v:=by
 refine bF h.ex λl h1 h2 h3=>?_;exact .id hi h1 hk (by rw[h3];exact hv)
theorem Wj{l:List (Nat×CV)}{k:Nat}{v:CV}(h:(l.map (λx=>x.1)).Nodup):((bY l k v).map (λx=>x.1)).Nodup:=by
 by_cases g:bB l k=none
 ·rw[JT g,cR,nT]
  exact⟨h,mN.2 ⟨rJ,.nil⟩,λa ha b hb e=>DR g (by rw[<-show b=k from cL.1 hb,<-e];exact ha)⟩
 ·unfold bY
  rw[if_pos]
  ·have:(l.map λkv=>if kv.1=k then(kv.1,v)else kv).map (λx=>x.1)=l.map (λx=>x.1):=by
    rw[dp];refine pd λp hp=>?_;simp only[Mi]
    split<;>rfl
   rw[this];exact h
  ·unfold bB at g
   rw[YJ,Lv]at g;rw[vv];refine Classical.byContradiction λz=>g λx hx e=>z ⟨x,hx,e⟩
theorem xi{a k:Nat}{f:Nat->Option CV}{v:CV}{P:St->Prop}(hi:Inj is)(n4:is.length<=4)(h:DF σ is a f)(hk:k<is.length)(q:∀ae,DF ae is a (eM f k v)->aF (one a) σ ae->P ae):ly (.loc a) (.bytes (dc is k)) v σ P:=by
 refine bF h.ex λl h1 h2 h3=>?_
 exact JJ hi h1 hk (aR (V2 h2 h1.lt) (aR n4 (by decide))) λae h' P=>q ae ⟨_,h',Wj h2,λj=>by rw[uK,h3];rfl⟩ P
structure PS where
 w:List Nat
 o:List Nat
 f:Nat->Option Nat
noncomputable def PS.put(s:PS)(k m:Nat):PS:=match s.f k with
 |none=>⟨s.w++[k],s.o,eM s.f k m⟩
 |some m'=>⟨s.w,s.o,eM s.f k (m' |||m)⟩
noncomputable def PS.rq(s:PS)(k:Nat):List Nat->PS
 |[]=>s
 |p::ps=>match s.f k with
  |some (m+1)=>PS.rq (s.put p (m+1)) k ps
  |_=>PS.rq s k ps
noncomputable def PS.step(row:Nat->List Nat)(s:PS):PS:=
 let k:=kW (λj=>(iu row j:Int)) s.w
 PS.rq ⟨s.w.filter (·≠k),s.o++[k],s.f⟩ k (row k)
noncomputable def PS.run(row:Nat->List Nat):Nat->PS->PS
 |0,s=>s
 |n+1,s=>if s.w=[]then s else PS.run row n (s.step row)
noncomputable def PS.begin(s:PS):List (Nat×Nat)->PS
 |[]=>s
 |p::ps=>PS.begin (s.put p.1 p.2) ps
structure PS.Ok(s:PS)(n:Nat):Prop where
 nd:s.w.Nodup
 lt:∀k∈s.w,k<n/\(s.f k).isSome=true
 m:∀k m,s.f k=some m->m<4
theorem PS.Ok.put{s:PS}{n k m:Nat}(h:s.Ok n)(hk:k<n)(hm:m<4):(s.put k m).Ok n:=by
 unfold PS.put
 have key:∀(v:Nat),v<4->∀j u,eM s.f k v j=some u->u<4:=λv hv j u e=>by
  unfold eM at e
  split at e
  ·obtain rfl:=bt e;exact hv
  ·exact h.m j u e
 have Wl:∀v,∀j∈s.w,j<n/\(eM s.f k v j).isSome=true:=λv j hj=>⟨(h.lt j hj).1,by
  unfold eM;split
  ·rfl
  ·exact(h.lt j hj).2⟩
 split
 ·rename_i e
  refine⟨?_,λj hj=>?_,key m hm⟩
  ·show(s.w++[k]).Nodup
   rw[nT]
   refine⟨h.nd,by simp,λa ha b hb z=>?_⟩
   have:=(h.lt a ha).2;simp at hb;rw[z,hb,e]at this
   exact eP this
  ·rcases fZ.1 hj with hj |hj
   ·exact Wl m j hj
   ·rw[cL.1 hj]
    exact⟨hk,by simp[eM]⟩
 ·rename_i m' e
  have:=h.m k m' e
  have hor:∀a,a<4->∀b,b<4->a |||b<4:=by decide
  exact⟨h.nd,Wl _,key _ (hor _ this _ hm)⟩
theorem PS.Ok.J1{s:PS}{n k:Nat}(h:s.Ok n)(n4:n<=4)(hk:k<n)(hf:s.f k=none):s.w.length<=3:=by
 have:=oQ n (s.w++[k]) (by
  rw[nT]
  refine⟨h.nd,by simp,λa ha b hb z=>?_⟩
  have:=(h.lt a ha).2;simp at hb;rw[z,hb,hf]at this
  exact eP this) λj hj=>by
   rcases fZ.1 hj with hj |hj
   ·exact(h.lt j hj).1
   ·rw[cL.1 hj];exact hk
 simp at this;exact l2 n4 this (by simp+arith only)
set_option tactic.hygienic false
structure Mx(fa oa q qd l:Addr)(a:Addr):Prop where
 or:a=fa\/a=oa\/a=qd\/a=l
structure PT(X:Wx)(t:Nat->Int)(vf:Nat->CV)(W0 bL W σ:St)(T:Nat)(fa oa q qd l:Addr)(s:PS):Prop where
 ws:∃ls,WS X W σ T ls
 fl:DF σ X.is fa λk=>(s.f k).map vf
 od:σ oa=some (.list (s.o.map (cb X.is)))
 qs:∃b9,QS σ X.is q qd l t b9 s.w
 ok:s.Ok X.is.length
 gw:Gw bL W0 W
 pr:aF (λa=>a=X.kn\/a=X.lv\/Mx fa oa q qd l a) bL σ
 nw:∀a,Mx fa oa q qd l a\/a=q->W a=none/\Nx X a
 ne:oa≠l
theorem PT.lift{W:St}{T:Nat}{q:Addr}{s:PS}(h:PT X t vf W0 bL W σ T fa oa q qd l s)(g:Gw σ W W1)(w:WS X W1 ao T ls)(p:aF (two X.kn X.lv) σ ao):PT X t vf W0 bL W1 ao T fa oa q qd l s:=by
 have nn:∀a,Mx fa oa q qd l a\/a=q->¬two X.kn X.lv a:=λa m x=>by
  have:=(h.nw a m).2
  rcases x with x |x
  ·exact this.kn x
  ·exact this.lv x
 refine xe h.qs λb9 Q=>?_;obtain⟨c,iq,vs,il⟩:=Q.inst;refine xe h.fl.there λes ef=>?_
 have nw:∀a,Mx fa oa q qd l a\/a=q->W1 a=none/\Nx X a:=λa m=>by
  refine⟨?_,(h.nw a m).2⟩;have hw:=(h.nw a m).1
  rcases m with⟨rfl |rfl |rfl |rfl⟩ |rfl
  ·exact g.n _ _ ef hw
  ·exact g.n _ _ h.od hw
  ·exact g.n _ _ iq.2 hw
  ·exact g.n _ _ il hw
  ·exact g.n _ _ iq.1 hw
 refine⟨⟨ls,w⟩,h.fl.a7 p (nn _ (.inl ⟨.inl rfl⟩)),p.at h.od (nn _ (.inl ⟨.inr (.inl rfl)⟩)),⟨b9,Q.a7 p (nn _ (.inr rfl)) (nn _ (.inl ⟨.inr (.inr (.inl rfl))⟩)) (nn _ (.inl ⟨.inr (.inr (.inr rfl))⟩))⟩,h.ok,h.gw.trans h.pr g λa y=>?_,h.pr.trans (p.mono λa x=>x.elim .inl λx=>.inr (.inl x)),nw,h.ne⟩
 rcases y with rfl |rfl |m
 ·exact w.fk.1
 ·exact w.fl.1
 ·exact(nw a (.inl m)).1
theorem PT.mut{W:St}{T:Nat}{q:Addr}{s s':PS}(h:PT X t vf W0 bL W σ T fa oa q qd l s)(p:aF Y σ ao)(hY:∀a,Y a->Mx fa oa q qd l a)
  (fl:DF ao X.is fa λk=>(s'.f k).map vf)(od:ao oa=some (.list (s'.o.map (cb X.is))))(qs:∃b9,QS ao X.is q qd l t b9 s'.w)(ok:s'.Ok X.is.length):PT X t vf W0 bL W ao T fa oa q qd l s':=by
 refine xe h.ws λls w=>?_;refine⟨⟨ls,w.sY p λa y=>?_⟩,fl,od,qs,ok,h.gw,h.pr.trans (p.mono λa y=>.inr (.inr (hY a y))),h.nw,h.ne⟩;refine xa (h.nw a (.inl (hY a y))) λn1 n2=>?_;exact⟨⟨n2.d,n2.c,n1⟩,n2.kn,n2.lv⟩
structure PT.Ne(fa oa q qd l:Addr):Prop where
 fo:fa≠oa
 fq:fa≠q
 fd:fa≠qd
 fl:fa≠l
 oq:oa≠q
 od:oa≠qd
 ol:oa≠l
theorem PT.q5{W:St}{T:Nat}{q:Addr}{s:PS}(h:PT X t vf W0 bL W σ T fa oa q qd l s):PT.Ne fa oa q qd l:=by
 refine xe h.qs λb9 Q=>?_;obtain⟨c,iq,vs,il⟩:=Q.inst;refine xe h.fl.there λes ef=>?_;have od:=h.od
 refine⟨λe=>?_,λe=>?_,λe=>?_,λe=>?_,λe=>?_,λe=>?_,h.ne⟩
 ·rw[e,od]at ef;cases ef
 ·rw[e,iq.1]at ef;cases ef
 ·rw[e,iq.2]at ef;cases ef
 ·rw[e,il]at ef;cases ef
 ·rw[e,iq.1]at od;cases od
 ·rw[e,iq.2]at od;cases od
noncomputable abbrev s7(X:Wx):=PT X (λj=>(iu X.row j:Int)) λm=>.int (m:Nat)
theorem Wm:∀a,a<4->∀b,b<4->Md ((a:Nat):Int) ((b:Nat):Int)=((a |||b:Nat):Int):=by decide+kernel
theorem Wn{W:St}{T:Nat}{q:Addr}{s:PS}{v k m:Nat}{K:dy->aL->St->Prop}(h:s7 X W0 bL W σ T fa oa q qd l s)(hk:k<X.is.length)(hm:m<4)(n4:X.is.length<=4)(hi:Inj X.is)
  (ev:e v=some (cb X.is k))(Wo:e 116=some (.int m))(uS:e 109=some (.loc fa))(J2:e 123=some (.loc q))(fg:e 78=some (.loc X.wk))
  (z:∀W' ae,aF aS W W'->s7 X W0 bL W' ae T fa oa q qd l (s.put k m)->K .next e ae):
  ah (bC (aT .NotIn (af v) (af 109)) (ah (cw (bN 588 26 qB (af 123) (ag (bN 958 114 yk (af 78) (ag (af v) ar)) (ag (af v) ar)))) (ah (aP (au (.int 0)) (dg (af 109) (af v))) az)) az) (ah (aP (be .BitOr (bc (af 109) (af v)) (af 116)) (dg (af 109) (af v))) az) e σ K:=by
 have N:=h.q5;refine xe h.qs λb9 Q=>?_
 cases hf:s.f k with
 |none=>
  have ep:s.put k m=⟨s.w++[k],s.o,eM s.f k m⟩:=by unfold PS.put;rw[hf]
  refine a9 Q.inst λc iq zz=>?_;refine xe h.ws λls w=>?_
  refine oB (.to (.cmp (.var ev) (.var uS) (.DX hi h.fl hk)) (by rw[hf];rfl))<|iA<|sj (.var J2) iq.fi<|jC<|eX (.var fg) (w.inst rfl) (.one (.var ev))<|aiU w hk ⟨λW1 ao jM g1 w1 P1=>dH<|bV (.var ev) ?_⟩
  have h1:=h.lift g1 w1 P1;refine xe h1.qs λaiZ Q1=>?_
  refine VZ Q1 (h.ok.J1 n4 hk hf) (λz=>by have:=(h.ok.lt k z).2;rw[hf]at this;exact eP this) rfl ⟨λay Q2 P2=>?_⟩
  refine lx .val (.var uS) (.var ev)<|xi hi n4 (h1.fl.a7 P2 (λx=>x.elim N.fd N.fl)) hk λaQ Wp P3=>bp<|lx (.bin (.item (.var uS) (.var ev) (.df hi Wp hk (v:=.int 0) (if_pos rfl))) (.var Wo) .or) (.var uS) (.var ev)<|xi hi n4 Wp hk λbU zZ P4=>bp<|z W1 bU g1.p ?_
  have e0:Md 0 ((m:Nat):Int)=((0 |||m:Nat):Int):=Wm 0 (by decide) m hm
  rw[e0,Nat.zero_or]at zZ;have P24:=(P2.mono λa x=>(⟨.inr (.inr x)⟩:Mx fa oa q qd l a)).trans ((P3.mono λa x=>⟨.inl x⟩).trans (P4.mono λa x=>⟨.inl x⟩))
  refine h1.mut P24 (λa y=>y) (zZ.congr λj=>?_) (by rw[ep];exact P4.at (P3.at (P2.at h1.od (λx=>x.elim N.od N.ol)) λx=>N.fo x.symm) λx=>N.fo x.symm) ⟨aiZ+1,?_⟩ (h.ok.put hk hm)
  ·rw[ep]
   show(if j=k then _ else if j=k then _ else _)=(if j=k then some m else s.f j).map _
   split<;>rfl
  ·rw[ep]
   exact(Q2.a7 P3 (λx=>N.fq x.symm) (λx=>N.fd x.symm) λx=>N.fl x.symm).a7 P4 (λx=>N.fq x.symm) (λx=>N.fd x.symm) λx=>N.fl x.symm
 |some m'=>
  have ep:s.put k m=⟨s.w,s.o,eM s.f k (m' |||m)⟩:=by unfold PS.put;rw[hf]
  refine e8 (.to (.cmp (.var ev) (.var uS) (.DX hi h.fl hk)) (by rw[hf];rfl))<|bp<|lx (.bin (.item (.var uS) (.var ev) (.df hi h.fl hk (v:=.int (m':Nat)) (by rw[hf];rfl))) (.var Wo) .or) (.var uS) (.var ev)<|xi hi n4 h.fl hk λbU zZ P4=>bp<|z W bU (.refl _ _) ?_
  rw[Wm m' (h.ok.m k m' hf) m hm]at zZ
  refine h.mut (P4.mono λa x=>(⟨.inl x⟩:Mx fa oa q qd l a)) (λa y=>y) (zZ.congr λj=>?_) (by rw[ep];exact P4.at h.od λx=>N.fo x.symm) ⟨b9,by rw[ep];exact Q.a7 P4 (λx=>N.fq x.symm) (λx=>N.fd x.symm) λx=>N.fl x.symm⟩ (h.ok.put hk hm)
  rw[ep]
  show(if j=k then _ else _)=(if j=k then some _ else s.f j).map _
  split<;>rfl
noncomputable def xj(is:List Nat)(b:Nat×Nat):CV:=.tup [cb is b.1,.int b.2]
noncomputable def gW:PS:=⟨[],[],λz=>none⟩
theorem xk{ks:List Nat}(h:ks≠[]):kW t ks∈ks:=by
 induction ks with
 |nil=>exact absurd rfl h
 |cons k ks=>
  have key:∀(l:List Nat) (b:Nat),l.foldl (λh j=>if t j>t h then j else h) b=b\/l.foldl (λh j=>if t j>t h then j else h) b∈l:=by
   intro l
   induction l with
   |nil=>intro b;exact .inl rfl
   |cons x l ih=>
    intro b;rw[km]
    rcases ih (if t x>t b then x else b)with e |e
    ·rw[e];split
     ·exact .inr (by simp)
     ·exact .inl rfl
    ·exact .inr (by simp[e])
  show(k::ks).foldl (λh j=>if t j>t h then j else h) k∈k::ks
  rcases key (k::ks) k with e |e
  ·rw[e];simp
  ·exact e
theorem z5(n:Nat):gW.Ok n:=⟨E8,λz h=>(cA h),λz z h=>(bo h)⟩
theorem PS.ai0{s:PS}{k m:Nat}(h:(s.f j).isSome=true):((s.put k m).f j).isSome=true:=by
 unfold PS.put
 split<;>simp only[eM]<;>split<;>first |rfl |exact h
theorem Wq(s:PS)(k m:Nat):(s.put k m).o=s.o:=by unfold PS.put;split<;>rfl
theorem Wr:∀(bs:List (Nat×Nat)) (s:PS),(PS.begin s bs).o=s.o
 |[],s=>rfl
 |b::bs,s=>by show(PS.begin (s.put b.1 b.2) bs).o=_;rw[Wr bs,Wq]
theorem J3(k:Nat):∀(ps:List Nat) (s:PS),(PS.rq s k ps).o=s.o
 |[],s=>rfl
 |p::ps,s=>by
  unfold PS.rq
  split
  ·rw[J3 k ps,Wq]
  ·rw[J3 k ps]
theorem ai1:Fn Bt [x,y] σ x:=λQ q=>df<|bX .var q
theorem ai2(q:Q x σ):Bt [x,y] [] σ Q:=ai1 _ q
theorem ai3{W:St}{T:Nat}{ba:Addr}{bs:List (Nat×Nat)}{R:PS}(h:WS X W σ T ls)(xm:W ba=some (.list (bs.map (xj X.is))))(CT:∀b∈bs,b.1<X.is.length/\b.2<4)
  (hR:PS.run X.row 5 (PS.begin gW bs)=R)(hw:R.w=[])
  (q:bI (∀W' ae cE oa fa,Gw σ W W'->WS X W' ae T cE->aF (two X.kn X.lv) σ ae->W' oa=some (.list (R.o.map (cb X.is)))->DF W' X.is fa (λk=>(R.f k).map λm=>.int (m:Nat))->Q (.tup [.loc oa,.loc fa]) ae)):
  Gi [.loc X.wk,.loc ba,.loc 627] [] σ Q:=by
 have n4:=h.f.n4;have hi:=h.f.inj;refine Pr λe fg e99 ai4=>Hh<|cX λfa ao qi mD P1=>dh .nil λoa ay nJ gA P2=>cu .nil<|VP ⟨λqa qd l aQ nq z6 nl HQ P3=>?_⟩
 have fresh:∀a,Mx fa oa qa qd l a\/a=qa->σ a=none:=λa m=>by
  rcases m with⟨rfl |rfl |rfl |rfl⟩ |rfl
  ·exact qi
  ·exact P1.no nJ
  ·exact P1.no (P2.no z6)
  ·exact P1.no (P2.no nl)
  ·exact P1.no (P2.no nq)
 have pt:s7 X W σ W aQ T fa oa qa qd l gW:=
  ⟨⟨ls,((h.ext P1).ext P2).ext P3⟩,DW (P3.at (P2.at mD)),P3.at gA,⟨0,VX HQ⟩,z5 _,.refl _ _,((P1.trans P2).trans P3).mono λd h=>h.elim,λa m=>⟨h.dk.nw (fresh a m),h.nx (fresh a m)⟩,gK nl gA⟩
 clear qi nJ nq z6 nl HQ P1 P2 P3 mD gA
 have qj:∀{W' ae s} {a:Addr} {o:CO},s7 X W σ W' ae T fa oa qa qd l s->W' a=some o->ae a=some o:=λpt hw=>by refine xe pt.ws λls w=>?_;exact w.dk.fr.at hw
 generalize oT:PS.begin gW bs=R0 at hR
 refine jD (.var e99) (qj pt xm) λok bw=>ac0 [21,116,111,163] (λb=>cb X.is b.1) (λb=>.int b.2) (λtl ae=>∃s W',(∀b∈tl,b.1<X.is.length/\b.2<4)/\PS.begin s tl=R0/\s7 X W σ W' ae T fa oa qa qd l s) ⟨gW,W,CT,oT,pt⟩ (λb tl e' ae s ev em z=>?_) λe' ae s' z=>?_
 ·refine jg z λs1 W' hb hs pt=>?_
  refine xa (hb b (.head _)) λb1 b2=>?_;exact⟨bw _ (qj pt (pt.gw.p.at xm)),λK kk=>Wn (v:=21) pt b1 b2 n4 hi ev em (s.rd (j:=109) rfl rfl) (s.rd (j:=123) rfl rfl) (s.rd (j:=78) fg rfl) λW2 ay d uT=>kk.nx ⟨s1.put b.1 b.2,W2,λb jn=>hb b (.tail _ jn),hs,uT⟩⟩
 refine jg z λs0 W' zz hs pt=>?_;refine⟨bw _ (qj pt (pt.gw.p.at xm)),?_⟩;have hs:s0=R0:=hs;subst hs
 have s8:s0.o.length+5=5:=by rw[<-oT,Wr];rfl
 clear bw oT;refine pQ<|qG [21,116,111,163] (λf d ae=>∃s W',s.o.length+f=5/\PS.run X.row f s=R/\s7 X W σ W' ae T fa oa qa qd l s) (n:=5) ⟨s0,W',s8,hR,pt⟩ λf e1 ao s1 z V hV=>?_;clear pt hR s8;refine jg z λs W1 ho hR pt=>?_;have N:=pt.q5;refine xe pt.qs λb9 Qs=>?_;refine a9 Qs.inst λcq iq zz=>?_;have g8:s.w.length<=4:=aR (oQ _ _ pt.ok.nd λk hk=>(pt.ok.lt k hk).1) n4;have sV:=s1;have s1:=s'.tr s1;have qg:e1 78=some (.loc X.wk):=s1.rd (j:=78) fg rfl;have ai5:e1 109=some (.loc fa):=s1.rd (j:=109) rfl rfl;have ai6:e1 119=some (.loc oa):=s1.rd (j:=119) rfl rfl;have J4:e1 123=some (.loc qa):=s1.rd (j:=123) rfl rfl;have ai7:e1 164=some (.loc 627):=s1.rd (j:=164) ai4 rfl
 refine sA (.cmp (.jA .var iq.fi .nil (VY Qs g8)) .val .gt) (λg=>?_) λg=>?_
 ·have h0:s.w≠[]:=λe=>by rw[e]at g;exact eP g
  induction f with
  |zero=>exact absurd (by rw[<-hR]at hw;exact hw) h0
  |succ f=>
  replace hR:=(if_neg h0).symm.trans hR
  have xn:=xk (t:=λj=>(iu X.row j:Int)) h0;refine cy<|eX .var iq.fi .nil<|V1 Qs g8 h0 ⟨λay Q1 P1=>?_⟩;unfold PS.step at hR;generalize kW (λj=>(iu X.row j:Int)) s.w=k at*;have ik:=(pt.ok.lt k xn).1
  refine su (cb X.is) k (.var ai6) .var (P1.at pt.od N.ol) (l1 (el ho) (by simp+arith only)) λaQ z7 u=>?_
  have uT:s7 X W σ W1 aQ T fa oa qa qd l ⟨s.w.filter (·≠k),s.o++[k],s.f⟩:=
   pt.mut (Y:=Mx fa oa qa qd l) ((P1.mono λa x=>⟨.inr (.inr (.inr x))⟩).trans (u.mono λa x=>⟨.inr (.inl x)⟩)) (λa y=>y) ((pt.fl.a7 P1 N.fl).a7 u N.fo) z7 ⟨_,Q1.a7 u (λx=>N.oq x.symm) (λx=>N.od x.symm) λx=>N.ol x.symm⟩ ⟨pt.ok.nd.filter _,λj hj=>pt.ok.lt j (rK.1 hj).1,pt.ok.m⟩
  have sP:=(pt.ok.lt k xn).2
  have iZ:(s.o++[k]).length+f=5:=by rw[bW,<-ho,AV,tC _ f];rfl
  clear u P1 Q1 z7;refine xe uT.ws λuU w2=>?_;refine ac1<|v7<|eX (.var qg) (w2.inst rfl) (.one .var)<|xd w2 ik ⟨λW3 bU a ad pl ti G3 w3 H P3=>atK (.ins (H.i.a7 w3.dk.fr)) ⟨_,_,rfl,.inl (w3.dk.fr.at H.p),?_⟩⟩;have J5:=uT.lift G3 w3 (P3.mono λa x=>.inl x);generalize xp:PS.rq _ k (X.row k)=R1 at hR
  refine Ht [116,111,163] (λidx e' ae=>∃s' mE,aF aS W3 mE/\PS.rq s' k ((X.row k).drop idx)=R1/\s7 X W σ mE ae T fa oa qa qd l s'/\(s'.f k).isSome=true) ⟨_,W3,.refl _ _,xp,J5,sP⟩ (λidx v e2 fH hv s2 z=>?_) λe2 fH s2 z=>?_
  ·refine xY z λs' mE PW cH gB DY=>?_
   refine⟨.inl (qj gB (PW.at H.p)),λK8 uV=>?_⟩;refine a9 (tg.1 (dM▸hv)) λp qb aq=>?_;obtain rfl:=aq;refine xe gB.ws λJ6 w4=>?_;have jG:=(iL.1 qb).1;have hp:=w4.f.fh k _ (tj qb);rw[Lf jG,(iL.1 qb).2]at cH;obtain⟨m,hm⟩:=Lh.1 DY;have hm4:=gB.ok.m k m hm;have Ws:=s2.rd (j:=109) ai5 rfl;have g21:=s2.rd (j:=21) (v:=cb X.is k) rfl rfl
   refine cy<|show Ih _ _ _ _ _ _ _ from⟨s2.rd (j:=164) ai7 rfl,elK (.two (.item (.var Ws) (.var g21) (.df hi gB.fl ik (v:=.int (m:Nat)) (by rw[hm];rfl))) .var) (ai2 ?_)⟩
   refine fP (.cmp .var .val .eq) (λg=>?_) λg=>bp ?_
   ·have m0:m=0:=AR (of_decide_eq_true g)
    subst m0;rw[PS.rq,hm]at cH
    exact Hl<|uV.ct ⟨s',mE,PW,cH,gB,DY⟩
   ·induction m with
    |zero=>exact absurd rfl (of_decide_eq_false g)
    |succ m=>
     rw[PS.rq,hm]at cH
     exact Wn (v:=163) (k:=p) (m:=m+1) gB (jQ hp ik) hm4 n4 hi rfl rfl Ws (s2.rd (j:=123) J4 rfl) (s2.rd (j:=78) qg rfl) λW5 fI lN z8=>uV.nx ⟨s'.put p (m+1),W5,PW.trans lN,cH,z8,PS.ai0 DY⟩
  ·refine xY z λs' mE PW cH gB DY=>?_
   rw[aZ,L1]at cH;have cH:s'=R1:=cH;subst cH
   exact⟨.inl (qj gB (PW.at H.p)),hV (kZ f) ⟨s',mE,by rw[<-xp,J3];exact iZ,hR,gB⟩ (sV.set.tr s2)⟩
 ·have h0:s.w=[]:=Av (YK λh=>of_decide_eq_false g (dN.2 h))
  have hs:s=R:=by
   induction f with
   |zero=>exact hR
   |succ f=>exact(if_pos h0).symm.trans hR
  subst hs;refine xe pt.ws λcE w=>?_;refine xe pt.fl.there λes ef=>?_;have nf:=pt.nw fa (.inl ⟨.inl rfl⟩);have no:=pt.nw oa (.inl ⟨.inr (.inl rfl)⟩);refine cz (w.fz ef nf.2) λW2 cJ g1 w1 u1=>?_;refine cz (w1.fz pt.od no.2) λW3 dU g2 w2 u2=>?_;have G:=(pt.gw.tr (qh cJ (fresh fa (.inl ⟨.inl rfl⟩)) u1)).tr (qh dU (fresh oa (.inl ⟨.inr (.inl rfl)⟩)) u2)
  refine bX (.tup (.two .var .var)) (q.out W3 ao cE oa fa G w2 (λa o ha hn=>pt.pr.at ha λx=>?_) g2 ?_)
  ·rcases x with x |x |m
   ·exact hn (.inl x)
   ·exact hn (.inr x)
   ·exact bo ((fresh a (.inl m)).symm.trans ha)
  ·refine bF pt.fl.ex λll f1 f2 f3=>?_
   rw[f1.at_]at ef;cases ef;exact⟨ll,⟨dU.at g1,f1.lt,f1.len⟩,f2,f3⟩
noncomputable def DZ(ws hs:List Nat):List (Nat×Nat):=ws.map (λk=>(k,1))++hs.map λk=>(k,2)
noncomputable def runOf(row:Nat->List Nat)(ws hs:List Nat):PS:=PS.run row 5 (PS.begin gW (DZ ws hs))
structure xq(row:Nat->List Nat)(n:Nat)(ws hs:List Nat):Prop where
 w:(runOf row ws hs).w=[]
 o:∀k∈(runOf row ws hs).o,k<n/\((runOf row ws hs).f k).isSome=true
 l:(runOf row ws hs).o.length<=100
noncomputable def z9(R:PS)(k:Nat):Option Nat:=if k∈R.o/\R.f k=some 1 then some 1 else none
noncomputable def qk(_:Nat):CV:=.bool true
theorem ai8{W:St}{T:Nat}{ws:List Nat}(h:WS X W σ T ls)(xr:∀k∈ws,k<X.is.length)(uW:∀k∈hs,k<X.is.length)(lw:ws.length<=10)(lh:hs.length<=10)(R:xq X.row X.is.length ws hs)
  (q:bI (∀W' ae cE sa,Gw σ W W'->WS X W' ae T cE->aF (two X.kn X.lv) σ ae->DF W' X.is sa (λk=>(z9 (runOf X.row ws hs) k).map qk)->Q (.loc sa) ae)):
  Gj [.loc X.wk,.tup (ws.map (cb X.is)),.tup (hs.map (cb X.is)),.bool false] [] σ Q:=by
 have n4:=h.f.n4;have hi:=h.f.inj
 refine df<|cy<|lA<|md (cb X.is) (λk=>xj X.is (k,1)) (.tu .var) (aR lw (by decide)) (λk u ce s hv=>.tup (.two .var .glob)) λl1 ao We j8 P1=>md (cb X.is) (λk=>xj X.is (k,2)) (.tu .var) (aR lh (by decide)) (λk u ce s hv=>.tup (.two .var .glob)) λl2 ay Wf lH P2=>
  PN (P2.at j8) lH (by rw[aZ,aZ];exact aR (gk lw lh) (by decide)) λba aQ Wt xm P3=>?_
 have P:=(P1.trans P2).trans P3;have Wu:=(P1.trans P2).no Wt;refine cz ((h.ext P).fz xm (h.nx Wu)) λW1 ip Wv h3 u1=>?_
 have eb:(ws.map λk=>xj X.is (k,1))++(hs.map λk=>xj X.is (k,2))=(DZ ws hs).map (xj X.is):=by
  unfold DZ;rw[cR,dp,dp];rfl
 rw[eb]at Wv
 have hb:∀b∈DZ ws hs,b.1<X.is.length/\b.2<4:=λb hb=>by
  rcases fZ.1 hb with hb |hb
  ·refine a9 (dD.1 hb) λk hk aq=>?_;subst aq;exact⟨xr k hk,(by decide:1<4)⟩
  ·refine a9 (dD.1 hb) λk hk aq=>?_;subst aq;exact⟨uW k hk,(by decide:2<4)⟩
 refine acW<|eX .var (h3.inst rfl) (.two .var (.iff (.val .var) .glob))<|ai3 (R:=runOf X.row ws hs) h3 Wv hb rfl R.w ⟨λW4 bU J6 oa fa G4 h4 P4 gA mD=>⟨_,rfl,rfl,cy<|cX λsa fH J7 Aa P5=>?_⟩⟩;have G:Gw σ W W4:=(qh ip Wu u1).trans P G4 λa x=>x.elim;have PP:=P.pn P4;clear j8 lH P1 P2 P3 We Wf Wt eb xm hb;have hRo:=R.o;generalize runOf X.row ws hs=RR at*;have uX:=h4.nx J7;have nsw:=h4.dk.nw J7;have A8:=PP.no J7 (λy=>y.elim uX.kn uX.lv)
 refine jD .var ((h4.ext P5).dk.fr.at gA) λok bw=>pO [21] (cb X.is) (λtl ae=>∃done,RR.o=done++tl/\DF ae X.is sa (λk=>(if k∈done/\RR.f k=some 1 then some 1 else none:Option Nat).map qk)/\WS X W4 ae T J6/\aF (xg X sa) σ ae)
  ⟨[],rfl,(DW Aa).congr λk=>(by rw[if_neg λz=>rJ z.1];rfl),h4.ext P5,(PP.nx P5).mono λa=>.inl⟩ (λj tl e' ae s hv z=>?_) λe' ae s z=>?_
 ·refine cz z λdone hd D w P'=>?_
  refine xa (hRo j (by rw[hd];exact kY _ (.head _))) λzV Ea=>?_
  obtain⟨m,hm⟩:=Lh.1 Ea;have D':=mD.a7 w.dk.fr
  have mem:∀{i:Nat} {P:Prop},i≠j->((i∈done++[j]/\P)↔(i∈done/\P)):=λn=>and_congr_left λu=>by rw[fZ,cL];exact or_iff_left n
  refine⟨bw _ (w.dk.fr.at gA),λK kk=>fP (.cmp (.item .var .var (.df hi D' zV (v:=.int (m:Nat)) (by rw[hm];rfl))) .glob .eq) (λg=>?_) λg=>?_⟩
  ·have m1:m=1:=AR (of_decide_eq_true g)
   subst m1
   refine lx .val .var .var<|xi hi n4 D zV λfI D6 P6=>oA<|kk.nx ⟨done++[j],by rw[hd,fK];rfl,D6.congr λi=>?_,w.sY P6 λa e=>by obtain rfl:=e.symm;exact⟨⟨uX.d,uX.c,nsw⟩,uX.kn,uX.lv⟩,P'.trans (P6.mono λa=>.inr)⟩
   show(if i=j then _ else _)=_
   by_cases ei:i=j
   ·rw[if_pos ei,ei,if_pos ⟨kY _ (.head _),hm⟩];rfl
   ·rw[if_neg ei];simp only[mem ei]
  ·have m1:m≠1:=λe=>of_decide_eq_false g (congrArg Int.ofNat e)
   refine bp<|bp<|kk.nx ⟨done++[j],by rw[hd,fK];rfl,D.congr λi=>?_,w,P'⟩
   by_cases ei:i=j
   ·rw[ei,if_neg λz=>m1 (bt (hm.symm.trans z.2)),if_neg λz=>m1 (bt (hm.symm.trans z.2))]
   ·simp only[mem ei]
 ·refine cz z λdone hd D w P'=>?_
  rw[fj]at hd;subst hd;refine bF D.ex λll f1 f2 f3=>?_;refine cz (w.fz f1.at_ uX) λW6 JA ai9 h6 u6=>?_
  exact⟨bw _ (w.dk.fr.at gA),bX .var (q.out W6 ae J6 sa (G.tr (qh JA A8 u6)) h6 (λa o ha hn=>P'.at ha λx=>x.elim hn λx=>by rw[x,A8]at ha;exact bo ha) ⟨ll,⟨ai9,f1.lt,f1.len⟩,f2,f3⟩)⟩
set_option tactic.hygienic true
noncomputable def dW(sh:Nat->Bool)(s:PS)(p:Nat):PS:=if sh p&&(s.f p).isNone then⟨s.w++[p],s.o,eM s.f p 1⟩else s
noncomputable def nK(row:Nat->List Nat)(t:Nat->Int)(sh:Nat->Bool)(s:PS):PS:=
 (row (kW t s.w)).foldl (dW sh) ⟨s.w.filter (·≠kW t s.w),s.o++[kW t s.w],s.f⟩
noncomputable def lR(row:Nat->List Nat)(t:Nat->Int)(sh:Nat->Bool):Nat->PS->PS
 |0,s=>s
 |n+1,s=>if s.w=[]then s else lR row t sh n (nK row t sh s)
theorem J8{row:Nat->List Nat}{n:Nat}{s:PS}(e:s.w=[]):lR row t sh (n+1) s=s:=if_pos e
theorem J9{row:Nat->List Nat}{n:Nat}{s:PS}(e:s.w≠[]):lR row t sh (n+1) s=lR row t sh n (nK row t sh s):=if_neg e
noncomputable def kh(row:Nat->List Nat)(t:Nat->Int)(sh:Nat->Bool)(a:Nat):PS:=lR row t sh 5 (dW sh gW a)
theorem Eb{s:PS}{n p:Nat}(h:s.Ok n)(hp:p<n):(dW sh s p).Ok n:=by
 unfold dW
 split
 ·rename_i g
  simp at g
  have:=h.put (k:=p) (m:=1) hp (by decide)
  unfold PS.put at this;rw[g.2]at this
  exact this
 ·exact h
noncomputable def oU(n:Nat)(s:PS):Nat:=s.w.length+((cS n).filter λk=>(s.f k).isNone).length
theorem Ww{f:Nat->Option Nat}{k:Nat}(hf:f k=none):∀(l:List Nat),l.Nodup->k∈l->(l.filter λj=>(eM f k 1 j).isNone).length+1=(l.filter λj=>(f j).isNone).length
 |[],_,h=>by exact cA h
 |j::l,hn,h=>by
  rw[mN]at hn
  by_cases e:j=k
  ·subst e
   have h1:l.filter (λi=>(eM f j 1 i).isNone)=l.filter λi=>(f i).isNone:=List.filter_congr λi hi=>by
    have:i≠j:=λe=>hn.1 (e▸hi);simp[eM,this]
   rw[EE (by simp[eM]),EF (by simp[hf]),h1,jP]
  ·have ih:=Ww hf l hn.2 ((eO.1 h).resolve_left λz=>e z.symm)
   by_cases g:(f j).isNone=true
   ·rw[EF (by simp[eM,e];simpa using g),EF (by simpa using g),jP,jP];exact congrArg Nat.succ ih
   ·rw[EE (by simp[eM,e];simpa using g),EE (by simpa using g)];exact ih
theorem Wy{s:PS}{n p:Nat}(hp:p<n):oU n (dW sh s p)=oU n s:=by
 unfold dW
 split
 ·rename_i g
  simp at g;have:=Ww g.2 (cS n) List.nodup_range (E9.2 hp);unfold oU;simp at this ⊢
  exact q1 this (by simp+arith only)
 ·rfl
theorem Wz{n:Nat}:∀(ps:List Nat) (s:PS),(∀p∈ps,p<n)->oU n (ps.foldl (dW sh) s)=oU n s
 |[],s,_=>rfl
 |p::ps,s,h=>by
  rw[km,Wz ps _ λq hq=>h q (.tail _ hq),Wy (h p (.head _))]
theorem WA{n:Nat}:∀(ps:List Nat) (s:PS),s.Ok n->(∀p∈ps,p<n)->(ps.foldl (dW sh) s).Ok n
 |[],s,h,_=>h
 |p::ps,s,h,hp=>WA ps _ (Eb h (hp p (.head _))) λq hq=>hp q (.tail _ hq)
theorem WB{k:Nat}:∀{l:List Nat},l.Nodup->k∈l->(l.filter (·≠k)).length+1=l.length
 |[],_,h=>by exact cA h
 |j::l,hn,h=>by
  rw[mN]at hn
  by_cases e:j=k
  ·subst e
   have:l.filter (·≠j)=l:=EK.2 λa ha=>by
    have:a≠j:=λe=>hn.1 (e▸ha);simpa using this
   rw[EE (by simp),this,jP]
  ·have ih:=WB hn.2 ((eO.1 h).resolve_left λz=>e z.symm)
   rw[EF (by simpa using e),jP,jP];exact congrArg Nat.succ ih
theorem WC{row:Nat->List Nat}{s:PS}{n:Nat}(h:s.Ok n)(hr:∀k,k<n->∀j∈row k,j<n)(h0:s.w≠[]):(nK row t sh s).Ok n/\oU n (nK row t sh s)+1=oU n s:=by
 have hp:=xk (t:=t) h0;have hn:=(h.lt _ hp).1;unfold nK;refine⟨WA _ _ ⟨h.nd.filter _,λj hj=>h.lt j (rK.1 hj).1,h.m⟩ (hr _ hn),?_⟩;rw[Wz _ _ (hr _ hn)];have:=WB h.nd hp;unfold oU;simp only at this ⊢
 exact q1 this (by simp+arith only)
theorem WD{row:Nat->List Nat}{n:Nat}(hr:∀k,k<n->∀j∈row k,j<n):∀(f:Nat) (s:PS),s.Ok n->oU n s<=f->(lR row t sh f s).w=[]/\(lR row t sh f s).Ok n
 |0,s,h,hp=>⟨Av (by unfold oU at hp;show s.w.length=0;exact Nat.le_zero.1 (l1 hp (by simp+arith only))),h⟩
 |f+1,s,h,hp=>by
  by_cases e:s.w=[]
  ·rw[J8 e];exact⟨e,h⟩
  ·rw[J9 e]
   refine xa (WC (t:=t) (sh:=sh) h hr e) λh1 h2=>?_
   exact WD hr f _ h1 (l2 hp (el h2) (by simp+arith only))
theorem WE{row:Nat->List Nat}{n a:Nat}(n4:n<=4)(ha:a<n)(hr:∀k,∀j∈row k,j<k):(kh row t sh a).w=[]:=by
 refine(WD (n:=n) (λk hk j hj=>by have:=hr k j hj;exact jQ this hk) 5 _ (Eb (z5 n) ha) ?_).1
 rw[Wy ha];unfold oU gW;have:=EH (λk=>((λz=>none:Nat->Option Nat) k).isNone) (cS n);simp at this ⊢;exact jT this n4 rfl
set_option tactic.hygienic false
noncomputable abbrev iK(X:Wx):Nat->Int:=λk=>(X.time k:Int)
noncomputable abbrev oV(X:Wx):=PT X (iK X) qk
theorem aja{k:Nat}(hi:Inj is)(n4:is.length<=4)(hk:k<is.length)(q:bI (∀ae a,σ a=none->ae a=some (.list [cb is k])->aF aS σ ae->Q (.loc a) ae)):Ge [.tup [cb is k]] [] σ Q:=by
 refine qE λe he=>vX<|cX λka ao Ec oW P1=>dh .nil λfa ay qi mD P2=>Hr (vs:=[cb is k]) .var ⟨trivial,?_⟩;have P:=P1.trans P2;have D:DF ay is ka λz=>none:=DW (P2.at oW);refine oB (.cmp .var .var (.DX hi D hk))<|lx .val .var .var<|xi hi n4 D hk λaQ D3 P3=>yH .var .var (P3.at mD (gK qi oW).symm) (dE _) λbU h4 P4=>oA ⟨trivial,bX .var (q.out _ fa (P1.no qi) h4 ((P.sn P3 Ec).sn P4 (P1.no qi)))⟩
theorem WG{W:St}{T:Nat}{q:Addr}{s:PS}{v p:Nat}{K:dy->aL->St->Prop}(h:oV X W0 bL W σ T fa oa q qd l s)(hk:p<X.is.length)(hf:s.f p=none)(n4:X.is.length<=4)(hi:Inj X.is)
  (ev:e v=some (cb X.is p))(e77:e 77=some (.loc fa))(J2:e 123=some (.loc q))(fg:e 78=some (.loc X.wk))
  (z:∀W' ae,aF aS W W'->oV X W0 bL W' ae T fa oa q qd l ⟨s.w++[p],s.o,eM s.f p 1⟩->K .next e ae):
  ah (aP (au (.bool true)) (dg (af 77) (af v))) (ah (cw (bN 588 26 qB (af 123) (ag (bN 958 45 yj (af 78) (ag (af v) ar)) (ag (af v) ar)))) az) e σ K:=by
 have N:=h.q5;refine lx .val (.var e77) (.var ev)<|xi hi n4 h.fl hk λao fl1 P1=>?_;refine xe h.qs λb9 Q=>?_
 have Ab:(⟨s.w++[p],s.o,eM s.f p 1⟩:PS).Ok X.is.length:=by
  have:=h.ok.put (k:=p) (m:=1) hk (by decide)
  unfold PS.put at this;rw[hf]at this;exact this
 have ajb:DF ao X.is fa λk=>(eM s.f p 1 k).map qk:=fl1.congr λj=>by
  show(if j=p then _ else _)=(if j=p then _ else _:Option Nat).map _
  split<;>rfl
 have Q1:=Q.a7 P1 (λx=>N.fq x.symm) (λx=>N.fd x.symm) λx=>N.fl x.symm
 have h1:oV X W0 bL W ao T fa oa q qd l ⟨s.w,s.o,eM s.f p 1⟩:=by
  refine h.mut (Y:=Mx fa oa q qd l) (P1.mono λa x=>⟨.inl x⟩) (λa y=>y) ajb (P1.at h.od λx=>N.fo x.symm) ⟨_,Q1⟩ ⟨h.ok.nd,λj hj=>⟨(h.ok.lt j hj).1,?_⟩,Ab.m⟩
  show(if j=p then some 1 else s.f j).isSome=true
  split
  ·rfl
  ·exact(h.ok.lt j hj).2
 refine xe h1.ws λjM w1=>?_;refine a9 Q1.inst λc iq zz=>?_;refine iA<|sj (.var J2) iq.fi<|jC<|eX (.var fg) (w1.inst rfl) (.one (.var ev))<|aiM w1 hk ⟨λW2 ay G2 w2 P2=>dH<|bV (.var ev) ?_⟩;have h2:=h1.lift G2 w2 (P2.mono λa x=>.inl x);refine xe h2.qs λalX Q2=>?_
 exact VZ Q2 (h.ok.J1 n4 hk hf) (λz=>by have:=(h.ok.lt p z).2;rw[hf]at this;exact eP this) rfl ⟨λaQ Q3 P3=>bp<|z W2 aQ G2.p<|h2.mut (Y:=Mx fa oa q qd l) (P3.mono λa x=>⟨.inr (.inr x)⟩) (λa y=>y) (h2.fl.a7 P3 (λx=>x.elim N.fd N.fl)) (P3.at h2.od (λx=>x.elim N.od N.ol)) ⟨_,Q3⟩ Ab⟩
theorem ajc{W:St}{T:Nat}{sa:Addr}{g:Nat->Option Nat}(h:WS X W σ T ls)(Aa:DF W X.is sa λk=>(g k).map qk)(ha:a<X.is.length)
  (q:bI (∀W' ae cE oa,Gw σ W W'->WS X W' ae T cE->aF (two X.kn X.lv) σ ae->W' oa=some (.list ((kh X.row (iK X) (λk=>(g k).isSome) a).o.map (cb X.is)))->Q (.loc oa) ae)):
  Gl [.loc X.wk,.tup [cb X.is a],.loc sa,.bool false] [] σ Q:=by
 have n4:=h.f.n4;have hi:=h.f.inj;have ry:=WE (t:=iK X) (sh:=λk=>(g k).isSome) n4 ha h.f.fh;refine df<|Hh<|cu .nil<|VP ⟨λqa qd l ao nq z6 nl HQ P1=>cX λfa ay qi mD P2=>dh .nil λoa aQ nJ gA P3=>?_⟩
 have fresh:∀a,Mx fa oa qa qd l a\/a=qa->σ a=none:=λa m=>by
  rcases m with⟨rfl |rfl |rfl |rfl⟩ |rfl
  ·exact P1.no qi
  ·exact P1.no (P2.no nJ)
  ·exact z6
  ·exact nl
  ·exact nq
 have pt:oV X W σ W aQ T fa oa qa qd l gW:=
  ⟨⟨ls,((h.ext P1).ext P2).ext P3⟩,DW (P3.at mD),gA,⟨0,((VX HQ).a7 P2).a7 P3⟩,z5 _,.refl _ _,((P1.trans P2).trans P3).mono λb h=>h.elim,λa m=>⟨h.dk.nw (fresh a m),h.nx (fresh a m)⟩,(gK nJ (P2.at HQ.l)).symm⟩
 clear qi nJ nq z6 nl HQ P1 P2 P3 mD gA;generalize hE:bA (bA (bA _ 110 _) 77 _) 123 _=E
 have WH:E 78=some (.loc X.wk):=by rw[<-hE];rfl
 have WI:E 77=some (.loc fa):=by rw[<-hE];rfl
 have Ed:E 110=some (.loc oa):=by rw[<-hE];rfl
 have WJ:E 123=some (.loc qa):=by rw[<-hE];rfl
 have Ac:E 126=some (.loc sa):=by rw[<-hE];rfl
 have ajd:E 251=some (.bool false):=by rw[<-hE];rfl
 have aje:E 170=some (.tup [cb X.is a]):=by rw[<-hE];rfl
 clear hE;refine wg<|cu (.one .var)<|aja hi n4 ha ⟨λbU la lP c6 P4=>iX c6 λok bw=>?_⟩
 obtain⟨W1,ip,WK,pt⟩:∃W1,aF aS W W1/\W1 la=some (.list [cb X.is a])/\oV X W σ W1 bU T fa oa qa qd l gW:=by
  refine xe pt.ws λxt w3=>?_;refine cz ((w3.ext P4).fz c6 (w3.nx lP)) λW1 ip g1 w1 u1=>?_;exact⟨W1,ip,g1,pt.lift (qh ip lP u1) w1 (P4.mono λb h=>h.elim)⟩
 have qj:∀{W' ae:St} {s:PS} {a:Addr} {o:CO},oV X W σ W' ae T fa oa qa qd l s->W' a=some o->ae a=some o:=λpt hw=>by refine xe pt.ws λls w=>?_;exact w.dk.fr.at hw
 have j3:∀{W' ae:St} {s:PS},aF aS W1 W'->oV X W σ W' ae T fa oa qa qd l s->DF ae X.is sa λk=>(g k).map qk:=λfV pt=>by
  refine xe pt.ws λcE w=>?_;exact(Aa.a7 (ip.trans fV)).a7 w.dk.fr
 have bs:∀{s:PS} {p:Nat},(g p).isSome=true->s.f p=none->dW (λk=>(g k).isSome) s p=⟨s.w++[p],s.o,eM s.f p 1⟩:=λ{s p} h1 h2=>if_pos (by show((g p).isSome&&(s.f p).isNone)=true;rw[h1,h2];rfl)
 have bn:∀{s:PS} {p:Nat},(g p).isSome=false\/(s.f p).isNone=false->dW (λk=>(g k).isSome) s p=s:=λ{s p} h=>if_neg (by show¬((g p).isSome&&(s.f p).isNone)=true;rw[rI];exact λz=>h.elim (λh=>by rw[h]at z;exact absurd z.1 gY) λh=>by rw[h]at z;exact absurd z.2 gY)
 have mi:∀{p:Nat},((g p).map qk).isSome=(g p).isSome:=λ{p}=>by cases g p<;>rfl
 clear P4 lP c6;unfold kh at ry q
 have s8:(dW (λk=>(g k).isSome) gW a).o.length+5=5:=by unfold dW;split<;>rfl
 generalize oT:dW (λk=>(g k).isSome) gW a=R0 at*
 refine pO (xs:=[a]) [21] (cb X.is) (λtl ae=>∃W' s,tl.length<=1/\(∀p∈tl,p<X.is.length/\s.f p=none)/\tl.foldl (dW λk=>(g k).isSome) s=R0/\aF aS W1 W'/\oV X W σ W' ae T fa oa qa qd l s)
  ⟨W1,gW,cP _,λp hp=>by rw[cL.1 hp];exact⟨ha,rfl⟩,oT,.refl _ _,pt⟩ (λp tl e' ae s hv z=>?_) λe' ae s' z=>?_
 ·refine mX z λW' s1 hl hp hs fV gB=>?_
  refine xa (hp p (.head _)) λWL uz=>?_;have fU:tl=[]:=Av (Nat.le_zero.1 (EG hl));subst fU;have D:=j3 fV gB;rw[km]at hs
  refine⟨bw _ (qj gB (fV.at WK)),λK kk=>fP (.cmp .var (.var (s.rd (j:=126) Ac rfl)) (.iF hi D WL)) (λhg=>?_) λhg=>?_⟩
  ·rw[mi]at hg
   rw[bs hg uz]at hs
   exact WG (v:=21) gB WL uz n4 hi hv (s.rd (j:=77) WI rfl) (s.rd (j:=123) WJ rfl) (s.rd (j:=78) WH rfl) λW5 fH lN z8=>show K .next _ _ from kk.nx ⟨W5,_,dE _,λb h=>(cA h),hs,fV.trans lN,z8⟩
  ·rw[mi]at hg
   rw[bn (.inl hg)]at hs;exact bp<|bp<|kk.nx ⟨W',s1,dE _,λb h=>(cA h),hs,fV,gB⟩
 refine mX z λW' s0 zz zz uY fV pt=>?_;have uY:s0=R0:=uY;subst uY;refine⟨bw _ (qj pt (fV.at WK)),?_⟩;generalize hR:lR X.row (iK X) (λk=>(g k).isSome) 5 s0=R at ry q;clear bw oT;refine pQ<|qG [21,163] (λf b ae=>∃s W',s.o.length+f=5/\lR X.row (iK X) (λk=>(g k).isSome) f s=R/\aF aS W1 W'/\oV X W σ W' ae T fa oa qa qd l s) (n:=5) ⟨s0,W',s8,hR,fV,pt⟩ λf e1 ao s1 z V hV=>?_;clear pt hR s8 fV;refine xY z λs W' ho hR fV pt=>?_;have N:=pt.q5;refine xe pt.qs λb9 Qs=>?_;refine a9 Qs.inst λcq iq zz=>?_;have g8:s.w.length<=4:=aR (oQ _ _ pt.ok.nd λk hk=>(pt.ok.lt k hk).1) n4;have rd:∀{j:Nat} {v:CV},E j=some v->[21].contains j=false->[21,163].contains j=false->e1 j=some v:=λh1 h2 h3=>s1.rd (s'.rd h1 h2) h3;have qg:=rd WH rfl rfl;have ajf:=rd Ed rfl rfl;have J4:=rd WJ rfl rfl
 refine sA (.cmp (.jA .var iq.fi .nil (VY Qs g8)) .val .gt) (λgl=>?_) λgl=>?_
 ·have h0:s.w≠[]:=λe=>by rw[e]at gl;exact eP gl
  induction f with
  |zero=>exact absurd (by rw[<-hR]at ry;exact ry) h0
  |succ f=>
  replace hR:=(if_neg h0).symm.trans hR
  have xn:=xk (t:=iK X) h0;refine cy<|eX .var iq.fi .nil<|V1 Qs g8 h0 ⟨λay Q1 P1=>?_⟩;unfold nK at hR;generalize kW (iK X) s.w=k at*;have ik:=(pt.ok.lt k xn).1
  refine su (cb X.is) k (.var ajf) .var (P1.at pt.od N.ol) (l1 (el ho) (by simp+arith only)) λaQ z7 u=>?_
  have uT:oV X W σ W' aQ T fa oa qa qd l ⟨s.w.filter (·≠k),s.o++[k],s.f⟩:=
   pt.mut (Y:=Mx fa oa qa qd l) ((P1.mono λa x=>⟨.inr (.inr (.inr x))⟩).trans (u.mono λa x=>⟨.inr (.inl x)⟩)) (λa y=>y) ((pt.fl.a7 P1 N.fl).a7 u N.fo) z7 ⟨_,Q1.a7 u (λx=>N.oq x.symm) (λx=>N.od x.symm) λx=>N.ol x.symm⟩ ⟨pt.ok.nd.filter _,λj hj=>pt.ok.lt j (rK.1 hj).1,pt.ok.m⟩
  have iZ:(s.o++[k]).length+f=5:=by rw[bW,<-ho,AV,tC _ f];rfl
  clear u P1 Q1 z7;refine xe uT.ws λuU w2=>?_;refine wg<|eX (.var qg) (w2.inst rfl) (.two .var (.var (rd ajd rfl rfl)))<|aiP w2 ik ⟨λW3 bU pl G3 w3 P3 jo=>iX (w3.dk.fr.at jo) λok bw=>?_⟩;have J5:=uT.lift G3 w3 (P3.mono λa x=>.inl x);have dU:=fV.trans G3.p;generalize xp:(X.row k).foldl _ _=R1 at hR
  refine pO [163] (cb X.is) (λps ae=>∃s' mE,(∀p∈ps,p<X.is.length)/\aF aS W3 mE/\ps.foldl (dW λk=>(g k).isSome) s'=R1/\s'.o=s.o++[k]/\oV X W σ mE ae T fa oa qa qd l s') ⟨_,W3,λp hp=>jQ (w3.f.fh k p hp) ik,.refl _ _,xp,rfl,J5⟩ (λp ps e2 fH s2 hv z=>?_) λe2 fH s2 z=>?_
  ·refine mX z λs' mE dR mF cH c7 gB=>?_
   have hp:=dR p (.head _);have nj:∀j∈ps,j<X.is.length:=λj hj=>dR j (.tail _ hj);have D:=j3 (dU.trans mF) gB;rw[km]at cH;have WM:=s2.rd (j:=77) (rd WI rfl rfl) rfl
   refine⟨bw _ (qj gB (mF.at jo)),λK8 uV=>fP (.and (.cmp (.var hv) (.var (s2.rd (j:=126) (rd Ac rfl rfl) rfl)) (.iF hi D hp)) λb=>.lq (.cmp (.var hv) (.var WM) (.DX hi gB.fl hp))) (λhg=>?_) λhg=>?_⟩
   ·rw[mi,rI]at hg
    have hf:s'.f p=none:=by
     cases h:s'.f p with
     |none=>rfl
     |some u=>rw[h]at hg;exact absurd hg.2 gY
    rw[bs hg.1 hf]at cH
    exact WG (v:=163) gB hp hf n4 hi hv WM (s2.rd (j:=123) J4 rfl) (s2.rd (j:=78) qg rfl) λW5 fI lN z8=>show K8 .next _ _ from uV.nx ⟨_,W5,nj,mF.trans lN,cH,c7,z8⟩
   ·rw[mi,Bool.and_eq_false_iff]at hg
    rw[bn (hg.imp id λh=>by cases h2:s'.f p with
     |none=>rw[h2]at h;exact iR h
     |some u=>rfl)]at cH
    exact bp<|bp<|uV.nx ⟨s',mE,nj,mF,cH,c7,gB⟩
  ·refine mX z λs' mE dR mF cH c7 gB=>?_
   have cH:s'=R1:=cH;subst cH
   exact⟨bw _ (qj gB (mF.at jo)),hV (kZ f) ⟨s',mE,by rw[c7];exact iZ,hR,dU.trans mF,gB⟩ (s1.set.tr s2)⟩
 ·have h0:s.w=[]:=Av (YK λh=>of_decide_eq_false gl (dN.2 h))
  have hs:s=R:=by
   induction f with
   |zero=>exact hR
   |succ f=>exact(if_pos h0).symm.trans hR
  subst hs;refine xe pt.ws λcE w=>?_;have no:=pt.nw oa (.inl ⟨.inr (.inl rfl)⟩);refine cz (w.fz pt.od no.2) λW2 cJ g2 w2 u2=>?_;refine bX .var (q.out W2 ao cE oa (pt.gw.tr (qh cJ (fresh oa (.inl ⟨.inr (.inl rfl)⟩)) u2)) w2 (λa o ha hn=>pt.pr.at ha λx=>?_) g2)
  rcases x with x |x |m
  ·exact hn (.inl x)
  ·exact hn (.inr x)
  ·exact bo ((fresh a (.inl m)).symm.trans ha)
theorem ajg:decide (fL "date"=fL "topo")=false:=by decide+kernel
theorem ajh:decide (fL "date"=fL "dated")=false:=by decide+kernel
theorem aji:decide (fL "date"=fL "reverse")=false:=by decide+kernel
noncomputable def kX(row:Nat->List Nat)(a:Nat)(hs:List Nat)(k:Nat):Bool:=(z9 (runOf row [a] hs) k).isSome
theorem ajj{W:St}{T:Nat}{a:Nat}(h:WS X W σ T ls)(ha:a<X.is.length)(uW:∀k∈hs,k<X.is.length)(lh:hs.length<=10)(R:xq X.row X.is.length [a] hs)
  (q:bI (∀W' ae cE oa,Gw σ W W'->WS X W' ae T cE->aF (two X.kn X.lv) σ ae->W' oa=some (.list ((kh X.row (iK X) (kX X.row a hs) a).o.map (cb X.is)))->Q (.loc oa) ae)):
  Gn [.loc X.wk,.tup [cb X.is a],.tup (hs.map (cb X.is)),.str (fL "date")] [] σ Q:=by
 refine⟨_,_,_,_,rfl,rfl,?_⟩
 refine show Gm (eW vF [.loc X.wk,.tup [cb X.is a],.tup (hs.map (cb X.is)),.str (fL "date"),.bool false,.none,.none] λz=>none) σ (bk Q)from cy<|eX .var (h.inst rfl) (.three .var .var .var)<|ai8 (ws:=[a]) h (λk hk=>by rw[cL.1 hk];exact ha) uW (cG rfl) lh R ⟨λW1 ao jM sa G1 h1 P1 Aa=>cy<|eX .var (h1.inst rfl) (.three .var .var .var)<|ajc h1 Aa ha ⟨λW2 ay uU oa G2 h2 P2 gA=>?_⟩⟩
 have G:=G1.trans P1 G2 λa x=>x.elim (λx=>by rw[x];exact h2.fk.1) λx=>by rw[x];exact h2.fl.1
 exact e8 (.to (.cmp .var .val .B9) ajg)<|e8 (.to (.cmp .var .val .B9) ajh)<|oA<|e8 (.cmp .var .val .iY)<|bp<|e8 (.cmp .var .val .iY)<|bp<|e8 (.to (.cmp .var .val .B9) aji)<|bp<|bX .var (q.out W2 ay uU oa G h2 (P1.trans P2) gA)
theorem ajk:lB [102] [47]=[[102]]:=by decide+kernel
theorem ajl:∀n,n<3->yw (kB n) [107]=n:=by decide+kernel
noncomputable def jN(o:Option Nat):Nat:=o.getD 0
theorem ajm{t:Addr}{o:Option (List UInt8)}(h:lJ σ t td l o)(q:match o with
  |none=>Q .none σ
  |some dT=>∀en ed,bP σ en 274 ed (uD dT)->Q (.loc en) σ):FZ [.loc t,.bytes [102]] [] σ Q:=by
 have ht:=h.t
 induction o with
 |none=>
  have hl:σ l=some (.list []):=h.l
  exact df<|jD (.attr .var .ins) hl λok bw=>yJ (bw _ hl)<|bX .val q
 |some dT=>
  refine gH h.l λen ed g1 g2=>?_
  exact df<|jD (.attr .var .ins) g1 λok bw=>⟨bw _ g1,oB (.to (.cmp (.attr .var (.ins g2)) .var .t7) (by decide))<|bX .var (q en ed g2)⟩
noncomputable def ajn(O:Objs)(cnt:Option Nat)(v:CV):Prop:=(cnt=none/\v=.none)\/∃n bi,cnt=some n/\wY O bi n/\v=.tup [.int 33188,.bytes (fT bi)]
noncomputable def ajo(O:Objs)(cnt:Option Nat)(v:CV):Prop:=(cnt=none/\v=.none)\/∃n bi,cnt=some n/\wY O bi n/\v=.bytes (fT bi)
theorem ajp{W:St}{T:Nat}{ti:Nat}{cnt:Option Nat}(h:WS X W σ T ls)(ht:oO W X.O ti cnt)
  (q:bI (∀ae v,aF aS σ ae->ajn X.O cnt v->Q v ae)):Gp [.loc X.wk,.bytes (fT ti),.bytes [102]] [] σ Q:=by
 obtain⟨t,td,l,o,e1,e2,e3⟩:=ht
 refine df<|Hg (.tup (.two .glob .var))<|e8 (.to (.cmp .var .val .t7) (by decide))<|bp<|wg<|pL .var ⟨_,rfl⟩ (.one .val)<|PM ajk (by decide) (by decide) (by decide) λpa ao Ee q8 P1=>iX q8 λok bw=>⟨bw _ q8,?_⟩
 have h1:=h.ext P1;have iw:=h1.iw;have S:=h1.f.S.p0 h1.dk.fr;have T1:=e2.p0 h1.dk.fr;refine e8 (.cmp .var .glob .ne)<|bp<|cy<|eX (.jA (.attr .var .ins) S.s.fi (.one .var) (aip S e1)) T1.t.fi (.one .var)<|ajm T1 ?_;have q:=λv=>q.out ao v P1
 induction cnt with
 |none=>
  have e3:o=none:=e3;subst e3
  exact oB (.cmp .var .val .is)<|bX .val (q _ (.inl ⟨rfl,rfl⟩))
 |some n=>
  obtain⟨bi,b1,b2,b3⟩:=e3;subst b2;exact λen ed ie=>e8 (.cmp .var .val .is)<|bp<|Hg (.tup (.two (.attr .var .ins) (.attr .var .ins)))<|bp ⟨bw _ q8,bX (.tup (.two .var .var)) (q _ (.inr ⟨n,bi,rfl,b3,rfl⟩))⟩
theorem ajq{W:St}{T:Nat}{k:Nat}(h:WS X W σ T ls)(hk:k<X.is.length)
  (q:bI (∀W' ae cE,Gw σ W W'->WS X W' ae T cE->aF (one X.kn) σ ae->∀v,ajo X.O (X.cnt k) v->Q v ae)):Gr [.loc X.wk,.bytes (dc X.is k),.bytes [102]] [] σ Q:=by
 refine df<|cy<|sj .var (h.inst rfl)<|jC<|eX .var (h.inst rfl) (.one .var)<|aiN h hk ⟨λW1 ao ti G1 h1 P1 ht=>dH<|bV .var<|ajp h1 ht ⟨λay v P2 hv=>?_⟩⟩;have q:=q.out W1 ay ls G1 (h1.ext P2) (P1.nx P2)
 rcases hv with⟨hc,rfl⟩ |⟨n,bi,hc,hb,rfl⟩
 ·exact bX (.yu (.GZ (.cmp .var .val .is)) .val) (q _ (.inl ⟨hc,rfl⟩))
 ·exact bX (.iff (.Po (.cmp .var .val .is) (.BI (.to (.cmp (.item .var .val .tup) (.tup (.two .glob .glob)) (Cm.iTI (is:=[16384,57344]))) (by decide)))) (.item .var .val .tup)) (q _ (.inr ⟨n,bi,hc,hb,rfl⟩))
noncomputable def gX(X:Wx):Option Nat->Nat
 |none=>0
 |some k=>jN (X.cnt k)
noncomputable def Ka(is:List Nat):Option Nat->CV
 |none=>.none
 |some k=>cb is k
theorem WN{W:St}{T:Nat}{k:Option Nat}(h:WS X W σ T ls)(hk:∀j,k=some j->j<X.is.length)
  (q:bI (∀W' ae cE,Gw σ W W'->WS X W' ae T cE->aF (one X.kn) σ ae->Q (.int (gX X k)) ae)):yl [.loc X.A.st,.loc X.wk,Ka X.is k,.bytes [102],.bytes [107]] [] σ Q:=by
 refine df<|cy ?_
 induction k with
 |none=>exact BV (.cmp .var .val .is)<|bV .val<|bX (.yu (.cmp .var .val .is) .val) (q.out W σ ls (.refl _ _) h (.refl _ _))
 |some k=>
  refine yF (.cmp .var .val .is)<|cu (.three .var .var .var)<|ajq h (hk k rfl) ⟨λW1 ao jM G1 h1 P1 v hv=>?_⟩;have q:=q.out W1 ao jM G1 h1 P1;change Q (.int (jN (X.cnt k):Nat)) ao at q
  rcases hv with⟨hc,rfl⟩ |⟨n,bi,hc,hb,rfl⟩
  ·rw[hc]at q
   exact bX (.yu (.cmp .var .val .is) .val) q
  ·rw[hc]at q
   have S:=h1.f.S.p0 h1.dk.fr;refine cz (h.f.ds (hk k rfl)) λD hD eR eT eC=>?_
   have n3:n<3:=(h.f.w.ok k D hD).cnt n (by rw[<-eC];exact hc)
   exact bX (.iff (.cmp .var .val .is) (.pz (.jA .var S.s.fi (.one .var) (aio S hb)) ⟨_,rfl⟩ (.one .var) (.count (d:=[107]) (by decide)))) (by rw[ajl n n3];exact q)
structure Wi where
 g:Option (List UInt8)
 a:Option (List UInt8)
 b:Option (Option Nat×Option Nat)
 p:Bool
 m:Option Bool
noncomputable def xu:Option (List UInt8)->CV
 |none=>.none
 |some b=>.bytes b
noncomputable def optN:Option Nat->CV
 |none=>.none
 |some n=>.int n
noncomputable def Ef:Option (Option Nat×Option Nat)->CV
 |none=>.none
 |some (f,l)=>.tup [optN f,optN l]
noncomputable def Kb:Bool->CV
 |false=>.none
 |true=>.tup [.bytes [102],.bytes [107]]
noncomputable def Kc:Option Bool->CV
 |none=>.none
 |some b=>.bool b
noncomputable def uZ(w:Wi):List (Nat×CV):=[(50,xu w.g),(144,xu w.a),(171,Ef w.b),(186,Kb w.p),(159,Kc w.m)]
noncomputable def ql(w:Wi)(note:List UInt8):Bool:=match w.g with
 |none=>true
 |some g=>vS g note
noncomputable def rz(w:Wi)(name xw:List UInt8):Bool:=match w.a with
 |none=>true
 |some a=>vS a name||vS a xw
noncomputable def Ad(t:Nat):Option Nat->Bool
 |none=>true
 |some f=>decide (f<=t)
noncomputable def Kd(t:Nat):Option Nat->Bool
 |none=>true
 |some l=>decide (t<=l)
noncomputable def oX(w:Wi)(t:Nat):Bool:=match w.b with
 |none=>true
 |some (f,l)=>Ad t f&&Kd t l
noncomputable def u0(w:Wi)(np:Nat):Bool:=match w.m with
 |none=>true
 |some m=>m==decide (1<np)
noncomputable def Ke(w:Wi)(Kf:Nat)(others:List Nat):Bool:=!w.p||others.all λx=>x !=Kf
theorem ajr{w:Wi}(q:bI (∀a d ae,σ a=none->σ d=none->bP ae a 163 d (uZ w)->aF aS σ ae->Q (.loc a) ae)):eV 163 Gs [xu w.g,xu w.a,Ef w.b,Kb w.p,Kc w.m] [] σ Q:=
 pM λa d ao na nd i1 P1=>df<|fF .var rfl i1 (hb:=by cases w.g<;>rfl) λay h2 p2=>fF .var rfl h2 (hb:=by cases w.a<;>rfl) λaQ h3 p3=>fF .var rfl h3 (hb:=by unfold Ef;split<;>rfl) λbU h4 p4=>fF .var rfl h4 (hb:=by cases w.p<;>rfl) λfH h5 p5=>fF .var rfl h5 (hb:=by cases w.m<;>rfl) λfI h6 p6=>
  bp ⟨rfl,q.out a d fI na nd h6 (P1.sn ((((p2.trans p3).trans p4).trans p5).trans p6) nd)⟩
theorem ajs{w:Wi}{note:List UInt8}(h1:Ev m1 e σ (xu w.g))(h2:Ev m2 e σ (.bytes note)):bM (bR (aT .IsNot m1 (au .none)) (bR (aT .NotIn m1 m2) (cQ true))) e σ (!ql w note):=by
 unfold ql
 cases hg:w.g with
 |none=>rw[hg]at h1;exact .l0 (.cmp h1 .val .iY)
 |some g=>rw[hg]at h1;exact .pI (.cmp h1 .val .iY) (.lq (.cmp h1 h2 .BL))
theorem ajt{c pl WO el:Addr}{w:Wi}{tree:List UInt8}{p:kR}(h:bP σ aa 163 ad (uZ w))(hc:bP σ c 391 cd (qZ tree pl al cl el msg))(ha:mw σ al WO p):Fn Gu [.loc aa,.loc c] σ (.bool (ql w msg&&rz w p.name p.ij)):=λQ q=>by
 refine yy λe fg Ae=>fP (ajs (.attr .var (.ins h)) (.attr .var (.ins hc))) (λg=>bX .val ?_) λg=>bp ?_
 ·rw[(mK _).mp g]at q;exact q
 ·rw[(rE _).mp g]at q
  have h1:Ev (bf 144 (af 78)) e σ (xu w.a):=.attr .var (.ins h);unfold rz at q
  cases hg:w.a with
  |none=>
   rw[hg]at h1 q
   exact oB (.cmp h1 .val .is)<|bX .val q
  |some a=>
   rw[hg]at h1 q;exact e8 (.cmp h1 .val .is)<|bp<|bX (.or (.cmp h1 (.attr (.attr .var (.ins hc)) (.ins ha)) .ib) λz=>.cmp h1 (.attr (.attr .var (.ins hc)) (.ins ha)) .ib) q
theorem WQ{a b:Nat}{p:Bool}(h1:Ev m1 e σ (.int a))(h2:Ev m2 e σ (.int b))(hp:p=decide (a<=b)):Ev (gM .LtE m1 m2) e σ (.bool p):=.to (.cmp h1 h2 .le) (by rw[hp];congr 1;rw[decide_eq_decide];exact ko)
theorem aju{w:Wi}{t:Nat}(h:bP σ aa 163 ad (uZ w)):Fn Gv [.loc aa,.int t] σ (.bool (oX w t)):=λQ q=>by
 refine yy λe fg e91=>?_;have h1:Ev (bf 171 (af 78)) e σ (Ef w.b):=.attr .var (.ins h);unfold oX at q
 cases hb:w.b with
 |none=>
  rw[hb]at h1 q
  exact oB (.cmp h1 .val .is)<|bX .val q
 |some fl=>
  obtain⟨f,l⟩:=fl;rw[hb]at h1 q;have h1:Ev (bf 171 (af 78)) e σ (.tup [optN f,optN l]):=h1
  refine e8 (.cmp h1 .val .is)<|bp<|BP h1<|bX (.and (.to (x:=.bool (Ad t f)) (v:=.bool (Ad t f)) ?_ rfl) λz=>?_) q
  ·induction f with
   |none=>exact .or (b1:=true) (b2:=true) (.cmp (.var (v:=.none) rfl) .val .is) λh=>iR h
   |some f=>exact .or (b1:=false) (.cmp (.var (v:=.int f) rfl) .val .is) λz=>WQ (.var rfl) .var rfl
  ·induction l with
   |none=>exact .or (b1:=true) (b2:=true) (.cmp (.var (v:=.none) rfl) .val .is) λh=>iR h
   |some l=>exact .or (b1:=false) (.cmp (.var (v:=.int l) rfl) .val .is) λz=>WQ .var (.var rfl) rfl
noncomputable def Wx.note(X:Wx)(k:Nat):List UInt8×List UInt8:=((X.Ds[k]?).map (λx=>x.note)).getD ([],[])
noncomputable def Wx.bH(X:Wx)(k:Nat):List UInt8×List UInt8:=((X.Ds[k]?).map (λx=>x.bH)).getD ([],[])
noncomputable def oldsOf(row:List Nat):List (Option Nat):=if row=[]then[none]else row.map some
noncomputable def js(X:Wx)(w:Wi)(k:Nat):Bool:=
 ql w (X.note k).1&&rz w (X.bH k).1 (X.bH k).2&&oX w (X.time k)&&u0 w (X.row k).length&&Ke w (gX X (some k)) ((oldsOf (X.row k)).map (gX X))
theorem ajv{W:St}(h:WF X W){k:Nat}(hk:k<X.is.length):(oldsOf (X.row k)).length<=5/\∀o∈oldsOf (X.row k),∀j,o=some j->j<X.is.length:=by
 unfold oldsOf
 split
 ·exact⟨by decide,λo ho j hj=>by rw[cL.1 ho]at hj;cases hj⟩
 ·refine⟨by rw[aZ];exact rG (h.kg k),λo ho j hj=>?_⟩
  refine a9 (dD.1 ho) λi hi aq=>?_;subst aq;obtain rfl:=(bt hj).symm;exact jQ (h.fh k j hi) hk
theorem ajw{k:Option Nat}{l:List (Option Nat)}:(l.map λo=>!decide ((gX X o:Int)=gX X k)).all id=(l.map (gX X)).all λx=>x !=gX X k:=by
 rw[List.all_map,List.all_map]
 congr 1
 funext o
 show(!decide ((gX X o:Int)=gX X k))=!(gX X o==gX X k);rw[Bool.beq_eq_decide_eq,show decide ((gX X o:Int)=gX X k)=decide (gX X o=gX X k)from decide_eq_decide.2 Int.ofNat_inj]
theorem ajx{w:Wi}{n:Nat}(h1:Ev m1 e σ (Kc w.m))(h2:Ev m2 e σ (.bool (decide ((1:Int)<n)))):bM (bR (aT .IsNot m1 (au .none)) (bR (aT .NotEq m1 m2) (cQ true))) e σ (!u0 w n):=by
 unfold u0
 cases hm:w.m with
 |none=>rw[hm]at h1;exact .l0 (.cmp h1 .val .iY)
 |some m=>
  rw[hm]at h1
  exact .pI (.cmp h1 .val .iY) (.lq (.to (.cmp h1 h2 .HI) (by rw[show decide ((1:Int)<n)=decide (1<n)from decide_eq_decide.2 dN];rfl)))
theorem WR{W:St}{T:Nat}{k:Option Nat}{olds:List (Option Nat)}{ol:Addr}(h:WS X W σ T ls)(G:Gw bL W0 W)(P:aF (one X.kn) bL σ)(rZ:W ol=some (.list (olds.map (Ka X.is))))(hl:olds.length<=5)(ho:∀o∈olds,∀j,o=some j->j<X.is.length)
  (JO:e 61=some (.int (gX X k)))(e71:e 71=some (.bytes [107]))(e72:e 72=some (.bytes [102]))(w7:e 131=some (.loc X.A.st))(Kg:e 89=some (.loc X.wk))(e69:e 69=some (.loc ol))
  (q:∀W' ae cE,Gw bL W0 W'->WS X W' ae T cE->aF (one X.kn) bL ae->Q (.bool ((olds.map (gX X)).all λx=>x !=gX X k)) ae):
  aY BM (ag (cT [(3,.local),(22,.local),(275,.globalImplicit),(61,.free),(71,.free),(72,.free),(131,.free),(89,.free)] (bO (af 69)) (aName 22) de (gM .NotEq (aY yl (ag (af 131) (ag (af 89) (ag (af 22) (ag (af 72) (ag (af 71) ar)))))) (af 61))) ar) e σ Q:=by
 refine j1<|dH<|me<|bV (.var e69)<|iX (h.dk.fr.at rZ) λok bw=>B5 (Ka X.is) (λtl acc ae=>∃done W' nL,olds=done++tl/\acc=(done.map λo=>!decide ((gX X o:Int)=gX X k)).map .bool/\Gw bL W0 W'/\aF aS W W'/\WS X W' ae T nL/\aF (one X.kn) bL ae) ⟨[],W,ls,rfl,rfl,G,.refl _ _,h,P⟩ (aR hl (by decide)) (λo tl acc ae ce z y s hv=>?_) λacc ae z=>?_
 ·refine My z λdone W' nL hd ha G' fV h' P'=>?_
  refine⟨bw _ (h'.dk.fr.at (fV.at rZ)),λKY hy=>show aY _ _ _ _ _ from cu (.cons (.var (s.rd (j:=131) w7 rfl)) (.cons (.var (s.rd (j:=89) Kg rfl)) (.three .var (.var (s.rd (j:=72) e72 rfl)) (.var (s.rd (j:=71) e71 rfl)))))<|WN (k:=o) h' (ho o (by rw[hd];exact kY _ (.head _))) ⟨λW5 fH ls5 G5 h5 P5=>bV (.var (s.rd (j:=61) JO rfl))<|wb .ne<|hy _ _ ⟨done++[o],W5,ls5,by rw[hd,fK];rfl,by rw[ha,cR,cR];rfl,G'.trans P' G5 λa e=>by subst e;exact h5.fk.1,fV.trans G5.p,h5,P'.trans P5⟩⟩⟩
 ·refine My z λdone W' nL hd ha G' fV h' P'=>?_
  rw[fj]at hd;subst hd
  refine⟨bw _ (h'.dk.fr.at (fV.at rZ)),cX λla fI lP c6 P6=>BW (.all (by rw[c6,ha])) ?_⟩
  rw[ajw];exact q W' fI nL G' (h'.ext P6) (P'.nx P6)
theorem ajy{W:St}{T:Nat}{w:Wi}{k:Nat}(h:WS X W σ T ls)(hk:k<X.is.length)(ha:bP W aa 163 ad (uZ w))
  (q:bI (∀W' ae cE,Gw σ W W'->WS X W' ae T cE->aF (one X.kn) σ ae->Q (.bool (js X w k)) ae)):Bu [.loc aa,.loc X.A.st,.loc X.wk,.bytes (dc X.is k)] [] σ Q:=by
 refine cz (h.f.ds hk) λD hD eR eT eC=>?_;have xf:X.is[k]?=some X.is[k]:=bS hk;obtain⟨c,cd,pl,al,WO,cl,iJ,el,ti,H⟩:=h.f.w.comm k _ D xf hD;have mq:=H.at_
 rw[<-show X.is.getD k 0=X.is[k] by rw[dG,xf];rfl]at mq
 have fr:=h.dk.fr;have S:=h.f.S.p0 fr;have ia:=ha.a7 fr;have ic:=H.c.a7 fr;have q:=q.out;unfold js at q
 rw[show X.note k=D.note by unfold Wx.note;rw[hD];rfl,show X.bH k=D.bH by unfold Wx.bH;rw[hD];rfl,eT]at q
 refine df<|gO (.jA .var S.s.fi (.one .var) (JL S mq))<|fP (.or (.not (.val (.jA .var ia.fi (.one .var) (ajt ia ic (H.a.a7 fr))))) λz=>.BI (.not (.val (.jA .var ia.fi (.one (.attr (.attr .var .ins) (.ins (H.cm.a7 fr)))) (aju ia))))) (λg=>bX .val ?_) λg=>bp ?_
 ·have q:=q W σ ls (.refl _ _) h (.refl _ _)
  rw[<-Mo,mK]at g;rw[show(ql w D.note.1&&rz w D.bH.1 D.bH.2&&oX w D.time)=false from g,Bool.false_and,Bool.false_and]at q;exact q
 rw[<-Mo,rE]at g;rw[show(ql w D.note.1&&rz w D.bH.1 D.bH.2&&oX w D.time)=true from g,Bool.true_and]at q;refine cy<|eX .var (h.inst rfl) (.one .var)<|aiO h hk ⟨λW1 ao pl1 G1 h1 P1 jo=>?_⟩;clear mq eR eT eC hD xf g ia ic S fr;have ia:=(ha.a7 G1.p).a7 h1.dk.fr;have kg:=h1.f.kg k
 have ln:∀{W2 ay uU} {e:aL},WS X W2 ay T uU->aF aS W1 W2->e 185=some (.loc pl1)->Ev (aY eI (ag (af 185) ar)) e ay (.int (X.row k).length):=λh2 PW ajz=>.to (.call (.one (.var ajz)) (.len (by rw[aZ];exact aR kg (by decide)) (h2.dk.fr.at (PW.at jo)))) (by rw[aZ])
 refine fP (ajx (.attr .var (.ins ia)) (.cmp (ln h1 (.refl _ _) rfl) .val .gt)) (λg=>bX .val ?_) λg=>bp ?_
 ·have q:=q W1 ao ls G1 h1 P1
  rw[(mK _).mp g]at q;exact q
 rw[(rE _).mp g,Bool.true_and]at q;unfold Ke at q;have Af:∀{e:aL},e 78=some (.loc aa)->Ev (bf 186 (af 78)) e ao (Kb w.p):=λfg=>.attr (.var fg) (.ins ia)
 cases hp:w.p with
 |false=>
  rw[hp]at q Af
  exact oB (.cmp (Af rfl) .val .is)<|bX .val (q W1 ao ls G1 h1 P1)
 |true=>
  rw[hp]at q Af;refine xa (ajv h1.f hk) λWT WU=>?_
  refine e8 (.cmp (Af rfl) .val .is)<|bp<|BP (Af rfl)<|cy<|cu (.cons .var (.cons .var (.three .var .var .var)))<|WN (k:=some k) h1 (λj hj=>by obtain rfl:=bt hj;exact hk) ⟨λW2 ay uU G2 h2 P2=>?_⟩
  have kk:∀{W' ae cE},WS X W' ae T cE->∀a,one X.kn a->W' a=none:=λh a e=>by subst e;exact h.fk.1
  have G:=G1.trans P1 G2 (kk h2);have P:=P1.trans P2
  by_cases xx:X.row k=[]
  ·have ol:oldsOf (X.row k)=[none]:=if_pos xx
   refine cy<|yF (.to (.cmp (ln h2 G2.p rfl) .val .gt) (by rw[xx];rfl))<|dh (.one .val) λl aQ nl hl P3=>?_
   refine cz ((h2.ext P3).fz hl (h2.nx nl)) λW3 dU zG h3 u3=>?_
   exact fE<|WR h3 (G.trans P (qh dU nl u3) (kk h3)) (P.nx P3) (by rw[ol];exact zG) WT WU rfl rfl rfl rfl rfl rfl q
  ·have ol:oldsOf (X.row k)=(X.row k).map some:=if_neg xx
   refine cy<|BV (.to (.cmp (ln h2 G2.p rfl) .val .gt) (decide_eq_true (dN.2 (ER.2 xx))))<|bV .var<|fE<|WR h2 G P (by rw[ol,dp];exact G2.p.at jo) WT WU rfl rfl rfl rfl rfl rfl q
set_option tactic.hygienic true
noncomputable def full(most:Option Nat)(acc:List Nat):Bool:=match most with
 |none=>false
 |some m=>decide (m<=acc.length)
noncomputable def s9(hZ:Nat->Bool)(most:Option Nat):List Nat->List Nat->List Nat
 |acc,[]=>acc
 |acc,k::ks=>if full most acc then acc else s9 hZ most (if hZ k then acc++[k]else acc) ks
theorem WV(hZ:Nat->Bool):∀(ks acc:List Nat),s9 hZ none acc ks=acc++ks.filter hZ
 |[],acc=>(fj acc).symm
 |k::ks,acc=>by
  show s9 hZ none _ ks=_;rw[WV hZ ks,mM]
  split<;>simp
theorem WX(hZ:Nat->Bool)(m:Nat):∀(ks acc:List Nat),acc.length<=m->s9 hZ (some m) acc ks=(acc++ks.filter hZ).take m
 |[],acc,h=>by show acc=_;rw[List.filter_nil,fj,vn h]
 |k::ks,acc,h=>by
  by_cases g:m<=acc.length
  ·have e:acc.length=m:=by exact qq h g
   refine(if_pos (decide_eq_true g)).trans ?_
   rw[List.take_append_of_le_length (g),vn (h)]
  ·refine(if_neg λz=>g (of_decide_eq_true z)).trans ?_
   have hl:(if hZ k=true then acc++[k]else acc).length<=m:=by
    split
    ·simp;exact(Nat.lt_of_not_le g)
    ·exact h
   rw[WX hZ m ks _ hl,mM]
   split<;>simp
theorem Kh{row:Nat->List Nat}{n a:Nat}(ha:a<n)(hr:∀k,∀j∈row k,j<k):(∀k∈(kh row t sh a).o,k<n)/\(kh row t sh a).o.length<=5:=by
 have key:∀(f:Nat) (s:PS),s.Ok n->(∀k∈s.o,k<n)->(∀k∈(lR row t sh f s).o,k<n)/\(lR row t sh f s).o.length<=s.o.length+f:=by
  intro f
  induction f with
  |zero=>intro s hs ho;exact⟨ho,cP _⟩
  |succ f ih=>
   intro s hs ho
   by_cases e:s.w=[]
   ·rw[J8 e];exact⟨ho,by exact mL ..⟩
   ·rw[J9 e]
    have hp:=xk (t:=t) e;have hn:=(hs.lt _ hp).1
    have fo:∀(ps:List Nat) (s:PS),(ps.foldl (dW sh) s).o=s.o:=by
     intro ps
     induction ps with
     |nil=>intro s;rfl
     |cons p ps ih=>intro s;rw[km,ih];unfold dW;split<;>rfl
    have e1:(nK row t sh s).o=s.o++[kW t s.w]:=by unfold nK;rw[fo]
    obtain⟨h1,h2⟩:=ih (nK row t sh s) (WC (t:=t) (sh:=sh) hs (λk hk j hj=>by have:=hr k j hj;exact jQ this hk) e).1 (λk hk=>by
     rw[e1]at hk
     rcases fZ.1 hk with hk |hk
     ·exact ho k hk
     ·rw[cL.1 hk];exact hn)
    refine⟨h1,?_⟩;rw[e1]at h2
    simp at h2;exact l1 h2 (by simp+arith only)
 have h0:(dW sh gW a).o=[]:=by unfold dW;split<;>rfl
 have:=key 5 (dW sh gW a) (Eb (z5 n) ha) (by rw[h0];intro k hk;exact cA hk)
 rw[h0]at this
 exact⟨this.1,by have:=this.2;simp at this;exact this⟩
theorem ajA{W:St}{T:Nat}{w:Wi}{most:Option Nat}{row R0:List Nat}{ok:St->Prop}(h:WS X W σ T ls)(bw:∀ae,ae ra=some (.list (row.map (cb X.is)))->ok ae)(gV:W ra=some (.list (row.map (cb X.is))))(gA:σ oa=some (.list []))(n0:bL oa=none)(G:Gw bL W0 W)(P:aF (xg X oa) bL σ)(nw:W oa=none)(nx:Nx X oa)
  (ck:∀k∈row,k<X.is.length)(Ki:row.length<=5)(oT:s9 (js X w) most [] row=R0)(ask:bP W aa 163 ad (uZ w))
  (w7:e 131=some (.loc X.A.st))(Kg:e 89=some (.loc X.wk))(xy:e 92=some (.loc aa))(e65:e 65=some (optN most))(xA:e 110=some (.loc oa))
  (q:∀W' ae cE,Gw bL W0 W'->WS X W' ae T cE->aF (two X.kn X.lv) bL ae->W' oa=some (.list (R0.map (cb X.is)))->Q (.loc oa) ae):
  gc ok (aName 21) (ah
    (bC (bR (aT .IsNot (af 65) (au .none)) (bR (aT .GtE (aY eI (ag (af 110) ar)) (af 65)) (cQ true))) (ah BR az) az)
    (ah (bC (hH (aT .Is (af 92) (au .none)) (hH (jh (bN 163 48 Bu (af 92) (ag (af 131) (ag (af 89) (ag (af 21) ar))))) (cQ false))) (ah (cw (bJ cD cN (af 110) (ag (af 21) ar))) az) az) az)) (sq (ah (bh (af 110)) az) (bk Q)) (row.map (cb X.is)) e σ:=by
 have fin:∀{W' ae e' nL acc},e' 110=some (.loc oa)->Gw bL W0 W'->WS X W' ae T nL->aF (xg X oa) bL ae->ae oa=some (.list (acc.map (cb X.is)))->R0=acc->ah (bh (af 110)) az e' ae (bk Q):=λ{W' ae e' nL acc} he G' h' P' ho mr=>by
  refine cz (h'.fz ho nx) λW3 dU g3 h3 u3=>?_
  exact bX (.var he) (q W3 ae nL (G'.tr (qh dU n0 u3)) h3 (λa o ha hn=>P'.at ha λx=>x.elim hn λx=>by rw[x,n0]at ha;exact bo ha) (by rw[mr];exact g3))
 refine pO [21] (cb X.is) (λtl ae=>∃acc W' nL,(∀k∈tl,k<X.is.length)/\s9 (js X w) most acc tl=R0/\acc.length+tl.length<=5/\ae oa=some (.list (acc.map (cb X.is)))/\Gw bL W0 W'/\aF aS W W'/\W' oa=none/\WS X W' ae T nL/\aF (xg X oa) bL ae) ⟨[],W,ls,ck,oT,by rw[tv,mO];exact Ki,gA,G,.refl _ _,nw,h,P⟩ (λj tl e' ae s hv z=>?_) λe' ae s z=>?_
 ·refine Mz z λacc W' nL fU oY hlen ho G' fV WY h' P'=>?_
  have hj:=fU j (.head _);have WZ:∀i∈tl,i<X.is.length:=λi hi=>fU i (.tail _ hi);have Xa:=s.rd (j:=110) xA rfl;rw[jP]at hlen
  have j8:acc.length<=1000:=by exact l1 hlen (by simp+arith only)
  have oY:(if full most acc=true then acc else s9 (js X w) most (if js X w j=true then acc++[j]else acc) tl)=R0:=oY
  refine⟨bw _ (h'.dk.fr.at (fV.at gV)),λK kk=>?_⟩
  have ef:bM (bR (aT .IsNot (af 65) (au .none)) (bR (aT .GtE (aY eI (ag (af 110) ar)) (af 65)) (cQ true))) e' ae (full most acc):=by
   have Kj:=s.rd (j:=65) e65 rfl;unfold full
   induction most with
   |none=>exact .l0 (.cmp (.var Kj) .val .iY)
   |some m=>exact .pI (.cmp (.var Kj) .val .iY) (.lq (.to (.cmp (.call (.one .var) (.len (by rw[aZ];exact j8) ho)) (.var (v:=.int m) Kj) .ge) (by rw[aZ];exact decide_eq_decide.2 ko)))
  refine fP ef (λg=>?_) λg=>bp ?_
  ·rw[if_pos g]at oY
   exact acY<|kk.br<|fin Xa G' h' P' ho oY.symm
  rw[if_neg (by rw[g];exact gY)]at oY
  have ia:=(ask.a7 fV).a7 h'.dk.fr;have xy:=s.rd (j:=92) xy rfl;refine vY<|toF (.cmp (.var xy) .val .is)<|PF<|BX<|eX (.var xy) ia.fi (.three (.var (s.rd (j:=131) w7 rfl)) (.var (s.rd (j:=89) Kg rfl)) .var)<|ajy h' hj (ask.a7 fV) ⟨λW3 aQ xt G3 h3 P3=>⟨_,rfl,?_⟩⟩;have Xb:=P3.at ho nx.kn;have Eg:=G3.n oa _ ho WY;have G4:=G'.go P' G3 h3 Eg;have P4:=P'.trans (P3.mono λa x=>.inl (.inl x))
  cases y8:js X w j with
  |false=>
   rw[y8,if_neg gY]at oY
   exact bp<|bp<|kk.nx ⟨acc,W3,xt,WZ,oY,by exact iQ hlen,Xb,G4,fV.trans G3.p,Eg,h3,P4⟩
  |true=>
   rw[y8,if_pos rfl]at oY
   exact su (cb X.is) j (.var Xa) .var Xb j8 λbU ho4 u=>oA<|kk.nx ⟨acc++[j],W3,xt,WZ,oY,by rw[bW,mH];exact l1 hlen (by simp+arith only),ho4,G4,fV.trans G3.p,Eg,h3.sY u λa e=>by cases e;exact⟨⟨nx.d,nx.c,Eg⟩,nx.kn,nx.lv⟩,P4.trans (u.mono λy=>.inr)⟩
 ·refine Mz z λacc W' nL fU oY hlen ho G' fV WY h' P'=>?_
  exact⟨bw _ (h'.dk.fr.at (fV.at gV)),fin (s.rd (j:=110) xA rfl) G' h' P' ho oY.symm⟩
theorem ajB{W:St}{T:Nat}{w:Wi}{a:Nat}{most:Option Nat}(h:WS X W σ T ls)(ha:a<X.is.length)(uW:∀k∈hs,k<X.is.length)(lh:hs.length<=10)(R:xq X.row X.is.length [a] hs)
  (ajC:bP W aa 163 ad (uZ w))(mx:W na=some (.list [cb X.is a]))(mD:W fa=some (.list (hs.map (cb X.is))))
  (q:bI (∀W' ae cE oa,Gw σ W W'->WS X W' ae T cE->aF (two X.kn X.lv) σ ae->W' oa=some (.list ((s9 (js X w) most [] (kh X.row (iK X) (kX X.row a hs) a).o).map (cb X.is)))->Q (.loc oa) ae)):
  ui Bv (eW pD [.loc X.A.st,.loc X.wk,.loc na,.loc fa,.str (fL "date"),.loc aa,optN most] λz=>none) σ Q:=by
 refine show Bv _ σ (bk Q)from cy<|dh .nil λoa ao nJ gA P1=>?_;have h1:=h.ext P1;have nx:=h.nx nJ
 refine wg<|eX .var (h1.inst rfl) (.three (.call (.one .var) (.Pq (cG rfl) (h1.dk.fr.at mx))) (.call (.one .var) (.Pq (by rw[aZ];exact aR lh (by decide)) (h1.dk.fr.at mD))) .var)<|ajj h1 ha uW lh R ⟨λW2 ay uU ra G2 h2 P2 gV=>iX (h2.dk.fr.at gV) λok bw=>?_⟩
 refine xa (Kh (t:=iK X) (sh:=kX X.row a hs) ha h.f.fh) λck Ki=>?_;exact ajA (e:=bA (eW pD _ _) 110 (.loc oa)) h2 bw gV (P2.at gA (λx=>x.elim nx.kn nx.lv)) nJ (G2.from P1) (P1.pn (P2.mono λa=>.inl)) (G2.n oa _ gA (h.dk.nw nJ)) nx ck Ki rfl (ajC.a7 G2.p) rfl rfl rfl rfl rfl λW' ae cE G' h' P' hw=>q.out W' ae cE oa G' h' P' hw
noncomputable def mG{κ:Type}(key:Nat->κ)(l:List (Nat×CV)):List (κ×CV):=l.map λp=>(key p.1,p.2)
theorem Xc{κ:Type}[DecidableEq κ]{key:Nat->κ}(hi:∀i j,key i=key j->i=j){k:Nat}:∀{l:List (Nat×CV)},bB (mG key l) (key k)=bB l k
 |[]=>rfl
 |p::l=>by
  have ih:=Xc hi (k:=k) (l:=l);unfold bB mG at ih ⊢;rw[gC,rM,rM]
  by_cases e:p.1=k
  ·simp[e]
  ·have:key p.1≠key k:=λz=>e (hi _ _ z)
   simp only[this,e,decide_false];exact ih
theorem ajD{κ:Type}[DecidableEq κ]{key:Nat->κ}(hi:∀i j,key i=key j->i=j){k:Nat}(v:CV){l:List (Nat×CV)}:bY (mG key l) (key k) v=mG key (bY l k v):=by
 have e:∀p:Nat×CV,(key p.1=key k)=(p.1=k):=λp=>propext ⟨λz=>hi _ _ z,λz=>by rw[z]⟩
 have ea:(mG key l).any (λkv=>kv.1=key k)=l.any (λkv=>kv.1=k):=by
  unfold mG;rw[List.any_map]
  congr 1
  funext p
  simp[e p]
 unfold bY;rw[ea]
 split
 ·unfold mG
  rw[dp,dp];refine pd λp hp=>?_
  show(if key p.1=key k then _ else _)=_
  simp only[e p,Mi]
  split
  ·rename_i g;simp[g]
  ·rfl
 ·unfold mG;rw[cR];rfl
noncomputable def oZ(i:Nat):Int:=i
theorem Xd:∀i j,oZ i=oZ j->i=j:=λi j h=>by unfold oZ at h;exact AR h
structure jO(σ:St)(a:Addr)(n:Nat)(f:Nat->Option CV):Prop where
 ex:∃l:List (Nat×CV),σ a=some (.dI (mG oZ l))/\(l.map (λx=>x.1)).Nodup/\(∀p∈l,p.1<n)/\∀k,bB l k=f k
theorem jO.a7{a n:Nat}{f:Nat->Option CV}(h:jO σ a n f)(p:aF Y σ ae)(nY:autoParam (¬Y a) aX):jO ae a n f:=by
 refine a9 h.ex λl h1 h2=>?_;exact⟨l,p.at h1 nY,h2⟩
theorem ajE{a n:Nat}(h:σ a=some (.dI [])):jO σ a n λz=>none:=⟨[],h,E8,λz h=>(cA h),λz=>rfl⟩
theorem Cm.niN{a n k:Nat}{f:Nat->Option CV}(h:jO σ a n f):Cm .NotIn (.int k) (.loc a) σ (!(f k).isSome):=by
 refine cz h.ex λl h1 h2 h3 h4=>?_;have:=Cm.oy (Mem.dI (k:=oZ k) h1);rwa[Xc Xd,h4]at this
theorem Xe{a n k:Nat}{f:Nat->Option CV}{v:CV}{P:St->Prop}(h:jO σ a n f)(n4:n<=4)(hk:k<n)(q:∀ae,jO ae a n (eM f k v)->aF (one a) σ ae->P ae):ly (.loc a) (.int k) v σ P:=by
 refine cz h.ex λl h1 h2 h3 h4=>?_
 have hl:(l.map (λx=>x.1)).length<=n:=oQ n _ h2 λx hx=>by
  refine a9 (dD.1 hx) λp hp aq=>?_;subst aq;exact h3 p hp
 rw[aZ]at hl
 refine fsI h1 (by rw[mG,aZ];exact jT hl n4 rfl) λae g p=>q ae ⟨bY l k v,?_,Wj h2,VO h3 hk,λj=>by rw[uK,h4];rfl⟩ p
 rw[g,show(k:Int)=oZ k from rfl,ajD Xd]
theorem Mem.ns{k:Nat}(h:σ a=some (.list (is.map nI))):Mem (.int k) (.loc a) σ (decide (k∈is)):=by
 have:decide ((k:Int)∈is.map λ(i:Nat)=>(i:Int))=decide (k∈is):=by
  rw[decide_eq_decide,dD];exact⟨λ⟨i,hi,e⟩=>AR e▸hi,λhk=>⟨k,hk,rfl⟩⟩
 rw[<-this];exact .li (by rw[h,dp];rfl)
set_option tactic.hygienic false
structure LB(bL σ:St)(n:Nat)(wa ka fo:Addr)(s:PS):Prop where
 p:aF aS bL σ
 w:σ wa=some (.list (s.w.map nI))
 k:jO σ ka n λj=>(s.f j).map qk
 f:σ fo=some (.list (s.o.map nI))
 ok:s.Ok n
 nw:bL wa=none
 nk:bL ka=none
 nf:bL fo=none
 ne:wa≠fo
theorem jO.there{a n:Nat}{f:Nat->Option CV}(h:jO σ a n f):∃es,σ a=some (.dI es):=by
 refine a9 h.ex λl h1 zz=>?_;exact⟨_,h1⟩
theorem LB.q5{n:Nat}{ka fo:Addr}{s:PS}(h:LB bL σ n wa ka fo s):ka≠wa/\ka≠fo:=by
 refine xe h.k.there λes e=>?_
 exact⟨λz=>(by rw[z,h.w]at e;cases e),λz=>(by rw[z,h.f]at e;cases e)⟩
theorem ajF{s:PS}{p:Nat}(h:(sh p&&!((s.f p).map qk).isSome)=false):dW sh s p=s:=if_neg (by
 intro z;rw[rI]at z;rw[z.1,Bool.true_and]at h;have:=z.2
 cases e:s.f p with
 |none=>rw[e]at h;exact iR h
 |some m=>rw[e]at this;exact eP this)
theorem ajG{s:PS}{p:Nat}(h:(sh p&&!((s.f p).map qk).isSome)=true):s.f p=none/\dW sh s p=⟨s.w++[p],s.o,eM s.f p 1⟩:=by
 rw[rI]at h
 have e:s.f p=none:=by
  cases e:s.f p with
  |none=>rfl
  |some m=>rw[e]at h;cases h.2
 exact⟨e,if_pos (by rw[h.1,e];rfl)⟩
theorem Xf(sh:Nat->Bool)(s:PS)(p:Nat):(dW sh s p).o=s.o:=by unfold dW;split<;>rfl
theorem Xg{n:Nat}{ka fo:Addr}{s:PS}{shown:List Nat}{v p:Nat}{K:dy->aL->St->Prop}(h:LB bL σ n wa ka fo s)(n4:n<=4)(hp:p<n)(u5:bL sl=some (.list (shown.map nI)))
  (ev:e v=some (.int p))(ajH:e 126=some (.loc sl))(Xh:e 112=some (.loc ka))(rm:e 191=some (.loc wa))
  (z:∀ae,LB bL ae n wa ka fo (dW (λk=>decide (k∈shown)) s p)->K .next e ae):
  ah (bC (bR (aT .In (af v) (af 126)) (bR (aT .NotIn (af v) (af 112)) (cQ true))) (ah (aP (au (.bool true)) (dg (af 112) (af v))) (ah (cw (bJ cD cN (af 191) (ag (af v) ar))) az)) az) az e σ K:=by
 refine xa h.q5 λn1 n2=>?_
 refine fP (.and (.cmp (.var ev) (.var ajH) (.mem (.ns (h.p.at u5)))) λo=>.lq (.cmp (.var ev) (.var Xh) (.niN h.k))) (λg=>?_) λg=>?_
 ·refine xa (ajG (sh:=λk=>decide (k∈shown)) g) λhf eb=>?_
  have Ab:=Eb (sh:=λk=>decide (k∈shown)) h.ok hp;rw[eb]at z Ab;have wl:=h.ok.J1 n4 hp hf
  refine lx .val (.var Xh) (.var ev)<|Xe h.k n4 hp λao D1 P1=>su nI p (.var rm) (.var ev) (P1.at h.w (λx=>n1 x.symm)) (aR wl (by decide)) λay hw2 u=>oA<|z _ ?_
  refine⟨(h.p.sn P1 h.nk).sn u h.nw,hw2,?_,u.at (P1.at h.f (λx=>n2 x.symm)) (λx=>h.ne x.symm),Ab,h.nw,h.nk,h.nf,h.ne⟩;refine cz ((D1.a7 u n1).ex) λll g1 g2 g3 g4=>?_;refine⟨ll,g1,g2,g3,λj=>?_⟩;rw[g4]
  show(if j=p then _ else _)=(if j=p then _ else _:Option Nat).map _
  split<;>rfl
 ·rw[ajF g]at z
  exact bp<|bp<|z _ h
noncomputable def best(t:Nat->Int)(l:List Nat)(k:Nat):Nat:=l.foldl (λh j=>if t j>t h then j else h) k
theorem ajI{wl:Addr}{rows:List (List Nat)}{shown:List Nat}{a:Nat}(hr:ke σ rl rows)(ht:σ tl=some (.list (times.map nI)))(hs:σ sl=some (.list (shown.map nI)))(g8:σ wl=some (.list [nI a]))
  (n4:rows.length<=4)(nt:times.length=rows.length)(ha:a<rows.length)(fh:∀k,∀j∈rows.getD k [],j<k)(kg:∀k,(rows.getD k []).length<=4)
  (q:bI (∀ae oa,σ oa=none->ae oa=some (.list ((kh (λk=>rows.getD k []) (λk=>(times.getD k 0:Int)) (λk=>decide (k∈shown)) a).o.map nI))->aF aS σ ae->Q (.loc oa) ae)):
  GD [.loc rl,.loc tl,.loc sl,.loc wl] [] σ Q:=by
 obtain⟨c9,cI,RI⟩:=hr;have ry:=WE (t:=λk=>(times.getD k 0:Int)) (sh:=λk=>decide (k∈shown)) n4 ha fh;unfold kh at ry q
 have s8:(dW (λk=>decide (k∈shown)) gW a).o.length+5=5:=by rw[Xf];rfl
 have gt:∀{i σ},i<rows.length->σ tl=some (.list (times.map nI))->It (.loc tl) (.int i) σ (.int (times.getD i 0:Nat)):=λ{i σ} hi h=>.li (by rw[dM,dG,bS (ey hi (er nt))];rfl) (by rw[aZ];exact xW nt n4 rfl) h
 generalize oT:dW (λk=>decide (k∈shown)) gW a=R0 at*;refine df<|Hh<|dh .nil λwa ao xh s6 P1=>cX λka ay Ec oW P2=>dh .nil λfo aQ ta ee P3=>?_;generalize hE:bA (bA (bA _ 110 _) 112 _) 191 _=E
 have E76:E 76=some (.loc rl):=by rw[<-hE];rfl
 have ajJ:E 133=some (.loc tl):=by rw[<-hE];rfl
 have Ac:E 126=some (.loc sl):=by rw[<-hE];rfl
 have aje:E 170=some (.loc wl):=by rw[<-hE];rfl
 have Kk:E 191=some (.loc wa):=by rw[<-hE];rfl
 have Xi:E 112=some (.loc ka):=by rw[<-hE];rfl
 have Ed:E 110=some (.loc fo):=by rw[<-hE];rfl
 clear hE;have lb:LB σ aQ rows.length wa ka fo gW:=⟨(P1.trans P2).trans P3,P3.at (P2.at s6),ajE (P3.at oW),ee,z5 _,xh,P1.no Ec,(P1.trans P2).no ta,gK ta (P2.at s6)⟩;clear xh s6 P1 Ec oW P2 ta ee P3
 refine jD .var (lb.p.at g8) λok bw=>pO (xs:=[a]) [1] nI (λxB ae=>∃s,(∀p∈xB,p<rows.length)/\xB.foldl (dW λk=>decide (k∈shown)) s=R0/\LB σ ae rows.length wa ka fo s)
  ⟨gW,λp hp=>by rw[cL.1 hp];exact ha,oT,lb⟩ (λp xB e ae s hv z=>?_) λe0 ae s0 z=>?_
 ·refine bF z λs1 hp zy lb=>?_
  exact⟨bw _ (lb.p.at g8),λK kk=>Xg (v:=1) lb n4 (hp p (.head _)) hs hv (s.rd Ac rfl) (s.rd Xi rfl) (s.rd Kk rfl) λay Ag=>kk.nx ⟨_,λq hq=>hp q (.tail _ hq),zy,Ag⟩⟩
 refine bF z λKl zz uY lb=>?_;have uY:Kl=R0:=uY;subst uY;refine⟨bw _ (lb.p.at g8),?_⟩;generalize hR:lR _ _ _ 5 Kl=R at ry q;clear bw oT;refine pQ<|qG [51,1,191,0] (λf e ae=>∃s wa,s.o.length+f=5/\lR (λk=>rows.getD k []) (λk=>(times.getD k 0:Int)) (λk=>decide (k∈shown)) f s=R/\LB σ ae rows.length wa ka fo s/\e 191=some (.loc wa)) (n:=5) ⟨Kl,wa,s8,hR,lb,s0.rd Kk rfl⟩ λf e1 ao s1 z V hV=>?_;clear lb hR s8 Kk;refine xY z λs wa ho hR lb rm=>?_;have rd:∀{j:Nat} {v:CV},E j=some v->[1].contains j=false->[51,1,191,0].contains j=false->e1 j=some v:=λh1 h2 h3=>s1.rd (s0.rd h1 h2) h3;have Xj:s.w.length<=4:=aR (oQ _ _ lb.ok.nd λk hk=>(lb.ok.lt k hk).1) n4
 refine PV (.var rm) lb.w (λh0 ay P2=>?_) λh0 ay P2=>?_
 ·have h0:s.w≠[]:=λe=>h0 (by rw[e];rfl)
  have lb:LB σ ay rows.length wa ka fo s:=⟨lb.p.trans P2,P2.at lb.w,lb.k.a7 P2,P2.at lb.f,lb.ok,lb.nw,lb.nk,lb.nf,lb.ne⟩
  cases f with
  |zero=>exact absurd (by rw[<-hR]at ry;exact ry) h0
  |succ f=>
  replace hR:=(if_neg h0).symm.trans hR
  obtain⟨o6,ws,xr⟩:∃o6 ws,s.w=o6::ws:=by
   cases ID:s.w with
   |nil=>exact absurd ID h0
   |cons x xs=>exact⟨x,xs,rfl⟩
  have xn:=xk (t:=λk=>(times.getD k 0:Int)) h0
  have Xk:best (λk=>(times.getD k 0:Int)) s.w o6=kW (λk=>(times.getD k 0:Int)) s.w:=by rw[xr];rfl
  unfold nK at hR;generalize kW (λk=>(times.getD k 0:Int)) s.w=here at*;have Eh:=(lb.ok.lt here xn).1
  have hk0:=(lb.ok.lt o6 (by rw[xr];exact .head _)).1
  refine gO (.item (.var rm) .val (.li (i:=0) (v:=nI o6) (by rw[xr];rfl) (by rw[aZ];exact aR Xj (by decide)) lb.w)) ?_
  clear xr h0
  refine jD (.var rm) lb.w λok bw=>qF [1,51] nI (λxB e ae=>∃done,s.w=done++xB/\ae=ay/\best (λk=>(times.getD k 0:Int)) done o6<rows.length/\e 51=some (nI (best (λk=>(times.getD k 0:Int)) done o6))) ⟨[],rfl,rfl,hk0,rfl⟩ (λj xB e2 ae s2 z=>?_) λe2 ae s2 z=>?_
  ·refine cz z λdone hd aq ck u7=>?_;clear z;subst aq
   have hj:=(lb.ok.lt j (by rw[hd];exact kY _ (.head _))).1
   have uG:=s2.rd (j:=133) (rd ajJ rfl rfl) rfl
   have eb:best (λk=>(times.getD k 0:Int)) (done++[j]) o6=if(times.getD j 0:Int)>times.getD (best (λk=>(times.getD k 0:Int)) done o6) 0 then j else best (λk=>(times.getD k 0:Int)) done o6:=by unfold best;rw[Y8];rfl
   generalize best (λk=>(times.getD k 0:Int)) done o6=b at*;have q7:=lb.p.at ht
   refine⟨bw _ lb.w,λK kk=>gO (.ite (.cmp (.item (.var uG) .var (gt hj q7)) (.item (.var uG) (.var (i:=51) u7) (gt ck q7)) .gt) (λy=>.var) λy=>.var (i:=51) u7)<|bp<|kk.nx ⟨done++[j],by rw[hd,fK];rfl,rfl,?_,?_⟩⟩
   ·rw[eb];split
    ·exact hj
    ·exact ck
   ·rw[eb]
    show some (cond (decide ((times.getD b 0:Int)<times.getD j 0)) (nI j) (nI b))=_
    by_cases g:(times.getD b 0:Int)<times.getD j 0
    ·rw[decide_eq_true g,if_pos g];rfl
    ·rw[decide_eq_false g,if_neg g];rfl
  refine cz z λdone hd aq ck u7=>?_;clear z;subst aq;rw[fj]at hd;subst hd;rw[Xk]at u7;refine⟨bw _ lb.w,?_⟩;have s3:=(s1.set (i:=51)).tr s2;clear Xk ck bw
  refine cy<|Hv nI (λj=>decide (j≠here)) nI (.li (.var (s2.rd (j:=191) rm rfl)) lb.w) (aR Xj (by decide)) (λj hj ce s hv=>⟨.to (.cmp .var (.var (v:=nI here) (s.rd (j:=51) u7 rfl)) .ne) (by rw[<-decide_not,decide_eq_decide];exact not_congr Int.ofNat_inj),λy=>.var⟩) λEi aQ Km rp P3=>?_
  have ne2:Ei≠fo:=(gK Km lb.f).symm
  refine su nI here (.var (s3.rd (j:=110) (s0.rd Ed rfl) rfl)) (.var (v:=nI here) u7) (P3.at lb.f) (l1 (el ho) (by simp+arith only)) λbU Xl u=>?_
  have Ag:LB σ bU rows.length Ei ka fo ⟨s.w.filter (·≠here),s.o++[here],s.f⟩:=
   ⟨(lb.p.trans P3).sn u lb.nf,u.at rp ne2,(lb.k.a7 P3).a7 u lb.q5.2,Xl,⟨lb.ok.nd.filter _,λj hj=>lb.ok.lt j (rK.1 hj).1,lb.ok.m⟩,lb.p.no Km,lb.nk,lb.nf,ne2⟩
  have iZ:(s.o++[here]).length+f=5:=by rw[bW,<-ho,AV,tC _ f];rfl
  have Xm:here<c9.length:=by rw[RI.len];exact Eh
  have mC:=RI.at_ here _ _ (bS Xm) (bS Eh)
  rw[<-show rows.getD here []=rows[here] by rw[dG,bS Eh];rfl]at mC
  clear u Xl Km rp P3;generalize xp:(rows.getD here []).foldl _ _=R1 at hR;have Xn:=s3.rd (j:=76) (s0.rd E76 rfl) rfl;have ajK:=s3.rd (j:=126) (s0.rd Ac rfl) rfl;have ajL:=s3.rd (j:=112) (s0.rd Xi rfl) rfl
  refine jD (.item (.var Xn) (.var (v:=nI here) u7) (.li (v:=.loc c9[here]) (by rw[dM,bS Xm];rfl) (by rw[aZ,RI.len];exact cB n4 rfl) (Ag.p.at cI))) (Ag.p.at mC) λok bw=>pO [0] nI (λps ae=>∃s',(∀p∈ps,p<rows.length)/\ps.foldl (dW λk=>decide (k∈shown)) s'=R1/\s'.o=s.o++[here]/\LB σ ae rows.length Ei ka fo s')
   ⟨_,λp hp=>jQ (fh here p hp) Eh,xp,rfl,Ag⟩ (λp ps e4 fH s5 hv z=>?_) λe4 fH s5 z=>?_
  ·refine cz z λs' dR cH c7 Ah=>?_
   exact⟨bw _ (Ah.p.at mC),λK kk=>Xg (v:=0) Ah n4 (dR p (.head _)) hs hv (s5.rd (j:=126) ajK rfl) (s5.rd (j:=112) ajL rfl) (s5.rd (j:=191) rfl rfl) λfI lb6=>kk.nx ⟨_,λq hq=>dR q (.tail _ hq),cH,by rw[Xf];exact c7,lb6⟩⟩
  ·refine cz z λs' dR cH c7 Ah=>?_
   have cH:s'=R1:=cH;subst cH
   exact⟨bw _ (Ah.p.at mC),hV (kZ f) ⟨s',Ei,by rw[c7];exact iZ,hR,Ah,s5.rd (j:=191) rfl rfl⟩ ((s3.set (i:=191)).tr s5)⟩
 ·have h0:s.w=[]:=xG.1 h0
  have hs:s=R:=by
   induction f with
   |zero=>exact hR
   |succ f=>exact(if_pos h0).symm.trans hR
  subst hs;exact bX (.var (rd Ed rfl rfl)) (q.out ay fo lb.nf (P2.at lb.f) (lb.p.trans P2))
noncomputable abbrev Ej:Str:=fL "grep"
noncomputable abbrev Ai:Str:=fL "author"
noncomputable abbrev Ek:Str:=fL "merges"
noncomputable abbrev Xo:Str:=fL "between"
noncomputable abbrev Kn:Str:=fL "pickaxe"
structure gj(w:Wi)(es:List (Str×CV)):Prop where
 g:bB es Ej=w.g.map .bytes
 a:bB es Ai=w.a.map .bytes
 m:bB es Ek=w.m.map .bool
 b:bB es Xo=w.b.map λp=>.tup [optN p.1,optN p.2]
 p:bB es Kn=if w.p then some (.tup [.bytes [102],.bytes [107]])else none
noncomputable def El(w:Wi)(note name xw:List UInt8)(np t Kf:Nat)(others:List Nat):Bool:=
 ql w note&&(rz w name xw&&(u0 w np&&(oX w t&&(!w.p||!decide (Kf∈others)))))
section
variable{σ:St}{e:aL}{wd:Addr}{w:Wi}{es:List (Str×CV)}{note name xw:List UInt8}{m1 m2 m3:EM}
theorem wit{v:CV}{k:Str}(eu:σ wd=some (.dS es))(h1:Ev m1 e σ (.loc wd))(h:bB es k=some v):Ev (bc m1 (au (.str k))) e σ v:=.item h1 .val (.dS eu h)
theorem qm{o:Option CV}{k:Str}(eu:σ wd=some (.dS es))(h1:Ev m1 e σ (.loc wd))(h:bB es k=o):bM (aT .In (au (.str k)) m1) e σ o.isSome:=.to (.cmp .val h1 (.iS eu)) (by rw[h])
theorem ajM(eu:σ wd=some (.dS es))(ki:gj w es)(h1:Ev m1 e σ (.loc wd))(h2:Ev m2 e σ (.bytes note)):bM (bR (aT .In (au (.str Ej)) m1) (bR (aT .NotIn (bc m1 (au (.str Ej))) m2) (cQ true))) e σ (!ql w note):=by
 have h:=ki.g;unfold ql
 cases hg:w.g with
 |none=>rw[hg]at h;exact .l0 (qm eu h1 h)
 |some g=>rw[hg]at h;exact .pI (qm eu h1 h) (.lq (.cmp (wit eu h1 h) h2 .BL))
theorem ajN(eu:σ wd=some (.dS es))(ki:gj w es)(h1:Ev m1 e σ (.loc wd))(h2:Ev m2 e σ (.bytes name))(h3:Ev m3 e σ (.bytes xw)):bM (bR (aT .In (au (.str Ai)) m1) (bR (aT .NotIn (bc m1 (au (.str Ai))) m2) (bR (aT .NotIn (bc m1 (au (.str Ai))) m3) (cQ true)))) e σ (!rz w name xw):=by
 have h:=ki.a;unfold rz
 cases hg:w.a with
 |none=>rw[hg]at h;exact .l0 (qm eu h1 h)
 |some g=>rw[hg]at h;exact .pI (qm eu h1 h) (.to (.and (.cmp (wit eu h1 h) h2 .BL) λz=>.lq (.cmp (wit eu h1 h) h3 .BL)) (Bool.not_or ..).symm)
theorem ajO{n:Nat}(eu:σ wd=some (.dS es))(ki:gj w es)(h1:Ev m1 e σ (.loc wd))(h2:Ev m2 e σ (.bool (decide ((1:Int)<n)))):bM (bR (aT .In (au (.str Ek)) m1) (bR (aT .NotEq m2 (bc m1 (au (.str Ek)))) (cQ true))) e σ (!u0 w n):=by
 have h:=ki.m;unfold u0
 cases hg:w.m with
 |none=>rw[hg]at h;exact .l0 (qm eu h1 h)
 |some m=>
  rw[hg]at h;refine .pI (qm eu h1 h) (.lq (.to (.cmp h2 (wit eu h1 h) .HI) ?_));rw[show decide ((1:Int)<n)=decide (1<n)from decide_eq_decide.2 dN];cases m<;>cases decide (1<n)<;>rfl
theorem ajP{t:Nat}{f:Option Nat}(h1:Ev m1 e σ (optN f))(h2:Ev m2 e σ (.int t)):bM (bR (aT .IsNot m1 (au .none)) (bR (aT .Lt m2 m1) (cQ true))) e σ (!Ad t f):=by
 induction f with
 |none=>exact .l0 (.cmp h1 .val .iY)
 |some f=>exact .pI (.cmp h1 .val .iY) (.lq (.to (.cmp h2 h1 .lt) (by show decide ((t:Int)<f)=!decide (f<=t);rw[<-decide_not,decide_eq_decide];exact Mu ..)))
theorem ajQ{t:Nat}{f:Option Nat}(h1:Ev m1 e σ (optN f))(h2:Ev m2 e σ (.int t)):bM (bR (aT .IsNot m1 (au .none)) (bR (aT .Gt m2 m1) (cQ true))) e σ (!Kd t f):=by
 induction f with
 |none=>exact .l0 (.cmp h1 .val .iY)
 |some f=>exact .pI (.cmp h1 .val .iY) (.lq (.to (.cmp h2 h1 .gt) (by show decide ((f:Int)<t)=!decide (t<=f);rw[<-decide_not,decide_eq_decide];exact Mu ..)))
theorem Xp{o:Option Nat}(h1:Ev m1 e σ (nH o)):Ev (eH (aT .IsNot m1 (au .none)) m1 (au (.int 0))) e σ (.int (jN o)):=by
 induction o with
 |none=>exact .iff (.cmp h1 .val .iY) .val
 |some n=>exact .yu (.cmp h1 .val .iY) h1
end
theorem ajR{σ:St}{wd:Addr}{w:Wi}{es:List (Str×CV)}{rows:List (List Nat)}{k:Nat}
  (eu:σ wd=some (.dS es))(ki:gj w es)(hr:ke σ rl rows)(ht:σ tl=some (.list (times.map nI)))(hc:σ cl=some (.list (counts.map nH)))(Ko:σ dX=some (.list (Ds.map kU)))
  (n4:rows.length<=4)(nt:times.length=rows.length)(nc:counts.length=rows.length)(nd:Ds.length=rows.length)(hk:Ds[k]?=some D)(fh:∀k,∀j∈rows.getD k [],j<k)(kg:∀k,(rows.getD k []).length<=4)
  (q:bI (∀ae,aF aS σ ae->Q (.bool (El w D.note.1 D.bH.1 D.bH.2 (rows.getD k []).length (times.getD k 0) (jN (counts.getD k none)) (if rows.getD k []=[]then[0]else(rows.getD k []).map λj=>jN (counts.getD j none)))) ae)):
  GG [.loc wd,.int k,.loc rl,.loc tl,.loc cl,.loc dX] [] σ Q:=by
 obtain⟨c9,cI,RI⟩:=hr;have qY:=(iL.1 hk).1
 have i7:k<rows.length:=by exact ey qY (el nd)
 have oW:k<c9.length:=by rw[RI.len];exact i7
 have mC:=RI.at_ k _ _ (bS oW) (bS i7)
 rw[<-show rows.getD k []=rows[k] by rw[dG,bS i7];rfl]at mC
 have Dz:=kg k
 have Kp:∀{n:Nat},n<=4->n<=1000:=λh=>aR h (by decide)
 have i1:It (.loc dX) (.int k) σ (kU D):=.li (by rw[dM,hk];rfl) (by rw[aZ];exact xW nd n4 rfl) Ko
 have ir:∀{ae},aF aS σ ae->It (.loc rl) (.int k) ae (.loc c9[k]):=λP=>.li (by rw[dM,bS oW];rfl) (by rw[aZ,RI.len];exact Kp n4) (P.at cI)
 have it:It (.loc tl) (.int k) σ (.int (times.getD k 0:Nat)):=.li (by rw[dM,dG,bS (nt▸nd▸qY)];rfl) (by rw[aZ];exact xW nt n4 rfl) ht
 have ic:∀{j:Nat} {ae},j<rows.length->aF aS σ ae->It (.loc cl) (.int j) ae (nH (counts.getD j none)):=λ{j ae} hj P=>.li (by rw[dM,dG,bS (ey hj (er nc))];rfl) (by rw[aZ];exact xW nc n4 rfl) (P.at hc)
 have q:=q.out;unfold El at q;refine df<|Hg (.tup (.three (.item (.item .var .var i1) .val .tup) (.item (.item .var .var i1) .val .tup) (.item (.item .var .var i1) .val .tup))) ?_;generalize hE:eW _ _ (eW _ _ _)=e
 have xy:e 92=some (.loc wd):=by rw[<-hE];rfl
 have zN:e 68=some (.bytes D.note.1):=by rw[<-hE];rfl
 have Kq:e 66=some (.bytes D.bH.1):=by rw[<-hE];rfl
 have e60:e 60=some (.bytes D.bH.2):=by rw[<-hE];rfl
 have e1:e 1=some (.int k):=by rw[<-hE];rfl
 have Xq:e 76=some (.loc rl):=by rw[<-hE];rfl
 have uG:e 133=some (.loc tl):=by rw[<-hE];rfl
 have ajS:e 147=some (.loc cl):=by rw[<-hE];rfl
 clear hE
 refine fP (ajM eu ki .var .var) (λg=>bX .val ?_) λg=>bp ?_
 ·have q:=q σ (.refl _ _)
  rw[(mK _).mp g]at q;exact q
 rw[(rE _).mp g]at q;clear g
 refine fP (ajN eu ki .var .var .var) (λg=>bX .val ?_) λg=>bp ?_
 ·have q:=q σ (.refl _ _)
  rw[(mK _).mp g]at q;exact q
 rw[(rE _).mp g]at q;clear g
 refine fP (ajO eu ki .var (.to (.cmp (.call (.one (.item .var .var (ir (.refl _ _)))) (.len (by rw[aZ];exact Kp Dz) mC)) .val .gt) (by rw[aZ]))) (λg=>bX .val ?_) λg=>bp ?_
 ·have q:=q σ (.refl _ _)
  rw[(mK _).mp g]at q;exact q
 rw[(rE _).mp g]at q;clear g
 have rest:∀{e':aL},cx [108,56] e e'->oX w (times.getD k 0)=true->ah (bC (aT .In (au (.str Kn)) (af 92)) (ah (aP (eH (aT .IsNot (bc (af 147) (af 1)) (au .none)) (bc (af 147) (af 1)) (au (.int 0))) (aName 62)) (ah (aP (eH (aT .NotEq (bc (af 76) (af 1)) (eList ar)) (cT [(3,.local),(0,.local),(147,.free)] (bO (bc (af 76) (af 1))) (aName 0) de (eH (aT .IsNot (bc (af 147) (af 0)) (au .none)) (bc (af 147) (af 0)) (au (.int 0)))) (eList (ag (au (.int 0)) ar))) (aName 162)) (ah (bh (gM .NotIn (af 62) (af 162))) az))) az) (ah (bh (au (.bool true))) az) e' σ (bk Q):=λ{e'} s hd=>by
  rw[hd]at q;have f92:=s.rd (j:=92) xy rfl;have f1:=s.rd (j:=1) e1 rfl;have Xn:=s.rd (j:=76) Xq rfl;have ajT:=s.rd (j:=147) ajS rfl;have h:=ki.p
  cases hp:w.p with
  |false=>
   rw[hp]at h q
   exact e8 (qm eu .var h)<|bp<|bX .val (q σ (.refl _ _))
  |true=>
   rw[hp]at h q;refine oB (qm eu .var h)<|gO (Xp (.item .var .var (ic i7 (.refl _ _)))) ?_
   have fin:∀{la:Addr} {ao:St} {others:List Nat},ao la=some (.list (others.map nI))->aF aS σ ao->others=(if rows.getD k []=[]then[0]else(rows.getD k []).map λj=>jN (counts.getD j none))->ah (bh (gM .NotIn (af 62) (af 162))) az (bA (bA e' 62 (.int (jN (counts.getD k none)))) 162 (.loc la)) ao (sq (ah (bh (au (.bool true))) az) (bk Q)):=λ{la ao others} c6 P1 ho=>by
    have q:=q ao P1;rw[<-ho]at q;exact bX (.cmp (x:=.int (jN (counts.getD k none):Nat)) (.var rfl) (.var rfl) (.oy (.ns c6))) q
   refine cy<|acZ (.item .var .var (ir (.refl _ _))) mC (λg ao P1=>?_) λg ao P1=>?_
   ·have xx:rows.getD k []≠[]:=λe=>g (by rw[e];rfl)
    exact md nI (λj=>nI (jN (counts.getD j none))) (.li (.item .var .var (ir P1)) (P1.at mC)) (Kp Dz) (λj hj ce s hv=>Xp (.item (.var (s.rd (j:=147) ajT rfl)) .var (ic (jQ (fh k j hj) i7) P1))) λla ay lP c6 P2=>fin (by rw[c6,dp];rfl) (P1.trans P2) (if_neg xx).symm
   ·exact dh (.one .val) λla ay lP c6 P2=>fin (others:=[0]) c6 (P1.trans P2) (if_pos (xG.1 g)).symm
 have h:=ki.b
 cases hb:w.b with
 |none=>
  rw[hb]at h
  exact e8 (qm eu .var h)<|bp<|rest .refl (by unfold oX;rw[hb])
 |some fl=>
  obtain⟨f,l⟩:=fl;rw[hb]at h
  have Xr:oX w (times.getD k 0)=(Ad (times.getD k 0) f&&Kd (times.getD k 0) l):=by unfold oX;rw[hb]
  refine oB (qm eu .var h)<|BP (wit eu .var h)<|fP (.or (ajP (.var rfl) (.item .var .var it)) λz=>.BI (ajQ (.var rfl) (.item .var .var it))) (λg=>bX .val ?_) λg=>bp<|oA<|rest (.set (.set .refl)) ?_
  ·have q:=q σ (.refl _ _)
   rw[<-Mo,<-Xr,mK]at g
   rw[g]at q;exact q
  ·rw[<-Mo,<-Xr,rE]at g;exact g
noncomputable def o7(found:List (List Nat))(row:List Nat):List (List Nat):=
 found++[(cS (found.length+1)).filter λx=>x==found.length||row.any λj=>(found.getD j []).contains x]
noncomputable def fw(rows:List (List Nat)):List (List Nat):=rows.foldl o7 []
noncomputable def Aj(rows:List (List Nat))(hs:List Nat):List Nat:=
 ((fw rows).getD (rows.length- 1) []).filter λx=>hs.all λk=>!((fw rows).getD k []).contains x
noncomputable def Ak:Nat->List (List (List Nat))
 |0=>[[]]
 |n+1=>(Ak n).flatMap λrs=>(uE n).map λr=>rs++[r]
theorem Xs:∀(n:Nat) (rows:List (List Nat)),rows.length=n->lK rows->rows∈Ak n
 |0,rows,h,_=>by rw[Av h];simp[Ak]
 |n+1,rows,h,ok=>by
  obtain⟨rs,r,rfl⟩:∃rs r,rows=rs++[r]:=⟨rows.dropLast,rows.getLast (λe=>by rw[e]at h;exact rT h),(vi _).symm⟩
  have hl:rs.length=n:=by simpa using h
  have ih:=Xs n rs hl λk r' hk=>ok k r' (by rw[xD (iL.1 hk).1];exact hk)
  have hr:=ok n r (by rw[EC ((el hl)),hl];simp)
  unfold Ak;exact EX.2 ⟨rs,ih,dD.2 ⟨r,hr,rfl⟩⟩
noncomputable def Al(n:Nat):List (List Nat):=[]::(cS (n- 1)).map λh=>[h]
noncomputable def goodRun(rows:List (List Nat))(hs:List Nat):Bool:=
 let R:=runOf (λk=>rows.getD k []) [rows.length- 1] hs
 R.w.isEmpty&&(R.o.all λk=>decide (k<rows.length)&&(R.f k).isSome)&&decide (R.o.length<=100)&&
  ((Aj rows hs).all λk=>decide (k<rows.length))&&(cS rows.length).all λk=>(z9 R k).isSome==(Aj rows hs).contains k
noncomputable def Em(n:Nat):Bool:=(Ak n).all λrows=>(Al n).all λhs=>goodRun rows hs
theorem ajU:Em 2=true:=by decide+kernel
theorem ajV:Em 3=true:=by decide+kernel
theorem ajW:Em 4=true:=by decide+kernel
theorem ajX{rows:List (List Nat)}(ok:lK rows)(h2:2<=rows.length)(h4:rows.length<=4)(hh:hs∈Al rows.length):
  xq (λk=>rows.getD k []) rows.length [rows.length- 1] hs/\∀k,kX (λk=>rows.getD k []) (rows.length- 1) hs k=decide (k∈Aj rows hs):=by
 have hg:Em rows.length=true:=by
  have:rows.length=2\/rows.length=3\/rows.length=4:=Mp h2 h4
  rcases this with e |e |e<;>rw[e]
  ·exact ajU
  ·exact ajV
  ·exact ajW
 have hg:=iz.1 (iz.1 hg rows (Xs _ rows rfl ok)) hs hh;unfold goodRun at hg;simp only[rI,L3,iz,decide_eq_true_eq,E9,beq_iff_eq]at hg;obtain⟨⟨⟨⟨g1,g2⟩,g3⟩,g4⟩,g5⟩:=hg;refine⟨⟨g1,g2,g3⟩,λk=>?_⟩;unfold kX
 by_cases hk:k<rows.length
 ·rw[g5 k hk,List.contains_eq_mem]
 ·have e1:(z9 (runOf (λk=>rows.getD k []) [rows.length- 1] hs) k).isSome=false:=by
   unfold z9
   rw[if_neg]
   ·rfl
   ·rintro⟨z,_⟩;exact hk (g2 k z).1
  rw[e1,decide_eq_false];exact λz=>hk (g4 k z)
noncomputable def mark(b:Nat->Bool)(x:Nat):Option CV:=if b x then some (.bool true)else none
theorem ajY{l:List (Nat×CV)}{k:Nat}{v:CV}(h:bB l k=some v):k∈l.map (λx=>x.1):=by
 unfold bB at h;rw[tg]at h;refine a9 h λp hp zz=>?_;have h1:=List.find?_some hp;have h2:=alj hp
 exact dD.2 ⟨p,h2,by simpa using h1⟩
theorem ajZ{a n:Nat}{b:Nat->Bool}(h:jO σ a n (mark b))(n4:n<=4)(q:σ.new (.list (((cS n).filter b).map nI)) Q):uo [.loc a] [] σ Q:=by
 refine cz h.ex λl h1 h2 h3 h4=>?_
 have hl:l.length<=n:=by
  have:=oQ n (l.map (λx=>x.1)) h2 λx hx=>by
   refine a9 (dD.1 hx) λp hp aq=>?_;subst aq;exact h3 p hp
  simpa using this
 refine .inl (a1 (k:=.L) ⟨_,h1,by unfold mG;rw[aZ];exact aR hl n4,λws hp hs=>?_⟩)
 have e:(mG oZ l).map (λx=>x.1)=(l.map (λx=>x.1)).map oZ:=by unfold mG;rw[dp,dp];rfl
 rw[e]at hp
 have p1:(l.map (λx=>x.1)).Perm ((cS n).filter b):=by
  rw[ali h2 (List.nodup_range.filter _)];intro x;rw[rK,E9]
  constructor
  ·intro hx
   refine⟨by refine a9 (dD.1 hx) λp hp aq=>?_;subst aq;exact h3 p hp,?_⟩
   cases hb:b x with
   |true=>rfl
   |false=>
    have:=h4 x;unfold mark at this;rw[hb]at this
    exact absurd hx (DR this)
  ·rintro⟨_,hb⟩
   have:=h4 x;unfold mark at this;rw[hb]at this;exact ajY this
 have p2:=hp.trans (p1.map oZ)
 have hT:(((cS n).filter b).map oZ).Pairwise (·<=·):=by
  rw[Y3]
  exact(List.pairwise_lt_range.filter _).imp λh=>by unfold oZ;exact ko.2 (iQ h)
 have:=YH (λa b z z h1 h2=>Int.le_antisymm h1 h2) hs hT p2;rw[this,dp];exact q
theorem aj0{b:Nat->Bool}{x:Nat}:eM (mark b) x (.bool true)=mark λj=>b j||j==x:=by
 funext j
 unfold eM mark
 by_cases e:j=x
 ·simp[e]
 ·have:(j==x)=false:=by simpa using e
  simp[e,this]
theorem aj1{rows:List (List Nat)}{k:Nat}(hk:k<rows.length):fw (rows.take (k+1))=o7 (fw (rows.take k)) rows[k]:=by
 unfold fw;rw[take_snoc (bS hk),Y8]
 rfl
theorem Kr:∀(rows acc:List (List Nat)),(rows.foldl o7 acc).length=acc.length+rows.length
 |[],acc=>rfl
 |r::rows,acc=>by
  rw[km,Kr rows];simp[o7];exact AX ..
theorem Xu{b:Nat->Bool}{m:Nat}(h:∀x,b x=true->x<m):∀d,(cS (m+d)).filter b=(cS m).filter b
 |0=>rfl
 |d+1=>by
  rw[<-AV,List.range_succ,Lw,Xu h d]
  have:¬b (m+d)=true:=λz=>by have:=h _ z;exact f1 this (by simp+arith only)
  simp[this]
theorem Kt:∀(rows acc:List (List Nat)),(∀j x,x∈acc.getD j []->x<=j)->∀j x,x∈(rows.foldl o7 acc).getD j []->x<=j
 |[],acc,h=>h
 |r::rows,acc,h=>by
  refine Kt rows (o7 acc r) λj x hx=>?_;unfold o7 at hx;rw[dG]at hx
  by_cases hj:j<acc.length
  ·rw[xD hj,<-dG]at hx
   exact h j x hx
  ·rw[EC ((EY hj))]at hx
   cases e:j- acc.length with
   |zero=>
    rw[e]at hx;simp at hx
    exact l2 (EY hj) hx.1 (by simp+arith only)
   |succ i=>rw[e]at hx;simp at hx
theorem jO.congr{a n:Nat}{b b':Nat->Bool}(h:jO σ a n (mark b))(e:∀x,b x=b' x):jO σ a n (mark b'):=by
 have:b=b':=funext e;rw[<-this];exact h
theorem d1X{m mk:EM}{R:CV->St->Prop}{i:Int}{v:CV}(hk:Ev mk e σ (.int i))(h:Ev m e σ v)(q:∀a ae,σ a=none->ae a=some (.dI (bY [] i v))->aF aS σ ae->R (.loc a) ae):IT mk m e σ R:=hk _ ⟨i,rfl,h _ (cX q)⟩
theorem kb.p0{W:St}{rows:List (List Nat)}(h:kb W c9 rows)(n:∀a∈c9,a≠da)(p:aF (one da) W W'):kb W' c9 rows:=⟨h.len,λk a r h1 h2=>p.at (h.at_ k a r h1 h2) (n a (tj h1))⟩
theorem aj2{l:List Nat}{x y:Nat}:(l++[x]).contains y=(l.contains y||y==x):=by
 rw[rL,vo,L8,vo,fZ,cL,beq_iff_eq]
theorem aj3{rows:List (List Nat)}(hr:ke σ rl rows)(n4:rows.length<=4)(fh:∀k,∀j∈rows.getD k [],j<k)
  (q:bI (∀ae fo (fB:List Addr),σ fo=none->(∀a∈fB,σ a=none)->ae fo=some (.list (fB.map .loc))->kb ae fB (fw rows)->aF aS σ ae->Q (.loc fo) ae)):GC [.loc rl] [] σ Q:=by
 obtain⟨c9,cI,RI⟩:=hr;have gi:=RI.len
 refine qE λe Xq=>cy<|dh .nil λfo ao ta ee P1=>PQ .var (P1.at cI) λok bw=>Ht [1,27,82,0,2] (λk o ae=>k<=rows.length/\∃fB,kb ae fB (fw (rows.take k))/\ae fo=some (.list (fB.map .loc))/\fo∉fB/\aF aS σ ae/\∀a∈fB,σ a=none) ⟨dE _,[],⟨rfl,λo o o h=>(bo h)⟩,ee,rJ,P1,λo h=>(cA h)⟩ (λk v e2 ay hv s z=>?_) λe2 ay s z=>?_
 ·refine Mw z λkn fB FI ee Ku P Kv=>?_
  refine⟨bw _ (P.at cI),λK kk=>?_⟩;refine a9 (tg.1 (dM▸hv)) λra B6 aq=>?_;obtain rfl:=aq
  have i7:k<rows.length:=by rw[<-gi];exact(iL.1 B6).1
  have gV:=RI.at_ k _ _ B6 (bS i7);have hdag:=fh k
  rw[show rows.getD k []=rows[k] by rw[dG,bS i7];rfl]at hdag
  have hlen:(fw (rows.take k)).length=k:=by unfold fw;rw[Kr,tv,mO,L0];exact Nat.min_eq_left kn
  have va:=FI.len;rw[hlen]at va;have I9:=aj1 i7
  have Xv:∀j x,x∈(fw (rows.take k)).getD j []->x<=j:=Kt _ _ λj x hx=>by exact cA hx
  generalize fw (rows.take k)=found at*;have xA:=s.rd (j:=110) (v:=.loc fo) rfl rfl;refine cy<|d1X (.var rfl) .val λda aQ o8 En P2=>?_
  have D0:jO aQ da rows.length (mark λj=>j==k):=by
   refine⟨[(k,.bool true)],En,mN.2 ⟨rJ,.nil⟩,λp hp=>by rw[cL.1 hp];exact i7,λj=>?_⟩
   have:=@uK Nat _ k j (.bool true) [];show bB (bY [] k (.bool true)) j=_;rw[this];unfold mark
   by_cases e:j=k
   ·rw[if_pos e,e,if_pos (beq_self_eq_true k)]
   ·rw[if_neg e,if_neg λz=>e (n9 z)];rfl
  have aj4:=P.no o8;have dfo:fo≠da:=gK o8 ee
  have aj5:∀a∈fB,a≠da:=λa ha=>by
   refine xe (YN ha) λi h1=>?_
   have h2:i<found.length:=by rw[hlen,<-va];exact(iL.1 h1).1
   exact gK o8 (FI.at_ i a _ h1 (bS h2))
  refine jD (.var rfl) ((P.trans P2).at gV) λok2 Xw=>pO [0,2] nI (λtl ae=>∃done,rows[k]=done++tl/\jO ae da rows.length (mark λx=>x==k||done.any λj=>(found.getD j []).contains x)/\kb ae fB found/\ae fo=some (.list (fB.map .loc))/\aF aS σ ae)
   ⟨[],rfl,D0.congr λx=>(Bool.or_false _).symm,FI.mono P2,P2.at ee,P.trans P2⟩ (λj tl e3 bU s2 hv z=>?_) λe3 bU s2 z=>?_
  ·refine rU z λdone hd D FI ee P=>?_
   have yB:j<k:=hdag j (by rw[hd];exact kY _ (.head _))
   have Ea:j<found.length:=by rw[hlen];exact yB
   have Xx:j<fB.length:=by rw[va];exact yB
   have efj:found.getD j []=found[j]:=by rw[dG,bS Ea];rfl
   have Kw:∀{ae},kb ae fB found->ae fB[j]=some (.list ((found.getD j []).map nI)):=λFI=>by rw[efj];exact FI.at_ j _ _ (bS Xx) (bS Ea)
   have hxj:=Xv j;refine⟨Xw _ (P.at gV),λK5 kk5=>?_⟩
   refine jD (.item (.var (s2.rd (j:=110) xA rfl)) .var (.li (v:=.loc fB[j]) (by rw[dM,bS Xx];rfl) (by rw[aZ,va];exact l2 n4 i7 (by simp+arith only)) ee)) (Kw FI) λok3 Xy=>pO [2] nI (λt2 ae=>∃d2,found.getD j []=d2++t2/\jO ae da rows.length (mark λx=>(x==k||done.any λj=>(found.getD j []).contains x)||d2.contains x)/\kb ae fB found/\ae fo=some (.list (fB.map .loc))/\aF aS σ ae)
    ⟨[],rfl,D.congr λx=>(Bool.or_false _).symm,FI,ee,P⟩ (λx t2 e4 fH s3 UU z=>?_) λe4 fH s3 z=>?_
   ·refine rU z λd2 hd2 D FI ee P=>?_
    have hx:x<rows.length:=je (hxj x (by rw[hd2];exact kY _ (.head _))) (jQ yB i7)
    refine⟨Xy _ (Kw FI),λK8 uV=>lx .val (.var (s3.rd (j:=82) (s2.rd (j:=82) rfl rfl) rfl)) .var<|Xe D n4 hx λfI D4 P4=>bp<|uV.nx ⟨d2++[x],by rw[hd2,fK];rfl,?_,FI.p0 aj5 P4,P4.at ee dfo,P.sn P4 aj4⟩⟩
    rw[aj0]at D4
    exact D4.congr λy=>by rw[aj2,Bool.or_assoc]
   ·refine rU z λd2 hd2 D FI ee P=>?_
    rw[fj]at hd2;rw[<-hd2]at D
    exact⟨Xy _ (Kw FI),kk5.nx ⟨done++[j],by rw[hd,fK];rfl,D.congr λx=>by rw[List.any_append,Bool.or_assoc];show _=(_||(_||(_||false)));rw[Bool.or_false],FI,ee,P⟩ (s2.tr s3)⟩
  ·refine rU z λdone hd D FI ee P=>?_
   rw[fj]at hd;rw[<-hd]at D
   refine⟨Xw _ (P.at gV),iA<|sv (.var (s2.rd (j:=110) xA rfl)) ee<|cu (.one (.var (s2.rd (j:=82) rfl rfl)))<|ajZ D n4<|cX λla fH lP c6 P3=>tY (u:=la) (P3.at ee) (by rw[va];exact l2 n4 i7 (by simp+arith only)) λfI aj6 u=>bp<|kk.nx ?_ (s.set.tr s2)⟩
   have Xz:la≠fo:=(gK lP ee).symm
   have aj7:o7 found rows[k]=found++[(cS rows.length).filter λx=>x==k||rows[k].any λj=>(found.getD j []).contains x]:=by
    unfold o7;rw[hlen];obtain⟨dd,edd⟩:∃dd,rows.length=k+1+dd:=⟨rows.length- (k+1),(Nat.add_sub_of_le i7).symm⟩;rw[edd]
    congr 2
    refine(Xu (m:=k+1) (λx hx=>?_) dd).symm;rw[L8,vv]at hx
    rcases hx with hx |⟨j,hj,hx⟩
    ·rw[n9 hx];exact kZ k
    ·exact Za (aR (Xv j x (vo.1 hx)) (iQ (hdag j hj)))
   refine⟨i7,fB++[la],?_,aj6,?_,(P.nx P3).sn u ta,λa ha=>?_⟩
   ·rw[I9,aj7]
    exact((FI.mono P3).p0 (da:=fo) (λa ha e=>Ku (by rw[<-e];exact ha)) u).snoc (u.at c6 Xz)
   ·rw[fZ,cL];exact λz=>z.elim Ku Xz.symm
   ·rcases fZ.1 ha with ha |ha
    ·exact Kv a ha
    ·rw[cL.1 ha];exact P.no lP
 ·refine Mw z λkn fB FI ee Ku P Kv=>?_
  rw[aZ,gi,List.take_length]at FI;exact⟨bw _ (P.at cI),bX (.var (s.rd (j:=110) rfl rfl)) (q.out ay fo fB ta Kv ee FI P)⟩
structure WW(W σ:St)(d c:Addr)(T L:Nat)(wd:Addr)(w:Wi):Prop where
 dk:Dk W σ d c T
 at_:∃es,σ wd=some (.dS es)/\gj w es/\es.length<=L
 nd:wd≠d
 nc:wd≠c
 nw:W wd=none
section
variable{W σ ae:St}{d c wd:Addr}{T L:Nat}{w w':Wi}{es:List (Str×CV)}
theorem WW.ext(h:WW W σ d c T L wd w)(p:aF aS σ ae):WW W ae d c T L wd w:=by
 refine a9 h.at_ λes h1 h2=>?_;exact⟨h.dk.ext p,⟨es,p.at h1,h2⟩,h.nd,h.nc,h.nw⟩
theorem WW.draw(h:WW W σ d c T L wd w)(D:Dk W ae d c T')(p:aF (two d c) σ ae):WW W ae d c T' L wd w:=by
 refine a9 h.at_ λes h1 h2=>?_;exact⟨D,⟨es,p.at h1 (λx=>x.elim h.nd h.nc),h2⟩,h.nd,h.nc,h.nw⟩
theorem WW.up{L':Nat}(h:WW W σ d c T L wd w)(l:T<=T')(l':L<=L'):WW W σ d c T' L' wd w:=by
 refine bF h.at_ λes h1 h2 h3=>?_;exact⟨h.dk.up l,⟨es,h1,h2,aR h3 l'⟩,h.nd,h.nc,h.nw⟩
theorem sC{k j:Str}{v:CV}(h:j≠k):bB (bY es k v) j=bB es j:=uK.trans (if_neg h)
theorem sT{k:Str}{v:CV}:bB (bY es k v) k=some v:=uK.trans (if_pos rfl)
theorem gj.sp(h:gj w es):gj {w with p:=true} (bY es Kn (.tup [.bytes [102],.bytes [107]])):=⟨(sC (by decide+kernel)).trans h.g,(sC (by decide+kernel)).trans h.a,(sC (by decide+kernel)).trans h.m,(sC (by decide+kernel)).trans h.b,sT⟩
theorem gj.sg(x:List UInt8)(h:gj w es):gj {w with g:=some x} (bY es Ej (.bytes x)):=⟨sT,(sC (by decide+kernel)).trans h.a,(sC (by decide+kernel)).trans h.m,(sC (by decide+kernel)).trans h.b,(sC (by decide+kernel)).trans h.p⟩
theorem gj.sa(x:List UInt8)(h:gj w es):gj {w with a:=some x} (bY es Ai (.bytes x)):=⟨(sC (by decide+kernel)).trans h.g,sT,(sC (by decide+kernel)).trans h.m,(sC (by decide+kernel)).trans h.b,(sC (by decide+kernel)).trans h.p⟩
theorem gj.sm(x:Bool)(h:gj w es):gj {w with m:=some x} (bY es Ek (.bool x)):=⟨(sC (by decide+kernel)).trans h.g,(sC (by decide+kernel)).trans h.a,sT,(sC (by decide+kernel)).trans h.b,(sC (by decide+kernel)).trans h.p⟩
theorem gj.sb(x:Option Nat×Option Nat)(h:gj w es):gj {w with b:=some x} (bY es Xo (.tup [optN x.1,optN x.2])):=⟨(sC (by decide+kernel)).trans h.g,(sC (by decide+kernel)).trans h.a,(sC (by decide+kernel)).trans h.m,sT,(sC (by decide+kernel)).trans h.p⟩
theorem aj8{κ:Type}[DecidableEq κ]{l:List (κ×CV)}{k:κ}{v:CV}:(bY l k v).length<=l.length+1:=by
 unfold bY
 split
 ·rw[aZ];exact nW _
 ·rw[bW];exact cP _
theorem Am{k:Str}{v:CV}{P:St->Prop}(h:WW W σ d c T L wd w)(hL:L<=900)(hw:∀{es},gj w es->gj w' (bY es k v))(q:∀ae,WW W ae d c T (L+1) wd w'->P ae):ly (.loc wd) (.str k) v σ P:=by
 refine bF h.at_ λes h1 h2 h3=>?_
 exact PJ h1 (aR h3 (aR hL (by decide))) λae g p=>q ae ⟨h.dk.other p λa e=>by obtain rfl:=e.symm;exact⟨h.nd,h.nc,h.nw⟩,⟨_,g,hw h2,aR aj8 (qn h3)⟩,h.nd,h.nc,h.nw⟩
theorem Kx{vs:List CV}{R:CV->St->Prop}(h:WW W σ d c T L wd w)(hT:T<=1000000)(rA:e 46=some (.loc d))(hm:gq ms e σ vs)(hv:vs≠[])(hl:vs.length<=1000)(q:∀v ae,v∈vs->WW W ae d c (T+1) L wd w->R v ae):aY pG (ag (af 46) (ag (eList ms) ar)) e σ R:=
 j1<|j0 (.var rA)<|dH<|dh hm (λpa aQ Ee q8 P3=>zF (h.ext P3).dk hT (.inl ⟨q8,(h.dk.new Ee).2⟩) hv hl ⟨λi v bU hv D4 P4=>q v bU (tj hv) ((h.ext P3).draw D4 P4)⟩) hl
end
noncomputable def wi0:Wi:=⟨none,none,none,false,none⟩
theorem XA{a x y:List UInt8}{v:CV}(h:v∈[CV.bytes a,.bytes b,.bytes x,.bytes y]):∃b,v=.bytes b:=by
 rcases h with _ |⟨_,_ |⟨_,_ |⟨_,_ |⟨_,h⟩⟩⟩⟩
 ·exact⟨_,rfl⟩
 ·exact⟨_,rfl⟩
 ·exact⟨_,rfl⟩
 ·exact⟨_,rfl⟩
 ·exact cA h
theorem aj9{a b:Nat}:decide ((a:Int)=b)=decide (a=b):=decide_eq_decide.2 Int.ofNat_inj
theorem aka{W σ:St}{d c:Addr}{T:Nat}(h:Dk W σ d c T)(hT:T<=800)(hw:way<4)(fU:W tl=some (.list (times.map nI)))(Dj:times≠[])(Ky:times.length<=4)
  (q:bI (∀W' ae wd w es,aF aS W W'->W' wd=some (.dS es)->gj w es->Dk W' ae d c (T+10)->Q (.loc wd) ae)):GF [.loc d,.int way,.loc tl,.bool kn] [] σ Q:=by
 refine df<|cy<|cX λwd ao rB eu P1=>?_;have n:=h.new rB;have hW:WW W ao d c T 0 wd wi0:=⟨h.ext P1,⟨[],eu,⟨rfl,rfl,rfl,rfl,rfl⟩,cP _⟩,n.1,n.2,h.nw rB⟩;generalize hE:bA _ 110 _=e
 have rA:e 46=some (.loc d):=by rw[<-hE];rfl
 have e32:e 32=some (.int way):=by rw[<-hE];rfl
 have uG:e 133=some (.loc tl):=by rw[<-hE];rfl
 have alY:e 203=some (.bool kn):=by rw[<-hE];rfl
 have xA:e 110=some (.loc wd):=by rw[<-hE];rfl
 clear hE;have ew:∀{n:Nat} {σ},bM (aT .Eq (af 32) (au (.int n))) e σ (decide (way=n)):=.to (.cmp .var .val .eq) aj9
 refine yE (λe' σ=>e'=e/\∃w,WW W σ d c T 1 wd w) (λe' σ ⟨he,w,hW⟩=>?_) λK nx z=>tR (ew (n:=0)) (λz=>lx (.tup (.two .val .val)) .var .val<|Am hW (by decide) .sp λay h2=>nx ⟨rfl,_,h2⟩) λz=>nx ⟨rfl,_,hW.up (cP _) (by decide)⟩
 subst he
 refine yE (λkH σ=>kH=e'/\∃w,WW W σ d c (T+1) 2 wd w) (λkH σ ⟨he,w,hW⟩=>?_) λK nx z=>tR (ew (n:=1)) (λz=>vU<|Kx hW (cB hT rfl) rA (.cons .val (.three .val .val .val)) (λe=>og e) (by decide) λv aQ hv h3=>?_) λz=>nx ⟨rfl,_,hW.up (nW _) (by decide)⟩
 rotate_left
 ·refine xe (XA hv) λb aq=>?_;subst aq
  exact bV .var<|bV .val<|Am h3 (by decide) (.sg b) λbU h4=>nx ⟨rfl,_,h4⟩
 subst he
 refine yE (λe' σ=>e'=kH/\∃w,WW W σ d c (T+2) 3 wd w) (λe' σ ⟨he,w,hW⟩=>?_) λK nx z=>tR (ew (n:=2)) (λz=>vU<|Kx hW (lz hT rfl) rA (.cons .val (.three .val .val .val)) (λe=>og e) (by decide) λv aQ hv h3=>?_) λz=>nx ⟨rfl,_,hW.up (nW _) (by decide)⟩
 rotate_left
 ·refine xe (XA hv) λb aq=>?_;subst aq
  exact bV .var<|bV .val<|Am h3 (by decide) (.sa b) λbU h4=>nx ⟨rfl,_,h4⟩
 subst he;refine yE (λkH σ=>kH=e'/\∃w,WW W σ d c (T+4) 4 wd w) (λkH σ ⟨he,w,hW⟩=>?_) λK nx z=>?_
 rotate_left
 ·have setM:∀{aQ},WW W aQ d c (T+3) 3 wd w->ah (aP (gM .Eq (aY jB (ag (af 46) (ag (au (.int 2)) ar))) (au (.int 0))) (dg (af 110) (au (.str (fL "merges"))))) az e' aQ K:=λ{aQ} h3=>
   vU<|show gM _ _ _ _ _ _ from cu (.two .var .val)<|nG h3.dk (lz hT rfl) (by decide) (by decide) ⟨λr bU hr D4 P4=>bV .val<|wb .eq<|bV .var<|bV .val<|Am (h3.draw D4 P4) (by decide) (.sm _) λfH h5=>nx ⟨rfl,_,h5⟩⟩
  have go:∀{aQ},WW W aQ d c (T+3) 3 wd w->K .next e' aQ:=λh3=>nx ⟨rfl,_,h3.up (nW _) (by decide)⟩
  by_cases w3:way=3
  ·exact tR (.GZ (.to ew (decide_eq_true w3))) (λz=>setM (hW.up (nW _) (cP _))) (λg=>iR g)
  ·refine ifX<|toF (.to ew (decide_eq_false w3))<|PF ?_
   induction kn with
   |true=>exact tbK (.l0 (.not (.val .var)))<|go (hW.up (nW _) (cP _))
   |false=>exact Pz (.not (.val .var))<|PH<|v8<|cu (.two .var .val)<|nG hW.dk (lz hT rfl) (by decide) (by decide) ⟨λr bU hr D4 P4=>bV .val<|wb (b:=decide ((r:Int)=0)) .eq (by
     cases decide ((r:Int)=0)with
     |true=>exact setM (hW.draw D4 P4)
     |false=>exact go (hW.draw D4 P4))⟩
 subst he
 refine yE (λe' σ=>e'=kH/\∃w,WW W σ d c (T+5) 5 wd w) (λe' σ ⟨he,w,hW⟩=>?_) λK nx z=>tR (ew (n:=3)) (λz=>?_) λz=>nx ⟨rfl,_,hW.up (nW _) (by decide)⟩
 rotate_left
 ·have hf:=hW.dk.fr.at fU
  obtain⟨x,xs,rfl⟩:∃x xs,times=x::xs:=by
   induction times with
   |nil=>exact absurd rfl Dj
   |cons x xs=>exact⟨x,xs,rfl⟩
  obtain⟨ys,y,XB⟩:∃ys y,x::xs=ys++[y]:=⟨_,_,(vi Dj).symm⟩
  have l4:∀{n:Nat},n<=4->n<=1000:=λh=>aR h (by decide)
  have i0:It (.loc tl) (.int 0) σ (.int x):=.li (i:=0) rfl (by rw[aZ];exact l4 Ky) hf
  have i1:It (.loc tl) (.int (-1)) σ (.int y):=.last (vs:=ys.map nI) (v:=nI y) (by rw[hf,XB,cR];rfl) (by
   rw[XB,bW]at Ky;rw[aZ]
   exact aR (mL _ 1) (l4 Ky))
  refine vU<|Kx hW (lz hT rfl) rA (.three (.tup (.two (.item .var .val i0) .val)) (.tup (.two .val (.item .var (.neg .val) i1))) (.tup (.two (.item .var .val i0) (.item .var .val i0)))) (λe=>og e) (cG rfl) λv aQ hv h3=>?_
  obtain⟨b,rfl⟩:∃b:Option Nat×Option Nat,v=.tup [optN b.1,optN b.2]:=by
   rcases hv with _ |⟨_,_ |⟨_,_ |⟨_,h⟩⟩⟩
   ·exact⟨(some x,none),rfl⟩
   ·exact⟨(none,some y),rfl⟩
   ·exact⟨(some x,some x),rfl⟩
   ·exact cA h
  exact bV .var<|bV .val<|Am h3 (by decide) (.sb b) λbU h4=>nx ⟨rfl,_,h4⟩
 subst he;refine bF hW.at_ λes h1 h2 h3=>?_;refine cz (hW.dk.fz h1 hW.nd hW.nc) λW2 cJ g2 D2 zz=>?_
 exact bX .var (q.out W2 σ wd w es cJ g2 h2 (D2.up ((by simp+arith only))))
noncomputable def blanks:List UInt8:=[32,9,13,11,12]
noncomputable def An(l:List UInt8):Nat->Nat
 |0=>0
 |n+1=>if blanks.contains (l.getD n 0)then An l n else n+1
noncomputable def Eo(l:List UInt8):List UInt8:=l.take (An l l.length)
theorem dlt{a b:Nat}:decide ((a:Int)<b)=decide (a<b):=decide_eq_decide.2 dN
theorem akb{l:List UInt8}(hl:l.length<=1000):Fn FW [.bytes l,.bytes blanks] σ (.bytes (Eo l)):=λQ q=>by
 refine yy λe Ep akc=>gO (.call (.one .var) (.Pp (aR hl (by decide))))<|pQ<|qG [9] (λf e ae=>∃n:Nat,n<=f/\n<=l.length/\An l n=An l l.length/\ae=σ/\e 9=some (.int n)) (n:=l.length) ⟨l.length,cP _,cP _,rfl,rfl,rfl⟩ λf e' ae s z W hW=>?_
 refine rU z λn nf nl hc aq e9=>?_;clear z;subst aq;have Ep:=s.rd (j:=161) Ep rfl
 have stop:An l n=n->ah (bh (jZ (af 161) (af 9))) az e' ae (bk Q):=λhs=>by
  unfold Eo at q;rw[<-hc,hs]at q;exact bX (.upB (.var Ep) (.var e9) hl) q
 induction n with
 |zero=>exact sA (.l0 (.cmp (.var e9) .val .gt)) (λg=>eP g) λo=>stop rfl
 |succ n=>
  refine sA (.pI (.to (.cmp (.var e9) .val .gt) (decide_eq_true (dN.2 (nU n)))) (.lq (.cmp (.item (.var Ep) (.to (.bin (.var e9) .val .sub) (show CV.int (((n+1:Nat):Int)- 1)=.int n by congr 1;exact xV n)) (.kF nl hl)) (.var (s.rd (j:=128) akc rfl)) .iIB))) (λg=>?_) λg=>stop (if_neg (by rw[g];exact gY))
  replace hc:=(if_pos g).symm.trans hc
  exact Py .val (bp<|hW (ey (kZ n) nf) ⟨n,cP _,AG nl,hc,rfl,(show some (CV.int (((n+1:Nat):Int)- 1))=_ by congr 2;exact xV n)⟩) e9 .sub
noncomputable def ix(m:List UInt8):List (List UInt8):=(lB m [10]).map Eo
noncomputable def vb(n:Nat)(p:Nat->Bool):Nat->Nat->Nat
 |0,at_=>at_
 |f+1,at_=>if decide (at_<n)&&p at_ then vb n p f (at_+1)else at_
noncomputable def vc(rows:List (List UInt8)):Nat->Nat->Nat:=vb rows.length λi=>decide (rows.getD i []=[])
noncomputable def XC(rows:List (List UInt8)):Nat->Nat->Nat:=vb rows.length λi=>!decide (rows.getD i []=[])
theorem XD{t:TM}{Q:dy->aL->St->Prop}{n f a:Nat}{p:Nat->Bool}(ht:∀{e':aL} {i:Nat},cx [4] e e'->e' 4=some (.int i)->bM t e' σ (decide (i<n)&&p i))(ha:n<a+f)(h0:e 4=some (.int a))
  (q:∀e',cx [4] e e'->e' 4=some (.int (vb n p f a))->Q .next e' σ):jE t (ah (v5 4 .Add (au (.int 1))) az) e σ Q:=by
 refine qG [4] (λg e' ae=>ae=σ/\∃i:Nat,vb n p g i=vb n p f a/\n<i+g/\e' 4=some (.int i)) (n:=f) ⟨rfl,a,rfl,ha,h0⟩ λg e' ae s z W hW=>?_;obtain⟨rfl,i,hi,hn,e4⟩:=z
 refine sA (ht s e4) (λh=>?_) λh=>?_
 ·induction g with
  |zero=>rw[rI,decide_eq_true_eq]at h;exact absurd h.1 (Nat.lt_asymm hn)
  |succ g=>
   replace hi:=(if_pos h).symm.trans hi
   exact Py .val (bp<|hW (kZ g) ⟨rfl,i+1,hi,by exact l1 hn (by simp+arith only),rfl⟩) e4 .add
 ·have:i=vb n p f a:=by
   rw[<-hi]
   induction g with
   |zero=>rfl
   |succ g=>exact(if_neg (by rw[h];exact gY)).symm
  exact q e' s (by rw[<-this];exact e4)
theorem akd:∀n∈j5,(lB n.1 [10]).length<=5/\(∀p∈lB n.1 [10],p.length<=1000)/\
  (let r:=ix n.1;let s:=vc r 6 0;let t:=XC r (6- s) s;s<=t/\t<=r.length/\oz [32] ((r.drop s).take (t- s))=n.2):=by decide+kernel
theorem ake{m:List UInt8}(h1:(lB m [10]).length<=5)(h2:∀p∈lB m [10],p.length<=1000)(q:bI (∀ae a,ae a=some (.list ((ix m).map .bytes))->aF aS σ ae->Q (.loc a) ae)):F4 [.bytes m] [] σ Q:=by
 refine df<|fE<|me<|pL .var ⟨_,rfl⟩ (.one .val)<|PM rfl (by decide) h2 (aR h1 (by decide)) λa ao na ha P1=>iX ha λok bw=>wj CV.bytes (λp=>.bytes (Eo p)) (bw _ ha) (aR h1 (by decide)) (λp hp ce s hv=>.call (.two .var .glob) (akb (h2 p hp))) λb ay nb hb P2=>q.out ay b ?_ (P1.trans P2)
 rw[hb];unfold ix;rw[dp];rfl
theorem akf:∀n∈j5,n.2.length<=100:=by decide
theorem akg{m s:List UInt8}(hn:(m,s)∈j5)(q:bI (∀ae n,aF aS σ ae->Q (.tup [.bytes s,.int n]) ae)):F5 [.bytes m] [] σ Q:=by
 obtain⟨h1,h2,h3,h4,h5⟩:=akd _ hn;simp only at h1 h2 h3 h4 h5
 have cI:(ix m).length<=5:=by unfold ix;rw[aZ];exact h1
 refine qE λe alZ=>vX<|cu (.one .var)<|ake h1 h2 ⟨λao ra gV P1=>bV .val ?_⟩
 have hl:((ix m).map CV.bytes).length<=1000:=by rw[aZ];exact aR cI (by decide)
 have Ao:∀{e':aL} {i:Nat},e' 76=some (.loc ra)->e' 4=some (.int i)->bM (aT .Lt (af 4) (aY eI (ag (af 76) ar))) e' ao (decide (i<(ix m).length)):=λKz h4=>
  .to (.cmp (.var h4) (.call (.one (.var Kz)) (.len hl gV)) .lt) (by rw[aZ];exact dlt)
 have tc:∀{e':aL} {i:Nat},e' 76=some (.loc ra)->e' 4=some (.int i)->i<(ix m).length->Ev (bc (af 76) (af 4)) e' ao (.bytes ((ix m).getD i [])):=λKz h4 hi=>
  .item (.var Kz) (.var h4) (.li (by rw[dM,dG,bS hi];rfl) hl gV)
 refine pQ<|XD (n:=(ix m).length) (f:=6) (a:=0) (p:=λi=>decide ((ix m).getD i []=[])) (λs e4=>.and (Ao (s.rd (j:=76) rfl rfl) e4) λg=>.lq (.cmp (tc (s.rd (j:=76) rfl rfl) e4 (of_decide_eq_true g)) .val .t7)) (je cI (by decide)) rfl λe1 s1 e4=>gO (.var e4)<|
  pQ<|XD (n:=(ix m).length) (f:=6- vc (ix m) 6 0) (p:=λi=>!decide ((ix m).getD i []=[])) (λs e4=>.and (Ao (s.rd (j:=76) (s1.rd (j:=76) rfl rfl) rfl) e4) λg=>.lq (.cmp (tc (s.rd (j:=76) (s1.rd (j:=76) rfl rfl) rfl) e4 (of_decide_eq_true g)) .val .Ca)) ?_ e4 λe2 s2 (f4:e2 4=some (.int (XC (ix m) (6- vc (ix m) 6 0) (vc (ix m) 6 0):Nat)))=>?_
 ·have:=aR h3 h4
  exact(show(ix m).length<vc (ix m) 6 0+(6- vc (ix m) 6 0)from(ey (Za cI) (er (Nat.add_sub_of_le (aR this (cB cI rfl))))))
 have akh:e2 130=some (.int (vc (ix m) 6 0)):=s2.rd (j:=130) rfl rfl
 refine fE<|show b8 _ _ _ _ from jC<|yG .val ⟨_,rfl⟩<|dH<|ftX (.var (s2.rd (j:=76) (s1.rd (j:=76) rfl rfl) rfl)) (.var akh) (.var f4) gV h3 (by rw[aZ];exact h4) hl λl ay nl lH P2=>?_
 rw[<-List.map_drop,<-List.map_take]at lH
 refine BW (.join (by rw[h5];exact aR (akf _ hn) (by decide)) lH)<|dH<|bV (.var f4) ⟨by exact cG rfl,?_⟩
 rw[h5];exact q.out ay _ (P1.trans P2)
theorem aki{c pl el:Addr}{tree m s:List UInt8}(hc:bP σ c 391 cd (qZ tree pl al cl el m))(hn:(m,s)∈j5)(q:bI (∀ae,aF aS σ ae->Q (.bytes s) ae)):yc [.loc c] [] σ Q:=by
 exact df<|fE<|show bc _ _ _ _ _ from cu (.one (.attr .var .ins))<|akg hn ⟨λae n P=>bV .val<|itK .tup (q.out ae P)⟩
structure o9(σ:St)(c:Addr)(D:Cd):Prop where
 ex:∃cd tree pl al ad cl el p,bP σ c 391 cd (qZ tree pl al cl el D.note.1)/\mw σ al ad p/\p.name=D.bH.1
theorem o9.p0{c:Addr}(h:o9 σ c D)(p:aF aS σ ae):o9 ae c D:=by
 refine ML h.ex λcd tree pl al ad cl el pp h1 h2 h3=>?_;exact⟨cd,tree,pl,al,ad,cl,el,pp,h1.a7 p,h2.a7 p,h3⟩
noncomputable def iy(done:List Cd)(n:List UInt8):List (List UInt8):=(done.filter λD=>decide (D.bH.1=n)).map (λx=>x.note.2)
noncomputable abbrev nM:=List (List UInt8×Addr)
noncomputable def jb(es:nM):List (List UInt8×CV):=es.map λp=>(p.1,.loc p.2)
structure jc(bL σ:St)(da:Addr)(es:nM)(done ds:List Cd):Prop where
 p:aF aS bL σ
 d:σ da=some (.dB (jb es))
 nd:(es.map (λx=>x.1)).Nodup
 na:(es.map (λx=>x.2)).Nodup
 mem:∀n,n∈es.map (λx=>x.1)↔n∈ds.map (λx=>x.bH.1)
 at_:∀e∈es,σ e.2=some (.list ((iy done e.1).map .bytes))/\bL e.2=none
 o8:bL da=none
 len:es.length<=ds.length
theorem XE{es:nM}{n:List UInt8}:(bB (jb es) n=none/\n∉es.map (λx=>x.1))\/∃a,bB (jb es) n=some (.loc a)/\(n,a)∈es:=by
 induction es with
 |nil=>exact .inl ⟨rfl,by simp⟩
 |cons e es ih=>
  unfold bB jb at ih ⊢;rw[gC,rM]
  by_cases g:e.1=n
  ·right
   exact⟨e.2,by simp[g],by rw[<-g];simp⟩
  ·have g':¬n=e.1:=λz=>g z.symm
   simp only[g,decide_false]
   rcases ih with⟨h1,h2⟩ |⟨a,h1,h2⟩
   ·left;exact⟨h1,by simp[g'];simpa using h2⟩
   ·right;exact⟨a,h1,by simp[h2]⟩
theorem akj(done:List Cd)(D:Cd)(n:List UInt8):iy (done++[D]) n=if D.bH.1=n then iy done n++[D.note.2]else iy done n:=by
 unfold iy;rw[Lw]
 by_cases h:D.bH.1=n
 ·simp[h]
 ·simp[h]
theorem akk{es:nM}{n:List UInt8}(h:n∉es.map (λx=>x.1)):bY (jb es) n (.loc a)=jb (es++[(n,a)]):=by
 unfold bY
 rw[if_neg]
 ·unfold jb;rw[cR];rfl
 ·intro z
  refine a9 (vv.1 z) λp hp e=>?_;refine a9 (dD.1 hp) λq hq aq=>?_;subst aq
  exact h (dD.2 ⟨q,hq,by simpa using e⟩)
theorem KA{α β:Type}{f:α->β}:∀{l:List α} {x y:α},(l.map f).Nodup->x∈l->y∈l->f x=f y->x=y
 |z::l,x,y,hn,hx,hy,e=>by
  rw[gC,mN]at hn
  rcases eO.1 hx with rfl |Cn<;>rcases eO.1 hy with rfl |XF
  ·rfl
  ·exact absurd (e▸YW XF) hn.1
  ·exact absurd (e.symm▸YW Cn) hn.1
  ·exact KA hn.2 Cn XF e
theorem XG{α β:Type}{f:α->β}{l:List α}{x:α}(h:(l.map f).Nodup)(n:f x∉l.map f):((l++[x]).map f).Nodup:=by
 rw[cR,nT]
 exact⟨h,mN.2 ⟨rJ,.nil⟩,λa ha b hb e=>n (by rw[<-show b=f x from cL.1 hb,<-e];exact ha)⟩
theorem akl{P:CV->St->Prop}{F:FM}{m:EM}{R:CV->St->Prop}(k:m e σ λx ao=>P x ao/\ms e ao λxs ay=>F (x::xs) [] ay R):bJ P F m ms e σ R:=k
theorem jc.ne{es:nM}{ds:List Cd}(h:jc bL σ da es done ds){p:List UInt8×Addr}(hp:p∈es):p.2≠da:=λz=>by
 have:=(h.at_ p hp).1;rw[z,h.d]at this;cases this
theorem jc.nx{es:nM}{ds:List Cd}(h:jc bL σ da es done ds)(P:aF aS σ ae):jc bL ae da es done ds:=
 ⟨h.p.trans P,P.at h.d,h.nd,h.na,h.mem,λe he=>⟨P.at (h.at_ e he).1,(h.at_ e he).2⟩,h.o8,h.len⟩
theorem XH{ds:List Cd}{n:List UInt8}:n∈(ds++[D]).map (λx=>x.bH.1)↔n∈ds.map (λx=>x.bH.1)\/n=D.bH.1:=by
 rw[cR,fZ];exact or_congr .rfl cL
theorem jc.new{ay:St}{es:nM}(h:jc bL σ da es done done)(P:aF aS σ ao)(hn:σ na=none)(ha:ao na=some (.list []))(u:aF (one da) ao ay)(hd:ay da=some (.dB (jb (es++[(D.bH.1,na)]))))(g:D.bH.1∉es.map (λx=>x.1)):jc bL ay da (es++[(D.bH.1,na)]) done (done++[D]):=by
 refine⟨(h.p.trans P).sn u h.o8,hd,XG h.nd g,XG h.na λz=>?_,λn=>?_,λp hp=>?_,h.o8,?_⟩
 ·refine a9 (dD.1 z) λp hp e=>?_
  have:=(h.at_ p hp).1
  rw[e,hn]at this;exact bo this
 ·rw[XH,<-h.mem n,cR,fZ]
  exact or_congr .rfl cL
 ·rcases fZ.1 hp with hp |hp
  ·exact⟨u.at (P.at (h.at_ p hp).1) (h.ne hp),(h.at_ p hp).2⟩
  ·rw[cL.1 hp]
   refine⟨?_,h.p.no hn⟩
   have:iy done D.bH.1=[]:=by
    unfold iy;rw[Ln.2 λE hE hh=>g ((h.mem _).2 (dD.2 ⟨E,hE,of_decide_eq_true hh⟩))]
    rfl
   rw[this]
   exact u.at ha λ(z:na=da)=>by rw[z,h.d]at hn;exact jy hn
 ·rw[bW,bW];exact iN h.len 1
theorem jc.old{es:nM}(h:jc bL σ da es done done)(g:D.bH.1∈es.map (λx=>x.1)):jc bL σ da es done (done++[D]):=
 ⟨h.p,h.d,h.nd,h.na,λn=>by rw[XH,<-h.mem n];exact⟨.inl,λz=>z.elim id λz=>z▸g⟩,h.at_,h.o8,aR h.len (by rw[bW];exact mL ..)⟩
theorem jc.app{es:nM}(h:jc bL σ da es done (done++[D]))(g:(D.bH.1,a)∈es)(u:aF (one a) σ ae)(ha:ae a=some (.list ((iy done D.bH.1).map .bytes++[.bytes D.note.2]))):jc bL ae da es (done++[D]) (done++[D]):=by
 refine⟨h.p.sn u (h.at_ _ g).2,u.at h.d (h.ne g).symm,h.nd,h.na,h.mem,λp hp=>⟨?_,(h.at_ p hp).2⟩,h.o8,h.len⟩;rw[akj]
 by_cases e:D.bH.1=p.1
 ·rw[<-KA (f:=(λx=>x.1)) h.nd g hp e,if_pos rfl,cR];exact ha
 ·rw[if_neg e]
  exact u.at (h.at_ p hp).1 λz=>e (by rw[KA (f:=(λx=>x.2)) h.na hp g z])
theorem akm{c:Addr}{es:nM}{K:dy->aL->St->Prop}(h:jc bL σ da es done done)(hl:done.length<=10)(hc:o9 bL c D)(hn:D.note∈j5)(e59:e 59=some (.loc da))(Ae:e 146=some (.loc c))
  (q:∀ae iG,jc bL ae da iG (done++[D]) (done++[D])->K .next e ae):
  ah (cw (bJ cD cN (bJ CN IJ (af 59) (ag (bf 66 (bf 144 (af 146))) (ag (eList ar) ar))) (ag (bN 391 190 yc (af 146) ar) ar))) az e σ K:=by
 refine ML hc.ex λcd tree pl al ad cl el pp h1 h2 h3=>?_
 have wO:(jb es).length<=1000:=by unfold jb;rw[aZ];exact aR h.len (aR hl (by decide))
 have end_:∀{a:Addr} {iG:nM} {ay:St},(D.bH.1,a)∈iG->jc bL ay da iG done (done++[D])->ag (bN 391 190 yc (af 146) ar) ar e ay λxs aQ=>cN (.loc a::xs) [] aQ λo bU=>az e bU K:=λ{a iG ay} g L=>
  dH<|eX (.var Ae) (h1.a7 L.p).fi .nil<|aki (h1.a7 L.p) hn ⟨λaQ P3=>we ((L.nx P3).at_ _ g).1 ?_ λbU h4 P4=>bp (q _ _ ((L.nx P3).app g P4 h4))⟩
 ·refine iA<|akl<|yG (.var e59) ⟨_,_,rfl,h.d⟩<|j0 (.attr (.attr (.var Ae) (.ins (h1.a7 h.p))) (.ins (h2.a7 h.p) (congrArg (λn=>some (CV.bytes n)) h3)))<|dH<|dh .nil λna ao vd mx P1=>a3 (k:=.L) (l:=.B) (m:=.V) ⟨_,P1.at h.d,wO,?_⟩
  rcases XE (es:=es) (n:=D.bH.1)with⟨g,gn⟩ |⟨a,g,ga⟩
  ·exact⟨λo z=>(bo (g.symm.trans z)),λo=>⟨⟨_,_,rfl,GW mx λz=>by rw[z,h.d]at vd;cases vd⟩,end_ (kY _ (.head _)) (h.new P1 vd mx (.upd rfl) (by rw[eJ,akk gn]) gn)⟩⟩
  ·exact⟨λo z=>bt (g.symm.trans z)▸⟨⟨_,_,rfl,P1.at (h.at_ _ ga).1⟩,end_ ga ((h.nx P1).old (YW ga))⟩,λz=>jy (g.symm.trans z)⟩
 ·unfold iy
  rw[aZ,aZ]
  exact aR (EH _ _) (aR hl (by decide))
structure SN(ws:List (List UInt8))(done:List Cd):Prop where
 nd:ws.Nodup
 so:ws.Pairwise λx y=>i5 y x=false
 mem:∀n,n∈ws↔n∈done.map (λx=>x.bH.1)
theorem SN.uniq{ws XI:List (List UInt8)}{d:List Cd}(h:SN ws d)(h':SN XI d):ws=XI:=
 YH (λa b z z h1 h2=>Ua h2 h1) h.so h'.so ((ali h.nd h'.nd).2 λa=>(h.mem a).trans (h'.mem a).symm)
theorem akn{es:nM}{n:List UInt8}(h:n∈es.map (λx=>x.1)):∃a,bB (jb es) n=some (.loc a)/\(n,a)∈es:=by
 rcases XE (es:=es) (n:=n)with⟨_,g⟩ |g
 ·exact absurd h g
 ·exact g
theorem ako(p:aF aS σ ae)(h:ae a=some o):aF aS (upd σ a o) ae:=λb x e y=>by
 by_cases z:b=a
 ·rw[z,eJ]at e;rw[z,h];exact e
 ·rw[iU z]at e;exact p.at e
noncomputable abbrev Zs:=List (Addr×Cd)
noncomputable def zL(z:Zs):List CV:=z.map λp=>.loc p.1
noncomputable def zD(z:Zs):List Cd:=z.reverse.map (λx=>x.2)
theorem KC{z:Zs}:(zD z).length=z.length:=by unfold zD;rw[aZ,EL]
theorem XJ{z:Zs}(hG:σ cl=some (.list (zL z)))(h4:z.length<=4)(hc:∀p∈z,o9 σ p.1 p.2/\p.2.note∈j5)
  (q:∀(ae:St) (r:Addr) (ws:List (List UInt8)) (f:List UInt8->Addr),aF aS σ ae->SN ws (zD z)->ae r=some (.list (ws.map λn=>.tup [.bytes n,.loc (f n)]))->(∀n∈ws,ae (f n)=some (.list ((iy (zD z) n).map .bytes)))->Q (.loc r) ae):Bw [.loc cl] [] σ Q:=by
 refine qE λe KD=>cy<|cX λda ao o8 En P1=>wg<|Hj (.var (yx (by decide) KD)) (P1.at hG) (by unfold zL;rw[aZ];exact aR h4 (by decide)) λrl ay lL cI P2=>?_
 refine iX cI λok bw=>?_;have P:=P1.trans P2
 have hdr:da≠rl:=λe=>by rw[<-e,En]at lL;exact jy lL
 unfold zL at cI ⊢;rw[<-vr]at cI ⊢;have PB:aF aS σ (upd σ rl (.list (z.reverse.map λp=>.loc p.1))):=.new (P1.no lL);have PB2:=ako P cI
 have ndB:upd σ rl (.list (z.reverse.map λp=>.loc p.1)) da=none:=by rw[iU hdr];exact o8
 have hB:upd σ rl (.list (z.reverse.map λp=>.loc p.1)) rl=_:=eJ ..;generalize upd σ rl (.list (z.reverse.map λp=>.loc p.1))=KG at*
 have akp:∀{ae},aF aS KG ae->ok ae:=λp=>bw _ (by have:=p.at hB;unfold zL;rw[<-vr];exact this)
 refine pO (xs:=z.reverse) [146] (λp=>.loc p.1) (λrest ae=>∃dz es,dz++rest=z.reverse/\jc KG ae da es (dz.map (λx=>x.2)) (dz.map (λx=>x.2))) ⟨[],[],rfl,⟨PB2,P2.at En,.nil,.nil,λn=>Iff.rfl,(λe he=>cA he),ndB,cP _⟩⟩ (λp rest e' ae s Ae z'=>?_) λe' ae s z'=>?_
 all_goals
  refine gH z' λdz es ez L=>?_
  refine⟨akp L.p,?_⟩
 ·intro K k
  have dl:(dz.map (λx=>x.2)).length<=10:=by
   have:=congrArg List.length ez;rw[bW,EL]at this
   rw[aZ];exact l2 h4 (el this) (by simp+arith only)
  refine xa (hc p (Zk.1 (by rw[<-ez];exact kY _ (.head _)))) λh1 h2=>?_
  exact akm L dl (h1.p0 PB) h2 (s.rd (j:=59) rfl rfl) Ae λbU es4 L4=>k.nx ⟨dz++[p],es4,by rw[fK];exact ez,by rw[cR];exact L4⟩
 ·rw[fj]at ez
  subst ez;have L:jc KG ae da es (zD z) (zD z):=L
  have ki:es.length<=4:=aR L.len (by rw[KC];exact h4)
  refine fE<|me<|cu (.one (.var (s.rd (j:=59) rfl rfl)))<|.inr (.inl (a1 (k:=.L) ⟨_,L.d,by unfold jb;rw[aZ];exact aR ki (by decide),λws hp hs=>?_⟩))
  have qb:ws.Perm (es.map (λx=>x.1)):=by
   have:(jb es).map (λx=>x.1)=es.map (λx=>x.1):=by unfold jb;rw[dp];rfl
   rw[this]at hp;exact hp
  have hf:∀n∈ws,∃a,bB (jb es) n=some (.loc a)/\(n,a)∈es:=λn hn=>akn (qb.mem_iff.1 hn)
  have hf:∃f:List UInt8->Addr,∀n∈ws,bB (jb es) n=some (.loc (f n))/\(n,f n)∈es:=
   ⟨λn=>match bB (jb es) n with |some (.loc a)=>a |_=>0,λn hn=>by
    refine a9 (hf n hn) λa g1 g2=>?_
    show _=some (CV.loc (match bB (jb es) n with |some (.loc a)=>a |_=>0))/\(n,match bB (jb es) n with |some (.loc a)=>a |_=>0)∈es
    rw[g1];exact⟨rfl,g2⟩⟩
  obtain⟨f,hf⟩:=hf
  refine cX λsl fH KH u5 P5=>iX u5 λok bw=>wj CV.bytes (λn=>.tup [.bytes n,.loc (f n)]) (bw _ u5) (by rw[qb.length_eq,aZ];exact aR ki (by decide)) (λn hn ce sc te=>.tup (.two (.var te) (.item (.var (sc.rd (j:=59) (s.rd (j:=59) rfl rfl) rfl)) (.var te) (.dB (P5.at L.d) (hf n hn).1)))) λr fI nr hr P6=>?_
  exact q fI r ws f (PB.trans (L.p.trans (P5.trans P6))) ⟨qb.nodup_iff.2 L.nd,hs,λn=>by rw[qb.mem_iff];exact L.mem n⟩ hr λn hn=>P6.at (P5.at (L.at_ _ (hf n hn).2).1)
variable {z:Zs}
theorem XK{α:Type}{el:EM}{R:CV->St->Prop}{ok:St->Prop}{xs:List α}(f1 f2:α->CV)(g:α->CV)(o:ok σ)(hl:xs.length<=1000)
  (hb:∀x∈xs,∀ce,cx (iC raw) e ce->ce i=some (f1 x)->ce j=some (f2 x)->Ev el ce σ (g x))
  (k:∀l ae,σ l=none->ae l=some (.list (xs.map g))->aF aS σ ae->R (.loc l) ae)(yN:autoParam (i≠j) aK)(hi:autoParam ((iC raw).contains i=true) aA)(hj:autoParam ((iC raw).contains j=true) aA):hM ok (eB [aName i,aName j]) de el (λacc aQ=>aQ.new (.list acc) R) (xs.map λx=>.tup [f1 x,f2 x]) (lC raw e) [] σ:=
 yP (λx=>.tup [f1 x,f2 x]) (λz=>true) g (λx ce=>ce i=some (f1 x)/\ce j=some (f2 x)) o (λx ce T s h=>⟨_,rfl,rfl,h _ ((s.set hi).set hj) ⟨by rw[ox yN];exact hJ ..,hJ ..⟩⟩) xs (λx hx ce s h=>⟨.GY,λz=>hb x hx ce s h.1 h.2⟩) _ [] (B4 raw e) (by rw[tv,mO];exact hl) (by rw[EK.2 λz z=>rfl];exact cX k)
theorem akq(done:List Cd)(n:List UInt8):(iy done n).length<=done.length:=by unfold iy;rw[aZ];exact EH _ _
noncomputable def tf(done:List Cd)(ws:List (List UInt8)):List (Int×List UInt8):=ws.map λn=>(-((iy done n).length:Int),n)
theorem KI:∀{l m:List (List UInt8)},l.Nodup->(∀x∈l,x∈m)->l.length<=m.length
 |[],_,_,_=>dE _
 |x::l,m,hn,hm=>by
  rw[mN]at hn;have hx:=hm x (.head _)
  have h1:=KI (m:=m.erase x) hn.2 λy hy=>(List.mem_erase_of_ne (λe=>hn.1 (by rw[<-e];exact hy))).2 (hm y (.tail _ hy))
  rw[YG hx]at h1;exact Nat.add_le_of_le_sub (List.length_pos_of_mem hx) h1
theorem SN.akr{ws:List (List UInt8)}(h:SN ws (zD z))(h4:z.length<=4):ws.length<=4:=
 aR (KI h.nd λx hx=>(h.mem x).1 hx) (by rw[aZ,KC];exact h4)
theorem Er{ws:List (List UInt8)}:(tf done ws).length=ws.length:=by unfold tf;rw[aZ]
theorem jt{n:Nat}(h:n<=4):n<=1000:=aR h (by decide)
theorem KJ{n:List UInt8}(h4:z.length<=4):((iy (zD z) n).map CV.bytes).length<=1000:=by
 rw[aZ];exact aR (akq ..) (by rw[KC];exact jt h4)
theorem aks(hG:σ cl=some (.list (zL z)))(h4:z.length<=4)(hc:∀p∈z,o9 σ p.1 p.2/\p.2.note∈j5)
  (q:∀(ae:St) (r:Addr) (ws:List (List UInt8)) (ps:List (Int×List UInt8)),aF aS σ ae->SN ws (zD z)->ps.Perm (tf (zD z) ws)->ps.Pairwise (λx y=>oH y x=false)->ae r=some (.list (ps.map λp=>.tup [.int (-p.1),.bytes p.2]))->Q (.loc r) ae):Gy [.loc cl] [] σ Q:=by
 refine qE λe KD=>cy<|me<|cu (.one (.var KD))<|XJ hG h4 hc λao r1 ws f P1 sn Ap hf=>iX Ap λok bw=>?_;have g8:=sn.akr h4
 refine XK (λn=>.bytes n) (λn=>.loc (f n)) (λn=>mn (-((iy (zD z) n).length:Int),n)) (bw _ Ap) (jt g8) (λn hn ce sc te akt=>.tup (.two (.neg (.to (.call (.one (.var akt)) (.len (KJ h4) (hf n hn))) (by rw[aZ]))) (.var te))) λr2 ay nr2 KL P2=>?_
 have KL:ay r2=some (.list ((tf (zD z) ws).map mn)):=by rw[KL];unfold tf;rw[dp];rfl
 refine fE<|me<|cu (.one (.var (hJ ..)))<|.inr (.inr (.inr (a1 (k:=.L) ⟨tf (zD z) ws,KL,by rw[Er];exact g8,λps hp hs=>cX λr3 aQ nr3 zW P3=>iX zW λok bw=>?_⟩)))
 exact XK (λp:Int×List UInt8=>.int p.1) (λp=>.bytes p.2) (λp=>.tup [.int (-p.1),.bytes p.2]) (bw _ zW) (by rw[hp.length_eq,Er];exact jt g8) (λp hp ce sc aku te=>.tup (.two (.neg (.var aku)) (.var te))) λr4 bU nr4 Js P4=>q bU r4 ws ps (P1.trans (P2.trans (P3.trans P4))) sn hp hs Js
noncomputable abbrev PL:=List (List UInt8×Addr)
noncomputable def Aq(p:List UInt8×Addr):CV:=.tup [.bytes p.1,.loc p.2]
theorem KO{n:Nat}:∀bs:List (List UInt8),m9 (DE σ (n+1)) (bs.map .bytes) (bs.map .bytes)
 |[]=>.nil
 |b::bs=>.cons DN.kF (KO bs)
theorem XM{h:List UInt8->List (List UInt8)}:∀(l1 l2:PL),l1.map (λx=>x.1)=l2.map (λx=>x.1)->(∀p∈l1,σ p.2=some (.list ((h p.1).map .bytes)))->(∀p∈l2,σ p.2=some (.list ((h p.1).map .bytes)))->(∀p∈l1,∀q∈l2,p.2≠q.2)->
  m9 (DE σ 4) (l1.map Aq) (l2.map Aq)
 |[],[],_,_,_,_=>.nil
 |[],_::_,e,_,_,_=>vD e
 |_::_,[],e,_,_,_=>og e
 |(x,a)::l1,(y,b)::l2,e,h1,h2,hd=>by
  obtain rfl:x=y:=xE e;exact .cons (DN.tup (.cons DN.kF (.cons (DN.ll (hd _ (.head _) _ (.head _)) (h1 _ (.head _)) (h2 _ (.head _)) (KO _)) .nil))) (XM l1 l2 (List.tail_eq_of_cons_eq e) (λp hp=>h1 p (.tail _ hp)) (λp hp=>h2 p (.tail _ hp)) λp hp q hq=>hd p (.tail _ hp) q (.tail _ hq))
theorem XN:∀l:List (Int×List UInt8),m9 (DE σ 4) (l.map mn) (l.map mn)
 |[]=>.nil
 |p::l=>.cons (DN.tup (.cons DN.int (.cons DN.kF .nil))) (XN l)
theorem akv(l:List (List UInt8)):(wL l).Nodup/\∀x,x∈wL l↔x∈l:=by
 have key:∀(l acc:List (List UInt8)),acc.Nodup->(l.foldl (λacc x=>if x∈acc then acc else acc++[x]) acc).Nodup/\∀x,x∈l.foldl (λacc x=>if x∈acc then acc else acc++[x]) acc↔x∈acc\/x∈l:=by
  intro l
  induction l with
  |nil=>intro acc h;exact⟨h,λx=>by simp⟩
  |cons y l ih=>
   intro acc h;rw[km]
   by_cases hy:y∈acc
   ·rw[if_pos hy]
    obtain⟨a,b⟩:=ih acc h;refine⟨a,λx=>?_⟩;rw[b x,eO]
    constructor
    ·rintro(z |z)
     ·exact .inl z
     ·exact .inr (.inr z)
    ·rintro(z |z |z)
     ·exact .inl z
     ·subst z;exact .inl hy
     ·exact .inr z
   ·rw[if_neg hy]
    obtain⟨a,b⟩:=ih (acc++[y]) (by
     rw[nT]
     exact⟨h,by simp,λx hx z hz e=>hy (by simp at hz;rw[<-hz,<-e];exact hx)⟩)
    refine⟨a,λx=>?_⟩;rw[b x,fZ,cL,eO,or_assoc]
 refine xa (key l [] .nil) λa b=>?_
 exact⟨a,λx=>by rw[wL,b x];simp⟩
noncomputable def cd0:Cd:=⟨[],0,none,([],[]),([],[])⟩
noncomputable def fW(Ds:List Cd)(k:Nat):Cd:=Ds.getD k cd0
theorem Es{k:Nat}(h:k<Ds.length):Ds[k]?=some (fW Ds k):=by
 unfold fW;rw[dG,bS h];rfl
theorem zM{W:St}{A:gy}(w:fJ W O is Ds){k:Nat}(hk:k<Ds.length):∃(i:Nat) (x:List UInt8) (c:Addr),is[k]?=some i/\O[i]?=some (x,lM,.loc c)/\o9 W c (fW Ds k)/\(fW Ds k).note∈j5:=by
 have hl:=w.len;have hi:is[k]?=some is[k]:=bS (ey hk (er hl));obtain⟨c,cd,pl,al,ad,cl,iJ,el,ti,H⟩:=w.comm k _ _ hi (Es hk);exact⟨_,_,c,hi,H.at_,⟨_,_,_,_,_,_,_,_,H.c,H.a,rfl⟩,(w.ok k _ (Es hk)).note⟩
theorem XO{k:Nat}(fU:σ tl=some (.list (Ds.map kU)))(n4:Ds.length<=4)(hk:k<Ds.length):It (.loc tl) (.int k) σ (kU (fW Ds k)):=
 .li (by rw[dM,Es hk];rfl) (by rw[aZ];exact jt n4) fU
theorem XQ:It (kU D) (.int 2) σ (.bytes D.bH.1):=.tup
theorem akw:It (kU D) (.int 1) σ (.bytes D.note.2):=.tup
theorem XR{op:CmpOp}{R:CV->St->Prop}(k:m1 e σ λx ao=>m2 e ao λy ay=>v9 op x y ay λb=>R (.bool b) ay):gM op m1 m2 e σ R:=k
noncomputable def rC(σ:St)(S:List UInt8->List (List UInt8))(ds:PL):Prop:=∀p∈ds,σ p.2=some (.list ((S p.1).map .bytes))
theorem rC.p{S:List UInt8->List (List UInt8)}{ds:PL}(h:rC σ S ds)(P:aF aS σ ae):rC ae S ds:=λp hp=>P.at (h p hp)
theorem rC.snoc{S:List UInt8->List (List UInt8)}{ds:PL}{n:List UInt8}(h:rC σ S ds)(k:σ a=some (.list ((S n).map .bytes))):rC σ S (ds++[(n,a)]):=λp hp=>by
 rcases fZ.1 hp with hp |hp
 ·exact h p hp
 ·rw[cL.1 hp];exact k
theorem XS{es:PL}{rest ws:List (List UInt8)}(h:es.map (λx=>x.1)++rest=ws)(h4:ws.length<=4):es.length<=4:=by
 rw[<-h,bW,aZ]at h4;exact aR (mL ..) h4
theorem akx{A:gy}{row:List Nat}(S:eE σ A O)(w:fJ σ O is Ds)(jG:σ il=some (.list (is.map mz)))(cI:σ rl=some (.list (row.map nI)))(fU:σ tl=some (.list (Ds.map kU)))
  (hr:∀k∈row,k<Ds.length)(r4:row.length<=4)(n4:Ds.length<=4)(q:bI (∀ae,aF aS σ ae->Q (.bool true) ae)):GH [.loc A.st,.loc il,.loc rl,.loc tl] [] σ Q:=by
 obtain⟨cf,XT⟩:∃cf:Nat->Addr,∀k,k<Ds.length->∃(i:Nat) (x:List UInt8),is[k]?=some i/\O[i]?=some (x,lM,.loc (cf k))/\o9 σ (cf k) (fW Ds k)/\(fW Ds k).note∈j5:=by
  have ex:∀k,∃c:Addr,k<Ds.length->∃(i:Nat) (x:List UInt8),is[k]?=some i/\O[i]?=some (x,lM,.loc c)/\o9 σ c (fW Ds k)/\(fW Ds k).note∈j5:=λk=>by
   by_cases hk:k<Ds.length
   ·refine Ft (zM (A:=A) w hk) λi x c h=>?_
    exact⟨c,λg=>⟨i,x,h⟩⟩
   ·exact⟨0,λh=>absurd h hk⟩
  exact⟨λk=>Classical.choose (ex k),λk=>Classical.choose_spec (ex k)⟩
 have ll:∀{α:Type} {f:Nat->α},(row.map f).length<=1000:=by intro α f;rw[aZ];exact jt r4
 have z4:(row.map λk=>(cf k,fW Ds k)).length<=4:=by rw[aZ];exact r4
 have hz:zD (row.map λk=>(cf k,fW Ds k))=row.reverse.map (fW Ds):=by unfold zD;rw[<-vr,dp];rfl
 refine df<|cy<|md nI (λk=>.loc (cf k)) (.li .var cI) (jt r4) (λk hk ce s e1=>?_) λth ao nth KP P1=>?_
 ·refine jg (XT k (hr k hk)) λi x h1 h2 zz=>?_
  exact .jA (.var (s.rd (j:=131) rfl rfl)) S.s.fi (.one (.item (.var (s.rd (j:=14) rfl rfl)) (.var e1) (.li (v:=mz i) (by rw[dM,h1];rfl) (by rw[aZ,w.len];exact jt n4) jG))) (JL S h2)
 have KP:ao th=some (.list (zL (row.map λk=>(cf k,fW Ds k)))):=by unfold zL;rw[KP,dp];rfl
 have sQ:∀p∈row.map λk=>(cf k,fW Ds k),o9 ao p.1 p.2/\p.2.note∈j5:=λp hp=>by
  refine a9 (dD.1 hp) λk hk aq=>?_;subst aq;obtain⟨i,x,_,_,h3,h4⟩:=XT k (hr k hk);exact⟨h3.p0 P1,h4⟩
 have KQ:=P1.at cI;have KR:=P1.at fU;refine cy<|dh .nil λdu ay KS XU P2=>wg<|j1<|dH<|j1<|dH<|md nI (λk=>.bytes (fW Ds k).bH.1) (.li .var (P2.at KQ)) (jt r4) (λk hk ce s e1=>.item (.item (.var (s.rd (j:=85) rfl rfl)) (.var e1) (XO (P2.at KR) n4 (hr k hk))) .val XQ) λnl aQ XW KU P3=>?_;refine xa (akv (row.map λk=>(fW Ds k).bH.1)) λdn dm=>?_
 have lp:(wL (row.map λk=>(fW Ds k).bH.1)).length<=4:=aR (KI dn λx hx=>(dm x).1 hx) (by rw[aZ];exact r4)
 refine a1 (k:=.L) ⟨row.map λk=>(fW Ds k).bH.1,by rw[KU,dp];rfl,ll,cX λse bU nse sN P4=>.inr (.inr (.inl (a1 (k:=.L) ⟨_,sN,lp,λws hp hs=>cX λsl fH KH u5 P5=>iX u5 λok bw=>?_⟩)))⟩
 have sn:SN ws (zD (row.map λk=>(cf k,fW Ds k))):=⟨hp.nodup_iff.2 dn,hs,λn=>by rw[hz,hp.mem_iff,dm n,vr,vr,Zk,dp];rfl⟩
 have g8:ws.length<=4:=by rw[hp.length_eq];exact lp
 have Ar:=P3.trans (P4.trans P5);have aky:=P1.no KS
 have XX:∀{b:Addr} {o:CO},ao b=some o->b≠du:=λh e=>by rw[e,KS]at h;exact bo h
 have nds:sl≠du:=λe=>by
  have:=(P3.trans P4).at XU;rw[<-e,KH]at this;exact bo this
 refine pO (xs:=ws) [66] CV.bytes (λrest ae=>∃ds:PL,ds.map (λx=>x.1)++rest=ws/\ae du=some (.list (ds.map Aq))/\rC ae (iy (zD (row.map λk=>(cf k,fW Ds k)))) ds/\(∀p∈ds,p.2≠du)/\aF (one du) fH ae) ⟨[],rfl,Ar.at XU,(λg h=>cA h),(λg h=>cA h),.refl _ _⟩ (λn rest e' fI s Kq z=>?_) λe' fI s z=>?_
 all_goals
  refine rU z λds ew hd qK zT P6=>?_;clear z
  refine⟨bw _ (P6.at u5 nds),?_⟩
 ·intro K kk
  have akz:=P6.at (Ar.at (P2.at KQ)) (XX KQ);have akA:=P6.at (Ar.at (P2.at KR)) (XX KR);refine iA<|yG (.var (s.rd (j:=8) rfl rfl)) ⟨_,_,rfl,hd⟩<|dH<|show b8 _ _ _ _ from j0 (.var Kq)<|dH<|me<|Hj (.var (s.rd (j:=27) rfl rfl)) akz ll λrv nF nrv KW P7=>?_;rw[<-vr]at KW
  refine iX KW λok7 KX=>Hu nI (λk=>decide ((fW Ds k).bH.1=n)) (λk=>.bytes (fW Ds k).note.2) (KX _ KW) (by rw[EL];exact jt r4) (λk hk ce sc e1=>?_) λna sS vd mx P8=>⟨by exact cG rfl,?_⟩
  ·have T:=Ev.item (.var (sc.rd (j:=85) (s.rd (j:=85) rfl rfl) rfl)) (.var e1) (XO (P7.at akA) n4 (hr k (Zk.1 hk)))
   exact⟨.cmp (.item T .val XQ) (.var (sc.rd (j:=66) Kq rfl)) .t7,λg=>.item T .val akw⟩
  ·have KZ:=P7.trans P8
   have mx:sS na=some (.list ((iy (zD (row.map λk=>(cf k,fW Ds k))) n).map .bytes)):=by
    rw[mx,hz];unfold iy;rw[List.filter_map,dp,dp]
    rfl
   refine we (KZ.at hd) (by rw[aZ];exact jt (XS ew g8)) λuI Et u=>bp<|kk.nx ⟨ds++[(n,na)],by rw[cR,fK];exact ew,by rw[Et,cR];rfl,?_,λp hp=>?_,(P6.nx KZ).trans u⟩
   ·have uH:na≠du:=λe=>by
     have:=P7.at hd;rw[<-e,vd]at this;exact bo this
    exact rC.snoc (λp hp=>u.at (KZ.at (qK p hp)) (zT p hp)) (u.at mx uH)
   ·rcases fZ.1 hp with hp |hp
    ·exact zT p hp
    ·rw[cL.1 hp]
     intro e;have:=P7.at hd
     rw[<-show na=du from e,vd]at this;exact bo this
 ·rw[fj]at ew
  have P06:aF aS σ fI:=(P1.trans (P2.trans Ar)).sn P6 aky;have XY:aF aS ao fI:=(P2.trans Ar).sn P6 KS;have K0:∀p∈row.map λk=>(cf k,fW Ds k),o9 fI p.1 p.2/\p.2.note∈j5:=λp hp=>⟨(sQ p hp).1.p0 XY,(sQ p hp).2⟩;have XZ:=XY.at KP
  have lp:ds.length<=4:=XS (rest:=[]) (by rw[fj];exact ew) g8
  generalize(row.map λk=>(cf k,fW Ds k))=z at*;refine vY<|v8<|me<|cu (.one (.var (s.rd (j:=132) rfl rfl)))<|XJ XZ z4 K0 λnF r1 Eu f P7 sn1 Ap hf=>iX Ap λok7 KX=>?_;obtain rfl:Eu=ws:=sn1.uniq sn;refine B5 (λn=>.tup [.bytes n,.loc (f n)]) (λrest acc l7=>∃es:PL,es.map (λx=>x.1)++rest=Eu/\acc=es.map Aq/\rC l7 (iy (zD z)) es/\(∀p∈es,nF p.2=none)/\aF aS nF l7) ⟨[],rfl,rfl,(λg h=>cA h),(λg h=>cA h),.refl _ _⟩ (jt g8) (λn rest acc ae ce y hl sc ve=>?_) λacc ae y=>?_
  all_goals
   refine rU y λes Ew g1 g2 g3 P8=>?_
   refine⟨KX _ (P8.at Ap),?_⟩
  ·intro KY ky
   have hfn:=P8.at (hf n (by rw[<-Ew];exact kY _ (.head _)))
   exact show b8 _ _ _ _ from j0 (x:=.bytes n) (.item (.var ve) .val .tup)<|dH<|cu (vs:=[.loc (f n)]) (.one (.item (.var ve) .val .tup))<|a1 (k:=.L) ⟨_,.inl hfn,KJ z4,cX λa σa na ha Pa=>⟨by exact cG rfl,ky _ _ ⟨es++[(n,a)],by rw[cR,fK];exact Ew,by rw[g1,cR];rfl,(g2.p Pa).snoc ha,λp hp=>(fZ.1 hp).elim (g3 p) λhp=>by rw[cL.1 hp];exact P8.no na,P8.trans Pa⟩⟩⟩
  ·rw[fj]at Ew
   refine cX λna uI vd mx P9=>bV (.var (s.rd (j:=8) rfl rfl)) ?_;have Ex:=P7.trans (P8.trans P9);have Et:=Ex.at hd;rw[g1]at mx
   refine⟨_,.HJ mx Et (XM (h:=iy (zD z)) es ds (by rw[Ew,ew]) (g2.p P9) (qK.p Ex) (λp hp q hq e=>?_)),?_⟩
   ·have h2:=P7.at (qK q hq)
    rw[<-e,g3 p hp]at h2;exact bo h2
   refine cy<|j1<|dH<|md Aq (λp=>mn (-((iy (zD z) p.1).length:Int),p.1)) (.li (.var (s.rd (j:=8) rfl rfl)) Et) (jt lp) (λp hp ce sc ve=>.tup (.two (.neg (.to (.call (.one (.item (.var ve) .val .tup)) (.len (KJ z4) (qK.p Ex p hp))) (by rw[aZ]))) (.item (.var ve) .val .tup))) λrc DC nrc K1 zY=>?_
   have K1:DC rc=some (.list ((tf (zD z) Eu).map mn)):=by
    rw[K1];unfold tf;rw[<-ew,dp,dp];rfl
   refine .inr (.inr (.inr (a1 (k:=.L) ⟨_,K1,by rw[Er];exact g8,λps dR hss=>cX λr5 H6 nr5 hr5 P11=>?_⟩)))
   have jo:ps.length<=1000:=by rw[dR.length_eq,Er];exact jt g8
   have K2:=Ex.trans (zY.trans P11);refine fE<|XR<|me<|cu (.one (.var (s.rd (j:=132) rfl rfl)))<|aks (K2.at XZ) z4 (λp hp=>⟨(K0 p hp).1.p0 K2,(K0 p hp).2⟩) λal0 r6 ws2 X0 X1 sn2 uz II X2=>iX X2 λok8 akB=>?_;obtain rfl:ws2=Eu:=sn2.uniq sn;obtain rfl:X0=ps:=YH (λa b g g h1 h2=>aga h2 h1) II hss (uz.trans dR.symm);refine wj (λp:Int×List UInt8=>CV.tup [.int (-p.1),.bytes p.2]) (λp=>mn (-p.1,p.2)) (akB _ X2) jo (λp hp ce sc ve=>.call (.one (.var ve)) .tup) λr7 al1 nr7 hr7 X3=>?_;refine ac3 (λp:Int×List UInt8=>.int p.1) (λp=>.bytes p.2) (λp=>mn (-p.1,p.2)) (.li .var (X3.at (X1.at hr5))) jo (λp hp ce sc h61 te=>.tup (.two (.neg (.var h61)) (.var te))) λr8 X4 nr8 hr8 X5=>?_;refine⟨_,.Qh (X5.at hr7) hr8 ?_,q.out X4 (P06.trans (K2.trans (X1.trans (X3.trans X5))))⟩;have:=XN (σ:=X4) (X0.map λp=>(-p.1,p.2));rwa[dp]at this
theorem ne2{x y:Addr}(h:σ x=some o)(n:σ y=none):x≠y:=λe=>by rw[e,n]at h;exact bo h
theorem akC{W:St}{c:Addr}{T:Nat}{A:gy}(dk:Dk W σ d c T)(w:fJ W O is Ds)(S:eE W A O)(n4:is.length<=4)
  (q:bI (∀(X:Wx) W' ae,X.A=A->X.O=O->X.is=is->X.Ds=Ds->X.d=d->X.c=c->aF aS W W'->aF aS σ ae->WS X W' ae T []->Q (.loc X.wk) ae)):eV 958 Gg [.loc A.st] [] σ Q:=
 pM λa wd ao na rB i1 P1=>by
  refine⟨_,_,rfl,rfl,?_⟩
  refine show Gf (eW vE [.loc a,.loc A.st,.tup []] λz=>none) ao (bk _)from fF .var rfl i1 λay i2 p2=>vV<|cX λsh aQ X6 j3 P3=>bV .var<|sk (i2.a7 P3) λbU i4 p4=>Hr .var<|yJ trivial<|
   vV<|cX λkn fH uJ ik P5=>bV .var<|sk (i4.a7 P5) λfI i6 p6=>vV<|cX λlv nF As hlv P7=>bV .var<|sk (i6.a7 P7) λsS i8 p8=>bp ⟨rfl,?_⟩
  have Ey:=(ne2 i2.2 X6).symm;have knd:=(ne2 i4.2 uJ).symm;have X7:=(ne2 i6.2 As).symm;have X8:=p6.at (P5.at (p4.at j3 Ey)) Ey;have X9:=p6.at ik knd;have akD:=p8.at (P7.at X8) Ey;have Yb:aF aS σ ay:=P1.sn p2 rB;have Yc:aF aS σ bU:=(Yb.trans P3).sn p4 rB;have Yd:aF aS σ fI:=(Yc.trans P5).sn p6 rB;have Ye:aF aS σ sS:=(Yd.trans P7).sn p8 rB;have Yg:=Yb.no X6;have K3:=Yc.no uJ;have K4:=Yd.no As;refine cz ((dk.ext Ye).fz i8.1 (dk.new na).1 (dk.new na).2) λW1 ip zJ D1 b1=>?_;refine cz (D1.fz i8.2 (dk.new rB).1 (dk.new rB).2) λW2 cJ sU D2 b2=>?_;refine cz (D2.fz akD (dk.new Yg).1 (dk.new Yg).2) λW3 dU ha3 D3 b3=>?_;have PW:=ip.trans (cJ.trans dU)
  refine q.out ⟨A,O,is,Ds,a,wd,sh,kn,lv,d,c⟩ W3 sS rfl rfl rfl rfl rfl rfl PW Ye ⟨⟨w.up PW,S.p0 PW,n4,⟨dU.at (cJ.at zJ),dU.at sU⟩,ha3⟩,D3,⟨[],⟨p8.at (P7.at X9) knd,(λz h=>cA h),dE _⟩,.nil,λk v e=>bo e⟩,⟨p8.at hlv X7,(λz h=>cA h),dE _⟩,.nil,⟨?_,(dk.new K3).1,(dk.new K3).2⟩,⟨?_,(dk.new K4).1,(dk.new K4).2⟩,ne2 X9 As⟩
  ·show W3 kn=none
   rw[b3 _ (ne2 (p4.at j3 Ey) uJ).symm,b2 _ knd,b1 _ (ne2 i4.1 uJ).symm];exact dk.nw K3
  ·show W3 lv=none
   rw[b3 _ (ne2 X8 As).symm,b2 _ X7,b1 _ (ne2 i6.1 As).symm];exact dk.nw K4
set_option tactic.hygienic true
structure OW(n:Nat)(s:PS):Prop where
 nd:(s.o++s.w).Nodup
 lt:∀k∈s.o++s.w,k<n/\(s.f k).isSome=true
theorem OW.put{n p:Nat}{s:PS}(h:OW n s)(hp:p<n):OW n (dW sh s p):=by
 unfold dW
 split
 ·rename_i g
  simp only[rI,ED]at g
  have hn:p∉s.o++s.w:=λhm=>by have:=(h.lt p hm).2;rw[g.2]at this;exact eP this
  refine⟨?_,λk hk=>?_⟩
  ·show(s.o++(s.w++[p])).Nodup
   rw[<-fK,nT]
   exact⟨h.nd,by simp,λx hx y hy e=>hn (by simp at hy;rw[<-hy,<-e];exact hx)⟩
  ·have c4:k∈s.o++s.w\/k=p:=by
    have:k∈s.o++(s.w++[p]):=hk;simp at this ⊢
    rcases this with h1 |h1 |h1
    ·exact .inl (.inl h1)
    ·exact .inl (.inr h1)
    ·exact .inr h1
   show k<n/\(eM s.f p 1 k).isSome=true
   rcases c4 with c4 |rfl
   ·have:=h.lt k c4
    refine⟨this.1,?_⟩
    unfold eM;split
    ·rfl
    ·exact this.2
   ·exact⟨hp,by simp[eM]⟩
 ·exact h
theorem OW.step{row:Nat->List Nat}{n:Nat}{s:PS}(h:OW n s)(hr:∀k,∀j∈row k,j<k)(e:s.w≠[]):OW n (nK row t sh s):=by
 have hp:=xk (t:=t) e;unfold nK;generalize kW t s.w=p at*
 have hpn:=(h.lt p (by simp[hp])).1
 have h0:OW n ⟨s.w.filter (·≠p),s.o++[p],s.f⟩:=by
  have nd:=h.nd;rw[nT]at nd
  refine⟨?_,λk hk=>h.lt k ?_⟩
  ·show((s.o++[p])++s.w.filter (·≠p)).Nodup
   rw[fK,nT]
   refine⟨nd.1,?_,λx hx y hy e=>nd.2.2 x hx y ?_ e⟩
   ·rw[List.singleton_append,mN]
    exact⟨by simp,nd.2.1.filter _⟩
   ·simp at hy
    rcases hy with rfl |hy
    ·exact hp
    ·exact hy.1
  ·have:k∈(s.o++[p])++s.w.filter (·≠p):=hk
   simp at this ⊢
   rcases this with h1 |rfl |h1
   ·exact .inl h1
   ·exact .inr hp
   ·exact .inr h1.1
 have key:∀(ps:List Nat) (s:PS),OW n s->(∀q∈ps,q<n)->OW n (ps.foldl (dW sh) s):=by
  intro ps
  induction ps with
  |nil=>intro s hs _;exact hs
  |cons q ps ih=>intro s hs hq;exact ih _ (hs.put (hq q (.head _))) λx hx=>hq x (.tail _ hx)
 exact key _ _ h0 λq hq=>by have:=hr p q hq;exact jQ this hpn
theorem akE{row:Nat->List Nat}{n a:Nat}(ha:a<n)(hr:∀k,∀j∈row k,j<k):(kh row t sh a).o.length<=n:=by
 have key:∀(f:Nat) (s:PS),OW n s->OW n (lR row t sh f s):=by
  intro f
  induction f with
  |zero=>intro s hs;exact hs
  |succ f ih=>
   intro s hs
   by_cases e:s.w=[]
   ·rw[J8 e];exact hs
   ·rw[J9 e];exact ih _ (hs.step hr e)
 have h:=key 5 (dW sh gW a) (OW.put ⟨by simp[gW],λk hk=>by simp[gW]at hk⟩ ha)
 have nd:=h.nd;rw[nT]at nd
 exact oQ n _ nd.1 λx hx=>(h.lt x (by simp;exact .inl hx)).1
structure xC(X:Wx)(rows:List (List Nat))(times:List Nat)(counts:List (Option Nat)):Prop where
 r:∀k,X.row k=rows.getD k []
 t:∀k,X.time k=times.getD k 0
 c:∀k,X.cnt k=counts.getD k none
theorem xC.of{X:Wx}{rows:List (List Nat)}{times:List Nat}{counts:List (Option Nat)}(h:JD X.Ds rows times counts):xC X rows times counts:=by
 refine⟨λk=>?_,λk=>?_,λk=>?_⟩
 ·rw[<-h.r];unfold Wx.row;rw[dG,dM]
 ·rw[<-h.t];unfold Wx.time;rw[dG,dM]
 ·rw[<-h.c];unfold Wx.cnt;rw[dG,dM]
theorem akF{rows:List (List Nat)}(h:xC X rows times counts)(w:Wi){k:Nat}(hk:X.Ds[k]?=some D):
  El w D.note.1 D.bH.1 D.bH.2 (rows.getD k []).length (times.getD k 0) (jN (counts.getD k none)) (if rows.getD k []=[]then[0]else(rows.getD k []).map λj=>jN (counts.getD j none))=js X w k:=by
 have e1:X.note k=D.note:=by unfold Wx.note;rw[hk];rfl
 have e2:X.bH k=D.bH:=by unfold Wx.bH;rw[hk];rfl
 unfold El js Ke;rw[e1,e2,h.r,h.t]
 have e3:gX X (some k)=jN (counts.getD k none):=by show jN (X.cnt k)=_;rw[h.c]
 have e4:(oldsOf (rows.getD k [])).map (gX X)=if rows.getD k []=[]then[0]else(rows.getD k []).map λj=>jN (counts.getD j none):=by
  unfold oldsOf
  split
  ·rfl
  ·rw[dp]
   refine pd λj z=>?_;show jN (X.cnt j)=_;rw[h.c]
 rw[e3,e4]
 generalize(if rows.getD k []=[]then[0]else(rows.getD k []).map λj=>jN (counts.getD j none))=l
 generalize jN (counts.getD k none)=m
 have e5:(l.all λx=>x !=m)=!decide (m∈l):=by
  rw[rL];simp only[iz,bne_iff_ne,mK,decide_eq_false_iff_not];exact⟨λh hm=>h m hm rfl,λh x hx e=>h (e▸hx)⟩
 rw[e5];cases ql w D.note.1<;>cases rz w D.bH.1 D.bH.2<;>cases oX w (times.getD k 0)<;>cases u0 w (rows.getD k []).length<;>rfl
set_option tactic.hygienic false
noncomputable def jd(e:aL)(l:List (Nat×CV)):Prop:=∀j v,l.lookup j=some v->e j=some v
theorem jd.set{l:List (Nat×CV)}{v:CV}(h:jd e l):jd (bA e i v) ((i,v)::l):=λj w g=>by
 by_cases z:j=i
 ·rw[kj,z,beq_self_eq_true,<-z]at g;rw[z,hJ];exact g
 ·rw[kj,beq_eq_false_iff_ne.2 z]at g;rw[ox z];exact h j w g
theorem jd.rd{l:List (Nat×CV)}{v:CV}(h:jd e l)(q:autoParam (l.lookup j=some v) aA):e j=some v:=h j v q
noncomputable def Yh(l:List (Nat×CV)):List (Nat×CV)->Prop
 |[]=>True
 |p::t=>l.lookup p.1=some p.2/\Yh l t
theorem jd.sub{l:List (Nat×CV)}(h:jd e l):∀{l':List (Nat×CV)},Yh l l'->jd e l'
 |[],_=>λo o g=>bo g
 |p::t,s=>λj w g=>by
  rw[kj]at g
  by_cases z:j=p.1
  ·rw[z,beq_self_eq_true]at g;cases g;rw[z];exact h _ _ s.1
  ·rw[beq_eq_false_iff_ne.2 z]at g;exact jd.sub h s.2 j w g
theorem Yi{F:FM}{mk:cV}{R:CV->St->Prop}(h:gq ms e σ xs)(h1:gq mk e σ ys)(k:F xs (is.zip ys) σ R):Cz F ms is mk e σ R:=h _ (h1 _ k)
theorem WS.draw{W:St}{T:Nat}(h:WS X W σ T ls)(D:Dk W ae X.d X.c T')(p:aF (two X.d X.c) σ ae):WS X W ae T' ls:=by
 refine bF h.kn λks h1 h2 h3=>?_;exact⟨h.f,D,⟨ks,h1.a7 p (λx=>x.elim h.fk.2.1 h.fk.2.2),h2,h3⟩,h.lv.a7 p (λx=>x.elim h.fl.2.1 h.fl.2.2),h.ln,h.fk,h.fl,h.sZ⟩
structure LF(X:Wx)(W:St)(w:Wi)(aa ad na fa il nO lS dX a:Addr)(hs O:List Nat):Prop where
 ask:bP W aa 163 ad (uZ w)
 na:W na=some (.list [cb X.is a])
 fa:W fa=some (.list (hs.map (cb X.is)))
 il:W il=some (.list (X.is.map mz))
 rw:W nO=some (.list (O.map nI))
 ft:W lS=some (.list ((O.filter (js X w)).map nI))
 to:W dX=some (.list (X.Ds.map kU))
theorem LF.up{W:St}{w:Wi}{lS:Addr}{O:List Nat}(h:LF X W w aa ad na fa il nO lS dX a hs O)(p:aF aS W W'):LF X W' w aa ad na fa il nO lS dX a hs O:=
 ⟨h.ask.a7 p,p.at h.na,p.at h.fa,p.at h.il,p.at h.rw,p.at h.ft,p.at h.to⟩
theorem akG{k:Nat}(hk:k<is.length):(is.map mz)[k]?=some (cb is k):=by
 rw[dM,bS hk];show some (CV.bytes (fT is[k]))=some (CV.bytes (fT (is.getD k 0)));rw[dG,bS hk];rfl
theorem K6{k:Nat}(h:σ il=some (.list (is.map mz)))(n4:is.length<=4)(hk:k<is.length):It (.loc il) (.int k) σ (cb is k):=.li (akG hk) (by rw[aZ];exact jt n4) h
theorem akH(is O:List Nat):O.map (cb is)=(O.map (dc is)).map CV.bytes:=by rw[dp];rfl
theorem Yj{W:St}{T:Nat}{L:List Nat}{s1 r:SM}{K m:EM}{Q:dy->aL->St->Prop}(n4:X.is.length<=4)(hL:∀k∈L,k<X.is.length)(l5:L.length<=5)(jG:W il=some (.list (X.is.map mz)))(DA:e 14=some (.loc il))
  (hK:∀R:CV->St->Prop,(∀W1 ao jM oa,aF aS W W1->WS X W1 ao T jM->W1 oa=some (.list (L.map (cb X.is)))->R (.loc oa) ao)->K e σ R)
  (hm:∀W1 ao jM,aF aS W W1->WS X W1 ao T jM->∀R:CV->St->Prop,(∀l ay,ay l=some (.list (L.map nI))->aF aS ao ay->R (.loc l) ay)->m e ao R)
  (k:∀W1 ao jM,aF aS W W1->WS X W1 ao T jM->r e ao Q):
  ah (bC (aT .NotEq (aY sH (ag K ar)) (cT [(3,.local),(1,.local),(14,.free)] (bO m) (aName 1) de (bc (af 14) (af 1)))) s1 az) r e σ Q:=by
 have ll:(L.map (cb X.is)).length<=1000:=by rw[aZ];exact aR l5 (by decide)
 refine vY<|v8<|j1<|dH<|hK _ λW1 ao jM oa P1 h1 ho=>a1 (k:=.L) ⟨_,.inl (h1.dk.fr.at ho),ll,cX λla ay lP c6 P2=>me<|hm W1 ay jM P1 (h1.ext P2) _ λl aQ hl P3=>iX hl λok bw=>?_⟩;have h3:=(h1.ext P2).ext P3
 refine wj nI (cb X.is) (bw _ hl) (aR l5 (by decide)) (λk hk ce s e1=>.item (.var (s.rd (j:=14) DA rfl)) (.var e1) (K6 (h3.dk.fr.at (P1.at jG)) n4 (hL k hk))) λb bU nb hb P4=>?_
 exact⟨_,.HJ (P4.at (P3.at c6)) hb (by rw[akH];exact KO _),k W1 bU jM P1 (h3.ext P4)⟩
theorem akI{W:St}{T:Nat}{w:Wi}{lS:Addr}(h:WS X W σ T ls)(hT:T<=900)(ha:a<X.is.length)(uW:∀k∈hs,k<X.is.length)(lh:hs.length<=10)(R:xq X.row X.is.length [a] hs)
  (F:LF X W w aa ad na fa il nO lS dX a hs (kh X.row (iK X) (kX X.row a hs) a).o)(E:jd e [(46,.loc X.d),(131,.loc X.A.st),(89,.loc X.wk),(67,.loc na),(10,.loc fa),(98,.loc aa),(11,.loc lS),(14,.loc il),(27,.loc nO),(85,.loc dX)])(q:∀ae,Q (.bool true) ae):Tg e σ (bk Q):=by
 have ck:=Kh (row:=X.row) (t:=iK X) (sh:=kX X.row a hs) ha h.f.fh;have hln:=akE (row:=X.row) (t:=iK X) (sh:=kX X.row a hs) ha h.f.fh;have n4:=h.f.n4;have log:=λ(σ:St) (W:St) (T:Nat) (ls:List Nat) (most:Option Nat) (Q:CV->St->Prop) (h:WS X W σ T ls) (F:LF X W w aa ad na fa il nO lS dX a hs (kh X.row (iK X) (kX X.row a hs) a).o)=>ajB (Q:=Q) (most:=most) h ha uW lh R F.ask F.na F.fa;generalize(kh X.row (iK X) (kX X.row a hs) a).o=O at*;have K7:(O.filter (js X w)).length<=5:=aR (EH _ _) ck.2;have Yk:∀k∈O.filter (js X w),k<X.is.length:=λk hk=>ck.1 k (rK.1 hk).1
 refine Yj (T:=T) n4 Yk K7 F.il E.rd (λR k=>Yi (.cons (.var E.rd) (.three (.var E.rd) (.var E.rd) (.var E.rd))) (.one (.var E.rd)) ⟨_,_,_,_,_,_,rfl,.inl ⟨rfl,rfl⟩,log σ W T ls none _ h F ⟨λW1 ao jM oa g1 h1 P1 gA=>?_⟩⟩) (λW1 ao jM P1 h1 R k=>bV (.var E.rd) (k _ _ (h1.dk.fr.at (P1.at F.ft)) (.refl _ _))) λW1 ao jM P1 h1=>?_
 ·rw[WV,vx]at gA
  exact k _ _ _ _ g1.p h1 gA
 have F1:=F.up P1
 refine cy<|pK .val<|cu (.two (.var E.rd) .val)<|nG h1.dk (aR hT (by decide)) (by decide) (by decide) ⟨λr ay hr D2 P2=>?_⟩
 have h2:=h1.draw D2 P2
 have hm:CV.int (1+(r:Int))=.int ((1+r:Nat):Int):=by rw[Int.natCast_add];rfl
 refine gQ .add ?_;rw[hm];have E2:=E.set (i:=31) (v:=.int ((1+r:Nat):Int));generalize bA e 31 (.int ((1+r:Nat):Int))=e2 at*
 refine Yj (T:=T+1) (L:=(O.filter (js X w)).take (1+r)) n4 (λk hk=>Yk k (List.mem_of_mem_take hk)) (aR (List.length_take_le' _ _) K7) F1.il E2.rd (λR k=>Yi (.cons (.var E2.rd) (.three (.var E2.rd) (.var E2.rd) (.var E2.rd))) (.two (.var E2.rd) (.var E2.rd)) ⟨_,_,_,_,_,_,rfl,.inr rfl,log ay W1 (T+1) jM (some (1+r)) _ h2 F1 ⟨λW3 aQ xt ob g3 h3 P3 Yl=>?_⟩⟩) (λW3 aQ xt P3 h3 R k=>Pw (.var E2.rd) (.var E2.rd)<|upL (h3.dk.fr.at (P3.at F1.ft)) (by rw[aZ];exact aR K7 (by decide)) λl bU nl hl P4=>k _ _ (by rw[hl,List.map_take]) P4) λW3 aQ xt P3 h3=>?_
 ·rw[WX _ _ _ _ (dE _),vx]at Yl
  exact k _ _ _ _ g3.p h3 Yl
 have F3:=F1.up P3;have fr:=h3.dk.fr;have wl:=h3.f.w.len
 exact fE<|cu (.cons (.var E2.rd) (.three (.var E2.rd) (.var E2.rd) (.var E2.rd)))<|akx (h3.f.S.p0 fr) (h3.f.w.up fr) (fr.at F3.il) (fr.at F3.rw) (fr.at F3.to) (λk hk=>by rw[<-wl];exact ck.1 k hk) (aR hln n4) (by rw[<-wl];exact n4) ⟨λuI P9=>q uI⟩
structure LG(X:Wx)(W:St)(w:Wi)(rl tl cl il dX wd:Addr)(rows:List (List Nat))(times:List Nat)(counts:List (Option Nat)):Prop where
 r:ke W rl rows
 t:W tl=some (.list (times.map nI))
 c:W cl=some (.list (counts.map nH))
 il:W il=some (.list (X.is.map mz))
 to:W dX=some (.list (X.Ds.map kU))
 wd:∃es,W wd=some (.dS es)/\gj w es
theorem ke.up{W W':St}{rows:List (List Nat)}(h:ke W l rows)(p:aF aS W W'):ke W' l rows:=
 let⟨c9,h1,h2⟩:=h
 ⟨c9,p.at h1,h2.mono p⟩
section
variable{X:Wx}{W W':St}{w:Wi}{rl tl cl il dX wd:Addr}{rows:List (List Nat)}{times:List Nat}{counts:List (Option Nat)}
theorem LG.up(h:LG X W w rl tl cl il dX wd rows times counts)(p:aF aS W W'):LG X W' w rl tl cl il dX wd rows times counts:=
 ⟨h.r.up p,p.at h.t,p.at h.c,p.at h.il,p.at h.to,let⟨es,h1,h2⟩:=h.wd;⟨es,p.at h1,h2⟩⟩
end
structure LC(X:Wx)(rows:List (List Nat))(times:List Nat)(counts:List (Option Nat))(hs:List Nat):Prop where
 xo:xC X rows times counts
 rn:rows.length=X.is.length
 tn:times.length=rows.length
 cn:counts.length=rows.length
 n2:2<=rows.length
 n4:rows.length<=4
 hl:∀k∈hs,k<X.is.length
 lh:hs.length<=1
noncomputable abbrev lv(X:Wx)(rl tl cl il dX wd:Addr)(n:Nat):List (Nat×CV):=[(46,.loc X.d),(131,.loc X.A.st),(89,.loc X.wk),(76,.loc rl),(133,.loc tl),(147,.loc cl),(14,.loc il),(85,.loc dX),(92,.loc wd),(61,.int n)]
theorem Ez{n:Nat}(h:2<=n):CV.int ((n:Int)- 1)=.int ((n- 1:Nat):Int):=congrArg CV.int (Mb (AG h)).symm
theorem akJ{es:List (Str×CV)}{k:Str}{o:Option CV}(h:bB es k=o)(hv:o.getD .none=x):(bB es k).getD .none=x:=by rw[h];exact hv
theorem akK{X:Wx}{W:St}{T:Nat}{w:Wi}{rl tl cl il dX wd hl:Addr}{rows:List (List Nat)}{times:List Nat}{counts:List (Option Nat)}(h:WS X W σ T ls)(hT:T<=900)
  (C:LC X rows times counts hs)(R:xq X.row X.is.length [rows.length- 1] hs)(G:LG X W w rl tl cl il dX wd rows times counts)(BF:W nO=some (.list ((kh X.row (iK X) (kX X.row (rows.length- 1) hs) (rows.length- 1)).o.map nI)))(nQ:W hl=some (.list (hs.map nI)))
  (E:jd e ((27,.loc nO)::(155,.loc hl)::lv X rl tl cl il dX wd rows.length))(q:∀ae,Q (.bool true) ae):Th e σ (bk Q):=by
 have n4:=h.f.n4;have n2:=C.n2
 have ha:rows.length- 1<X.is.length:=by rw[<-C.rn];exact Fk (ey (by decide) n2) (by decide)
 have ck:=Kh (row:=X.row) (t:=iK X) (sh:=kX X.row (rows.length- 1) hs) ha h.f.fh
 have fh:∀k,∀j∈rows.getD k [],j<k:=λk j hj=>h.f.fh k j (by rw[C.xo.r];exact hj)
 have kg:∀k,(rows.getD k []).length<=4:=λk=>by rw[<-C.xo.r];exact h.f.kg k
 have wl:=h.f.w.len
 have fin:=λ(W' ae:St) (aa ad na fa lS:Addr) (e':aL) (h':WS X W' ae T ls) (F:LF X W' w aa ad na fa il nO lS dX (rows.length- 1) hs (kh X.row (iK X) (kX X.row (rows.length- 1) hs) (rows.length- 1)).o)=>akI (e:=e') (Q:=Q) h' hT ha C.hl (aR C.lh (by decide)) R F
 generalize(kh X.row (iK X) (kX X.row (rows.length- 1) hs) (rows.length- 1)).o=O at*;refine a9 G.wd λes eu D=>?_
 refine cy<|me<|bV (.var E.rd)<|iX (h.dk.fr.at BF) λok bw=>Hx nI (λrest acc ae=>∃done,done++rest=O/\acc=(done.filter (js X w)).map nI/\aF aS σ ae) ⟨[],rfl,rfl,.refl _ _⟩ (aR ck.2 (by decide)) (λj rest acc ae ce z qU sc e1=>?_) λacc ae z=>?_
 all_goals
  refine bF z λdone g1 g2 P=>?_
  refine⟨bw _ (P.at (h.dk.fr.at BF)),?_⟩
 ·intro KY KN ky kn
  have hj:j<X.is.length:=ck.1 j (by rw[<-g1];exact kY _ (.head _))
  have hD:=Es (Ds:=X.Ds) (k:=j) (by rw[<-wl];exact hj)
  have fr:=h.dk.fr.trans P
  refine BX<|cu (.cons (.var (sc.rd (j:=92) E.rd rfl)) (.cons (.var e1) (.cons (.var (sc.rd (j:=76) E.rd rfl)) (.three (.var (sc.rd (j:=133) E.rd rfl)) (.var (sc.rd (j:=147) E.rd rfl)) (.var (sc.rd (j:=85) E.rd rfl))))))<|
   ajR (fr.at eu) D (G.r.up fr) (fr.at G.t) (fr.at G.c) (fr.at G.to) C.n4 C.tn C.cn (by rw[C.rn,wl]) hD fh kg ⟨λay P2=>⟨_,rfl,?_⟩⟩
  rw[akF C.xo w hD]
  have I:∀l:List Nat,[j].filter (js X w)=l->∃Au,Au++rest=O/\acc++l.map nI=(Au.filter (js X w)).map nI/\aF aS σ ay:=λl hl=>⟨done++[j],by rw[fK];exact g1,by rw[g2,Lw,hl,cR],P.trans P2⟩
  cases hf:js X w j with
  |true=>exact bV (.var e1) (ky _ _ (I [j] (by rw[mM,if_pos hf];rfl)))
  |false=>exact kn _ (by have:=I [] (by rw[mM,if_neg (by rw[hf];exact gY)];rfl);rwa[Fc,fj]at this)
 ·rw[fj]at g1
  subst g1;rw[g2];refine cX λlS ay eP hft P2=>?_;have hp:=h.ext P;refine cz ((hp.ext P2).fz hft (hp.nx eP)) λW2 cJ sP h2 b2=>?_;have Ym:=h2.dk.fr.at (cJ.at eu);have E2:=E.set (i:=11) (v:=.loc lS);generalize bA e 11 (.loc lS)=e2 at*;have tc:∀{k:Str} {o:Option CV} {x:CV},bB es k=o->o.getD .none=x->Ev (bJ sG si (af 92) (ag (au (.str k)) ar)) e2 ay x:=λh1 h2=>.to (.pz (.var E2.rd) ⟨_,_,rfl,Ym⟩ (.one .val) (.get Ym)) (akJ h1 h2)
  refine cy<|cu (.cons (tc D.g (by cases w.g<;>rfl)) (.cons (tc D.a (by cases w.a<;>rfl)) (.three (tc D.b (by cases w.b<;>rfl)) (tc D.p (by cases w.p<;>rfl)) (tc D.m (by cases w.m<;>rfl)))))<|ajr (w:=w) ⟨λaa ad aQ na nd ia P3=>?_⟩
  refine cz ((h2.ext P3).sX ia (h2.nx na) (h2.nx nd)) λW3 dU ia3 h3 b3=>?_;have PW:=cJ.trans dU;have E3:=E2.set (i:=98) (v:=.loc aa);generalize bA e2 98 (.loc aa)=e3 at*;refine vX<|dh (.one (.item (.var E3.rd) (.to (.bin (.var E3.rd) .val .sub) (Ez n2)) (K6 (h3.dk.fr.at (PW.at G.il)) n4 ha))) λnl bU XW KU P4=>?_;refine cz ((h3.ext P4).fz KU (h3.nx XW)) λW4 mF akL h4 b4=>?_;have Yn:=PW.trans mF
  refine md nI (cb X.is) (.li (.var E3.rd) (h4.dk.fr.at (Yn.at nQ))) (aR C.lh (by decide)) (λk hk ce s e1=>.item (.var (s.rd (j:=14) E3.rd rfl)) (.var e1) (K6 (h4.dk.fr.at (Yn.at G.il)) n4 (C.hl k hk))) λfl fH nfl va P5=>?_
  refine cz ((h4.ext P5).fz va (h4.nx nfl)) λW5 lN akM h5 b5=>?_;have K9:=mF.trans lN;have vg:=PW.trans K9;exact fin W5 fH aa ad nl fl lS _ h5 ⟨ia3.a7 K9,lN.at akL,akM,vg.at G.il,vg.at BF,(dU.trans K9).at sP,vg.at G.to⟩ (E3.set.set.sub ⟨rfl,rfl,rfl,rfl,rfl,rfl,rfl,rfl,rfl,rfl,trivial⟩) q
theorem La(rows:List (List Nat)):(fw rows).length=rows.length:=by
 unfold fw;rw[Kr];exact mO _
theorem akN(rows:List (List Nat)):∀j x,x∈(fw rows).getD j []->x<=j:=
 Kt _ _ λj x hx=>cA hx
theorem Yo:∀(rows:List (List Nat)) {acc:List (List Nat)},(∀j,(acc.getD j []).Nodup)->∀j,((rows.foldl o7 acc).getD j []).Nodup
 |[],_,h=>h
 |r::rows,acc,h=>Yo rows λj=>by
  unfold o7;rw[dG]
  by_cases hj:j<acc.length
  ·rw[xD hj,<-dG];exact h j
  ·rw[EC (EY hj)]
   cases j- acc.length with
   |zero=>exact List.nodup_range.filter _
   |succ i=>exact .nil
theorem Yp{rows:List (List Nat)}{k:Nat}(h:ke σ l rows)(n4:rows.length<=4)(hk:k<rows.length):∃a,It (.loc l) (.int k) σ (.loc a)/\σ a=some (.list ((rows.getD k []).map nI)):=by
 obtain⟨c9,hl,RI⟩:=h
 have oW:k<c9.length:=by rw[RI.len];exact hk
 refine⟨c9[k],.li (by rw[dM,bS oW];rfl) (by rw[aZ,RI.len];exact jt n4) hl,?_⟩
 rw[RI.at_ k _ _ (bS oW) (bS hk),dG,bS hk];rfl
theorem akO{l:List Nat}:(l.map nI).isEmpty=decide (l=[]):=by cases l<;>rfl
theorem akP{p:Nat->Bool}:decide (hs.filter p=[])=hs.all λk=>!p k:=
 rL.2 (by rw[decide_eq_true_eq,Ln,iz];exact forall₂_congr λk z=>by cases p k<;>decide)
theorem akQ{W:St}{T:Nat}{w:Wi}{fo hl:Addr}{rows:List (List Nat)}(h:WS X W σ T ls)(hT:T<=900)
  (C:LC X rows times counts hs)(ok:lK rows)(hh:hs∈Al rows.length)(G:LG X W w rl tl cl il dX wd rows times counts)(ee:ke W fo (fw rows))(nQ:W hl=some (.list (hs.map nI)))
  (E:jd e ((187,.loc fo)::(155,.loc hl)::lv X rl tl cl il dX wd rows.length))(q:∀ae,Q (.bool true) ae):IX e σ (bk Q):=by
 have n2:=C.n2;have n4:=C.n4;refine xa (ajX ok n2 n4 hh) λR0 j3=>?_;have er:X.row=λk=>rows.getD k []:=funext C.xo.r
 have et:iK X=λk=>(times.getD k 0:Int):=funext λk=>by show(X.time k:Int)=_;rw[C.xo.t]
 rw[<-er,C.rn]at R0;rw[<-er]at j3;have akR:kX X.row (rows.length- 1) hs=λk=>decide (k∈Aj rows hs):=funext j3
 have fh:∀k,∀j∈rows.getD k [],j<k:=λk j hj=>h.f.fh k j (by rw[C.xo.r];exact hj)
 have kg:∀k,(rows.getD k []).length<=4:=λk=>by rw[<-C.xo.r];exact h.f.kg k
 have n1:rows.length- 1<rows.length:=Fk (ey (by decide) n2) (by decide)
 have Yq:(fw rows).length<=4:=by rw[La];exact n4
 refine a9 (Yp (ee.up h.dk.fr) Yq (k:=rows.length- 1) (by rw[La];exact n1)) λra rit gV=>?_
 have hLn:((fw rows).getD (rows.length- 1) []).length<=4:=
  aR (oQ rows.length _ (Yo rows (acc:=[]) (λo=>E8) _) λx hx=>je (akN rows _ x hx) n1) n4
 have akS:Aj rows hs=((fw rows).getD (rows.length- 1) []).filter λx=>hs.all λk=>!((fw rows).getD k []).contains x:=rfl;generalize(fw rows).getD (rows.length- 1) []=L at*;refine cy<|me<|bV (.item (.var E.rd) (.to (.bin (.var E.rd) .val .sub) (Ez n2)) rit)<|iX gV λny bw=>Hx nI (λrest acc ae=>∃done,done++rest=L/\acc=(done.filter λx=>hs.all λk=>!((fw rows).getD k []).contains x).map nI/\aF aS σ ae) ⟨[],rfl,rfl,.refl _ _⟩ (jt hLn) (λx rest acc ae ce z qU sc e2=>?_) λacc ae z=>?_
 all_goals
  refine bF z λdone g1 g2 P=>?_
  refine⟨bw _ (P.at gV),?_⟩
 ·intro KY KN ky kn
  have fr:=h.dk.fr.trans P
  refine v8<|Hv nI (λk=>((fw rows).getD k []).contains x) nI (.li (.var (sc.rd (j:=155) E.rd rfl)) (fr.at nQ)) (aR C.lh (by decide)) (λk hk mc s' e1=>?_) λfa ay qi mD P2=>dh .nil λfb aQ nfb hfb P3=>⟨_,.Qi (P3.at mD) hfb,?_⟩
  ·refine a9 (Yp (ee.up fr) Yq (k:=k) (by rw[La,C.rn];exact C.hl k hk)) λrk rr I8=>?_
   exact⟨.to (.cmp (.var (s'.rd (j:=2) e2 rfl)) (.item (.var (s'.rd (j:=187) (sc.rd (j:=187) E.rd rfl) rfl)) (.var e1) rr) (.mem (.ns I8))) (List.contains_eq_mem ..).symm,λo=>.var e1⟩
  ·rw[akO,akP]
   have I:∀l:List Nat,([x].filter λx=>hs.all λk=>!((fw rows).getD k []).contains x)=l->∃Au,Au++rest=L/\acc++l.map nI=(Au.filter λx=>hs.all λk=>!((fw rows).getD k []).contains x).map nI/\aF aS σ aQ:=λl hl=>⟨done++[x],by rw[fK];exact g1,by rw[g2,Lw,hl,cR],P.trans (P2.trans P3)⟩
   cases hf:hs.all λk=>!((fw rows).getD k []).contains x with
   |true=>exact bV (.var e2) (ky _ _ (I [x] (by rw[mM,if_pos hf];rfl)))
   |false=>exact kn _ (by have:=I [] (by rw[mM,if_neg (by rw[hf];exact gY)];rfl);rwa[Fc,fj]at this)
 ·rw[fj]at g1
  subst g1;rw[g2,<-akS];refine cX λsl ay KH akT P2=>?_;have h2:=(h.ext P).ext P2;have E2:=E.set (i:=126) (v:=.loc sl);generalize bA e 126 (.loc sl)=e2 at*;refine cy<|j1<|j0 (.var E2.rd)<|j0 (.var E2.rd)<|j0 (.var E2.rd)<|dH<|dh (.one (.to (.bin (.var E2.rd) .val .sub) (Ez n2))) λal aQ Jy qU P3=>?_;have h3:=h2.ext P3;have fr:=h3.dk.fr;refine ajI (a:=rows.length- 1) (G.r.up fr) (fr.at G.t) (P3.at akT) qU n4 C.tn n1 fh kg ⟨λbU oa nJ gA P4=>?_⟩;rw[<-er,<-et,<-akR]at gA;refine cz ((h3.ext P4).fz gA (h3.nx nJ)) λW4 mF akU h4 b4=>?_
  exact akK (hl:=hl) h4 hT C (by rw[<-C.rn]at R0 ⊢;exact R0) (G.up mF) akU (mF.at nQ) (E2.set.sub ⟨rfl,rfl,rfl,rfl,rfl,rfl,rfl,rfl,rfl,rfl,rfl,rfl,trivial⟩) q
structure LH(X:Wx)(rows:List (List Nat))(times:List Nat)(counts:List (Option Nat)):Prop where
 xo:xC X rows times counts
 rn:rows.length=X.is.length
 tn:times.length=rows.length
 cn:counts.length=rows.length
 n2:2<=rows.length
 n4:rows.length<=4
theorem eiX{t:TM}{R:CV->St->Prop}(k:t e σ λv ao=>match v with |true=>m1 e ao R |false=>m2 e ao R):eH t m1 m2 e σ R:=by
 unfold eH;rw[BU];exact k
theorem akV{W:St}{T:Nat}{w:Wi}{fo:Addr}{rows:List (List Nat)}(h:WS X W σ T ls)(hT:T<=800)
  (C:LH X rows times counts)(ok:lK rows)(G:LG X W w rl tl cl il dX wd rows times counts)(ee:ke W fo (fw rows))
  (E:jd e ((187,.loc fo)::(203,.bool kn)::lv X rl tl cl il dX wd rows.length))(q:∀ae,Q (.bool true) ae):Ti e σ (bk Q):=by
 have n2:=C.n2;have n4:=C.n4
 have fin:∀(hs:List Nat) {T':Nat} {hl:Addr} {ae ao:St},WS X W ae T' ls->T'<=900->hs∈Al rows.length->ae hl=none->ao hl=some (.list (hs.map nI))->aF aS ae ao->IX (bA e 155 (.loc hl)) ao (bk Q):=by
  intro hs T' hl ae ao h' zI hh vh nQ P1;refine cz ((h'.ext P1).fz nQ (h'.nx vh)) λW2 cJ Lb h2 b2=>?_
  have hm:(∀k∈hs,k<X.is.length)/\hs.length<=1:=by
   unfold Al at hh
   rcases eO.1 hh with rfl |hh
   ·exact⟨(λz h=>cA h),dE _⟩
   ·refine a9 (dD.1 hh) λk hk aq=>?_;subst aq
    exact⟨λj hj=>by rw[cL.1 hj,<-C.rn];exact ey (E9.1 hk) (A3 ..),cP _⟩
  exact akQ h2 zI ⟨C.xo,C.rn,C.tn,C.cn,n2,n4,hm.1,hm.2⟩ ok hh (G.up cJ) (ee.up cJ) Lb (E.set.sub ⟨rfl,rfl,rfl,rfl,rfl,rfl,rfl,rfl,rfl,rfl,rfl,rfl,trivial⟩) q
 refine cy ?_
 induction kn with
 |true=>exact yF (.l0 (.not (b:=true) (.val (.var E.rd))))<|dh .nil λhl ao vh nQ P1=>fin [] h (aR hT (by decide)) (.head _) vh nQ P1
 |false=>
  refine eiX<|Pz (.not (b:=false) (.val (.var E.rd)))<|PH<|v8<|cu (.two (.var E.rd) .val)<|nG h.dk (aR hT (by decide)) (by decide) (by decide) ⟨λr ao hr D1 P1=>bV .val<|wb .eq ?_⟩
  have h1:=h.draw D1 P1
  cases decide ((r:Int)=0)with
  |true=>
   refine show eList _ _ _ _ from dH<|cu (.two (.var E.rd) (.to (.bin (.var E.rd) .val .sub) (Ez n2)))<|nG h1.dk (lz hT rfl) (dN.2 (Nat.sub_pos_of_lt n2)) (dN.2 (je (aR (A3 ..) n4) (by decide))) ⟨λj ay hj D2 P2=>⟨by exact cG rfl,cX λhl aQ vh nQ P3=>?_⟩⟩
   exact fin [j] (h1.draw D2 P2) (lz (iN hT _) rfl) (.tail _ (dD.2 ⟨j,E9.2 (dN.1 hj),rfl⟩)) vh nQ P3
  |false=>exact dh .nil λhl ao vh nQ P1=>fin [] h1 (qn (aR hT (by decide))) (.head _) vh nQ P1
theorem WS.Yr{T:Nat}:∀(as:List Addr) {W:St},WS X W σ T ls->(∀a∈as,∃o,σ a=some o)->(∀a∈as,Nx X a)->∃W',aF aS W W'/\(∀a∈as,W' a=σ a)/\WS X W' σ T ls
 |[],W,h,_,_=>⟨W,.refl _ _,(λz h=>cA h),h⟩
 |a::as,W,h,ho,hn=>by
  refine xe (ho a (.head _)) λo ha=>?_;refine cz (h.fz ha (hn a (.head _))) λW1 P1 g1 h1 zz=>?_;refine bF (WS.Yr as h1 (λb hb=>ho b (.tail _ hb)) (λb hb=>hn b (.tail _ hb))) λW2 P2 g2 h2=>?_;refine⟨W2,P1.trans P2,λb hb=>?_,h2⟩
  rcases eO.1 hb with rfl |hb
  ·rw[ha];exact P2.at g1
  ·exact g2 b hb
theorem akW{m:EM}{A:AM}{r:SM}{Q:dy->aL->St->Prop}(k:m e σ λv ao=>A v e ao λe' ae=>r e' ae Q):ah (aP m A) r e σ Q:=k
theorem akX{W:St}{c:Addr}{T:Nat}{rows:List (List Nat)}(h:Dk W σ d c T)(hT:T<=700)(hw:way<4)(hN:W 1003=some (.ro m6))(hP:W 1007=some (.ro m7))
  (hR:ke W rl rows)(ok:lK rows)(n2:2<=rows.length)(n4:rows.length<=4)(oP:W tl=some (.list (times.map nI)))(to:wX rows.length times)(hG:W cl=some (.list (counts.map nH)))(co:JC rows.length counts)
  (E:jd e [(46,.loc d),(76,.loc rl),(133,.loc tl),(147,.loc cl),(61,.int rows.length),(32,.int way),(203,.bool kn)])(q:∀ae,Q (.bool true) ae):IY e σ (bk Q):=by
 refine akW<|cu (.cons (.var E.rd) (.three (.var E.rd) (.var E.rd) (.var E.rd)))<|aid h (cB hT rfl) hN hP hR ok rfl n4 oP to hG co ⟨λW1 ao A O is Ds il dX ip Ys S wo jG Ko D1=>⟨_,rfl,rfl,?_⟩⟩;have E2:=((E.set (i:=131) (v:=.loc A.st)).set (i:=14) (v:=.loc il)).set (i:=85) (v:=.loc dX);show Tj (bA (bA (bA e 131 (.loc A.st)) 14 (.loc il)) 85 (.loc dX)) ao (bk Q);generalize bA (bA (bA e 131 (.loc A.st)) 14 (.loc il)) 85 (.loc dX)=e2 at*;have EA:times.length=rows.length:=to.1
 have Yt:is.length=rows.length:=by rw[Ys.len,<-wo.r,aZ]
 refine Pu<|cu (.cons (.var E2.rd) (.three (.var E2.rd) (.var E2.rd) (.var E2.rd)))<|aka D1 (lz hT rfl) hw (ip.at oP) (λz=>by rw[z]at EA;rw[<-EA]at n2;exact tL n2) (by rw[EA];exact n4) ⟨λW2 ay wd w es cJ eu ki D2=>?_⟩
 refine cu (.one (.var E2.rd))<|akC D2 (Ys.up cJ) (S.p0 cJ) (by rw[Yt];exact n4) ⟨λX W3 aQ a1 a2 a3 a4 a5 a6 dU P3 h3=>?_⟩
 subst a1 a2 a3 a4 a5 a6;have Yu:=ip.trans (cJ.trans dU);have xo:=xC.of wo
 have fh:∀k,∀j∈rows.getD k [],j<k:=λk j hj=>h3.f.fh k j (by rw[xo.r];exact hj)
 refine cu (.one (.var E2.rd))<|aj3 ((hR.up Yu).up h3.dk.fr) n4 fh ⟨λbU fo fB ta akY ee EB P4=>?_⟩;have h4:=h3.ext P4
 obtain⟨W5,lN,g5,h5⟩:=WS.Yr (fo::fB) h4 (λa ha=>by
  rcases eO.1 ha with rfl |ha
  ·exact⟨_,ee⟩
  ·refine xe (YN ha) λi hi=>?_
   exact⟨_,EB.at_ i a _ hi (bS (by rw[<-EB.len];exact(iL.1 hi).1))⟩) λa ha=>by
  rcases eO.1 ha with rfl |ha
  ·exact h3.nx ta
  ·exact h3.nx (akY a ha)
 have hR5:ke W5 fo (fw rows):=⟨fB,by rw[g5 fo (.head _)];exact ee,EB.len,λk a r h1 h2=>by rw[g5 a (.tail _ (tj h1))];exact EB.at_ k a r h1 h2⟩
 have vg:=Yu.trans lN;have Yv:=cJ.trans (dU.trans lN);exact akV (kn:=kn) (w:=w) (fo:=fo) (wd:=wd) h5 (lz (iN hT _) rfl) ⟨xo,Yt.symm,EA,co.1,n2,n4⟩ ok ⟨hR.up vg,vg.at oP,vg.at hG,Yv.at jG,Yv.at Ko,es,(dU.trans lN).at eu,ki⟩ hR5 (((E2.set (i:=92)).set (i:=89)).set (i:=187)|>.sub ⟨rfl,rfl,rfl,rfl,rfl,rfl,rfl,rfl,rfl,rfl,rfl,rfl,trivial⟩) q
theorem akZ{v:CV}(h:[CV.int 0,.int 1,.int 1,.int 2,.none][i]?=some v):∃o:Option Nat,v=nH o/\∀m,o=some m->m<3:=by
 have hm:=tj h
 have f:∀k:Nat,k<3->∃o:Option Nat,CV.int k=nH o/\∀m,o=some m->m<3:=λk hk=>⟨some k,rfl,λm h=>by obtain rfl:=bt h;exact hk⟩
 rcases eO.1 hm with rfl |hm
 ·exact f 0 (by decide)
 rcases eO.1 hm with rfl |hm
 ·exact f 1 (by decide)
 rcases eO.1 hm with rfl |hm
 ·exact f 1 (by decide)
 rcases eO.1 hm with rfl |hm
 ·exact f 2 (by decide)
 rw[cL.1 hm];exact⟨none,rfl,λz h=>bo h⟩
theorem ak0{W:St}{c:Addr}{T:Nat}{rows:List (List Nat)}(h:Dk W σ d c T)(hT:T<=600)(hw:way<4)(hN:W 1003=some (.ro m6))(hP:W 1007=some (.ro m7))
  (hR:ke W rl rows)(ok:lK rows)(n2:2<=rows.length)(n4:rows.length<=4)(ik:kn=true->rows.length=4)(oP:W tl=some (.list (times.map nI)))(to:wX rows.length times)
  (E:jd e [(46,.loc d),(76,.loc rl),(133,.loc tl),(61,.int rows.length),(32,.int way),(203,.bool kn)])(q:∀ae,Q (.bool true) ae):Tn e σ (bk Q):=by
 have fin:∀(counts:List (Option Nat)) {T':Nat} {cl:Addr} {ae ao:St},Dk W ae d c T'->T'<=700->JC rows.length counts->ae cl=none->ao cl=some (.list (counts.map nH))->aF aS ae ao->IY (bA e 147 (.loc cl)) ao (bk Q):=by
  intro counts T' cl ae ao h' zI co rh hG P1;refine cz ((h'.ext P1).fz hG (h'.new rh).1 (h'.new rh).2) λW2 cJ Lb h2 b2=>?_;exact akX h2 zI hw (cJ.at hN) (cJ.at hP) (hR.up cJ) ok n2 n4 (cJ.at oP) to Lb co (E.set.sub ⟨rfl,rfl,rfl,rfl,rfl,rfl,rfl,trivial⟩) q
 refine cy ?_
 induction kn with
 |true=>exact BV (.val (.var E.rd))<|dh (.cons .val (.three .val .val .val)) λcl ao rh hG P1=>fin [some 1,some 2,some 1,some 1] h (aR hT (by decide)) ⟨(ik rfl).symm,λm hm=>(by decide:∀x∈[some 1,some 2,some 1,some 1],x.getD 0<3) (some m) hm⟩ rh hG P1
 |false=>
  obtain⟨c9,cI,RI⟩:=id hR;have gi:=RI.len
  refine yF (.val (.var E.rd))<|me<|bV (.var E.rd)<|iX (h.fr.at cI) λny bw=>B5 CV.loc (λrest acc ae=>∃cs:List (Option Nat),acc=cs.map nH/\cs.length+rest.length=c9.length/\(∀m,some m∈cs->m<3)/\Dk W ae d c (T+cs.length)) ⟨[],rfl,mO _,(λy h=>cA h),h⟩ (by rw[gi];exact jt n4) (λa rest acc ae ce z qU sc e1=>?_) λacc ae z=>?_
  all_goals
   refine cz z λcs g1 g2 g3 D=>?_
   refine⟨bw _ (D.fr.at cI),?_⟩
  ·intro KY ky
   refine j1<|j0 (.var (sc.rd (j:=46) E.rd rfl))<|dH<|dh (.cons .val (.cons .val (.three .val .val .val))) λpa aQ Ee q8 P3=>zF (D.ext P3) (l4 hT n4 (el gi) (el g2) (by simp+arith only)) (.inl ⟨q8,(D.new Ee).2⟩) (by decide) (by decide) ⟨λi v bU hv D4 P4=>?_⟩
   refine a9 (akZ hv) λo aq ho=>?_;subst aq
   refine ky _ _ ⟨cs++[o],by rw[g1,cR];rfl,by rw[bW,<-g2];show _+1+_=_+(_+1);exact AX ..,λm hm=>?_,by rw[bW];exact D4⟩
   rcases fZ.1 hm with hm |hm
   ·exact g3 m hm
   ·exact ho m (cL.1 hm).symm
  ·rw[g1]
   exact cX λcl ao rh hG P1=>fin cs D (by rw[tv]at g2;exact l4 hT n4 (el gi) (el g2) (by simp+arith only)) ⟨g2.trans gi,g3⟩ rh hG P1
theorem Yw{W:St}{c:Addr}{T:Nat}{rows:List (List Nat)}(h:Dk W σ d c T)(hT:T<=500)(hw:way<4)(hN:W 1003=some (.ro m6))(hP:W 1007=some (.ro m7))
  (hR:ke W rl rows)(ok:lK rows)(n2:2<=rows.length)(n4:rows.length<=4)(ik:kn=true->rows.length=4)
  (E:jd e [(46,.loc d),(76,.loc rl),(32,.int way),(203,.bool kn)])(q:∀ae,Q (.bool true) ae):To e σ (bk Q):=by
 obtain⟨c9,cI,RI⟩:=id hR
 have Ao:Ev (aY eI (ag (af 76) ar)) e σ (.int rows.length):=.to (.call (.one (.var E.rd)) (.len (by rw[aZ,RI.len];exact jt n4) (h.fr.at cI))) (by rw[aZ,RI.len])
 exact acX<|bV Ao<|cu (.two (.var E.rd) Ao)<|ahM h (aR hT (by decide)) (AG n2) n4 ⟨λtl times W2 ay to cJ oP D2=>ak0 D2 (iN (aR hT (by decide:500<=595)) 5) hw (cJ.at hN) (cJ.at hP) (hR.up cJ) ok n2 n4 ik oP to (E.set.set.sub ⟨rfl,rfl,rfl,rfl,rfl,rfl,trivial⟩) q⟩
noncomputable def rows0:List (List Nat):=[[],[0],[0],[1,2]]
theorem ak1:lK rows0:=λk r h=>by
 have key:∀k,k<4->rows0.getD k []∈uE k:=by decide+kernel
 have:=key k (iL.1 h).1;rwa[dG,h]at this
theorem ak2{W:St}{c:Addr}{T:Nat}(h:Dk W σ d c T)(hT:T<=100)(hN:W 1003=some (.ro m6))(hP:W 1007=some (.ro m7))
  (rA:e 46=some (.loc d))(q:∀ae,Q (.bool true) ae):Tp e σ (bk Q):=by
 refine vX<|cu (.two (.var rA) .val)<|nG h (aR hT (by decide)) (by decide) (by decide) ⟨λway ao ak3 D1 P1=>XR<|cu (.two (.var rA) .val)<|nG D1 (qn (aR hT (by decide))) (by decide) (by decide) ⟨λr ay hr D2 P2=>bV .val<|wb .eq ?_⟩⟩
 generalize decide ((r:Int)=0)=kn
 have E:jd (bA (bA e 203 (.bool kn)) 32 (.int way)) [(32,.int way),(203,.bool kn),(46,.loc d)]:=jd.set (jd.set λj v g=>by
  rw[kj]at g
  by_cases z:j=46
  ·rw[z,beq_self_eq_true]at g;cases g;rw[z];exact rA
  ·rw[beq_eq_false_iff_ne.2 z]at g;exact bo g)
 generalize bA (bA e 203 (.bool kn)) 32 (.int way)=e2 at*;have hw:way<4:=dN.1 ak3;refine cy ?_
 induction kn with
 |true=>
  refine BV (.val (.var E.rd))<|show eList _ _ _ _ from jC<|dh .nil λa0 s0 n0 h0 p0=>jC<|dh (.one .val) λa1 s1 n1 h1 p1=>jC<|dh (.one .val) λa2 s2 n2 h2 p2=>dH<|dh (.two .val .val) λa3 s3 n3 h3 p3=>⟨by exact cG rfl,cX λrl s4 n4 h4 p4=>?_⟩
  refine cz ((D2.ext p0).fz h0 (D2.new n0).1 (D2.new n0).2) λW0 P0 g0 d0 zz=>?_;obtain⟨W1,Q1,g1,d1,_⟩:=(d0.ext p1).fz h1 (d0.new n1).1 (d0.new n1).2;obtain⟨W2,Q2,g2,d2,_⟩:=(d1.ext p2).fz h2 (d1.new n2).1 (d1.new n2).2;obtain⟨W3,Q3,g3,d3,_⟩:=(d2.ext p3).fz h3 (d2.new n3).1 (d2.new n3).2;obtain⟨W4,Q4,g4,d4,_⟩:=(d3.ext p4).fz h4 (d3.new n4).1 (d3.new n4).2;have Yx:=Q3.trans Q4;have Yy:=Q2.trans Yx;have Yz:=Q1.trans Yy;have PW:=P0.trans Yz
  refine Yw (rows:=rows0) d4 (iN (aR hT (by decide:100<=498)) 2) hw (PW.at hN) (PW.at hP) ⟨[a0,a1,a2,a3],g4,rfl,λk a r ha hr=>?_⟩ ak1 (by decide) (by decide) (λo=>rfl) (E.set.sub ⟨rfl,rfl,rfl,rfl,trivial⟩) q
  match k with
  |0=>obtain rfl:=bt ha;obtain rfl:=bt hr;exact Yz.at g0
  |1=>obtain rfl:=bt ha;obtain rfl:=bt hr;exact Yy.at g1
  |2=>obtain rfl:=bt ha;obtain rfl:=bt hr;exact Yx.at g2
  |3=>obtain rfl:=bt ha;obtain rfl:=bt hr;exact Q4.at g3
  |k+4=>exact bo hr
 |false=>
  exact yF (.val (.var E.rd))<|cu (.two (.var E.rd) .val)<|ahE D2 (iN (aR hT (by decide:100<=898)) 2) ⟨λrl rows W3 aQ ok n2 n4 dU hR D3=>Yw (kn:=false) D3 (iN (aR hT (by decide:100<=478)) 22) hw (dU.at hN) (dU.at hP) hR ok n2 n4 (λh=>eP h) (E.set.sub ⟨rfl,rfl,rfl,rfl,trivial⟩) q⟩
theorem acK{s:Addr}{vs:List Int}(hs:σ s=some (.ro (vs.map .int)))(hl:vs.length<=100)(hN:σ 1003=some (.ro m6))(hP:σ 1007=some (.ro m7))(q:∀ae,Q (.bool true) ae):O7 [.loc s] [] σ Q:=
 qE λe al2=>cy<|cu (.one .var)<|ahN hs hl ⟨λd c W ao PW D=>ak2 D (dE _) (PW.at hN) (PW.at hP) (hJ ..) q⟩
set_option tactic.hygienic true
noncomputable def YP(_:cM)(h:Heap):Prop:=∃K:Frag,K.In h/\tU K=seen
theorem acD:importsNone qv=true:=by kernel_rfl
structure Pe(K:Frag):Prop where
 r:∀r∈rows,Bj K r.1 r.2.2.1 r.2.2.2=true/\x8 K r.1=bd r.2.1
 f:∀p∈yn,Pb K p=true
 m:∀p∈yo,Pc K p=true
 i:∀p∈yp,Pd K p=true
 l:nsIn K nV (fL "law")=some (some (.ref 1039))
 g:∀p∈tP,FJ K p.1=some p.2
 d:∀d∈x7,FK K d.1=some d.2
 n:pE K 1003=some m6
 p:pE K 1007=some m7
theorem acE(e:tU K=seen):Pe K:=by
 refine xa (k8 e) λe1 e=>?_;refine xa (k8 e) λe2 e=>?_;refine xa (k8 e) λe3 e=>?_;refine xa (List.append_inj e rfl) λe4 e=>?_;refine xa (List.cons.inj e) λe5 e=>?_;refine xa (List.cons.inj e) λe6 e=>?_;obtain⟨e1,o5⟩:=cK.1 (show obs K=true from e1);obtain⟨e1,o4⟩:=cK.1 e1;obtain⟨e1,o3⟩:=cK.1 e1;obtain⟨o1,o2⟩:=cK.1 e1;exact⟨λr hr=>⟨iz.1 o1 r hr,Y2.1 e2 r hr⟩,iz.1 o2,iz.1 o3,iz.1 o4,beq_iff_eq.1 o5,Y2.1 e3,Y2.1 e4,e5,e6⟩
noncomputable def Pf(Z:Pe K)(w:cM)(h:Heap)(mg mb:Str->Option ak)(X:K.In h)(g:h.Ns nV mg)(b:h.Ns Fp mb)(nl:h.NoLimit)(bl:∀x:Str,x≠"__name__"->mb x=Ml x)(sy:∃o,h.get? vB=some o):Cx where
 prog:=PySem.Challenge.rw_nt0316_01.row.prog
 w:=w
 H0:=h
 K:=K
 mg:=mg
 mb:=mb
 jY:=X
 ng:=g
 nb:=b
 GN:=nl
 blt:=bl
 sys:=sy
 fld:=λC i hm=>by
  have:=Z.f _ hm;refine xa (cK.1 this) λg h7=>?_;refine xa (cK.1 g) λg h6=>?_;refine xa (cK.1 g) λg h5=>?_;refine xa (cK.1 g) λg h4=>?_;refine xa (cK.1 g) λg h3=>?_;refine xa (cK.1 g) λh1 h2=>?_;exact⟨cG h1,h2,h3,Pg h4,n9 h5,h6,n9 h7⟩
 BC:=λC i f hm=>by
  have:=Z.m _ hm;refine xa (cK.1 this) λg h5=>?_;refine xa (cK.1 g) λg h4=>?_;refine xa (cK.1 g) λg h3=>?_;refine xa (cK.1 g) λh1 h2=>?_;exact⟨cG h1,h2,n9 h3,h4,h5⟩
 FN:=λC f hm=>by
  have:=Z.i _ hm;refine xa (cK.1 this) λg h4=>?_;refine xa (cK.1 g) λg h3=>?_;refine xa (cK.1 g) λh1 h2=>?_;exact⟨h1,n9 h2,h3,h4⟩
theorem acF{h:Heap}{mg mb:Str->Option ak}(X:K.In h)(g:h.Ns nV mg)(bl:∀x:Str,x≠"__name__"->mb x=Ml x)(e:FJ K i=some x):∃v,(mg (nm i)=some v\/(mg (nm i)=none/\mb (nm i)=some v))/\aV h x v:=by
 refine a9 (vj.1 e) λo e1 e=>?_;refine a9 (vj.1 e) λv e2 e=>?_;refine a9 (tg.1 e) λy zz aq=>?_;subst aq;refine⟨v,?_,y.2 h X⟩
 induction o with
 |some u=>cases e2;exact .inl (mg_of X g e1)
 |none=>
  by_cases z:nm i="__name__"
  ·rw[if_pos z]at e2;cases e2
  ·rw[if_neg z]at e2;exact .inr ⟨mg_none_of X g e1,(bl _ z).trans e2⟩
theorem GO{h:Heap}{a:Nat}(X:K.In h)(e:pE K a=some xs):∃items n,h.get? a=some (listOf items n)/\aN h xs items.toList:=by
 refine a9 (vj.1 e) λp zz e=>?_;exact⟨_,_,X _ _ p.2,Nq e X⟩
noncomputable def vO(la:Addr)(vs:List Int):St:=λb=>if b=1003 then some (.ro m6)else if b=1007 then some (.ro m7)else if b=la then some (.ro (vs.map .int))else none
theorem acG{h:Heap}{is:List Int}(r:IntsAre vs is):aN h (is.map .int) vs:=by
 induction r with
 |nil=>exact .nil
 |cons n t _ ih=>exact .cons (.int _ _) ih
theorem acH{h:Heap}{is:List Int}(h1:aN h (.tup xs::ys) vs)(h2:aN h (is.map .int) vs):False:=by
 refine jg h1.iT λv ws aq r1 zz=>?_;subst aq
 induction is with
 |nil=>exact nomatch h2.jX
 |cons i is=>
  obtain⟨v',_,e,r2,_⟩:=aN.iT h2;obtain⟨a,_,_,rfl,_⟩:=r1.jl;refine xe r2.bZ λt aq=>?_;subst aq;exact nomatch e
theorem Ph{b:Addr}{vs:List Int}(e:vO la vs b=some o):(b=1003/\o=.ro m6)\/(b=1007/\o=.ro m7)\/(b=la/\o=.ro (vs.map .int)):=by
 unfold vO at e
 split at e
 ·exact .inl ⟨‹_›,(bt e).symm⟩
 split at e
 ·exact .inr (.inl ⟨‹_›,(bt e).symm⟩)
 split at e
 ·exact .inr (.inr ⟨‹_›,(bt e).symm⟩)
 ·cases e
theorem acI{c:Cx}{is:List Int}{n:Nat}(h1:pE c.K 1003=some m6)(h2:pE c.K 1007=some m7)(h3:c.H0.get? la=some (listOf vs.toArray n))(qC:aN c.H0 (is.map .int) vs):Rel c (vO la is) c.H0:=
 ⟨λz z e=>e,λb o e=>by
  rcases Ph e with⟨rfl,rfl⟩ |⟨rfl,rfl⟩ |⟨rfl,rfl⟩
  ·refine gH (GO c.jY h1) λitems n h1 h2=>?_
   exact⟨⟨_,h1⟩,items,n,h1,h2⟩
  ·refine gH (GO c.jY h2) λitems n h1 h2=>?_
   exact⟨⟨_,h1⟩,items,n,h1,h2⟩
  ·exact⟨⟨_,h3⟩,vs.toArray,n,h3,qC⟩⟩
theorem Pj{h:Heap}{is:List Int}{n:Nat}(X:K.In h)(e:pE K a=some (.tup xs::ys))(h3:h.get? la=some (listOf vs.toArray n))(qC:aN h (is.map .int) vs):la≠a:=λq=>by
 subst q;refine gH (GO X e) λitems n h1 h2=>?_;rw[h1]at h3;cases h3;exact acH h2 qC
theorem acJ{c:Cx}(hK:tS c)(G:x4 c)(hs:s.heap=c.H0){is:List Int}{n:Nat}(h1:pE c.K 1003=some m6)(h2:pE c.K 1007=some m7)(h3:c.H0.get? la=some (listOf vs.toArray n))(qC:aN c.H0 (is.map .int) vs)(hl:is.length<=100):
  bz c.M callerA (call (.ref 1039) [.ref la] []) (cC c (vO la is) s λx z=>x=.bool true) s:=
 have n1:=Pj c.jY h1 h3 qC;have n2:=Pj c.jY h2 h3 qC
 lZ.toF (@acr _ ⟨G,hK⟩) (A:=callerA) (σ:=vO la is) (s:=s) (xs:=[.loc la]) (vs:=[.ref la]) (kx:=[]) (kv:=[]) ⟨by decide+kernel,by decide+kernel,rfl⟩ (hs▸acI h1 h2 h3 qC) (.cons (.loc la) .nil) .nil
  (acK (vs:=is) (by unfold vO;rw[if_neg n1,if_neg n2,if_pos rfl]) hl rfl rfl λz=>rfl)
theorem Pk:(defOf qv (fL "law")).isSome=true:=by kernel_rfl
noncomputable def dk:=(defOf qv (fL "law")).get Pk
theorem acL:dk.1.name=fL "law":=by kernel_rfl
theorem acM:defOf qv PySem.Challenge.rw_nt0316_01.row.name=some (dk.1,dk.2):=(Option.some_get Pk).symm
theorem acN:PySem.Challenge.rw_nt0316_01.row.prog.theDef PySem.Challenge.rw_nt0316_01.row.name=some (dk.1.params,dk.1.body,dk.1.scope):=by kernel_rfl
theorem acO:kwWritten? dk.1.params.kwonlyargs dk.1.params.kw_defaults=some dk.2:=by kernel_rfl
theorem tt:PySem.Challenge.rw_nt0316_01.Holds:=by
 w_on
 refine holds_law acP λalD=>?_
 refine hoG (q:=qv) (loose:=BB) (Yf:=λs=>tU (fragOf s.heap)) (Ya:=λy=>seen) (YP:=YP) (N:=8000) acy (λw s e=>⟨_,acu _,e⟩) (λ_ _ _ ⟨K,X,e⟩ k=>⟨K,X.keeps k,e⟩) acM acN acO (λy=>recFacts_nil rfl) (by rfl) (by first |assumption |decide+kernel) (by decide+kernel) ⟨rfl,rfl,rfl,rfl,rfl,by decide+kernel⟩ ?hw ?hc
 case hw=>w_witness2
 intro w cg bq mg mb G Y a Pl GP args vals as BD BE GQ g8 hlo;refine cps λG9 g9=>?_;have acQ:mg (ax "law")=some (.ref a):=acL▸Pl;clear Pl;obtain⟨K,X,e⟩:=Y;have Z:=acE e;clear e;have T:=G.T
 wrow_args BD BE GQ g8 hlo
 rename_i is _ _ _ _ _ _ _ la vs _ hL ra w1 r0 hI BF hlen alE;have NS:=T.seer acD
 have sy:∃o,bq.heap.get? vB=some o:=by
  obtain⟨mm,⟨o,es,ep,ho,_⟩,_⟩:=NS.mods;exact⟨o,ho⟩
 have ha:a=1039:=by
  have e:=mg_of X T.g Z.l;rw[acQ]at e;cases e;rfl
 subst ha
 have c6:∃n,bq.heap.get? la=some (listOf vs.toArray n):=by
  obtain⟨ol,rZ,hG,nl,lp⟩:=hL;rw[show ofPy (PyData.list (List.map PyData.int is))=WData.list _ from rfl]at w1
  cases w1 with
  |list e _=>
   rw[rZ]at e;cases e;cases lp;exact⟨_,rZ⟩
 obtain⟨n,h3⟩:=c6;have qC:aN bq.heap (is.map .int) vs:=acG hI;have GK:x4 (Pf Z w bq.heap mg mb X T.g T.b T.nolimit T.builtins sy):=λi x hl=>acF X T.g T.builtins (Z.g _ (lookup_mem hl));refine g9 ?_
 have run:=acJ (c:=Pf Z w bq.heap mg mb X T.g T.b T.nolimit T.builtins sy) ⟨Z.r,Z.d⟩ GK (s:=bq) rfl Z.n Z.p h3 qC (by omega)
 refine fC run λv s' z=>?_;obtain⟨x,ae,r,wn,rfl⟩:=z;cases r
 refine⟨.inl ⟨.bool true,.bool true,[],rfl,λy=>rfl,.bool _,(by kernel_rfl),λy=>⟨.nil,by simp⟩⟩,.of_keep λb o e=>wn.ext.keep b o e λx hx=>?_,wn.os,.of_eq (wn.gens.trans GP)⟩
 rcases Ph hx with⟨_,rfl⟩ |⟨_,rfl⟩ |⟨_,rfl⟩<;>rfl
end Internal
theorem PySem.Challenge.cw_nt0316_01_holds : PySem.Challenge.rw_nt0316_01.Holds :=
  Internal.tt
