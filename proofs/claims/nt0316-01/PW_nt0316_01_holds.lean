import PyProof.Rows.All
import Wide.All
import OpenK.AllK
import Wide.FinOn
import KE.KDictLaws
import PyProof.CallStr
import Lean
import PySem.Challenge.RW_nt0316_01
open PySem PySem.W PyProof.Rows PySem.Calls
set_option Elab.async false
set_option maxRecDepth 100000
set_option linter.all false
set_option genInjectivity false
set_option genSizeOf false
set_option bootstrap.genMatcherCode false
set_option compiler.extract_closed false
open And renaming left→f6,right→vD
open _root_.Array renaming length_toList→mI,getElem?_eq_getElem→o9,getElem?_toList→vq,mem_toList_iff→Az,toList_push→ER,getD_eq_getD_getElem?→La,toList_map→Zd,all_toList→Zf,getElem?_eq_none→alB
open _root_.Bool renaming and_eq_true_iff→cK,false_ne_true→gX,not_eq_true'→mK,false_eq_true→pd,not_eq_false'→rE,and_eq_true→rI,eq_iff_iff→rL,or_eq_true→L6,not_and→Mn,or_eq_false_iff→YM
open Decidable renaming byContradiction→YD
open ForInStep renaming yield→EY
open Function renaming comp→Mf
open _root_.Int renaming ofNat_lt→dN,natCast_nonneg→fX,ofNat_le→ki,not_lt→nZ,toNat_natCast→pe,lt_trans→pg,le_trans→rO,lt_of_lt_of_le→tm,add_le_add_right→Ay,lt_of_le_of_lt→Lr,ofNat_sub→L9,sub_zero→Mj,ne_of_gt→Mm,toNat_of_nonneg→YQ,lt_trichotomy→Y3,fmod_eq_emod_of_nonneg→ale,fdiv_eq_ediv_of_nonneg→alf,add_neg_cancel_right→alj
open Int.ofNat renaming inj→AQ
open LawfulBEq renaming eq_of_beq→n9
open LawfulMonad renaming pure_bind→A6
open Lean renaming Syntax→AZ
open _root_.List renaming length_map→aZ,getElem?_eq_getElem→bS,length_append→bW,mem_singleton→cL,map_append→cR,range→cS,map_map→dp,mem_map→dD,getD_eq_getElem?_getD→dG,getElem?_map→dM,mem_cons→eO,append_nil→fj,append_assoc→fJ,mem_append→fY,map_cons→gB,all_eq_true→iy,getElem?_eq_some_iff→iL,lookup_cons→kg,foldl_cons→kh,mem_append_right→kW,length_cons→kY,length_singleton→mH,filter_cons→mM,nodup_cons→mN,range'→mQ,nodup_append→nT,map_congr_left→pb,replicate→qr,not_mem_nil→rJ,mem_filter→rK,find?_cons→rM,mem_of_getElem?→tj,length_nil→tv,dropLast_concat_getLast→vj,append_cancel_left→vn,take_of_length_le→vo,contains_iff_mem→vp,map_reverse→vt,getElem_mem→vv,any_eq_true→vw,nil_append→vy,getElem?_append_left→xE,head_eq_of_cons_eq→xF,map_eq_nil_iff→xH,size_toArray→xK,cons_append→xM,any_cons→xP,eq_nil_of_length_eq_zero→Au,flatten_cons→AG,getElem?_append_right→Ez,filter_cons_of_neg→EB,filter_cons_of_pos→EC,length_filter_le→EE,mem_append_left→EG,filter_eq_self→EH,length_reverse→EI,length_pos_iff→EN,length_range'→EO,zipIdx_cons→ET,mem_flatMap→EV,length_set→E1,nodup_nil→E6,mem_range→E7,map_nil→E8,drop_eq_getElem_cons→Lc,filter_eq_nil_iff→Ll,pairwise_append→Lo,find?_eq_none→Ls,filter_append→Lu,take_add_one→Lv,length_take→Ly,drop_length→Lz,isEmpty_iff→L0,forIn_cons→L3,toArray→Ml,getElem?_eq_none_iff→YC,length_erase_of_mem→YE,getElem?_of_mem→YL,length_eraseIdx→YO,getElem?_range→YS,mem_map_of_mem→YT,filterMap_map→YW,map_inj_left→YZ,pairwise_map→Y0,foldl_append→Y5,mem_range'_1→Y6,flatten_nil→Zg,mem_reverse→Zh,perm_ext_iff_of_nodup→alg,mem_of_find?_eq_some→alh,getElem?_cons_succ→alx
open List.Pairwise renaming nil→Y1
open List.Perm renaming eq_of_pairwise→YF
open List.cons renaming injEq→L7
open _root_.Nat renaming le_trans→aR,le_of_ble_eq_true→cG,le_refl→cP,zero_le→dE,lt_of_lt_of_le→ey,mul_le_mul_left→eN,add_le_add→gj,add_le_add_right→iN,ne_of_lt→iP,le_of_lt→iQ,lt_of_le_of_lt→je,lt_trans→jN,lt_succ_self→kX,blt→k9,le_add_right→mL,zero_add→mO,succ_pos→nU,le_succ→nW,succ_le_succ→qn,le_antisymm→qq,le_succ_of_le→rG,le_of_eq→rN,beq→rQ,add_comm→tC,ne_of_gt→vA,lt_succ_of_lt→xJ,not_lt_zero→xN,add_le_add_left→AB,le_of_lt_succ→AD,le_of_succ_le→AF,lt_irrefl→AS,add_assoc→AU,succ_add→AW,sub_le→A2,le_of_succ_le_succ→ED,le_of_not_lt→EW,sub_lt→Fh,mod_lt→Fi,sub_lt_sub_left→Lq,mod_eq_of_lt→Lx,lt_of_succ_lt_succ→YG,eq_zero_of_not_pos→YI,le_of_sub_eq_zero→YJ,lt_of_sub_eq_succ→YK,lt_or_eq_of_le→YU,add_right_comm→YY,lt_succ_of_le→Y7,succ_ne_self→Za,not_lt_of_le→Zc
open _root_.Option renaming map_eq_some_iff→tg,bind_eq_some_iff→vm,isNone_iff_eq_none→EA,isSome_iff_exists→Lf,map_eq_none_iff→YH,isSome_some→YV,getD_some→Y9
open Option.some renaming inj→bt
open PLift renaming down→Fj
open Prod.mk renaming inj→k0
open PyProof.Rows renaming seqObj→jO,subscriptTail→Md
open PyProof.Rows.F renaming plain_set_update_loop→Yy,entry_set_update_loop→ak2
open PySem renaming Value→ak,Shared→aw,wpAny_bind→aC,wpAny→aM,wpAny_pure→aO,Around→bj,Str→bA,wpAny_mono→b0,World→cM,starEach→cU,Program→dv,backTo→dZ,wpAny_of_eq→eF,Model→fy,SetTable→fM,argsOk→gk,NameKind→gC,builtinLookup_eq_fast→iM,typeLookup_type→iO,wpAny_holding→jf,Operator→jv,entryFor→jw,cellsFrom→km,wpAny_standAt→kZ,Result→lg,isSubtype_type→lS,keywordEach→lT,callWith→lV,backToKw→lW,call_meets→mR,swapsWith→mS,sizeLine→mT,pyNext→mV,rawInt→mW,mainGlobals→nV,standAt→oe,signature?_of→pf,FuncData→ph,entryFor_of_tree→qo,entryFor_of_fast→qp,swappedStores→qt,assignEach→qw,wpAny_newObj_type→rF,wpAny_call_entry→rH,wpAny_rule→rP,BindsTo→rR,codeAny→rS,typeLookup→tD,wpAny_load→tE,getMethod→tF,wpAny_ite→tG,scanBound→tH,wpAny_specialOf→vx,sysModules→vC,foldedSetIterable→xI,plainId_quiet→xQ,wpAny_typeOf→xR,seqItems?→xT,pickOrder→xU,relayAll→xV,wpAny_callSpecial?_slot→Av,wpAny_truthy_bool→AE,wpAny_setState_of→AH,wpAny_isInstance→AI,wpAny_loadPart'→AJ,codeAny_builtin→AL,wpAny_setField→AO,strKind→AR,wpAny_attempt→AV,assign→AX,codeAny_mono→AY,sizeLine_eq→A1,strKind_is→A3,seqIndex?→A4,wpAny_setEntries_of→EL,wpAny_eqBool_int→ES,checkBuiltinCall→EU,wpAny_execs_nil→EX,wpAny_ite_split→EZ,methodCallForm→E4,wpAny_seqItems→E5,wpAny_mkInt→Ff,builtinsNs→Fk,intKind_is→Fl,letOwnedTupleGo→L1,theTreesLotGoes→L5,wpAny_fieldsOf→L8,behindInMarks→Ma,wpAny_mkBytes→Mi,bootBuiltins→Mk,wpAny_setItem_pairs→YR,wpAny_pyIter_list→Y2,wpAny_getItem_of→Y8,wpAny_Dict_empty→Zb,wpAny_askSetting→Ze,wpAny_newFunctionEnv_cells→alc,richCompare_meets_room→aly
open PySem.Around renaming under_plainId→xG
open PySem.AutoSeq1 renaming sub_tuple_tuple→alk
open PySem.Builtin renaming bitAnd→vz,bitOr→Mb
open PySem.Builtin.Bytes renaming buffer?→Ax,order→EK,occurrences→Ld,containsIn→Lg,find?→Lp,takeBufferQuiet?→Yz,joined→YN,bindOptional→ald,searchArgs→aln,ownRelease→alp,joinLetGo→als,exportsOf→alu,slotIsOwn→alv,exported→alA
open PySem.Builtin.Bytes.Kind renaming bytes→alo
open PySem.Builtin.Bytes.joinM renaming match_1→ak9
open PySem.Builtin.List renaming listExtendWith→YA,listLengthHint→ala,listSameRef→alq
open PySem.Builtin.Range renaming rangeSize→alr
open PySem.Builtin.Slice renaming slicePlaces→Lb,sliceAdjust→YB,sliceApplied→alb
open PySem.Builtin.Tuple renaming tupleExact→Li
open PySem.Challenge renaming rw_nt0316_01→ak7
open PySem.Data renaming noConfusion→Aw
open PySem.F renaming plainAttrs_list→Lw,plain_extend_loop→ali,plain_list_iadd→alw,slot_dict_setdefault→alz
open PySem.Heap renaming get?_push_of_some→dY,get?_push_size→fW,SameBut→jt,lt_size→mP,get?_update_self→rD,size_push→tz,ExtBut→A0,get?_none_of_le→EF,get?_update_other→Lm
open PySem.Heap.IsSliceOf renaming new→YX
open PySem.Heap.SameBut renaming update→mJ
open PySem.NameKind renaming free→qu,cell→Mh
open PySem.Obj renaming mapSeq→ju,mapFields→tA,data_mapFields→vr,putName→Fc,isFreed_of_fields→Ln,cls_mapFields→Y4
open PySem.Sem renaming wp_mono→vB,wp_bind'→Fb
open PySem.SeqRoads2 renaming notIn_meets→ak8,in_meets→alm
open PySem.SetTable renaming grown→xO,below→AP
open PySem.Str renaming ofString→ax,ofString→fK
open PySem.Value renaming none→kj,type→k8,isInt→xS,ref→A5,bytes→Fd
open PySem.W renaming bytesKind→fL,typeIs_bytes→fZ,emptyDict→lU,instObj→mU,enumItems→qx,kas_sort→qy,SharedT→tJ,isBytes→tK,bytesKind_is→E9
open PySem.W.FB renaming owner_bytes→AN,plainAttrs_bytes→EJ,args_bytes_contains_2→Lh,entry_bytes_contains→Lj,slot_bytes_contains→Lk
open PySem.W.Fast renaming te14364793385576792824→ak3,te10156331382660048174→ak4,te11892475500146522536→ak5,te6613529449190102663→ak6
open PySem.W.KBy renaming ite_no→Fm,buffer_eq→Mc
open Subtype renaming property→eZ
namespace Internal
set_option tactic.hygienic false
def aA:AZ:=PySem.W.name_B._auto_3
def aI:AZ:=PySem.wpAny_For._auto_3
def aJ:AZ:=PySem.Subscript_Name._auto_1
def aW:AZ:=PySem.W.kim_tup._auto_3
def aK:AZ:=PySem.ldc._auto_1
def aX:AZ:=PySem.wpAny_run._auto_3
theorem aB(h:True:=by first |assumption |rfl):True:=h
theorem aG(h:True:=by exact cG rfl):True:=h
theorem xW(n:Nat):((n+1:Nat):Int)- 1=n:=Int.add_sub_cancel (n:Int) 1
theorem jP{α:Type}{a:α}{P:Prop}(h:some a=none):P:=nomatch h
theorem bo{α:Type}{a:α}{P:Prop}(h:none=some a):P:=nomatch h
theorem iR{P:Prop}(h:true=false):P:=nomatch h
theorem eP{P:Prop}(h:false=true):P:=nomatch h
theorem og{α:Type}{a:α}{l:List α}{P:Prop}(h:a::l=[]):P:=nomatch h
theorem vE{α:Type}{a:α}{l:List α}{P:Prop}(h:[]=a::l):P:=nomatch h
theorem cA{α:Type}{a:α}{P:Prop}(h:a∈([]:List α)):P:=nomatch h
theorem rT{n:Nat}{P:Prop}(h:0=n+1):P:=nomatch h
theorem A7{n:Nat}{P:Prop}(h:n+1=0):P:=nomatch h
theorem tL{n:Nat}{P:Prop}(h:n<0):P:=nomatch h
theorem el{a b:Nat}(h:a=b):a≤b:=rN h
theorem er{a b:Nat}(h:a=b):b≤a:=rN h.symm
theorem lz{x m k n:Nat}(h:x≤m)(e:Nat.ble (m+k) n=true):x+k≤n:=aR (iN h k) (cG e)
theorem cB{x m n:Nat}(h:x≤m)(e:Nat.ble m n=true):x≤n:=aR h (cG e)
theorem jQ{x y m n:Nat}(h:x≤y)(g:y≤m)(e:Nat.ble m n=true):x≤n:=aR h (aR g (cG e))
theorem xX{x y m n:Nat}(h:x=y)(g:y≤m)(e:Nat.ble m n=true):x≤n:=jQ (el h) g e
theorem Zi{x y m n:Nat}(h:y=x)(g:y≤m)(e:Nat.ble m n=true):x≤n:=jQ (er h) g e
theorem l1{a b c d:Nat}(h:a≤b)(e:c+b≤d+a):c≤d:=Nat.le_of_add_le_add_right (aR e (AB h d))
theorem l2{a b a2 b2 c d:Nat}(h:a≤b)(h2:a2≤b2)(e:c+(b+b2)≤d+(a+a2)):c≤d:=l1 (gj h h2) e
theorem l3{a b a2 b2 a3 b3 c d:Nat}(h:a≤b)(h2:a2≤b2)(h3:a3≤b3)(e:c+(b+b2+b3)≤d+(a+a2+a3)):c≤d:=l1 (gj (gj h h2) h3) e
theorem l4{a b a2 b2 a3 b3 a4 b4 c d:Nat}(h:a≤b)(h2:a2≤b2)(h3:a3≤b3)(h4:a4≤b4)(e:c+(b+b2+b3+b4)≤d+(a+a2+a3+a4)):c≤d:=l1 (gj (gj (gj h h2) h3) h4) e
theorem l5{a b a2 b2 a3 b3 a4 b4 a5 b5 c d:Nat}(h:a≤b)(h2:a2≤b2)(h3:a3≤b3)(h4:a4≤b4)(h5:a5≤b5)(e:c+(b+b2+b3+b4+b5)≤d+(a+a2+a3+a4+a5)):c≤d:=l1 (gj (gj (gj (gj h h2) h3) h4) h5) e
theorem q1{a b c d:Nat}(h:a=b)(e:c+b=d+a):c=d:=Nat.add_right_cancel (h▸e)
theorem f1{a b:Nat}(h:a≤b)(e:b+1≤a):False:=Nat.not_succ_le_self _ (aR e h)
theorem l6{a b a2 b2 a3 b3 a4 b4 a5 b5 a6 b6 c d:Nat}(h:a≤b)(h2:a2≤b2)(h3:a3≤b3)(h4:a4≤b4)(h5:a5≤b5)(h6:a6≤b6)(e:c+(b+b2+b3+b4+b5+b6)≤d+(a+a2+a3+a4+a5+a6)):c≤d:=l1 (gj (gj (gj (gj (gj h h2) h3) h4) h5) h6) e
theorem Zj{i:Nat}(h:i<1000):-2^62≤(i:Int)∧(i:Int)<2^62:=⟨rO (by decide) (fX _),pg (dN.2 h) (by decide)⟩
theorem Zk{i:Int}{n:Nat}(h:-(n:Int)≤i):0≤i+n:=Int.add_left_neg (n:Int)▸Ay h n
theorem Zl{i:Int}(h:-2^62≤i∧i<2^62):-9223372036854775808≤i∧i<9223372036854775808:=⟨rO (by decide) h.1,pg h.2 (by decide)⟩
theorem Zm(k:Nat):((k:Int)- 0- 1+1).toNat=k:=congrArg Int.toNat ((Int.sub_add_cancel ((k:Int)- 0) 1).trans (Mj k))
theorem Zn{k:Nat}(h:¬(k:Int)>0):Int.toNat 0=k:=by induction k with
 |zero=>rfl
 |succ n=>exact(h (dN.2 (nU n))).elim
theorem Zo(k:Nat):((k:Int)- 1- -1- -1- 1).toNat=k:=congrArg Int.toNat ((alj ((k:Int)+-1+1) 1).trans (Int.neg_add_cancel_right (k:Int) 1))
theorem Zp{k:Nat}(h:¬(k:Int)- 1>-1):Int.toNat 0=k:=by induction k with
 |zero=>rfl
 |succ n=>exact(h (xW n▸tm (by decide) (fX n))).elim
theorem Zq(n:Nat):(-1+((n:Int)+1)).toNat=n:=congrArg Int.toNat ((Int.add_comm ..).trans (alj (n:Int) 1))
theorem Zr{s m:Nat}(h:m+1≤s):s- 1- m<s:=je (A2 ..) (Fh (ey (nU m) h) Nat.one_pos)
theorem Zt{s m:Nat}(h:m+1≤s):((s:Int)- 1+-1*(m:Int)).toNat=s- 1- m:=by
 rw[Int.neg_mul,Int.one_mul,←Int.sub_eq_add_neg,show(s:Int)- 1=((s- 1:Nat):Int)from(L9 (aR (qn (dE m)) h)).symm,←L9 (Nat.le_sub_of_add_le h)];rfl
theorem Zu(a:Int)(y:Nat):a- ((y+1:Nat):Int)=a- (y:Int)- 1:=(Int.sub_sub a y 1).symm
theorem Mo{n:Nat}(h:2≤n)(k:n≤4):n=2∨n=3∨n=4:=(YU h).elim (λa=>(YU k).elim (λb=>.inr (.inl (qq (AD b) a))) λb=>.inr (.inr b)) λa=>.inl a.symm
theorem zo{n:Nat}(h:n≤1):n=0∨n=1:=(YU h).elim (λa=>.inl (Nat.lt_one_iff.1 a)) .inr
theorem Zv{a b c:Int}(h:a<c):a<b∨b<c:=(Decidable.em (a<b)).imp id λx=>Lr (nZ.1 x) h
theorem Zw{i x:Nat}:0+min i x≤i:=aR (el (mO _)) (Nat.min_le_left ..)
theorem Mp{n:Nat}(h:n<256):n/16<16:=Nat.div_lt_of_lt_mul (show n<16*16 from h)
theorem Zx{k n:Nat}(h:n<256)(g:k=0∨k=0∨k=0∨k=n):k<256:=by
 have z:k=0→k<256:=λe=>e▸cG rfl;exact g.elim z λg=>g.elim z λg=>g.elim z λe=>e▸h
theorem Zy{k:Nat}(h:48≤k∧k≤57)(e:k%256=0):False:=Nat.not_succ_le_zero 47 (((Lx (je h.2 (cG rfl))).symm.trans e)▸h.1)
theorem Zz{i k:Nat}(h:k+1=i+1+k+1):False:=iP (Nat.succ_lt_succ (Nat.lt_add_of_pos_left (nU i))) h
theorem ZA(n:Nat):¬(n:Int)+1=0:=λh=>Nat.succ_ne_zero n (AQ h)
theorem ZC(n:Nat):48+((n%8:Nat):Int)<256:=dN.2 (ey (Nat.add_lt_add_left (Fi n (nU 7)) 48) (cG rfl))
theorem ZD{r b:Int}(h:0<b)(g:r<b):(r.toNat:Int)<b:=by induction r with
 |ofNat n=>exact g
 |negSucc n=>exact h
theorem ZE{a b k:Nat}(h:a+b=k)(g:0<a):a- 1+(b+1)=k:=by induction a with
 |zero=>exact tL g
 |succ a=>exact(AW a b).symm.trans h
theorem ZF{k n:Nat}(h:k<0+n)(g:n≤4):900- 10*(k:Int)=((900- 10*k:Nat):Int):=(L9 (m:=10*k) (n:=900) (cB (eN 10 (iQ (ey (mO n▸h) g))) rfl)).symm
theorem Mq{a:Nat}(h:0<a):(a- 1)/2<a:=je (Nat.div_le_self ..) (Fh h Nat.one_pos)
theorem Mr{a:Nat}(h:0<a):((a:Int)- 1)/2=(((a- 1)/2:Nat):Int):=by induction a with
 |zero=>exact tL h
 |succ n=>rw[xW];rfl
theorem Ms{a b:Nat}(h:b+1≤a):a- (b+1)+1≤a- b:=rN (Nat.succ_pred_eq_of_pos (Nat.sub_pos_of_lt h))
theorem Mt(t f:Nat):(t:Int)<f↔¬f≤t:=Int.ofNat_lt.trans Nat.not_le.symm
theorem Mu{a:Nat}{b k:Nat}(h:a- b=k+1):a- (b+1)=k:=(Nat.sub_succ a b).trans (congrArg Nat.pred h)
theorem xa{A:Prop}{B:Prop}{G:Prop}(h:A∧B)(k:A→B→G):G:=h.elim λa1 h=>k a1 h
theorem pj{A:Prop}{B:Prop}{C:Prop}{G:Prop}(h:A∧B∧C)(k:A→B→C→G):G:=h.elim λa1 h=>h.elim λb1 h=>k a1 b1 h
theorem xY{A:Prop}{B:Prop}{C:Prop}{D:Prop}{G:Prop}(h:A∧B∧C∧D)(k:A→B→C→D→G):G:=h.elim λa1 h=>h.elim λb1 h=>h.elim λc1 h=>k a1 b1 c1 h
theorem Mv{T0:Type}{A:Prop}{B:T0→Prop}{C:T0→Prop}{D:T0→Prop}{E:T0→Prop}{F:T0→Prop}{G:Prop}(h:A∧∃x,B x∧C x∧D x∧E x∧F x)(k:A→∀x,B x→C x→D x→E x→F x→G):G:=h.elim λa1 h=>h.elim λx h=>h.elim λb1 h=>h.elim λc1 h=>h.elim λd1 h=>h.elim λe1 h=>k a1 x b1 c1 d1 e1 h
theorem xe{T0:Type}{A:T0→Prop}{G:Prop}(h:∃x,A x)(k:∀x,A x→G):G:=h.elim λx h=>k x h
theorem a9{T0:Type}{A:T0→Prop}{B:T0→Prop}{G:Prop}(h:∃x,A x∧B x)(k:∀x,A x→B x→G):G:=h.elim λx h=>h.elim λa1 h=>k x a1 h
theorem bF{T0:Type}{A:T0→Prop}{B:T0→Prop}{C:T0→Prop}{G:Prop}(h:∃x,A x∧B x∧C x)(k:∀x,A x→B x→C x→G):G:=h.elim λx h=>h.elim λa1 h=>h.elim λb1 h=>k x a1 b1 h
theorem cz{T0:Type}{A:T0→Prop}{B:T0→Prop}{C:T0→Prop}{D:T0→Prop}{G:Prop}(h:∃x,A x∧B x∧C x∧D x)(k:∀x,A x→B x→C x→D x→G):G:=h.elim λx h=>h.elim λa1 h=>h.elim λb1 h=>h.elim λc1 h=>k x a1 b1 c1 h
theorem rU{T0:Type}{A:T0→Prop}{B:T0→Prop}{C:T0→Prop}{D:T0→Prop}{E:T0→Prop}{G:Prop}(h:∃x,A x∧B x∧C x∧D x∧E x)(k:∀x,A x→B x→C x→D x→E x→G):G:=h.elim λx h=>h.elim λa1 h=>h.elim λb1 h=>h.elim λc1 h=>h.elim λd1 h=>k x a1 b1 c1 d1 h
theorem gF{T0 T1:Type}{A:T0→T1→Prop}{G:Prop}(h:∃x,∃y,A x y)(k:∀x,∀y,A x y→G):G:=h.elim λx h=>h.elim λy h=>k x y h
theorem gH{T0 T1:Type}{A:T0→T1→Prop}{B:T0→T1→Prop}{G:Prop}(h:∃x,∃y,A x y∧B x y)(k:∀x,∀y,A x y→B x y→G):G:=h.elim λx h=>h.elim λy h=>h.elim λa1 h=>k x y a1 h
theorem jg{T0 T1:Type}{A:T0→T1→Prop}{B:T0→T1→Prop}{C:T0→T1→Prop}{G:Prop}(h:∃x,∃y,A x y∧B x y∧C x y)(k:∀x,∀y,A x y→B x y→C x y→G):G:=h.elim λx h=>h.elim λy h=>h.elim λa1 h=>h.elim λb1 h=>k x y a1 b1 h
theorem xZ{T0 T1:Type}{A:T0→T1→Prop}{B:T0→T1→Prop}{C:T0→T1→Prop}{D:T0→T1→Prop}{G:Prop}(h:∃x,∃y,A x y∧B x y∧C x y∧D x y)(k:∀x,∀y,A x y→B x y→C x y→D x y→G):G:=h.elim λx h=>h.elim λy h=>h.elim λa1 h=>h.elim λb1 h=>h.elim λc1 h=>k x y a1 b1 c1 h
theorem mX{T0 T1:Type}{A:T0→T1→Prop}{B:T0→T1→Prop}{C:T0→T1→Prop}{D:T0→T1→Prop}{E:T0→T1→Prop}{G:Prop}(h:∃x,∃y,A x y∧B x y∧C x y∧D x y∧E x y)(k:∀x,∀y,A x y→B x y→C x y→D x y→E x y→G):G:=h.elim λx h=>h.elim λy h=>h.elim λa1 h=>h.elim λb1 h=>h.elim λc1 h=>h.elim λd1 h=>k x y a1 b1 c1 d1 h
theorem Fp{T0 T1 T2:Type}{A:T0→T1→T2→Prop}{G:Prop}(h:∃x,∃y,∃z,A x y z)(k:∀x,∀y,∀z,A x y z→G):G:=h.elim λx h=>h.elim λy h=>h.elim λz h=>k x y z h
theorem f7{T0 T1 T2:Type}{A:T0→T1→T2→Prop}{B:T0→T1→T2→Prop}{C:T0→T1→T2→Prop}{G:Prop}(h:∃x,∃y,∃z,A x y z∧B x y z∧C x y z)(k:∀x,∀y,∀z,A x y z→B x y z→C x y z→G):G:=h.elim λx h=>h.elim λy h=>h.elim λz h=>h.elim λa1 h=>h.elim λb1 h=>k x y z a1 b1 h
theorem Fq{T0 T1 T2:Type}{A:T0→T1→T2→Prop}{B:T0→T1→T2→Prop}{C:T0→T1→T2→Prop}{D:T0→T1→T2→Prop}{E:T0→T1→T2→Prop}{G:Prop}(h:∃x,∃y,∃z,A x y z∧B x y z∧C x y z∧D x y z∧E x y z)(k:∀x,∀y,∀z,A x y z→B x y z→C x y z→D x y z→E x y z→G):G:=h.elim λx h=>h.elim λy h=>h.elim λz h=>h.elim λa1 h=>h.elim λb1 h=>h.elim λc1 h=>h.elim λd1 h=>k x y z a1 b1 c1 d1 h
theorem Mw{T0 T1 T2:Type}{A:T0→T1→T2→Prop}{B:T0→T1→T2→Prop}{C:T0→T1→T2→Prop}{D:T0→T1→T2→Prop}{E:T0→T1→T2→Prop}{F:T0→T1→T2→Prop}{G:Prop}(h:∃x,∃y,∃z,A x y z∧B x y z∧C x y z∧D x y z∧E x y z∧F x y z)(k:∀x,∀y,∀z,A x y z→B x y z→C x y z→D x y z→E x y z→F x y z→G):G:=h.elim λx h=>h.elim λy h=>h.elim λz h=>h.elim λa1 h=>h.elim λb1 h=>h.elim λc1 h=>h.elim λd1 h=>h.elim λe1 h=>k x y z a1 b1 c1 d1 e1 h
theorem A8{T0 T1 T2:Type}{A:T0→T1→T2→Prop}{B:T0→T1→T2→Prop}{C:T0→T1→T2→Prop}{D:T0→T1→T2→Prop}{E:T0→T1→T2→Prop}{F:T0→T1→T2→Prop}{H:T0→T1→T2→Prop}{G:Prop}(h:∃x,∃y,∃z,A x y z∧B x y z∧C x y z∧D x y z∧E x y z∧F x y z∧H x y z)(k:∀x,∀y,∀z,A x y z→B x y z→C x y z→D x y z→E x y z→F x y z→H x y z→G):G:=h.elim λx h=>h.elim λy h=>h.elim λz h=>h.elim λa1 h=>h.elim λb1 h=>h.elim λc1 h=>h.elim λd1 h=>h.elim λe1 h=>h.elim λf1 h=>k x y z a1 b1 c1 d1 e1 f1 h
theorem My{T0 T1 T2:Type}{A:T0→T1→T2→Prop}{B:T0→T1→T2→Prop}{C:T0→T1→T2→Prop}{D:T0→T1→T2→Prop}{E:T0→T1→T2→Prop}{F:T0→T1→T2→Prop}{H:T0→T1→T2→Prop}{I:T0→T1→T2→Prop}{J:T0→T1→T2→Prop}{G:Prop}(h:∃x,∃y,∃z,A x y z∧B x y z∧C x y z∧D x y z∧E x y z∧F x y z∧H x y z∧I x y z∧J x y z)(k:∀x,∀y,∀z,A x y z→B x y z→C x y z→D x y z→E x y z→F x y z→H x y z→I x y z→J x y z→G):G:=h.elim λx h=>h.elim λy h=>h.elim λz h=>h.elim λa1 h=>h.elim λb1 h=>h.elim λc1 h=>h.elim λd1 h=>h.elim λe1 h=>h.elim λf1 h=>h.elim λh1 h=>h.elim λi1 h=>k x y z a1 b1 c1 d1 e1 f1 h1 i1 h
theorem tM{T0 T1 T2 T3:Type}{A:T0→T1→T2→T3→Prop}{B:T0→T1→T2→T3→Prop}{C:T0→T1→T2→T3→Prop}{D:T0→T1→T2→T3→Prop}{G:Prop}(h:∃x,∃y,∃z,∃u,A x y z u∧B x y z u∧C x y z u∧D x y z u)(k:∀x,∀y,∀z,∀u,A x y z u→B x y z u→C x y z u→D x y z u→G):G:=h.elim λx h=>h.elim λy h=>h.elim λz h=>h.elim λu h=>h.elim λa1 h=>h.elim λb1 h=>h.elim λc1 h=>k x y z u a1 b1 c1 h
theorem Fs{T0 T1 T2 T3:Type}{A:T0→T1→T2→T3→Prop}{B:T0→T1→T2→T3→Prop}{C:T0→T1→T2→T3→Prop}{D:T0→T1→T2→T3→Prop}{E:T0→T1→T2→T3→Prop}{F:T0→T1→T2→T3→Prop}{G:Prop}(h:∃x,∃y,∃z,∃u,A x y z u∧B x y z u∧C x y z u∧D x y z u∧E x y z u∧F x y z u)(k:∀x,∀y,∀z,∀u,A x y z u→B x y z u→C x y z u→D x y z u→E x y z u→F x y z u→G):G:=h.elim λx h=>h.elim λy h=>h.elim λz h=>h.elim λu h=>h.elim λa1 h=>h.elim λb1 h=>h.elim λc1 h=>h.elim λd1 h=>h.elim λe1 h=>k x y z u a1 b1 c1 d1 e1 h
theorem Mz{T0 T1 T2 T3:Type}{A:T0→T1→T2→T3→Prop}{B:T0→T1→T2→T3→Prop}{C:T0→T1→T2→T3→Prop}{D:T0→T1→T2→T3→Prop}{E:T0→T1→T2→T3→Prop}{F:T0→T1→T2→T3→Prop}{H:T0→T1→T2→T3→Prop}{I:T0→T1→T2→T3→Prop}{J:T0→T1→T2→T3→Prop}{G:Prop}(h:∃x,∃y,∃z,∃u,A x y z u∧B x y z u∧C x y z u∧D x y z u∧E x y z u∧F x y z u∧H x y z u∧I x y z u∧J x y z u)(k:∀x,∀y,∀z,∀u,A x y z u→B x y z u→C x y z u→D x y z u→E x y z u→F x y z u→H x y z u→I x y z u→J x y z u→G):G:=h.elim λx h=>h.elim λy h=>h.elim λz h=>h.elim λu h=>h.elim λa1 h=>h.elim λb1 h=>h.elim λc1 h=>h.elim λd1 h=>h.elim λe1 h=>h.elim λf1 h=>h.elim λh1 h=>h.elim λi1 h=>k x y z u a1 b1 c1 d1 e1 f1 h1 i1 h
theorem MJ{T0 T1 T2 T3 T4:Type}{A:T0→T1→T2→T3→T4→Prop}{B:T0→T1→T2→T3→T4→Prop}{C:T0→T1→T2→T3→T4→Prop}{D:T0→T1→T2→T3→T4→Prop}{E:T0→T1→T2→T3→T4→Prop}{G:Prop}(h:∃x,∃y,∃z,∃u,∃v,A x y z u v∧B x y z u v∧C x y z u v∧D x y z u v∧E x y z u v)(k:∀x,∀y,∀z,∀u,∀v,A x y z u v→B x y z u v→C x y z u v→D x y z u v→E x y z u v→G):G:=h.elim λx h=>h.elim λy h=>h.elim λz h=>h.elim λu h=>h.elim λv h=>h.elim λa1 h=>h.elim λb1 h=>h.elim λc1 h=>h.elim λd1 h=>k x y z u v a1 b1 c1 d1 h
theorem ZG{T0 T1 T2 T3 T4 T5 T6:Type}{A:T0→T1→T2→T3→T4→T5→T6→Prop}{B:T0→T1→T2→T3→T4→T5→T6→Prop}{C:T0→T1→T2→T3→T4→T5→T6→Prop}{D:T0→T1→T2→T3→T4→T5→T6→Prop}{E:T0→T1→T2→T3→T4→T5→T6→Prop}{G:Prop}(h:∃x,∃y,∃z,∃u,∃v,∃w,∃r,A x y z u v w r∧B x y z u v w r∧C x y z u v w r∧D x y z u v w r∧E x y z u v w r)(k:∀x,∀y,∀z,∀u,∀v,∀w,∀r,A x y z u v w r→B x y z u v w r→C x y z u v w r→D x y z u v w r→E x y z u v w r→G):G:=h.elim λx h=>h.elim λy h=>h.elim λz h=>h.elim λu h=>h.elim λv h=>h.elim λw h=>h.elim λr h=>h.elim λa1 h=>h.elim λb1 h=>h.elim λc1 h=>h.elim λd1 h=>k x y z u v w r a1 b1 c1 d1 h
theorem MK{T0 T1 T2 T3 T4 T5 T6 T7:Type}{A:T0→T1→T2→T3→T4→T5→T6→T7→Prop}{B:T0→T1→T2→T3→T4→T5→T6→T7→Prop}{C:T0→T1→T2→T3→T4→T5→T6→T7→Prop}{G:Prop}(h:∃x,∃y,∃z,∃u,∃v,∃w,∃r,∃s,A x y z u v w r s∧B x y z u v w r s∧C x y z u v w r s)(k:∀x,∀y,∀z,∀u,∀v,∀w,∀r,∀s,A x y z u v w r s→B x y z u v w r s→C x y z u v w r s→G):G:=h.elim λx h=>h.elim λy h=>h.elim λz h=>h.elim λu h=>h.elim λv h=>h.elim λw h=>h.elim λr h=>h.elim λs h=>h.elim λa1 h=>h.elim λb1 h=>k x y z u v w r s a1 b1 h
theorem ML{T0 T1 T2 T3:Type}{A:T0→T1→T2→T3→Prop}{B:T0→T1→T2→T3→Prop}{G:Prop}(h:∃x,∃y,∃z,∃u,A x y z u∧B x y z u)(k:∀x,∀y,∀z,∀u,A x y z u→B x y z u→G):G:=h.elim λx h=>h.elim λy h=>h.elim λz h=>h.elim λu h=>h.elim λa1 h=>k x y z u a1 h
theorem ZH{T0 T1:Type}{A:T0→Prop}{B:T0→Prop}{C:T0→T1→Prop}{D:T0→T1→Prop}{E:T0→T1→Prop}{F:T0→T1→Prop}{H:T0→T1→Prop}{I:T0→T1→Prop}{G:Prop}(h:∃x,A x∧B x∧∃y,C x y∧D x y∧E x y∧F x y∧H x y∧I x y)(k:∀x,A x→B x→∀y,C x y→D x y→E x y→F x y→H x y→I x y→G):G:=h.elim λx h=>h.elim λa1 h=>h.elim λb1 h=>h.elim λy h=>h.elim λc1 h=>h.elim λd1 h=>h.elim λe1 h=>h.elim λf1 h=>h.elim λh1 h=>k x a1 b1 y c1 d1 e1 f1 h1 h
variable {A:bj}{C I a aa ad al cd cl d dX da fa iJ il it l la nO na oa qd ra rl sl td tl wa wd:Addr}{E:ak→aw→Prop}{G:Prop}{K:Frag}{S:Nat→Heap→Prop}{T' a4 b2 b3 b4 b9 ep i j k' slot tk way:Nat}{Y:Addr→Prop}{args ifs ts:List Expr}{b c' content dT kind msg:List UInt8}{bg bq cg s s':aw}{body orelse:List Stmt}{c0 items:Array ak}{c9 fp:List Addr}{cf:Nat→Nat}{counts:List ( Option Nat )}{elt iter slice target value:Expr}{env:Env}{es:Array ( Int×ak )}{f v:ak}{fd:ph}{first vs:List ak}{h':Heap}{hs is ls ps r times:List Nat}{kn:Bool}{kv:List ( bA×ak )}{op:jv}{prog:dv}{scope:Scope}{sh:Nat→Bool}{t:Nat→Int}{u:Tok}{w:cM}
noncomputable def yr(th ok:Thread→Bool)(st:tJ→Thread→Option (tJ×Thread)):Nat→tJ→Thread→Option tJ
 |0,_,_=>none
 |n+1,s,t=>match th t with
  |true=>some s
  |false=>match ok t with
   |false=>none
   |true=>match st s t with
    |some (s',t')=>yr th ok st n s' t'
    |none=>none
theorem Pk{tb:String→Option Builtin}{p:dv}{GO:Nat}{ann:Option ak}:∀{n:Nat} {s s':tJ} {t:Thread},
  yr through (stepOk GO ann) (stepT (denote tb) p w) n s t=some s'→topRun tb p w GO ann n s.abs t=some s'.abs
 |0,_,_,_,h=>by exact bo h
 |n+1,s,s',t,h=>by
  unfold yr at h;unfold topRun
  cases ht:through t with
  |true=>rw[ht]at h;cases h;rfl
  |false=>
   rw[ht]at h
   cases hk:stepOk GO ann t with
   |false=>rw[hk]at h;exact bo h
   |true=>
    rw[hk]at h
    cases hs:stepT (denote tb) p w s t with
    |none=>rw[hs]at h;exact bo h
    |some r=>obtain⟨bg,alE⟩:=r;rw[hs]at h;rw[stepT_spec hs];exact Pk h
noncomputable def GP{α:Type}(p q:dv)(loose:List bA)(Xt:aw→Bool)(g0:Bool)(Yf:aw→α)(h₀:Heap)(s:aw):=
 (staticsOk (importedModules p.main.body) h₀ s.heap&&namesBound p s.heap&&gensDone s&&laidKept h₀ s.heap,openSeen q loose (importedModules p.main.body) Xt g0 s,Yf s)
theorem acw{p q:dv}{loose:List bA}{Xt:aw→Bool}{α:Type}{Yf:aw→α}{Ya:cM→α}{N:Nat}{g0:Bool}{ou:Params→Heap}{GQ:Params→BT}{yt:Nat}{life:Life}{BF:Array GenState}{GR:Drawn}{GS:Nat}{ann:Option ak}
  (acO:∀w:cM,(fencedOpening treeTable p w N).map (λs=>(s.heap,s.gens,s.drawn,s.toks))=some (ou w.params,BF,GR,GS))
  (size:∀w:cM,((ou w.params).isNs nV&&BF.size==0,(ou w.params).objs.size,(ou w.params).nsMap nV "__annotations__")=(true,yt,ann))
  (tree:∀P,ou P=absHeap (GQ P) yt life)
  (run:∀(w:cM) (os:OsState),(yr through (stepOk yt ann) (stepT (denote treeTable) p w) N ⟨GQ w.params,yt,life,BF,GR,GS,os⟩ (topStub p)).map (λS=>GP p q loose Xt g0 Yf (ou w.params) S.abs)=some (true,openGood q loose,Ya w)):
  LeftO p q loose Xt Yf Ya N g0:=λw=>by
 obtain⟨⟨h,gs,d,k,os⟩,e,e'⟩:=Option.map_eq_some_iff.mp (acO w)
 obtain⟨rfl,rfl,rfl,rfl⟩:h=ou w.params∧gs=BF∧d=GR∧k=GS:=by simpa using e'
 obtain⟨z1,z2,z3⟩:_∧_∧_:=by simpa only[Prod.mk.injEq]using size w
 refine a9 (Option.map_eq_some_iff.mp (run w os)) λS hS hl=>?_;refine xa (k0 hl) λl1 l2=>?_;have r:=Pk hS
 have eS:(⟨GQ w.params,yt,life,gs,d,k,os⟩:tJ).abs=⟨ou w.params,gs,d,k,os⟩:=by rw[tree];rfl
 rw[eS]at r
 have t:topFrom treeTable p w N ⟨ou w.params,gs,d,k,os⟩=some S.abs:=by
  unfold topFrom;dsimp only;rw[z1,z2,z3,r]
  show(match staticsOk (importedModules p.main.body) (ou w.params) S.abs.heap&&namesBound p S.abs.heap&&gensDone S.abs&&laidKept (ou w.params) S.abs.heap with |true=>_ |false=>_)=_
  rw[l1]
 unfold openEnds;rw[e];show(topFrom treeTable p w N _).map _=_;rw[t];exact congrArg some l2
noncomputable def Pl(P:Params):BT:=((((((((((BT.nil.ins 0 (boot_o_0 P)).ins 1 (boot_o_1 P)).ins 2 (boot_o_2 P)).ins 3 (boot_o_3 P)).ins 4 (boot_o_4 P)).ins 5 (boot_o_5 P)).ins 6 (boot_o_6 P)).ins 7 (boot_o_7 P)).ins 8 (boot_o_8 P)).ins 9 (boot_o_9 P)).ins 10 (boot_o_10 P)
theorem acy(P:Params):boot_heap P=absHeap (Pl P) 11 {}:=by kernel_rfl
theorem acx(w:cM):((boot_heap w.params).isNs nV&&(Array.mk ([]:List GenState)).size==0,(boot_heap w.params).objs.size,(boot_heap w.params).nsMap nV "__annotations__")=(true,11,some (.ref 6)):=by kernel_rfl
noncomputable abbrev ot:dv:=PySem.Challenge.rw_nt0316_01.row.prog
noncomputable def qv:dv:=view ot [71]
noncomputable def BA:List bA:=ot.boundNames
noncomputable def vO(w:cM)(os:OsState):Option tJ:=yr through (stepOk 11 (some (.ref 6))) (stepT (denote treeTable) ot w) 8000 ⟨Pl w.params,11,{},#[],boot_drawn,boot_toks,os⟩ (topStub ot)
set_option maxHeartbeats 0 in
theorem acz(w:cM)(os:OsState):(vO w os).map (λS=>GP ot qv BA (λz=>true) true (λz=>()) (boot_heap w.params) S.abs)=some (true,openGood qv BA,()):=by
 unfold vO GP;rw[ak3,ak4,ak5,ak6,PySem.W.Fast.te4187177175401517315,PySem.W.Fast.te5923862056798008813]
 kernel_rfl
theorem la1:namesResolve ot=true:=by kernel_rfl
theorem la2:namesMeet ot ot.main.body (λz n=>attrL n)=true:=by kernel_rfl
theorem la3:looksOpen ot=true:=by
 unfold looksOpen;rw[la1,la2,Bool.and_true,Bool.and_true]
 kernel_rfl
theorem acM:OpenLaw.wellSaid ak7=true:=by
 unfold OpenLaw.wellSaid OpenRow.wellSaid OpenRow.partSaid;rw[show looksOpen (OpenLaw.row ak7).prog=true from la3]
 kernel_rfl
noncomputable def ud:List bA:=[ax "j",ax "k",ax "x",ax ".0",ax "at",ax "DIR",ax "SUB",ax "all",ax "due",ax "end",ax "far",ax "fit",ax "get",ax "has",ax "ids",ax "int",ax "key",ax "law",ax "len",ax "max",ax "odd",ax "oid",ax "old",ax "one",ax "ord",ax "pop",ax "put",ax "row",ax "set",ax "str",ax "tag",ax "top",ax "way",ax "who",ax "BLOB",ax "EXEC",ax "FILE",ax "LINK",ax "TREE",ax "Tree",ax "Walk",ax "anew",ax "blob",ax "came",ax "cell",ax "date",ax "deck",ax "find",ax "fits",ax "full",ax "grep",ax "here",ax "join",ax "keep",ax "kept",ax "kind",ax "last",ax "left",ax "list",ax "lots",ax "mail",ax "many",ax "mine",ax "mode",ax "more",ax "most",ax "name",ax "near",ax "note",ax "olds",ax "pair",ax "part",ax "path",ax "peel",ax "rank",ax "read",ax "rows",ax "seen",ax "self",ax "sign",ax "sink",ax "size",ax "some",ax "take",ax "text",ax "told",ax "topo",ax "tree",ax "turn",ax "walk",ax "what",ax "when",ax "wish",ax "zone",ax "Entry",ax "_wall",ax "above",ax "ahead",ax "asked",ax "begun",ax "below",ax "bytes",ax "cells",ax "count",ax "dated",ax "email",ax "entry",ax "extra",ax "first",ax "flags",ax "found",ax "index",ax "known",ax "least",ax "level",ax "lower",ax "marks",ax "mixed",ax "octet",ax "order",ax "other",ax "parts",ax "paths",ax "queue",ax "range",ax "roots",ax "shown",ax "sides",ax "signs",ax "split",ax "start",ax "store",ax "thing",ax "times",ax "tuple",ax "value",ax "write",ax "COMMIT",ax "Commit",ax "HIDDEN",ax "Orders",ax "Person",ax "WANTED",ax "append",ax "author",ax "bottom",ax "commit",ax "counts",ax "digest",ax "digits",ax "extend",ax "figure",ax "groups",ax "hasher",ax "hex_of",ax "hidden",ax "levels",ax "listed",ax "log_of",ax "merges",ax "number",ax "octets",ax "others",ax "parent",ax "passed",ax "person",ax "row_of",ax "script",ax "sorted",ax "walked",ax "wanted",ax "between",ax "by_date",ax "by_path",ax "commits",ax "content",ax "entries",ax "is_tree",ax "log_ids",ax "message",ax "missing",ax "numbers",ax "objects",ax "of_kind",ax "painted",ax "parents",ax "pickaxe",ax "reached",ax "reverse",ax "shallow",ax "subject",ax "waiting",ax "Ancestry",ax "GitError",ax "__dict__",ax "__init__",ax "__name__",ax "boundary",ax "by_lines",ax "changing",ax "children",ax "entry_at",ax "followed",ax "is_known",ax "shortlog",ax "sort_key",ax "subjects",ax "BadObject",ax "Exception",ax "HEX_SIGNS",ax "LogFilter",ax "RankQueue",ax "__class__",ax "__debug__",ax "_law_deck",ax "_law_draw",ax "_law_pick",ax "_law_wish",ax "bytearray",ax "committer",ax "enumerate",ax "fits_date",ax "octets_of",ax "rewritten",ax "write_tag",ax "MergeBases",ax "_law_notes",ax "_law_times",ax "_law_world",ax "big_endian",ax "check_tree",ax "entries_at",ax "fits_texts",ax "fork_point",ax "setdefault",ax "write_tree",ax "MemoryStore",ax "_law_people",ax "best_common",ax "independent",ax "is_ancestor",ax "merge_bases",ax "object_rows",ax "peeled_tags",ax "tree_faults",ax "walked_once",ax "OBJECT_MODES",ax "WalkedCommit",ax "_law_by_date",ax "_law_reached",ax "ahead_behind",ax "first_parent",ax "history_blob",ax "like_parents",ax "passed_first",ax "passed_whole",ax "put_contents",ax "write_commit",ax "MissingObject",ax "OBJECT_BLANKS",ax "__classdict__",ax "ancestry_path",ax "children_left",ax "law_nt0316_01",ax "next_changing",ax "object_octets",ax "sorted_starts",ax "CountingHasher",ax "_law_is_wished",ax "by_lines_dated",ax "hidden_objects",ax "object_are_all",ax "object_cut_end",ax "object_subject",ax "_law_drawn_rows",ax "log_occurrences",ax "object_has_sign",ax "object_head_row",ax "shortlog_counts",ax "_law_short_right",ax "merge_bases_many",ax "object_by_eights",ax "object_name_fault"]
noncomputable def code(s:bA):Nat:=s.cps.toList.foldl (λa x=>a*128+x) 1
noncomputable def x6:List Nat:=[234,235,248,22320,28916,3220690,3467970,3700332,3750629,3766116,3780850,3781876,3797748,3813619,3830387,3831668,3863289,3879159,3879662,3895544,3928676,3929316,3929700,3929957,3930468,3946480,3947252,3979255,3994356,3996274,4010215,4012016,4059385,4060271,408102850,414589635,416441925,429025099,445948613,446477029,452490859,473674487,475740130,477656805,477722220,479754853,479818219,484079460,484080243,484275820,486322928,488208741,492565742,494498544,494499956,494565220,496531956,496595828,496663028,496761459,498627820,498628473,498759525,498856549,498858341,498858484,500725477,500789490,500955749,503001715,504919282,504920436,504920680,504984300,509114219,509178084,509344755,511275758,511276646,511341550,511342443,511343973,511440613,513308133,513375348,513537636,513538159,513585893,513636718,519599723,519713012,519713518,519731688,526120805,53114386809,60112270956,60605332325,60617748708,60640916196,60879928046,60880009207,60922082035,61148444275,61169563508,61408621284,61701911788,61704321401,61725292897,61962238452,61968249843,61974869860,62777799416,63314852846,63564184052,63564526316,63585514226,63824508403,63841383140,64365605620,64396800754,64401060594,64629815923,64629847155,64939981541,65166619621,65195997811,65449753582,65451668211,65451718515,65466479860,65474689396,65474918757,65718089575,65720251123,65745466981,66240330469,66544368229,6721518134484,6730175706356,6891687191246,7143278868851,7174178535406,7404957016772,7761242453860,7762593069042,7795342391277,7829687334132,7829704129139,7862423747060,7862423812723,7900837279588,7931143485797,7967935920243,7997740430066,7998824511462,7999856390894,8136259368563,8137327063780,8138912167910,8170610750195,8209254888178,8238797519475,8243335756147,8272616191860,8272618517220,8273690163182,8345104152550,8376232343668,8379453747940,8513121874660,8513126216420,997460234826478,998141752539749,998141777705576,1002199978769011,1002200261818228,1010963601584883,1028721953518309,1041780757394035,1045838469559269,1045975908644711,1050784625686899,1054529038121587,1054663536965476,1058892475609828,1058894872558195,1059165736303717,1067823836836580,1067829478341093,1072324981503991,1072771922227700,1089678813591399,109136555095701881,112492840107161586,125959118400597983,125959291554050015,125959459871223775,127718922464557433,127762146489250547,128250398904055655,128250673238946542,129403341036318964,129970412527153892,131676407626202094,137258080296187879,137288970193793785,137314806045145715,14034221934440968692,14263338927130310638,14450752669074188115,14762692060953522930,15187188377045269221,16122762859770605535,16122767017571381215,16130072790460625387,16130072790460838135,16130072790485856747,16130072790500538856,16353646866943750393,16420044452151505650,16563631873567783525,16632870524310551141,17278010695563605990,17495323015450014446,17862867829984669927,1898133717334796071667,2064649317181665653491,2064649317183263568627,2064649317184081540708,2092106532862855639278,2101256739200117289701,2120144338990942122228,2129007427116053969523,2129438611594949588852,2248622967450708571764,2286447082238038029029,242960760093543969323365,264275112599319228462693,267753619204612304893934,276099681664641229485940,276145435976188303325170,280740047682807722210035,283072983213404461988851,284280888611158263100403,289123154963538326010483,292508640308241024922085,31359562169090962709619411,32605402680995372416595188,33827214412651971466525285,33827214412721653550822116,34124758812094604672399204,34881639250855316350924660,35183879998457726321244130,35788268031408020626586227,36383361007357058522855924,36383361007357063084111461,36406980620914560595638899,37461148995387430163674356,3981280676071020050152780276,4014023957643642848062711251,4327921200242386726876426207,4368873499115823995672885864,4406659578010062356787852148,4579703495042726426198923313,4618994957372449193591469927,4637867756968418598918388339,4717213097099283061404383859,484961479059663615134845776626,554225080937390926621075714788,561903862618206533764297601764,576450404176817162063678339699,593647072891957519600259200620,593647072891957528503458035556,593647072891957598867393442292,70940810359939850815785737649139,75068214899897705745491699495667,75986825330170566375197134975982,75986825330170566392172146112503,77269429909437669309213270850163,9080423726089918551028922070987892,9646154587801117986786851075684217,9726313642261832077102710471146099,1244968146209514614828110081121154676]
theorem QO:ud.map code=x6:=by decide+kernel
noncomputable def wC:Nat→List Nat→Bool
 |_,[]=>true
 |a,b::r=>k9 a b&&wC b r
theorem adA{l:List Nat}:∀{a:Nat},wC a l=true→∀{j y:Nat},l[j]?=some y→a<y:=by
 induction l with
 |nil=>exact λz u y q=>bo q
 |cons b r ih=>
  intro a h j y q;refine xa (cK.1 (show(k9 a b&&wC b r)=true from h)) λu v=>?_
  cases j with
  |zero=>exact bt q▸cG u
  |succ j=>exact jN (cG u) (ih v q)
theorem QP{l:List Nat}:∀{a:Nat},wC a l=true→∀{i j x y:Nat},i<j→l[i]?=some x→l[j]?=some y→x<y:=by
 induction l with
 |nil=>exact λz i j x y hl e q=>bo q
 |cons b r ih=>
  intro a h i j x y hl e q;refine xa (cK.1 (show(k9 a b&&wC b r)=true from h)) λu v=>?_
  cases j with
  |zero=>exact tL hl
  |succ j=>
   cases i with
   |zero=>exact bt e▸adA v q
   |succ i=>exact ih v (YG hl) e q
theorem QQ:wC 0 x6=true:=by decide+kernel
noncomputable def nm(i:Nat):bA:=(ud[i]?).getD PySem.Str.empty
noncomputable abbrev nN:Nat:=283
theorem QR:ud.length=283:=by decide+kernel
theorem oE(hi:i<nN)(hj:j<nN)(e:nm i=nm j):i=j:=by
 have ff:i<ud.length:=by rw[QR];exact hi
 have wA:j<ud.length:=by rw[QR];exact hj
 unfold nm at e;rw[bS ff,bS wA,Y9,Y9]at e
 have ci:x6[i]?=some (code ud[i]):=by rw[←QO,dM,bS ff];rfl
 have cj:x6[j]?=some (code ud[j]):=by rw[←QO,dM,bS wA];rfl
 rcases Nat.lt_trichotomy i j with h |h |h
 ·have:=QP QQ h ci cj;rw[e]at this;exact absurd this (AS _)
 ·exact h
 ·have:=QP QQ h cj ci;rw[e]at this;exact absurd this (AS _)
noncomputable abbrev rW:Nat:=213
noncomputable abbrev tO:Nat:=260
theorem cps{P:Prop}(h:∀G:Prop,(P→G)→G):P:=h P id
noncomputable def yo:List (Nat×Nat):=[(108,81),(108,112),(163,50),(163,144),(163,171),(163,186),(163,159),(232,66),(232,105),(232,91),(232,93),(274,63),(274,66),(274,21),(323,176),(391,87),(391,185),(391,144),(391,219),(391,107),(391,179),(539,153),(539,54),(588,76),(588,43),(609,185),(609,87),(609,45),(958,131),(958,189),(958,112),(958,156)]
noncomputable def yp:List ((Nat×Nat)×Nat):=[((108,148),105),((163,232),148),((163,221),155),((163,48),160),((232,161),229),((274,205),257),((274,161),271),((323,161),313),((323,47),320),((391,161),381),((391,190),388),((539,53),423),((539,136),430),((539,235),437),((539,257),444),((539,166),479),((539,183),500),((539,42),507),((539,87),514),((539,146),521),((588,61),564),((588,26),571),((588,83),578),((588,80),585),((958,169),657),((958,185),664),((958,45),671),((958,87),678),((958,114),683),((958,184),690),((958,126),775),((958,202),782),((958,172),789),((958,174),815),((958,201),915)]
noncomputable def yq:List (Nat×Nat):=[(108,98),(163,141),(232,222),(274,250),(323,306),(391,374),(539,416),(588,557),(609,606),(958,650)]
inductive CV where
 |none
 |bool (b:Bool)
 |int (i:Int)
 |str (s:bA)
 |bytes (b:List UInt8)
 |tup (vs:List CV)
 |loc (a:Addr)
 |ty (n:String)
 |bi (n:String)
inductive CO where
 |list (vs:List CV)
 |ro (vs:List CV)
 |dI (es:List (Int×CV))
 |dS (es:List (bA×CV))
 |dB (es:List (List UInt8×CV))
 |inst (C d:Addr)
 |iV (fs:List (Nat×CV))
 |ba (b:List UInt8)
 |set (bs:List (List UInt8))
noncomputable def CO.fc:CO→Bool
 |.ro _=>true
 |.inst ..=>true
 |_=>false
noncomputable abbrev St:=Addr→Option CO
noncomputable def upd(σ:St)(a:Addr)(o:CO):St:=λb=>if b=a then some o else σ b
theorem eJ(σ:St)(a:Addr)(o:CO):upd σ a o a=some o:=by simp[upd]
theorem iU{σ:St}{b:Addr}{o:CO}(h:b≠a):upd σ a o b=σ b:=by simp[upd,h]
structure Cx where
 prog:dv
 w:cM
 H0:Heap
 K:Frag
 mg:bA→Option ak
 mb:bA→Option ak
 jV:K.In H0
 ng:H0.Ns nV mg
 nb:H0.Ns Fk mb
 GI:H0.NoLimit
 blt:∀x:bA,x≠"__name__"→mb x=Mk x
 sys:∃o,H0.get? vC=some o
 fld:∀C i,(C,i)∈yo→i<nN∧plainGet K C (nm i)=true∧hasDictIn K C=true∧(∃attr,findIn K (.ref C) (nm i)=some attr∧noGet K attr=true)∧
  findIn K (.ref C) "__setattr__"=some (some (.builtin "object.__setattr__"))∧plainOver K C=true∧takerIn K C (nm i)=some none
 BB:∀C i f,((C,i),f)∈yp→i<nN∧plainGet K C (nm i)=true∧findIn K (.ref C) (nm i)=some (some (.ref f))∧isFn K (.ref f)=true∧keepIn K (.ref f)=true
 FJ:∀C f,(C,f)∈yq→makesIn K C=true∧findIn K (.ref C) "__init__"=some (some (.ref f))∧isFn K (.ref f)=true∧keepIn K (.ref C)=true
noncomputable abbrev Cx.M(c:Cx):fy:=model c.prog c.w
noncomputable abbrev d7(items:Array ak)(n:Nat):Obj:={cls:=.type "tuple",data:=.seq items n}
mutual
inductive aV(h:Heap):CV→ak→Prop
 |none:aV h .none .none
 |bool (b:Bool):aV h (.bool b) (.bool b)
 |int (i:Int) (t:Tok):aV h (.int i) (.int i t)
 |str (s:bA) (t:Tok):aV h (.str s) (.str s t)
 |bytes (b:List UInt8) (t:Tok):aV h (.bytes b) (.bytes b.toArray t)
 |loc (a:Addr):aV h (.loc a) (.ref a)
 |ty (n:String):aV h (.ty n) (.type n)
 |bi (n:String):aV h (.bi n) (.builtin n)
 |tup {vs:List CV} {a:Addr} {items:Array ak} {n:Nat} (e:h.get? a=some (d7 items n)) (r:aN h vs items.toList):aV h (.tup vs) (.ref a)
inductive aN(h:Heap):List CV→List ak→Prop
 |nil:aN h [] []
 |cons {x:CV} {v:ak} {xs:List CV} {vs:List ak} (e:aV h x v) (r:aN h xs vs):aN h (x::xs) (v::vs)
end
section
variable{h:Heap}{v:ak}
theorem aV.PU(r:aV h .none v):v=.none:=by cases r;rfl
theorem aV.Hw{b:Bool}(r:aV h (.bool b) v):v=.bool b:=by cases r;rfl
theorem aV.bZ{i:Int}(r:aV h (.int i) v):∃t,v=.int i t:=by cases r;exact⟨_,rfl⟩
theorem aV.pQ{x:bA}(r:aV h (.str x) v):∃t,v=.str x t:=by cases r;exact⟨_,rfl⟩
theorem aV.fP(r:aV h (.bytes b) v):∃t,v=.bytes b.toArray t:=by cases r;exact⟨_,rfl⟩
theorem aV.dj(r:aV h (.loc a) v):v=.ref a:=by cases r;rfl
theorem aV.PV{n:String}(r:aV h (.ty n) v):v=.type n:=by cases r;rfl
theorem aV.vbi{n:String}(r:aV h (.bi n) v):v=.builtin n:=by cases r;rfl
theorem aV.jl{xs:List CV}(r:aV h (.tup xs) v):∃a items n,v=.ref a∧h.get? a=some (d7 items n)∧aN h xs items.toList:=by
 cases r with |tup e r=>exact⟨_,_,_,rfl,e,r⟩
theorem aN.jU{vs:List ak}(r:aN h [] vs):vs=[]:=by cases r;rfl
theorem aN.iT{x:CV}{xs:List CV}{vs:List ak}(r:aN h (x::xs) vs):∃v ws,vs=v::ws∧aV h x v∧aN h xs ws:=by
 cases r with |cons e r=>exact⟨_,_,rfl,e,r⟩
end
noncomputable def gq(h h':Heap):Prop:=∀b items n,h.get? b=some (d7 items n)→h'.get? b=some (d7 items n)
section
variable{h h':Heap}(k:gq h h')
include k
theorem aV.bQ{c:CV}{v:ak}(r:aV h c v):aV h' c v:=
 aV.rec (motive_1:=λc v z=>aV h' c v) (motive_2:=λc v z=>aN h' c v) .none .bool .int .str .bytes .loc .ty .bi (λe z ih=>.tup (k _ _ _ e) ih) .nil (λz z i1 i2=>.cons i1 i2) r
theorem aN.bQ{c:List CV}{v:List ak}(r:aN h c v):aN h' c v:=
 aN.rec (motive_1:=λc v z=>aV h' c v) (motive_2:=λc v z=>aN h' c v) .none .bool .int .str .bytes .loc .ty .bi (λe z ih=>.tup (k _ _ _ e) ih) .nil (λz z i1 i2=>.cons i1 i2) r
end
section
variable{h:Heap}{xs ys:List CV}{vs ws:List ak}{y:CV}{w:ak}
theorem aN.ind{P:List CV→List ak→Prop}(h0:P [] [])(h1:∀{x v xs vs},aV h x v→aN h xs vs→P xs vs→P (x::xs) (v::vs))(r:aN h xs vs):P xs vs:=
 aN.rec (motive_1:=λz z z=>True) (motive_2:=λc v z=>P c v) trivial (λz=>trivial) (λz z=>trivial) (λz z=>trivial) (λz z=>trivial) (λz=>trivial) (λz=>trivial) (λz=>trivial) (λz z z=>trivial) h0 (λe r z i=>h1 e r i) r
theorem aN.length(r:aN h xs vs):xs.length=vs.length:=r.ind (P:=λxs vs=>xs.length=vs.length) rfl λz z i=>congrArg (·+1) i
theorem aN.get(r:aN h xs vs):∀{i:Nat} {x:CV},xs[i]?=some x→∃v,vs[i]?=some v∧aV h x v:=
 r.ind (P:=λxs vs=>∀{i:Nat} {x:CV},xs[i]?=some x→∃v,vs[i]?=some v∧aV h x v) (λe=>bo e) λe z ih i x q=>match i with
  |0=>⟨_,rfl,bt q▸e⟩
  |_+1=>ih q
theorem aN.append(r:aN h xs vs)(q:aN h ys ws):aN h (xs++ys) (vs++ws):=r.ind (P:=λxs vs=>aN h (xs++ys) (vs++ws)) q λe z ih=>.cons e ih
theorem aN.snoc(r:aN h xs vs)(e:aV h y w):aN h (xs++[y]) (vs++[w]):=r.append (.cons e .nil)
theorem aN.drop(k:Nat)(r:aN h xs vs):aN h (xs.drop k) (vs.drop k):=
 r.ind (P:=λxs vs=>∀k,aN h (xs.drop k) (vs.drop k)) (λk=>by rw[List.drop_nil,List.drop_nil];exact .nil) (λe r ih k=>match k with
  |0=>.cons e r
  |k+1=>ih k) k
theorem aN.take(k:Nat)(r:aN h xs vs):aN h (xs.take k) (vs.take k):=
 r.ind (P:=λxs vs=>∀k,aN h (xs.take k) (vs.take k)) (λk=>by rw[List.take_nil,List.take_nil];exact .nil) (λe r ih k=>match k with
  |0=>.nil
  |k+1=>.cons e (ih k)) k
theorem aN.reverse(r:aN h xs vs):aN h xs.reverse vs.reverse:=
 r.ind (P:=λxs vs=>aN h xs.reverse vs.reverse) .nil λe z ih=>by rw[List.reverse_cons,List.reverse_cons];exact ih.snoc e
theorem aN.set(k:Nat)(r:aN h xs vs)(e:aV h y w):aN h (xs.set k y) (vs.set k w):=
 r.ind (P:=λxs vs=>∀k,aN h (xs.set k y) (vs.set k w)) (λz=>.nil) (λe' r ih k=>match k with
  |0=>.cons e r
  |k+1=>.cons e' (ih k)) k
theorem aN.eraseIdx(k:Nat)(r:aN h xs vs):aN h (xs.eraseIdx k) (vs.eraseIdx k):=
 r.ind (P:=λxs vs=>∀k,aN h (xs.eraseIdx k) (vs.eraseIdx k)) (λz=>.nil) (λe r ih k=>match k with
  |0=>r
  |k+1=>.cons e (ih k)) k
end
inductive cZ{κ:Type}(h:Heap):List (κ×CV)→List (κ×ak)→Prop
 |nil:cZ h [] []
 |cons {k:κ} {x:CV} {v:ak} {xs vs} (e:aV h x v) (r:cZ h xs vs):cZ h ((k,x)::xs) ((k,v)::vs)
theorem cZ.bQ{κ:Type}{h h':Heap}(k:gq h h'){xs:List (κ×CV)}{vs:List (κ×ak)}(r:cZ h xs vs):cZ h' xs vs:=by
 induction r with
 |nil=>exact .nil
 |cons e _ ih=>exact .cons (e.bQ k) ih
theorem cZ.length{κ:Type}{h:Heap}{xs:List (κ×CV)}{vs:List (κ×ak)}(r:cZ h xs vs):xs.length=vs.length:=by
 induction r with
 |nil=>rfl
 |cons e _ ih=>simp[ih]
theorem cZ.keys{κ:Type}{h:Heap}{xs:List (κ×CV)}{vs:List (κ×ak)}(r:cZ h xs vs):xs.map (λx=>x.1)=vs.map (λx=>x.1):=by
 induction r with
 |nil=>rfl
 |cons e _ ih=>simp[ih]
noncomputable def iz:List (Nat×CV)→Nat→Option CV
 |[],_=>none
 |(j,x)::r,i=>if i=j then some x else iz r i
noncomputable def l7:List (Nat×CV)→Nat→CV→List (Nat×CV)
 |[],i,v=>[(i,v)]
 |(j,x)::r,i,v=>if i=j then(j,v)::r else(j,x)::l7 r i v
theorem PX:∀(fs:List (Nat×CV)) (i j:Nat) (v:CV),iz (l7 fs i v) j=if j=i then some v else iz fs j
 |[],i,j,v=>by by_cases h:j=i<;>simp[l7,iz,h]
 |(k,x)::r,i,j,v=>by
  unfold l7
  by_cases h:i=k
  ·subst h;by_cases q:j=i<;>simp[iz,q]
  ·rw[if_neg h];simp only[iz];rw[PX r i j v]
   by_cases q:j=k
   ·subst q;have:¬j=i:=λe=>h e.symm
    simp[this]
   ·simp[q]
noncomputable def CV.tX:CV→Bool
 |.bi _=>true
 |_=>false
noncomputable def sD(h:Heap)(fs:List (Nat×CV))(m:bA→Option ak):Prop:=
 ∀i,i<nN→match iz fs i with
  |some x=>∃v,m (nm i)=some v∧aV h x v∧x.tX=false
  |none=>m (nm i)=none
theorem sD.bQ{h h':Heap}(k:gq h h'){fs:List (Nat×CV)}{m}(r:sD h fs m):sD h' fs m:=λi hi=>by
 have:=r i hi
 cases q:iz fs i with
 |none=>rw[q]at this;exact this
 |some x=>rw[q]at this;obtain⟨v,a,b,z⟩:=this;exact⟨v,a,b.bQ k,z⟩
theorem sD.set{h:Heap}{fs:List (Nat×CV)}{m}(r:sD h fs m)(hi:i<nN){x:CV}{v:ak}(e:aV h x v)(z:x.tX=false):sD h (l7 fs i x) (λy=>if y=nm i then some v else m y):=λj hj=>by
 rw[PX]
 by_cases q:j=i
 ·subst q;simp;exact⟨e,z⟩
 ·have:nm j≠nm i:=λz=>q (oE hj hi z)
  rw[if_neg q];simp only[this,if_false];exact r j hj
noncomputable def eK(c:Cx)(h:Heap)(a:Addr):CO→Prop
 |.list vs=>c.H0.get? a=none∧∃items n,h.get? a=some (listOf items n)∧aN h vs items.toList
 |.ro vs=>(∃o,c.H0.get? a=some o)∧∃items n,h.get? a=some (listOf items n)∧aN h vs items.toList
 |.dI es=>c.H0.get? a=none∧∃kvs,h.DictOf (intKind c.prog c.w) a kvs∧cZ h es kvs
 |.dS es=>c.H0.get? a=none∧∃kvs,h.DictOf (AR c.prog c.w) a kvs∧cZ h es kvs
 |.dB es=>c.H0.get? a=none∧∃kvs,h.DictOf (fL c.prog c.w) a kvs∧cZ h es kvs
 |.inst C d=>c.H0.get? a=none∧h.get? a=some (mU C d)
 |.iV fs=>c.H0.get? a=none∧∃m,h.Ns a m∧sD h fs m∧h.DictLe a fs.length
 |.ba b=>c.H0.get? a=none∧h.get? a=some {cls:=.type "bytearray",data:=.bytearray b.toArray}
 |.set bs=>c.H0.get? a=none∧∃(o:Obj) (es:Array (Int×ak)) (ep:Nat) (t:fM) (ks:List (List UInt8)),h.get? a=some o∧o.ExactSet∧o.data=.set es ep t∧t.fits es.size=true∧ks.Perm bs∧aN h (ks.map .bytes) (es.toList.map (λx=>x.2))∧(c.w.params.followText "set-order"=false→t.led=true∧(2≤es.size→t.plain=false))
theorem kF{x:Obj}(h:x.cls≠.type "tuple"):∀items n,x≠d7 items n:=λz z e=>h (by rw[e])
theorem wq{h:Heap}{x:Obj}(e:h.get? a=some x)(n:x.cls≠.type "tuple"):∃x,h.get? a=some x∧∀items n,x≠d7 items n:=⟨x,e,kF n⟩
theorem qH{n:String}(h:n≠"tuple"):k8 n≠.type "tuple":=λz=>h (Value.type.inj z)
theorem Hx{κ:Type}[DecidableEq κ]{p:dv}{u:cM}{K:PySem.KeyKind p u κ}{h:Heap}{kvs:List (κ×ak)}(D:h.DictOf K a kvs):∃x,h.get? a=some x∧∀items n,x≠d7 items n:=
 let⟨_,_,_,ho,hc,_⟩:=D;wq ho (by rw[hc.1];exact qH (by decide))
theorem eK.there{c:Cx}{h:Heap}{o:CO}(r:eK c h a o):∃x,h.get? a=some x∧∀items n,x≠d7 items n:=by
 induction o with
 |list _=>exact r.2.elim λy h=>h.elim λy h=>wq h.1 (qH (by decide))
 |ro _=>exact r.2.elim λy h=>h.elim λy h=>wq h.1 (qH (by decide))
 |dI _=>exact r.2.elim λy h=>Hx h.1
 |dS _=>exact r.2.elim λy h=>Hx h.1
 |dB _=>exact r.2.elim λy h=>Hx h.1
 |inst _ _=>exact wq r.2 (λz=>nomatch z)
 |iV _=>obtain⟨_,m,⟨o,es,ep,ho,hd,_⟩,_⟩:=r;exact⟨_,ho,λitems n e=>by rw[e]at hd;cases hd⟩
 |ba _=>exact wq r.2 (qH (by decide))
 |set _=>obtain⟨_,o,es,ep,t,ks,ho,hc,_⟩:=r;exact wq ho (by rw[hc.1];exact qH (by decide))
theorem Hy{κ:Type}[DecidableEq κ]{p:dv}{u:cM}{K:PySem.KeyKind p u κ}{h h':Heap}{kvs:List (κ×ak)}(D:h.DictOf K a kvs)(e:∀x,h.get? a=some x→h'.get? a=some x):h'.DictOf K a kvs:=
 let⟨o,es,ep,ho,q⟩:=D;⟨o,es,ep,e _ ho,q⟩
theorem eK.move{c:Cx}{h h':Heap}{o:CO}(r:eK c h a o)(k:gq h h')(e:∀x,h.get? a=some x→h'.get? a=some x):eK c h' a o:=by
 induction o with
 |list _=>exact⟨r.1,r.2.imp λy=>.imp λy h=>⟨e _ h.1,h.2.bQ k⟩⟩
 |ro _=>exact⟨r.1,r.2.imp λy=>.imp λy h=>⟨e _ h.1,h.2.bQ k⟩⟩
 |dI _=>exact⟨r.1,r.2.imp λy h=>⟨Hy h.1 e,h.2.bQ k⟩⟩
 |dS _=>exact⟨r.1,r.2.imp λy h=>⟨Hy h.1 e,h.2.bQ k⟩⟩
 |dB _=>exact⟨r.1,r.2.imp λy h=>⟨Hy h.1 e,h.2.bQ k⟩⟩
 |inst _ _=>exact⟨r.1,e _ r.2⟩
 |iV _=>exact⟨r.1,r.2.imp λm h=>⟨h.1.imp λy=>.imp λy=>.imp λy q=>⟨e _ q.1,q.2⟩,h.2.1.bQ k,h.1.elim λy z=>z.elim λy z=>z.elim λy z=>h.2.2.of_same z.1 (e _ z.1)⟩⟩
 |ba _=>exact⟨r.1,e _ r.2⟩
 |set _=>exact⟨r.1,r.2.imp λy=>.imp λy=>.imp λy=>.imp λy=>.imp λy q=>⟨e _ q.1,q.2.1,q.2.2.1,q.2.2.2.1,q.2.2.2.2.1,q.2.2.2.2.2.1.bQ k,q.2.2.2.2.2.2⟩⟩
theorem eK.out{c:Cx}{h:Heap}{o:CO}(r:eK c h a o)(hi:o.fc=false):c.H0.get? a=none:=by
 cases o<;>first |exact r.1 |exact iR hi
structure Rel(c:Cx)(σ:St)(h:Heap):Prop where
 base:∀b o,c.H0.get? b=some o→h.get? b=some o
 objs:∀a o,σ a=some o→eK c h a o
theorem Rel.fresh{c:Cx}{σ:St}{h:Heap}(R:Rel c σ h)(e:h.get? a=none):σ a=none:=by
 cases q:σ a with
 |none=>rfl
 |some o=>refine a9 (eK.there (R.objs a o q)) λx hx zz=>?_;exact jP (hx.symm.trans e)
theorem kH(h:Heap):h.get? h.objs.size=none:=by
 cases e:h.get? h.objs.size with
 |none=>rfl
 |some o=>exact absurd (mP e) (AS _)
theorem Rel.out{c:Cx}{σ:St}{h:Heap}(R:Rel c σ h)(e:h.get? a=none):c.H0.get? a=none:=by
 cases q:c.H0.get? a with
 |none=>rfl
 |some o=>exact jP ((R.base _ _ q).symm.trans e)
structure Ext(σ:St)(h:Heap)(ae:St)(h':Heap):Prop where
 keep:∀b o,h.get? b=some o→(∀x,σ b=some x→x.fc=true)→h'.get? b=some o
 gc:∀b o,h.get? b=some o→σ b=none→ae b=none
 fc:∀b x,σ b=some x→x.fc=true→ae b=some x
 more:∀b o,h.get? b=some o→∃o',h'.get? b=some o'
theorem Ext.refl(σ:St)(h:Heap):Ext σ h σ h:=⟨λz z e z=>e,λz z z e=>e,λz z e z=>e,λz o e=>⟨o,e⟩⟩
theorem Ext.trans{b7 bT fC:St}{d8 dP gQ:Heap}(x:Ext b7 d8 bT dP)(y:Ext bT dP fC gQ):Ext b7 d8 fC gQ:=by
 refine⟨λb o e k=>?_,λb o e n=>?_,λb z e i=>y.fc b z (x.fc b z e i) i,λb o e=>let⟨o',e'⟩:=x.more b o e;y.more b o' e'⟩
 ·have e2:=x.keep b o e k
  refine y.keep b o e2 λz hz=>?_
  cases q:b7 b with
  |none=>exact bo ((x.gc b o e q).symm.trans hz)
  |some z1=>have y1:=k z1 q;obtain rfl:=(bt ((x.fc b z1 q y1).symm.trans hz)).symm;exact y1
 ·have e2:=x.keep b o e (λz hz=>by exact bo (n.symm.trans hz))
  exact y.gc b o e2 (x.gc b o e n)
theorem Ext.lC{c:Cx}{σ ae:St}{h h':Heap}(R:Rel c σ h)(x:Ext σ h ae h'):gq h h':=λb items n e=>
 x.keep b _ e λz hz=>by
  refine a9 (eK.there (R.objs b z hz)) λy hy ht=>?_;obtain rfl:=bt (e.symm.trans hy);exact absurd rfl (ht _ _)
theorem Ext.at{σ ae:St}{h h':Heap}(x:Ext σ h ae h'){b:Addr}{o:Obj}(e:h.get? b=some o)(n:σ b=none):h'.get? b=some o:=x.keep b o e λz hz=>by exact bo (n.symm.trans hz)
theorem Ext.kept{σ:St}{h h':Heap}(k:∀b o,h.get? b=some o→h'.get? b=some o):Ext σ h σ h':=⟨λb o e z=>k b o e,λz z z e=>e,λz z e z=>e,λb o e=>⟨o,k b o e⟩⟩
theorem Rel.kept{c:Cx}{σ:St}{h h':Heap}(R:Rel c σ h)(k:∀b o,h.get? b=some o→h'.get? b=some o):Rel c σ h':=
 ⟨λb o e=>k _ _ (R.base b o e),λa o e=>eK.move (R.objs a o e) (λb z z e=>k b _ e) (λx q=>k _ _ q)⟩
theorem Rel.but{c:Cx}{σ:St}{h h':Heap}{x:Addr}(R:Rel c σ h)(hs:A0 x h h')(hn:σ x=none)(hb:c.H0.get? x=none)(ht:∀items n,h.get? x≠some (d7 items n)):Rel c σ h':=by
 have key:∀b o,h.get? b=some o→b≠x→h'.get? b=some o:=λb o e n=>hs b o n e
 refine⟨λb o e=>key b o (R.base b o e) (λq=>by subst q;exact bo (hb.symm.trans e)),λa o e=>eK.move (R.objs a o e) (λb u u e=>?_) (λy q=>key a y q λz=>by subst z;exact bo (hn.symm.trans e))⟩
 exact key b _ e λq=>by subst q;exact ht _ _ e
theorem Rel.push{c:Cx}{σ:St}{h:Heap}(R:Rel c σ h)(o:Obj):Rel c σ (h.push o):=R.kept λz z e=>dY o e
theorem Ext.push{σ:St}{h:Heap}(o:Obj):Ext σ h σ (h.push o):=.kept λz z e=>dY o e
theorem Rel.new{c:Cx}{σ:St}{h':Heap}{x:CO}(R:Rel c σ h')(q:eK c h' a x):Rel c (upd σ a x) h':=
 ⟨R.base,λb o e=>by
  by_cases n:b=a
  ·subst n;rw[eJ]at e;obtain rfl:=bt e;exact q
  ·rw[iU n]at e;exact R.objs b o e⟩
theorem Ext.new{σ ae:St}{h h':Heap}{x:CO}(k:Ext σ h ae h')(hn:h.get? a=none)(hσ:σ a=none):Ext σ h (upd ae a x) h':=
 ⟨k.keep,λb o e n=>by rw[iU (λq=>by subst q;exact bo (hn.symm.trans e))];exact k.gc b o e n,
  λb z e i=>by rw[iU (λq=>by subst q;exact bo ((hσ).symm.trans e))];exact k.fc b z e i,k.more⟩
theorem Rel.set{c:Cx}{σ:St}{h h':Heap}{x y:CO}(R:Rel c σ h)(e:σ a=some x)(hi:x.fc=false)(hs:jt a h h')(q:gq h h'→eK c h' a y):Rel c (upd σ a y) h':=by
 have r:=R.objs a x e;refine a9 (eK.there r) λo ho ht=>?_
 have tu:gq h h':=λb u u eb=>(hs.2 b λz=>by subst z;obtain rfl:=bt (ho.symm.trans eb);exact ht _ _ rfl).trans eb
 refine⟨λb ob eb=>(hs.2 b λz=>by subst z;exact bo ((eK.out r hi).symm.trans eb)).trans (R.base b ob eb),λb ob eb=>?_⟩
 by_cases n:b=a
 ·subst n;rw[eJ]at eb;obtain rfl:=bt eb;exact q tu
 ·rw[iU n]at eb
  exact eK.move (R.objs b ob eb) tu λz hz=>(hs.2 b n).trans hz
theorem Ext.set{σ:St}{h h':Heap}{x y:CO}(e:σ a=some x)(hi:x.fc=false)(hs:jt a h h')(hy:∃o,h'.get? a=some o):Ext σ h (upd σ a y) h':=
 ⟨λb o eb k=>(hs.2 b λz=>by subst z;rw[k x e]at hi;exact iR hi).trans eb,
  λb o eb n=>by rw[iU (λz=>by subst z;exact jP (e.symm.trans n))];exact n,
  λb z eb i=>by rw[iU (λq=>by subst q;obtain rfl:=bt (e.symm.trans eb);rw[i]at hi;exact iR hi)];exact eb,
  λb o eb=>by
   by_cases n:b=a
   ·subst n;exact hy
   ·exact⟨o,(hs.2 b n).trans eb⟩⟩
structure bK(c:Cx)(σ:St)(s:aw)(ae:St)(s':aw):Prop where
 rel:Rel c ae s'.heap
 ext:Ext σ s.heap ae s'.heap
 gens:s'.gens=s.gens
 os:s'.os=s.os
theorem bK.refl{c:Cx}{σ:St}(R:Rel c σ s.heap):bK c σ s σ s:=⟨R,.refl _ _,rfl,rfl⟩
theorem bK.trans{c:Cx}{b7 bT fC:St}{fu:aw}(x:bK c b7 bq bT bg)(y:bK c bT bg fC fu):bK c b7 bq fC fu:=
 ⟨y.rel,x.ext.trans y.ext,y.gens.trans x.gens,y.os.trans x.os⟩
theorem bK.tok{c:Cx}{σ ae:St}(x:bK c σ s ae s')(t:Nat):bK c σ s ae {s' with toks:=t}:=⟨x.rel,x.ext,x.gens,x.os⟩
theorem bK.Hz{c:Cx}{σ:St}(R:Rel c σ s.heap)(t:Nat):bK c σ s σ {s with toks:=t}:=(bK.refl R).tok t
noncomputable def cC(c:Cx)(σ:St)(s:aw)(Q:CV→St→Prop):ak→aw→Prop:=
 λv s'=>∃x ae,aV s'.heap x v∧bK c σ s ae s'∧Q x ae
theorem cC.after{c:Cx}{b7 bT:St}{Q:CV→St→Prop}(w:bK c b7 bq bT bg):∀v s',cC c bT bg Q v s'→cC c b7 bq Q v s':=
 λ_ _ ⟨x,ae,r,w',q⟩=>⟨x,ae,r,w.trans w',q⟩
noncomputable abbrev No:ak→aw→Prop:=λz z=>False
theorem aV.bu{c:Cx}{σ ae:St}(R:Rel c σ s.heap)(w:bK c σ s ae s'){x:CV}{v:ak}(r:aV s.heap x v):aV s'.heap x v:=r.bQ (w.ext.lC R)
theorem aN.bu{c:Cx}{σ ae:St}(R:Rel c σ s.heap)(w:bK c σ s ae s'){x:List CV}{v:List ak}(r:aN s.heap x v):aN s'.heap x v:=r.bQ (w.ext.lC R)
noncomputable abbrev VM:=St→(CV→St→Prop)→Prop
structure fe(n:Nat)(A:bj):Prop where
 d:A.depth+n<recursionLimit
 u:A.units+20*n<cLine
 h:A.handled=none
theorem fe.le{n m:Nat}(r:fe n A)(h:m≤n):fe m A:=⟨by have:=r.d;exact l2 h this (by simp+arith only),by have:=r.u;exact l2 (eN 20 h) this (by simp+arith only),r.h⟩
theorem fe.depth{n:Nat}(r:fe n A):A.depth<recursionLimit:=by have:=r.d;exact je (mL ..) this
theorem fe.units{n:Nat}(r:fe n A):A.units<cLine:=by have:=r.u;exact je (mL ..) this
theorem fe.deeper{n:Nat}{e:Env}(r:fe (n+1) A):fe n (A.deeper e):=⟨by have:=r.d;show A.depth+1+n<_;exact l1 this (by simp+arith only),by have:=r.u;show A.units+3+20*n<_;exact l1 this (by simp+arith only),r.h⟩
variable {Q:CV→St→Prop}{W' W0 W1 ae ao b7 bL bT fC σ σ₀:St}{cW x y:CV}{fs:List ( Nat×CV )}{o:CO}{vf:Nat→CV}{ws xs ys:List CV}
set_option tactic.hygienic true
noncomputable abbrev Ks:=List (Nat×gC)
noncomputable abbrev aL:=Nat→Option CV
noncomputable def bz(e:aL)(i:Nat)(v:CV):aL:=λj=>match rQ j i with
 |true=>some v
 |false=>e j
theorem hH(e:aL)(i:Nat)(v:CV):bz e i v i=some v:=by unfold bz;rw[Nat.beq_refl]
theorem ox{e:aL}{v:CV}(h:j≠i):bz e i v j=e j:=by
 unfold bz
 cases q:rQ j i with
 |false=>rfl
 |true=>exact absurd (Nat.eq_of_beq_eq_true q) h
structure jj(c:Cx)(env:Env)(ks:Ks):Prop where
 names:env.scope.names=ks.map λp=>(nm p.1,p.2)
 small:∀p∈ks,p.1<nN
 kind:env.scope.kind=.function
 glob:env.globals=nV
 blt:env.builtins=Fk
 apart:∀i j a,i<nN→j<nN→env.cells.lookup (nm i)=some a→env.cells.lookup (nm j)=some a→i=j
theorem yQ:∀{ks:Ks},(∀p∈ks,p.1<nN)→∀{i:Nat},i<nN→(ks.map λp=>(nm p.1,p.2)).lookup (nm i)=ks.lookup i
 |[],_,_,_=>rfl
 |(j,k)::r,h,i,hi=>by
  rw[gB,kg,kg]
  by_cases q:i=j
  ·subst q;simp
  ·have:nm i≠nm j:=λe=>q (oE hi (h _ (.head _)) e)
   rw[beq_eq_false_iff_ne.mpr this,beq_eq_false_iff_ne.mpr q];exact yQ (λp hp=>h p (.tail _ hp)) hi
theorem lookup_mem{α β:Type}[BEq α][LawfulBEq α]:∀{l:List (α×β)} {i:α} {k:β},l.lookup i=some k→(i,k)∈l
 |(j,k')::r,i,k,h=>by
  rw[kg]at h
  split at h
  ·rename_i q;obtain rfl:=bt h;rw[n9 q];exact .head _
  ·exact .tail _ (lookup_mem h)
theorem jj.kindOf{c:Cx}{env:Env}{ks:Ks}(ok:jj c env ks)(hi:i<nN):env.kindOf (nm i)=ks.lookup i:=by
 unfold Env.kindOf;rw[ok.names];exact yQ ok.small hi
theorem jj.lt{c:Cx}{env:Env}{ks:Ks}(ok:jj c env ks){k:gC}(h:ks.lookup i=some k):i<nN:=ok.small _ (lookup_mem h)
structure eY(c:Cx)(env:Env)(ks:Ks)(e:aL)(σ:St)(h:Heap):Prop where
 ns:∃m,h.Ns env.locals m∧∀i v,ks.lookup i=some .local→e i=some v→∃x,m (nm i)=some x∧aV h v x
 t4:σ env.locals=none
 yR:c.H0.get? env.locals=none
 cells:∀i,(ks.lookup i=some .cell∨ks.lookup i=some .free)→∃a x,env.cells.lookup (nm i)=some a∧h.IsCell a x∧σ a=none∧c.H0.get? a=none∧∀v,e i=some v→∃y,x=some y∧aV h v y
theorem eY.bu{c:Cx}{env:Env}{ks:Ks}{e:aL}{σ:St}{h:Heap}(F:eY c env ks e σ h)(R:Rel c σ h)(x:Ext σ h ae h'):eY c env ks e ae h':=by
 obtain⟨m,⟨o,es,ep,ho,hd,hk,hf⟩,hm⟩:=F.ns
 refine⟨⟨m,⟨o,es,ep,x.at ho F.t4,hd,hk,hf⟩,λi v a b=>?_⟩,x.gc _ _ ho F.t4,F.yR,λi hi=>?_⟩
 ·refine a9 (hm i v a b) λy h1 h2=>?_;exact⟨y,h1,h2.bQ (x.lC R)⟩
 ·obtain⟨a,y,h1,⟨o',c7,fQ⟩,h3,h4,h5⟩:=F.cells i hi
  refine⟨a,y,h1,⟨o',x.at c7 h3,fQ⟩,x.gc _ _ c7 h3,h4,λv hv=>?_⟩;refine a9 (h5 v hv) λz hz hr=>?_;exact⟨z,hz,hr.bQ (x.lC R)⟩
structure cO(c:Cx)(n:Nat)(A:bj)(env:Env)(ks:Ks)(e:aL)(σ:St)(s:aw):Prop where
 room:fe n A
 ok:jj c env ks
 fr:eY c env ks e σ s.heap
 rel:Rel c σ s.heap
theorem cO.bu{c:Cx}{n:Nat}{A:bj}{env:Env}{ks:Ks}{e:aL}{σ:St}{s:aw}(N:cO c n A env ks e σ s)(w:bK c σ s ae s'):cO c n A env ks e ae s':=
 ⟨N.room,N.ok,N.fr.bu N.rel w.ext,w.rel⟩
noncomputable abbrev EM:=aL→St→(CV→St→Prop)→Prop
noncomputable abbrev cV:=aL→St→(List CV→St→Prop)→Prop
noncomputable abbrev TM:=aL→St→(Bool→St→Prop)→Prop
noncomputable def mf(c:Cx)(σ:St)(s:aw)(Q:Bool→St→Prop):Bool→aw→Prop:=λb s'=>∃ae,bK c σ s ae s'∧Q b ae
noncomputable def yS(c:Cx)(σ:St)(s:aw)(Q:List CV→St→Prop):List ak→aw→Prop:=λvs s'=>∃xs ae,aN s'.heap xs vs∧bK c σ s ae s'∧Q xs ae
theorem mf.after{c:Cx}{Q:Bool→St→Prop}(w:bK c b7 bq bT bg):∀v s',mf c bT bg Q v s'→mf c b7 bq Q v s':=
 λ_ _ ⟨ae,w',q⟩=>⟨ae,w.trans w',q⟩
noncomputable def aH(c:Cx)(n:Nat)(ks:Ks)(x:Expr)(m:EM):Prop:=
 ∀⦃A:bj⦄ ⦃env:Env⦄ ⦃e:aL⦄ ⦃σ:St⦄ ⦃s:aw⦄ ⦃Q:CV→St→Prop⦄,cO c n A env ks e σ s→m e σ Q→aM c.M A (eval x env) (cC c σ s Q) No s
noncomputable def gY(c:Cx)(n:Nat)(ks:Ks)(xs:List Expr)(m:cV):Prop:=
 ∀⦃A:bj⦄ ⦃env:Env⦄ ⦃e:aL⦄ ⦃σ:St⦄ ⦃s:aw⦄ ⦃Q:List CV→St→Prop⦄ (pos:Pos),cO c n A env ks e σ s→m e σ Q→aM c.M A (spliced (dZ pos (cU xs env))) (yS c σ s Q) No s
noncomputable def gI(c:Cx)(n:Nat)(ks:Ks)(x:Expr)(m:TM):Prop:=
 ∀⦃A:bj⦄ ⦃env:Env⦄ ⦃e:aL⦄ ⦃σ:St⦄ ⦃s:aw⦄ ⦃Q:Bool→St→Prop⦄ (whole:Sem ak),whole=eval x env→cO c n A env ks e σ s→m e σ Q→aM c.M A (isTrue x env whole) (mf c σ s Q) No s
section
variable{c:Cx}{n:Nat}{ks:Ks}{A:bj}{env:Env}{e:aL}{σ:St}{s:aw}
theorem wp_step{t:Sem ak}{Q1:CV→St→Prop}{R:ak→aw→Prop}(h:aM c.M A t (cC c σ s Q1) No s)
  (k:∀x v ae s',aV s'.heap x v→bK c σ s ae s'→Q1 x ae→R v s'):aM c.M A t R No s:=
 b0 h (λv s' ⟨x,ae,r,w,q⟩=>k x v ae s' r w q) λo o z=>z
theorem t5{t:Sem (List ak)}{Q1:List CV→St→Prop}{R:List ak→aw→Prop}(h:aM c.M A t (yS c σ s Q1) No s)
  (k:∀x v ae s',aN s'.heap x v→bK c σ s ae s'→Q1 x ae→R v s'):aM c.M A t R No s:=
 b0 h (λv s' ⟨x,ae,r,w,q⟩=>k x v ae s' r w q) λo o z=>z
theorem yT{t:Sem Bool}{Q1:Bool→St→Prop}{R:Bool→aw→Prop}(h:aM c.M A t (mf c σ s Q1) No s)
  (k:∀b ae s',bK c σ s ae s'→Q1 b ae→R b s'):aM c.M A t R No s:=
 b0 h (λv s' ⟨ae,w,q⟩=>k v ae s' w q) λo o z=>z
theorem iE{t:Sem ak}(w:bK c σ s bT bg)(h:aM c.M A t (cC c bT bg Q) No bg):aM c.M A t (cC c σ s Q) No bg:=
 b0 h (cC.after w) λo o z=>z
theorem PY{t:Sem Bool}{Q:Bool→St→Prop}(w:bK c σ s bT bg)(h:aM c.M A t (mf c bT bg Q) No bg):aM c.M A t (mf c σ s Q) No bg:=
 b0 h (mf.after w) λo o z=>z
theorem pR(R:Rel c σ s.heap)(r:aV s.heap x v)(q:Q x σ):cC c σ s Q v s:=⟨x,σ,r,.refl R,q⟩
theorem dq{t:Nat}(R:Rel c σ s.heap)(r:aV s.heap x v)(q:Q x σ):cC c σ s Q v {s with toks:=t}:=⟨x,σ,r,.Hz R t,q⟩
noncomputable def isVar:Option gC→Bool
 |some .local |some .cell |some .free=>true
 |_=>false
noncomputable def af(i:Nat):EM:=λe σ Q=>match e i with
 |some v=>Q v σ
 |none=>False
theorem BG{e:aL}{σ:St}{v:CV}(h:e i=some v)(q:Q v σ):af i e σ Q:=by unfold af;rw[h];exact q
theorem ac1{e:aL}{σ:St}(q:af i e σ Q):∃v,e i=some v∧Q v σ:=by
 unfold af at q
 split at q
 ·exact⟨_,‹_›,q⟩
 ·exact q.elim
theorem HA(hi:i<nN)(hj:j<nN)(h:i≠j){x:bA}(ej:nm j=x):(nm i==x)=false:=by
 subst ej;exact beq_eq_false_iff_ne.mpr λe=>h (oE hi hj e)
theorem PZ:nm rW=("__debug__":bA):=rfl
theorem ac2:nm tO=("__classdict__":bA):=rfl
theorem Qa{x:bA}(hx:nm i=x)(hk:isVar (ks.lookup i)=true)(hd2:i≠tO)
  (N:cO c n A env ks e σ s)(q:af i e σ Q):aM c.M A (loadName env x) (cC c σ s Q) No s:=by
 subst hx;refine a9 (ac1 q) λv hv q=>?_
 cases hl:ks.lookup i with
 |none=>rw[hl]at hk;exact eP hk
 |some k=>
  have hi:=N.ok.lt hl;have jm:=N.ok.kindOf hi;rw[hl]at jm;have fin:∀y,aV s.heap v y→cC c σ s Q y s:=λy r=>pR N.rel r q
  induction k with
  |«local»=>
   refine a9 N.fr.ns λm hm B5=>?_;refine a9 (B5 i v hl hv) λy hy r=>?_
   exact wpAny_loadName_local N.ok.kind jm hm hy (fin y r)
  |cell=>
   obtain⟨a,y,h1,h2,_,_,h5⟩:=N.fr.cells i (.inl hl);refine a9 (h5 v hv) λz aq r=>?_;subst aq
   exact wpAny_loadName_cell N.ok.kind jm h1 h2 (fin z r)
  |free=>
   obtain⟨a,y,h1,h2,_,_,h5⟩:=N.fr.cells i (.inr hl);refine a9 (h5 v hv) λz aq r=>?_;subst aq
   exact wpAny_loadName_free N.ok.kind jm h1 h2 (fin z r) (HA hi (by decide) hd2 ac2)
  |globalImplicit=>rw[hl]at hk;exact eP hk
  |globalExplicit=>rw[hl]at hk;exact eP hk
theorem aH.var{x:bA}{pos:Pos}(i:Nat)(hx:nm i=x)(hk:isVar (ks.lookup i)=true)(hd:i≠rW)(hd2:i≠tO):aH c n ks (.Name x pos) (af i):=by
 intro A env e σ s Q N q
 have hi:i<nN:=by
  cases hl:ks.lookup i with
  |none=>rw[hl]at hk;exact eP hk
  |some k=>exact N.ok.lt hl
 exact wpAny_Name (Qa hx hk hd2 N q) (hx▸HA hi (by decide) hd PZ)
noncomputable def x4(c:Cx)(i:Nat)(x:CV):Prop:=∃v,(c.mg (nm i)=some v∨(c.mg (nm i)=none∧c.mb (nm i)=some v))∧aV c.H0 x v
noncomputable def fm(x:CV):EM:=λz σ Q=>Q x σ
theorem Rel.ac3{c:Cx}{σ:St}{h:Heap}(R:Rel c σ h):gq c.H0 h:=λb z z e=>R.base b _ e
theorem aH.glob{x:bA}{pos:Pos}{v:CV}(i:Nat)(hx:nm i=x)(hk:ks.lookup i=some .globalImplicit)(hd:i≠rW)(hg:x4 c i v):aH c n ks (.Name x pos) (fm v):=by
 intro A env e σ s Q N q;subst hx;have hi:=N.ok.lt hk;have jm:=N.ok.kindOf hi;rw[hk]at jm;obtain⟨y,hy,r⟩:=hg;have fin:cC c σ s Q y s:=pR N.rel (r.bQ N.rel.ac3) q
 have ng:s.heap.Ns env.globals c.mg:=by rw[N.ok.glob];exact c.ng.keeps N.rel.base
 refine Name_function_global N.ok.kind jm ?_ (HA hi (by decide) hd PZ)
 rcases hy with hy |⟨h1,h2⟩
 ·exact loadGlobal_global ng hy fin
 ·exact loadGlobal_builtin ng h1 (by rw[N.ok.blt];exact c.nb.keeps N.rel.base) h2 fin
noncomputable def au(x:CV):EM:=λz σ Q=>Q x σ
theorem aH.cInt{i:Int}{k:Nat}{pos:Pos}:aH c n ks (.Constant (.int i) k pos) (au (.int i)):=λA env e σ s Q N q=>wpAny_Constant_int (dq N.rel (.int _ _) q)
theorem aH.Z5{b:List UInt8}{k:Nat}{pos:Pos}:aH c n ks (.Constant (.bytes b) k pos) (au (.bytes b)):=λA env e σ s Q N q=>Constant_bytes (dq N.rel (.bytes _ _) q)
theorem aH.Z4{k:Nat}{pos:Pos}:aH c n ks (.Constant .none k pos) (au .none):=λA env e σ s Q N q=>λz z z=>pR N.rel .none q
theorem aH.cBool{b:Bool}{k:Nat}{pos:Pos}:aH c n ks (.Constant (.bool b) k pos) (au (.bool b)):=λA env e σ s Q N q=>λz z z=>pR N.rel (.bool _) q
theorem aH.cStr{x:bA}{k:Nat}{pos:Pos}:aH c n ks (.Constant (.str x) k pos) (au (.str x)):=λA env e σ s Q N q=>λz z z=>dq N.rel (.str _ _) q
end
variable {e e0 za:aL}{ks raw:Ks}{m1 m2 m3:EM}{ms:cV}
set_option tactic.hygienic false
section
open PySem.SeqAt
section
variable{c:Cx}{n:Nat}{ks:Ks}{A:bj}{env:Env}{e:aL}{σ:St}{s:aw}
theorem dJ{h:Heap}{n:Nat}(e:h.get? a=some (listOf items n)):h.IsList a items:=⟨_,e,rfl,n,rfl⟩
theorem wu{h:Heap}{n:Nat}(e:h.get? a=some (d7 items n)):h.IsTuple a items:=⟨_,e,rfl,n,rfl⟩
noncomputable def ar:cV:=λz σ Q=>Q [] σ
noncomputable def ag(m:EM)(r:cV):cV:=λe σ Q=>m e σ λx ao=>r e ao λxs ay=>Q (x::xs) ay
theorem gY.nil:gY c n ks [] ar:=λA env e σ s Q pos N q=>spliced_none ⟨[],_,.nil,.refl N.rel,q⟩
theorem gY.cons{x:Expr}{r:List Expr}{m:EM}{ms:cV}(h1:aH c n ks x m)(h2:gY c n ks r ms)
  (he:autoParam (∀env,cU (x::r) env=(false,eval x env)::cU r env) aI):gY c n ks (x::r) (ag m ms):=λA wx e σ s Q pos N q=>
 spliced_more (wp_step (h1 N q) λx v ao s1 r1 w1 q1=>t5 (h2 pos (N.bu w1) q1) λxs vs ay s2 r2 w2 q2=>
  ⟨x::xs,ay,.cons (r1.bu w1.rel w2) r2,w1.trans w2,q2⟩) (he _)
noncomputable def St.new(σ:St)(o:CO)(Q:CV→St→Prop):Prop:=∀a,σ a=none→Q (.loc a) (upd σ a o)
noncomputable def eList(ms:cV):EM:=λe σ Q=>ms e σ λxs ao=>xs.length≤1000∧ao.new (.list xs) Q
noncomputable def b8(ms:cV):EM:=λe σ Q=>ms e σ λxs ao=>xs.length≤1000∧Q (.tup xs) ao
theorem t6{o:Obj}(R:Rel c σ s.heap):bK c σ s σ {s with heap:=s.heap.push o}:=⟨R.push o,.push o,rfl,rfl⟩
theorem wy{o:Obj}{x:CO}(R:Rel c σ s.heap)(hf:o.isFreed=false)(q:σ.new x Q)
  (r:(s.heap.push o).get? s.heap.objs.size=some o→c.H0.get? s.heap.objs.size=none→eK c (s.heap.push o) s.heap.objs.size x):cC c σ s Q (.ref s.heap.objs.size) {s with heap:=s.heap.push o}:=by
 have hn:=kH s.heap;exact⟨_,_,.loc _,⟨(R.push o).new (r (fW _ hf) (R.out hn)),(Ext.push o).new hn (R.fresh hn),rfl,rfl⟩,q _ (R.fresh hn)⟩
theorem HB(R:Rel c σ s.heap)(r:aN s.heap xs vs)(q:σ.new (.list xs) Q):
  cC c σ s Q (.ref s.heap.objs.size) {s with heap:=s.heap.push {cls:=.type "list",data:=.seq vs.toArray}}:=
 wy R rfl q λe z=>⟨z,_,_,e,by simpa using r.bQ ((Ext.push _).lC R)⟩
theorem HC(R:Rel c σ s.heap)(r:aN s.heap xs vs)(q:Q (.tup xs) σ):
  cC c σ s Q (.ref s.heap.objs.size) {s with heap:=s.heap.push {cls:=.type "tuple",data:=.seq vs.toArray}}:=
 ⟨_,_,.tup (fW _ rfl) (by simpa using r.bQ ((Ext.push _).lC R)),t6 R,q⟩
theorem yU{Q:ak→aw→Prop}{M:fy}(h:Q (.ref s.heap.objs.size) {s with heap:=s.heap.push {cls:=.type "list",data:=.seq vs.toArray}})
  (dK:vs.length≤mT):aM M A (newList vs) Q E s:=rF h (by show vs.toArray.size≤mT;rw[xK];exact dK)
theorem dQ{k:Nat}(h:k≤1000):k≤mT:=aR h (by decide)
theorem B6{k:Nat}(h:k≤1000):(k:Int)<2^63:=by exact ki.2 (lz h rfl)
theorem aH.list{xs:List Expr}{pos:Pos}{ms:cV}(h:gY c n ks xs ms):aH c n ks (.List xs pos) (eList ms):=λA env e σ s Q N q=>
 List_ (t5 (h pos N q) λxs vs ao s1 r1 w1 q1=>yU (cC.after w1 _ _ (HB w1.rel r1 q1.2)) (r1.length▸dQ q1.1))
theorem aH.tup{xs:List Expr}{k:Nat}{pos:Pos}{ms:cV}(h:gY c n ks xs ms):aH c n ks (.Tuple xs k pos) (b8 ms):=λA env e σ s Q N q=>
 Tuple_ (t5 (h pos N q) λxs vs ao s1 r1 w1 q1=>wpAny_newTuple (cC.after w1 _ _ (HC w1.rel r1 q1.2)) (r1.length▸dQ q1.1))
theorem Qb(a b:Array ak):a++b=(a.toList++b.toList).toArray:=by simp
inductive lD(σ:St)(Q:CV→St→Prop):jv→CV→CV→Prop
 |add {a b:Int} (q:Q (.int (a+b)) σ):lD σ Q .Add (.int a) (.int b)
 |lq {a b:List UInt8} (h:a.length+b.length≤16777216) (q:Q (.bytes (a++b)) σ):lD σ Q .Add (.bytes a) (.bytes b)
 |BI {a b:List CV} (h1:a≠[]) (h2:b≠[]) (h:a.length+b.length≤1000) (q:Q (.tup (a++b)) σ):lD σ Q .Add (.tup a) (.tup b)
 |PM {a b:Addr} {xs ys:List CV} (h1:σ a=some (.list xs)) (h2:σ b=some (.list ys)) (h:xs.length+ys.length≤1000) (q:σ.new (.list (xs++ys)) Q):lD σ Q .Add (.loc a) (.loc b)
 |sub {a b:Int} (q:Q (.int (a- b)) σ):lD σ Q .Sub (.int a) (.int b)
 |mul {a b:Int} (h1:-(2^64)<a) (h2:a<2^64) (q:Q (.int (a*b)) σ):lD σ Q .Mult (.int a) (.int b)
 |BJ {a:List UInt8} {b:Int} (h1:a≠[]) (h2:a.length≤16) (h3:0≤b) (h4:b≤1000) (q:Q (.bytes (qr b.toNat a).flatten) σ):lD σ Q .Mult (.bytes a) (.int b)
 |fdiv {a b:Int} (h:b≠0) (h1:b.natAbs<1073741824) (q:Q (.int (a.fdiv b)) σ):lD σ Q .FloorDiv (.int a) (.int b)
 |mod {a b:Int} (h:b≠0) (q:Q (.int (a.fmod b)) σ):lD σ Q .Mod (.int a) (.int b)
 |shr {a b:Int} (h:0≤b) (q:Q (.int (a.fdiv (2^b.toNat))) σ):lD σ Q .RShift (.int a) (.int b)
 |and {a b:Int} (q:Q (.int (vz a b)) σ):lD σ Q .BitAnd (.int a) (.int b)
 |or {a b:Int} (q:Q (.int (Mb a b)) σ):lD σ Q .BitOr (.int a) (.int b)
noncomputable def tV(op:jv)(x y:CV):VM:=λσ Q=>lD σ Q op x y
theorem aN.size{h:Heap}(r:aN h xs items.toList):xs.length=items.size:=r.length
theorem aN.full{h:Heap}(r:aN h xs items.toList)(h:xs≠[]):¬items.isEmpty=true:=λz=>h (List.length_eq_zero_iff.1 (by rw[r.size];exact of_decide_eq_true z))
theorem Qc{w:ak}(R:Rel c σ s.heap)(r:aV s.heap x v)(r':aV s.heap y w)(q:tV op x y σ Q):
  aM c.M A (binaryOp op v w) (cC c σ s Q) No s:=by
 change lD σ Q op x y at q
 induction q with
 |add q=>refine xe r.bZ λt aq=>?_;subst aq;refine xe r'.bZ λu aq=>?_;subst aq;exact P.add_int (dq R (.int _ _) q)
 |lq h q=>
  refine xe r.fP λt aq=>?_;subst aq;refine xe r'.fP λu aq=>?_;subst aq;refine KBy.add_bytes h λt' k=>?_;rw[List.append_toArray]
  exact dq R (.bytes _ _) q
 |PM h1 h2 h q=>
  obtain rfl:=r.dj;obtain rfl:=r'.dj;obtain⟨_,i1,n1,e1,r1⟩:=R.objs _ _ h1;obtain⟨_,i2,n2,e2,r2⟩:=R.objs _ _ h2
  refine P.add_list e1 e2 ?_ (dQ (by rw[←r1.size,←r2.size];exact h))
  rw[Qb]
  exact HB R (r1.append r2) q
 |BI h1 h2 h q=>
  refine f7 r.jl λa1 i1 n1 aq e1 r1=>?_;subst aq;refine f7 r'.jl λa2 i2 n2 aq e2 r2=>?_;subst aq
  refine P.add_tuple e1 e2 (r1.full h1) (r2.full h2) ?_ (dQ (by rw[←r1.size,←r2.size];exact h))
  rw[Qb]
  exact HC R (r1.append r2) q
 |sub q=>refine xe r.bZ λt aq=>?_;subst aq;refine xe r'.bZ λu aq=>?_;subst aq;exact P.sub_int (dq R (.int _ _) q)
 |mul h1 h2 q=>refine xe r.bZ λt aq=>?_;subst aq;refine xe r'.bZ λu aq=>?_;subst aq;exact P.mul_int (dq R (.int _ _) q) (.of_left (intBits_le_64 h1 h2))
 |BJ h1 h2 h3 h4 q=>refine xe r.fP λt aq=>?_;subst aq;refine xe r'.bZ λu aq=>?_;subst aq;exact bytes_mul_any h1 (rO (by decide) h3) (rO h4 (by decide)) h2 λt' k=>dq R (.bytes _ _) q
 |fdiv h1 h2 q=>refine xe r.bZ λt aq=>?_;subst aq;refine xe r'.bZ λu aq=>?_;subst aq;exact floordiv_int h1 (dq R (.int _ _) q) (.inl (PyProof.noPylong_small h2))
 |mod h q=>refine xe r.bZ λt aq=>?_;subst aq;refine xe r'.bZ λu aq=>?_;subst aq;exact mod_int' h (dq R (.int _ _) q)
 |shr h q=>refine xe r.bZ λt aq=>?_;subst aq;refine xe r'.bZ λu aq=>?_;subst aq;exact rshift_int h (dq R (.int _ _) q)
 |and q=>refine xe r.bZ λt aq=>?_;subst aq;refine xe r'.bZ λu aq=>?_;subst aq;exact and_int (dq R (.int _ _) q)
 |or q=>refine xe r.bZ λt aq=>?_;subst aq;refine xe r'.bZ λu aq=>?_;subst aq;exact or_int (dq R (.int _ _) q)
noncomputable def be(op:jv)(m1 m2:EM):EM:=λe σ Q=>m1 e σ λx ao=>m2 e ao λy ay=>tV op x y ay Q
theorem aH.bin{op:jv}{l r:Expr}{pos:Pos}{m1 m2:EM}(h1:aH c n ks l m1)(h2:aH c n ks r m2):aH c n ks (.BinOp l op r pos) (be op m1 m2):=λA env e σ s Q N q=>
 wpAny_BinOp (wp_step (h1 N q) λx v ao s1 r1 w1 q1=>wp_step (h2 (N.bu w1) q1) λy w ay s2 r2 w2 q2=>
  iE (w1.trans w2) (Qc w2.rel (r1.bu w1.rel w2) r2 q2))
end
end
section
open PySem.SeqAt
noncomputable def bB{κ:Type}[DecidableEq κ](es:List (κ×CV))(k:κ):Option CV:=(es.find? λkv=>kv.1=k).map (λx=>x.2)
theorem cZ.at{κ:Type}[DecidableEq κ]{h:Heap}{es:List (κ×CV)}{kvs:List (κ×ak)}(r:cZ h es kvs)(k:κ):
  (bB es k=none∧valueAt kvs k=none)∨∃x v,bB es k=some x∧valueAt kvs k=some v∧aV h x v:=by
 induction r with
 |nil=>exact .inl ⟨rfl,rfl⟩
 |@cons k' x v xs vs e r ih=>
  unfold bB valueAt
  by_cases q:k'=k
  ·subst q;simp;exact e
  ·simpa[q,bB,valueAt]using ih
theorem cZ.isSome{κ:Type}[DecidableEq κ]{h:Heap}{es:List (κ×CV)}{kvs:List (κ×ak)}(r:cZ h es kvs)(k:κ):(valueAt kvs k).isSome=(bB es k).isSome:=by
 rcases r.at k with⟨a,b⟩ |⟨x,v,a,b,_⟩<;>rw[a,b]<;>rfl
inductive m9(R:CV→CV→Prop):List CV→List CV→Prop
 |nil:m9 R [] []
 |cons {x y:CV} {xs ys:List CV} (h:R x y) (r:m9 R xs ys):m9 R (x::xs) (y::ys)
inductive DN(R:CV→CV→Prop)(σ:St):CV→CV→Prop
 |int {a:Int}:DN R σ (.int a) (.int a)
 |kz {a:List UInt8}:DN R σ (.bytes a) (.bytes a)
 |tup {xs ys:List CV} (h:m9 R xs ys):DN R σ (.tup xs) (.tup ys)
 |ll {a b:Addr} {xs ys:List CV} (n:a≠b) (h1:σ a=some (.list xs)) (h2:σ b=some (.list ys)) (h:m9 R xs ys):DN R σ (.loc a) (.loc b)
noncomputable def DE(σ:St):Nat→CV→CV→Prop
 |0=>λz z=>False
 |n+1=>DN (DE σ n) σ
section
variable{c:Cx}{σ:St}{s:aw}{A:bj}
noncomputable def HD(A:bj)(s:aw)(vs ws:List ak):Prop:=vs.length=ws.length∧∀j (h1:j<vs.length) (h2:j<ws.length),EqAt A s vs[j] ws[j] true
theorem Qd{R:CV→CV→Prop}(hf:∀{x y v w},aV s.heap x v→aV s.heap y w→R x y→EqAt A s v w true)(h:m9 R xs ys):∀{vs ws:List ak},aN s.heap xs vs→aN s.heap ys ws→HD A s vs ws:=by
 induction h with
 |nil=>
  intro vs ws r1 r2;rw[r1.jU,r2.jU]
  exact⟨rfl,λj h=>absurd h (xN _)⟩
 |cons h _ ih=>
  intro vs ws r1 r2;obtain⟨v,vs,rfl,a1,r1⟩:=r1.iT;obtain⟨w,ws,rfl,a2,r2⟩:=r2.iT;obtain⟨hl,hz⟩:=ih r1 r2
  exact⟨congrArg (·+1) hl,λj h1 h2=>match j with
   |0=>hf a1 a2 h
   |j+1=>hz j (YG h1) (YG h2)⟩
theorem HE{n:Nat}:(cS n).all (λz=>true)=true:=iy.2 λz z=>rfl
theorem HD.arr{i1 i2:Array ak}(h:HD A s i1.toList i2.toList):i1.size=i2.size∧∀j (h1:j<i1.size) (h2:j<i2.size),EqAt A s i1[j] i2[j] true:=h
theorem HF(R:Rel c σ s.heap)(hz:A.units<cLine){D:CV→CV→Prop}{b:Addr}(h1:σ a=some (.list xs))(h2:σ b=some (.list ys))(e:m9 D xs ys)(hf:∀{x y v w},aV s.heap x v→aV s.heap y w→D x y→EqAt A.in1 s v w true):
  RcAt A s (.ref a) (.ref b) true∧RcNeAt A s (.ref a) (.ref b) false:=by
 obtain⟨_,i1,n1,e1,r1⟩:=R.objs _ _ h1;obtain⟨_,i2,n2,e2,r2⟩:=R.objs _ _ h2;refine xa ((Qd hf e r1 r2).arr) λhl hg=>?_;have z1:=RcAt.lists (dJ e1) (dJ e2) hl hz (e:=λz=>true) hg;have z2:=RcNeAt.lists (dJ e1) (dJ e2) hl hz (e:=λz=>true) hg;rw[HE]at z1 z2;exact⟨z1,z2⟩
theorem ac4(a:List UInt8)(t u:Tok):EqAt A s (.bytes a.toArray t) (.bytes a.toArray u) true:=λprog w E Q hq=>eqBool_bytes (by rw[decide_eq_true rfl];exact hq)
theorem ac5(a:Int)(t u:Tok):EqAt A s (.int a t) (.int a u) true:=by
 have:=(MeetsSeq.EqGives.int a a t u).at A s;rwa[beq_self_eq_true]at this
theorem Qe(R:Rel c σ s.heap)(n:Nat):∀{A:bj} (hu:A.units+n≤cLine) {x y:CV} {v w:ak},aV s.heap x v→aV s.heap y w→DE σ n x y→EqAt A s v w true:=by
 induction n with
 |zero=>intro _ _ _ _ _ _ _ _ e;exact False.elim e
 |succ n ih=>
  intro A hu x y v w r r' e;have hz:A.units<cLine:=ey (Nat.lt_add_of_pos_right (nU n)) hu
  have ih:∀{x y v w},aV s.heap x v→aV s.heap y w→DE σ n x y→EqAt A.in1 s v w true:=λa b h=>ih (A:=A.in1) (by rw[tC n,←AU]at hu;exact hu) a b h
  change DN (DE σ n) σ x y at e
  induction e with
  |int=>refine xe r.bZ λt aq=>?_;subst aq;refine xe r'.bZ λu aq=>?_;subst aq;exact ac5 _ t u
  |kz=>refine xe r.fP λt aq=>?_;subst aq;refine xe r'.fP λu aq=>?_;subst aq;exact ac4 _ t u
  |ll ne h1 h2 h=>
   obtain rfl:=r.dj;obtain rfl:=r'.dj
   exact EqAt.of_refs ne (HF R hz h1 h2 h ih).1
  |tup h=>
   refine f7 r.jl λa1 i1 n1 aq e1 r1=>?_;subst aq;refine f7 r'.jl λa2 i2 n2 aq e2 r2=>?_;subst aq
   by_cases ne:a1=a2
   ·rw[ne];exact EqAt.same _
   ·refine xa ((Qd ih h r1 r2).arr) λhl hg=>?_
    have z:=RcAt.tuples (wu e1) (wu e2) hz (e:=λo=>true) hg;rw[HE,hl,beq_self_eq_true]at z;exact EqAt.of_refs ne z
end
end
section
open PySem.SeqAt
noncomputable def lexLt(a b a' b':Int):Bool:=decide (a<a')||(decide (a=a')&&decide (b<b'))
noncomputable def lexLe(a b a' b':Int):Bool:=decide (a<a')||(decide (a=a')&&decide (b≤b'))
noncomputable def vT(a b:List UInt8):Bool:=(Lp b.toArray a.toArray 0 b.length).isSome
noncomputable def isNone:CV→Bool
 |.none=>true
 |_=>false
inductive Mem:CV→CV→St→Bool→Prop
 |li {k:Int} {l:Addr} {σ:St} {is:List Int} (h:σ l=some (.list (is.map .int))):Mem (.int k) (.loc l) σ (decide (k∈is))
 |dI {k:Int} {l:Addr} {σ:St} {es:List (Int×CV)} (h:σ l=some (.dI es)):Mem (.int k) (.loc l) σ (bB es k).isSome
 |dS {k:Str} {l:Addr} {σ:St} {es:List (Str×CV)} (h:σ l=some (.dS es)):Mem (.str k) (.loc l) σ (bB es k).isSome
 |dB {k:List UInt8} {l:Addr} {σ:St} {es:List (List UInt8×CV)} (h:σ l=some (.dB es)):Mem (.bytes k) (.loc l) σ (bB es k).isSome
 |tI {k:Int} {is:List Int} {σ:St}:Mem (.int k) (.tup (is.map .int)) σ (decide (k∈is))
 |tB {k:List UInt8} {is:List (List UInt8)} {σ:St}:Mem (.bytes k) (.tup (is.map .bytes)) σ (decide (k∈is))
 |iB {k:UInt8} {b:List UInt8} {σ:St}:Mem (.int k.toNat) (.bytes b) σ (b.contains k)
 |bb {a b:List UInt8} {σ:St}:Mem (.bytes a) (.bytes b) σ (vT a b)
inductive Cm:CmpOp→CV→CV→St→Bool→Prop
 |eq {a b:Int} {σ:St}:Cm .Eq (.int a) (.int b) σ (decide (a=b))
 |t7 {a b:List UInt8} {σ:St}:Cm .Eq (.bytes a) (.bytes b) σ (decide (a=b))
 |B7 {a b:Str} {σ:St}:Cm .Eq (.str a) (.str b) σ (decide (a=b))
 |Qf {a b:Addr} {σ:St} {xs ys:List CV} (h1:σ a=some (.list xs)) (h2:σ b=some (.list ys)) (h:m9 (DE σ 4) xs ys):Cm .Eq (.loc a) (.loc b) σ true
 |Qg {a b:Addr} {σ:St} {xs:List CV} (h1:σ a=some (.list xs)) (h2:σ b=some (.list [])):Cm .Eq (.loc a) (.loc b) σ xs.isEmpty
 |ne {a b:Int} {σ:St}:Cm .NotEq (.int a) (.int b) σ (!decide (a=b))
 |B9 {a b:List UInt8} {σ:St}:Cm .NotEq (.bytes a) (.bytes b) σ (!decide (a=b))
 |HG {a b:Bool} {σ:St}:Cm .NotEq (.bool a) (.bool b) σ (a !=b)
 |HH {a b:Addr} {σ:St} {xs ys:List CV} (h1:σ a=some (.list xs)) (h2:σ b=some (.list ys)) (h:m9 (DE σ 4) xs ys):Cm .NotEq (.loc a) (.loc b) σ false
 |tL {a b:Addr} {σ:St} {xs:List CV} (h1:σ a=some (.list xs)) (h2:σ b=some (.list [])):Cm .NotEq (.loc a) (.loc b) σ (!xs.isEmpty)
 |lt {a b:Int} {σ:St}:Cm .Lt (.int a) (.int b) σ (decide (a<b))
 |le {a b:Int} {σ:St}:Cm .LtE (.int a) (.int b) σ (decide (a≤b))
 |gt {a b:Int} {σ:St}:Cm .Gt (.int a) (.int b) σ (decide (b<a))
 |ge {a b:Int} {σ:St}:Cm .GtE (.int a) (.int b) σ (decide (b≤a))
 |Qh {a b a' b':Int} {σ:St}:Cm .Lt (.tup [.int a,.int b]) (.tup [.int a',.int b']) σ (lexLt a b a' b')
 |lex {a b a' b':Int} {σ:St}:Cm .LtE (.tup [.int a,.int b]) (.tup [.int a',.int b']) σ (lexLe a b a' b')
 |is {x:CV} {σ:St}:Cm .Is x .none σ (isNone x)
 |iY {x:CV} {σ:St}:Cm .IsNot x .none σ (!isNone x)
 |mem {x y:CV} {σ:St} {b:Bool} (h:Mem x y σ b):Cm .In x y σ b
 |oy {x y:CV} {σ:St} {b:Bool} (h:Mem x y σ b):Cm .NotIn x y σ (!b)
noncomputable def wb(op:CmpOp)(x y:CV)(σ:St)(Q:Bool→Prop):Prop:=∃b,Cm op x y σ b∧Q b
noncomputable def gM(op:CmpOp)(m1 m2:EM):EM:=λe σ Q=>m1 e σ λx ao=>m2 e ao λy ay=>wb op x y ay λb=>Q (.bool b) ay
noncomputable def aT(op:CmpOp)(m1 m2:EM):TM:=λe σ Q=>m1 e σ λx ao=>m2 e ao λy ay=>wb op x y ay λb=>Q b ay
noncomputable abbrev HI(c:Cx)(σ:St)(s:aw)(b:Bool):ak→aw→Prop:=λr s'=>r=.bool b∧bK c σ s σ s'
noncomputable abbrev HJ(c:Cx)(A:bj)(σ:St)(s:aw)(op:CmpOp)(v w:ak)(b:Bool):Prop:=aM c.M A (compareOp op v w) (HI c σ s b) No s
section
variable{c:Cx}{A:bj}{σ:St}{s:aw}{P:ak→aw→Prop}
theorem fF{b:Bool}(R:Rel c σ s.heap):HI c σ s b (.bool b) s:=⟨rfl,.refl R⟩
theorem wz{b:Bool}{t:Nat}(R:Rel c σ s.heap):HI c σ s b (.bool b) {s with toks:=t}:=⟨rfl,.Hz R t⟩
theorem t8{α:Type}[BEq α][LawfulBEq α][DecidableEq α](a b:α):(a==b)=decide (a=b):=by rw[rL];simp
theorem Qi{α:Type}[BEq α][LawfulBEq α][DecidableEq α](a b:α):(a !=b)=!decide (a=b):=by unfold bne;rw[t8]
theorem aN.any{α:Type}[DecidableEq α]{h:Heap}{f:α→CV}{p:ak→Bool}{k:α}{I:ak→Prop}(hf:∀{a v},aV h (f a) v→p v=decide (k=a)∧I v):∀{is:List α} {vs:List ak},aN h (is.map f) vs→vs.any p=decide (k∈is)∧∀v∈vs,I v
 |[],_,r=>by rw[aN.jU r];exact⟨rfl,λz h=>cA h⟩
 |i::is,_,r=>by
  obtain⟨v,vs,rfl,a,r⟩:=aN.iT r;refine xa (aN.any hf r) λh1 h2=>?_;refine xa (hf a) λh3 h4=>?_
  refine⟨?_,λw hw=>?_⟩
  ·rw[xP,h1,h3,←Bool.decide_or]
   exact decide_eq_decide.2 List.mem_cons.symm
  ·rcases eO.1 hw with rfl |hw
   ·exact h4
   ·exact h2 w hw
theorem Ca{k:Int}{t:Tok}(hv:∃i u,v=.int i u):EqAt A s v (.int k t) (xS k v):=by
 refine gF hv λi u aq=>?_;clear hv;subst aq;exact(MeetsSeq.EqGives.int i k u t).at A s
theorem Qj{k:Array UInt8}{t:Tok}(hv:∃i u,v=.bytes i u):EqAt A s v (.bytes k t) (tK k.toList v):=by
 refine gF hv λi u aq=>?_;clear hv;subst aq;intro prog w E Q hq
 exact eqBool_bytes (by rw[←t8];exact hq)
theorem aV.Qk{h:Heap}{k a:Int}(r:aV h (.int a) v):xS k v=decide (k=a)∧∃i u,v=.int i u:=by
 obtain⟨t,rfl⟩:=r.bZ;exact⟨(t8 a k).trans (decide_eq_decide.2 eq_comm),_,_,rfl⟩
theorem aV.Ql{h:Heap}{k a:List UInt8}(r:aV h (.bytes a) v):tK k v=decide (k=a)∧∃i u,v=.bytes i u:=by
 obtain⟨t,rfl⟩:=r.fP;exact⟨(t8 a k).trans (decide_eq_decide.2 eq_comm),_,_,rfl⟩
theorem qI(R:Rel c σ s.heap)(e:σ a=some o)(hi:o.fc=false):(a==vC)=false:=by
 refine beq_eq_false_iff_ne.mpr λq=>?_;subst q;have h1:=eK.out (R.objs _ _ e) hi;refine xe c.sys λo ho=>?_;exact jP (ho.symm.trans h1)
theorem HK{p:ak→Bool}{b:Bool}(h:items.toList.any p=b):items.any p=b:=by rw[←h,Array.any_toList]
theorem aN.ac6{h:Heap}{i1 i2:Array ak}(r1:aN h xs i1.toList)(r2:aN h [] i2.toList):(i1.size=i2.size∧i1.size=0∧xs.isEmpty=true)∨((i1.size !=i2.size)=true∧xs.isEmpty=false):=by
 have h2:i2.size=0:=(aN.length r2).symm;have h1:xs.length=i1.size:=aN.length r1
 induction xs with
 |nil=>exact .inl ⟨h1.symm.trans h2.symm,h1.symm,rfl⟩
 |cons x xs=>exact .inr ⟨by rw[h2,←h1];rfl,rfl⟩
theorem Qn(R:Rel c σ s.heap)(hz:A.units<cLine){b:Addr}(h1:σ a=some (.list xs))(h2:σ b=some (.list [])):RcAt A s (.ref a) (.ref b) xs.isEmpty∧RcNeAt A s (.ref a) (.ref b) (!xs.isEmpty):=by
 obtain⟨_,i1,n1,e1,r1⟩:=R.objs _ _ h1;obtain⟨_,i2,n2,e2,r2⟩:=R.objs _ _ h2
 rcases r1.ac6 r2 with⟨g,g0,e⟩ |⟨g,e⟩<;>rw[e]
 ·have hg:∀j (h1:j<i1.size) (h2:j<i2.size),EqAt A.in1 s i1[j] i2[j] true:=λj h=>absurd h (by rw[g0];exact xN _)
  have z1:=RcAt.lists (dJ e1) (dJ e2) g hz (e:=λz=>true) hg;have z2:=RcNeAt.lists (dJ e1) (dJ e2) g hz (e:=λz=>true) hg;rw[HE]at z1 z2
  exact⟨z1,z2⟩
 ·exact⟨RcAt.lists_lengths (dJ e1) (dJ e2) g hz,RcNeAt.lists_lengths (dJ e1) (dJ e2) g hz⟩
theorem aV.isNone{h:Heap}(r:aV h x v):(v==.none)=Internal.isNone x:=by cases r<;>rfl
end
end
section
open PySem.SeqAt PySem.Builtin
open AutoSeq1 (wpAny_loadPart')
open MeetsSeq MeetsSeq2 MeetsSeq3
section
variable{c:Cx}{A:bj}{σ:St}{s:aw}{Q:Bool→Prop}{P:ak→aw→Prop}
theorem Qo{A:bj}{s:aw}{a b:Int}{t:Tok}{Q:ak→aw→Prop}(h:Q (.bool (decide (a<b))) s):aM (model prog w) A (richCompare .Lt (.int a t) (.int b u)) Q E s:=PySem.P.lt_int h
theorem Qp{A:bj}{s:aw}{a b:Int}{t:Tok}{Q:ak→aw→Prop}(h:Q (.bool (decide (a≤b))) s):aM (model prog w) A (richCompare .LtE (.int a t) (.int b u)) Q E s:=PySem.P.le_int h
open PySem.Builtin.Tuple
set_option maxHeartbeats 1000000 in
theorem ac7(l b:Addr)(a1 a2 b1 b2:Int)(t1 t2 u1 u2:Tok)(n n2:Nat):
  Meets (Builtin.«tuple.__lt__» ⟨[.ref l,.ref b],[]⟩)
   (λA R s=>s.heap.get? l=some (d7 #[.int a1 t1,.int a2 t2] n)∧s.heap.get? b=some (d7 #[.int b1 u1,.int b2 u2] n2)∧R (.ok (.ret (.bool (lexLt a1 a2 b1 b2)))) s):=
 .of_wp λprog w A R s h=>by
  obtain⟨hp,g,d,tk,os⟩:=s;refine pj h λhl hb h=>?_;have f2:=alk
  wp_walk using AJ hl,AJ hb,wpAny_forIn_list _ (λrest b s'=>b.1=none∧s'=⟨hp,g,d,tk,os⟩∧
   ((rest=[(.int a1 t1,.int b1 u1),(.int a2 t2,.int b2 u2)])∨(rest=[(.int a2 t2,.int b2 u2)]∧a1=b1)∨(rest=[]∧a1=b1∧a2=b2))) _
  case turn=>
   rintro⟨y,x⟩ rest b s' ⟨jn,rfl,hz⟩
   rcases hz with hz |⟨hz,h1⟩ |⟨hz,_,_⟩
   ·injection hz with t9 ua
    injection t9 with hy hx
    subst hy hx ua;refine aC (ES ?_)
    by_cases h1:a1=b1
    ·rw[show(a1==b1)=true by simpa using h1]
     wp_walk
     exact⟨rfl,rfl,.inr (.inl ⟨rfl,h1⟩)⟩
    ·rw[show(a1==b1)=false by simpa using h1]
     wp_walk using Qo;refine⟨_,rfl,?_⟩
     rw[show decide (a1<b1)=lexLt a1 a2 b1 b2 by unfold lexLt;rw[rL];simp[h1]]
     exact h
   ·injection hz with t9 ua
    injection t9 with hy hx
    subst hy hx ua h1;refine aC (ES ?_)
    by_cases h2:a2=b2
    ·rw[show(a2==b2)=true by simpa using h2]
     wp_walk
     exact⟨rfl,rfl,.inr (.inr ⟨rfl,rfl,h2⟩)⟩
    ·rw[show(a2==b2)=false by simpa using h2]
     wp_walk using Qo;refine⟨_,rfl,?_⟩
     rw[show decide (a2<b2)=lexLt a1 a2 a1 b2 by unfold lexLt;rw[rL];simp]
     exact h
   ·exact og hz
  case fin=>
   rintro⟨b1',b2'⟩ s' ⟨jn,rfl,hz⟩;simp only at jn;subst jn
   rcases hz with hz |⟨hz,h1⟩ |⟨_,rfl,rfl⟩
   ·exact vE hz
   ·exact vE hz
   ·wp_walk
    refine⟨_,rfl,?_⟩
    rw[show(tupleCompareSizes .Lt _ _)=.bool (lexLt a1 a2 a1 a2) by simp[tupleCompareSizes,lexLt]]
    exact h
  case h=>
   exact⟨rfl,rfl,.inl rfl⟩
set_option maxHeartbeats 1000000 in
theorem ac8(l b:Addr)(a1 a2 b1 b2:Int)(t1 t2 u1 u2:Tok)(n n2:Nat):
  Meets (Builtin.«tuple.__le__» ⟨[.ref l,.ref b],[]⟩)
   (λA R s=>s.heap.get? l=some (d7 #[.int a1 t1,.int a2 t2] n)∧s.heap.get? b=some (d7 #[.int b1 u1,.int b2 u2] n2)∧R (.ok (.ret (.bool (lexLe a1 a2 b1 b2)))) s):=
 .of_wp λprog w A R s h=>by
  obtain⟨hp,g,d,tk,os⟩:=s;refine pj h λhl hb h=>?_;have f2:=alk
  wp_walk using AJ hl,AJ hb,wpAny_forIn_list _ (λrest b s'=>b.1=none∧s'=⟨hp,g,d,tk,os⟩∧
   ((rest=[(.int a1 t1,.int b1 u1),(.int a2 t2,.int b2 u2)])∨(rest=[(.int a2 t2,.int b2 u2)]∧a1=b1)∨(rest=[]∧a1=b1∧a2=b2))) _
  case turn=>
   rintro⟨y,x⟩ rest b s' ⟨jn,rfl,hz⟩
   rcases hz with hz |⟨hz,h1⟩ |⟨hz,_,_⟩
   ·injection hz with t9 ua
    injection t9 with hy hx
    subst hy hx ua;refine aC (ES ?_)
    by_cases h1:a1=b1
    ·rw[show(a1==b1)=true by simpa using h1]
     wp_walk
     exact⟨rfl,rfl,.inr (.inl ⟨rfl,h1⟩)⟩
    ·rw[show(a1==b1)=false by simpa using h1]
     wp_walk using Qp;refine⟨_,rfl,?_⟩
     rw[show decide (a1≤b1)=lexLe a1 a2 b1 b2 by unfold lexLe;rw[rL];simp[h1];exact⟨λh=>Int.lt_iff_le_and_ne.2 ⟨h,h1⟩,Int.le_of_lt⟩]
     exact h
   ·injection hz with t9 ua
    injection t9 with hy hx
    subst hy hx ua h1;refine aC (ES ?_)
    by_cases h2:a2=b2
    ·rw[show(a2==b2)=true by simpa using h2]
     wp_walk
     exact⟨rfl,rfl,.inr (.inr ⟨rfl,rfl,h2⟩)⟩
    ·rw[show(a2==b2)=false by simpa using h2]
     wp_walk using Qp;refine⟨_,rfl,?_⟩
     rw[show decide (a2≤b2)=lexLe a1 a2 a1 b2 by unfold lexLe;rw[rL];simp]
     exact h
   ·exact og hz
  case fin=>
   rintro⟨b1',b2'⟩ s' ⟨jn,rfl,hz⟩;simp only at jn;subst jn
   rcases hz with hz |⟨hz,h1⟩ |⟨_,rfl,rfl⟩
   ·exact vE hz
   ·exact vE hz
   ·wp_walk
    refine⟨_,rfl,?_⟩
    rw[show(tupleCompareSizes .LtE _ _)=.bool (lexLe a1 a2 a1 a2) by simp[tupleCompareSizes,lexLe]]
    exact h
  case h=>
   exact⟨rfl,rfl,.inl rfl⟩
end
end
section
open PySem.SeqAt PySem.Builtin
open AutoSeq1 (wpAny_loadPart')
open MeetsSeq MeetsSeq2 MeetsSeq3
theorem ac9:tD (.type "bytes") "__index__"=pure none:=by rw[iO,iM];kernel_rfl
theorem HL{A:bj}{s:aw}{id:String}{b:Array UInt8}{t:Tok}{Q:Option (Array UInt8)→aw→Prop}(h:Q (some b) s):
  aM (model prog w) A (Ax id (.bytes b t)) Q E s:=by rw[Mc];exact aO h
theorem Qq(b x:Array UInt8)(t u:Tok):Meets (Builtin.«bytes.__contains__» ⟨[.bytes b t,.bytes x u],[]⟩)
  (λA R s=>A.handled=none∧∀h' tk,(∀a o,s.heap.get? a=some o→h'.get? a=some o)→R (.ok (.ret (.bool (Lp b x 0 b.size).isSome))) {s with heap:=h',toks:=tk}):=
 .of_wp λprog w A R s h=>by
  obtain⟨hp,g,d,tk,os⟩:=s;have h1:=fZ ⟨hp,g,d,tk,os⟩ x u;have h2:=ac9;obtain⟨hh,h⟩:=h;show aM _ _ (Lg "bytes.__contains__" (.bytes b t) (.bytes x u) >>= λr=>ret (.bool r)) _ _ _;refine aC ?_;unfold Lg;refine aC (AV ?_);unfold asIndex;wp_walk using HL;refine wpAny_raiseErrorMade plainExc_TypeError hh (λh' HM e x=>?_);wp_walk using HL;exact⟨_,rfl,h h' HM x.keeps⟩
theorem ada(b:Array UInt8)(k:Int)(t u:Tok)(h0:0≤k)(h1:k<256):Meets (Builtin.«bytes.__contains__» ⟨[.bytes b t,.int k u],[]⟩)
  (λA R s=>R (.ok (.ret (.bool (b.contains k.toNat.toUInt8)))) s):=
 .of_wp λprog w A R s h=>by
  obtain⟨hp,g,d,tk,os⟩:=s;show aM _ _ (Lg "bytes.__contains__" (.bytes b t) (.int k u) >>= λr=>ret (.bool r)) _ _ _;refine aC ?_;unfold Lg;refine aC (AV ?_);unfold asIndex
  have e1:decide (k<0)=false:=by simp;exact rO (by decide) h0
  have e2:decide (k≥256)=false:=by simp;exact tm h1 (by decide)
  wp_walk using HL;exact⟨_,rfl,h⟩
section
variable{c:Cx}{A:bj}{σ:St}{s:aw}
theorem yV(R:Rel c σ s.heap)(k:∀a o,s.heap.get? a=some o→h'.get? a=some o):bK c σ s σ {s with heap:=h',toks:=tk}:=⟨R.kept k,.kept k,rfl,rfl⟩
theorem adb(b:List UInt8)(x:UInt8):b.toArray.contains x=b.contains x:=by simp
theorem Qr(hu:fe 1 A)(R:Rel c σ s.heap){w:ak}{b:Bool}(r:aV s.heap x v)(r':aV s.heap y w)(q:Mem x y σ b):HJ c A σ s .In v w b∧HJ c A σ s .NotIn v w (!b):=by
 induction q with
 |@li k l _ is h1=>
  refine xe r.bZ λt aq=>?_;subst aq;obtain rfl:=r'.dj;obtain⟨_,i1,n1,e1,r1⟩:=R.objs _ _ h1;refine xa (aN.any (k:=k) aV.Qk r1) λz zz=>?_;have z:=HK z
  exact⟨in_listAt (xS k) (dJ e1) (λy hy=>Ca (zz y (Az.2 hy))) (by rw[z];exact fF R),notIn_listAt (xS k) (dJ e1) (λy hy=>Ca (zz y (Az.2 hy))) (by rw[z];exact fF R)⟩
 |dI h1=>
  refine xe r.bZ λt aq=>?_;subst aq;obtain rfl:=r'.dj;obtain⟨_,kvs,D,r1⟩:=R.objs _ _ h1
  exact⟨wpAny_in_of (knd:=intKind c.prog c.w) (Fl _ _ _ _) (qI R h1 rfl) D.mapOf (by rw[r1.isSome];exact wz R),wpAny_notIn_of (knd:=intKind c.prog c.w) (Fl _ _ _ _) (qI R h1 rfl) D.mapOf (by rw[r1.isSome];exact wz R)⟩
 |dS h1=>
  refine xe r.pQ λt aq=>?_;subst aq;obtain rfl:=r'.dj;obtain⟨_,kvs,D,r1⟩:=R.objs _ _ h1
  exact⟨wpAny_in_of (knd:=AR c.prog c.w) (A3 _ _ _ _) (qI R h1 rfl) D.mapOf (by rw[r1.isSome];exact wz R),wpAny_notIn_of (knd:=AR c.prog c.w) (A3 _ _ _ _) (qI R h1 rfl) D.mapOf (by rw[r1.isSome];exact wz R)⟩
 |dB h1=>
  refine xe r.fP λt aq=>?_;subst aq;obtain rfl:=r'.dj;obtain⟨_,kvs,D,r1⟩:=R.objs _ _ h1
  exact⟨wpAny_in_of (knd:=fL c.prog c.w) (E9 _ _ _ _) (qI R h1 rfl) D.mapOf (by rw[r1.isSome];exact wz R),wpAny_notIn_of (knd:=fL c.prog c.w) (E9 _ _ _ _) (qI R h1 rfl) D.mapOf (by rw[r1.isSome];exact wz R)⟩
 |@tI k is _=>
  refine xe r.bZ λt aq=>?_;subst aq;refine f7 r'.jl λa i1 n1 aq e1 r1=>?_;subst aq;refine xa (aN.any (k:=k) aV.Qk r1) λz zz=>?_;have z:=HK z
  exact⟨in_tupleAt (xS k) (wu e1) (λy hy=>Ca (zz y (Az.2 hy))) (by rw[z];exact fF R),notIn_tupleAt (xS k) (wu e1) (λy hy=>Ca (zz y (Az.2 hy))) (by rw[z];exact fF R)⟩
 |@tB k is _=>
  refine xe r.fP λt aq=>?_;subst aq;refine f7 r'.jl λa i1 n1 aq e1 r1=>?_;subst aq;refine xa (aN.any (k:=k) aV.Ql r1) λz zz=>?_;have z:i1.any (tK k)=decide (k∈is):=(HK z).trans (decide_eq_decide.2 Iff.rfl)
  exact⟨in_tupleAt (tK k) (wu e1) (λy hy=>Qj (k:=k.toArray) (zz y (Az.2 hy))) (by rw[z];exact fF R),notIn_tupleAt (tK k) (wu e1) (λy hy=>Qj (k:=k.toArray) (zz y (Az.2 hy))) (by rw[z];exact fF R)⟩
 |@iB k b _=>
  refine xe r.bZ λt aq=>?_;subst aq;refine xe r'.fP λu aq=>?_;subst aq
  have z:b.toArray.contains (k.toNat:Int).toNat.toUInt8=b.contains k:=by rw[adb,pe,show k.toNat.toUInt8=k from UInt8.ofNat_toNat]
  have f:=ada b.toArray (k.toNat:Int) u t (fX _) (dN.2 k.toNat_lt)
  exact⟨alm (fZ s _ _) Lk Lj (Lh _ _) f ⟨_,rfl,by rw[z];exact fF R⟩,ak8 (fZ s _ _) Lk Lj (Lh _ _) f ⟨_,rfl,by rw[z];exact fF R⟩⟩
 |@bb a b _=>
  refine xe r.fP λt aq=>?_;subst aq;refine xe r'.fP λu aq=>?_;subst aq;exact⟨alm (fZ s _ _) Lk Lj (Lh _ _) (Qq b.toArray a.toArray u t) ⟨hu.h,λh' tk k=>⟨_,rfl,rfl,yV R k⟩⟩,ak8 (fZ s _ _) Lk Lj (Lh _ _) (Qq b.toArray a.toArray u t) ⟨hu.h,λh' tk k=>⟨_,rfl,rfl,yV R k⟩⟩⟩
end
end
section
open PySem.SeqAt
theorem aN.two{h:Heap}{a b:Int}(r:aN h [.int a,.int b] items.toList):∃t u,items=#[.int a t,.int b u]:=by
 refine jg r.iT λv vs e r1 r'=>?_;refine jg r'.iT λw ws aq r2 r0=>?_;subst aq;obtain⟨t,rfl⟩:=r1.bZ;obtain⟨u,rfl⟩:=r2.bZ;obtain rfl:=r0.jU;exact⟨t,u,Array.toList_inj.1 e⟩
section
variable{c:Cx}{A:bj}{σ:St}{s:aw}
theorem Qt{op:CmpOp}{w:ak}{b:Bool}(hu:fe 1 A)(R:Rel c σ s.heap)(r:aV s.heap x v)(r':aV s.heap y w)(q:Cm op x y σ b):HJ c A σ s op v w b:=by
 have hz:=hu.units
 have h5:A.in1.units+4≤cLine:=by have:=hu.u;simp;exact l1 this (by simp+arith only)
 induction q with
 |eq=>refine xe r.bZ λt aq=>?_;subst aq;refine xe r'.bZ λu aq=>?_;subst aq;exact P.eq_int (by rw[t8];exact fF R)
 |t7=>refine xe r.fP λt aq=>?_;subst aq;refine xe r'.fP λu aq=>?_;subst aq;exact eq_bytes (by rw[t8];exact fF R)
 |B7=>refine xe r.pQ λt aq=>?_;subst aq;refine xe r'.pQ λu aq=>?_;subst aq;exact PyProof.Rows.eq_str (by rw[t8];exact fF R)
 |Qf h1 h2 h=>obtain rfl:=r.dj;obtain rfl:=r'.dj;exact(HF R hz h1 h2 h (Qe R 4 h5)).1 c.prog c.w No _ (fF R)
 |Qg h1 h2=>obtain rfl:=r.dj;obtain rfl:=r'.dj;exact(Qn R hz h1 h2).1 c.prog c.w No _ (fF R)
 |ne=>refine xe r.bZ λt aq=>?_;subst aq;refine xe r'.bZ λu aq=>?_;subst aq;exact P.ne_int (by rw[Qi];exact fF R)
 |B9=>refine xe r.fP λt aq=>?_;subst aq;refine xe r'.fP λu aq=>?_;subst aq;exact ne_bytes (by rw[Qi];exact fF R)
 |HG=>obtain rfl:=r.Hw;obtain rfl:=r'.Hw;exact ne_bool (fF R)
 |HH h1 h2 h=>obtain rfl:=r.dj;obtain rfl:=r'.dj;exact(HF R hz h1 h2 h (Qe R 4 h5)).2 c.prog c.w No _ (fF R)
 |tL h1 h2=>obtain rfl:=r.dj;obtain rfl:=r'.dj;exact(Qn R hz h1 h2).2 c.prog c.w No _ (fF R)
 |lt=>refine xe r.bZ λt aq=>?_;subst aq;refine xe r'.bZ λu aq=>?_;subst aq;exact P.lt_int (fF R)
 |le=>refine xe r.bZ λt aq=>?_;subst aq;refine xe r'.bZ λu aq=>?_;subst aq;exact P.le_int (fF R)
 |gt=>refine xe r.bZ λt aq=>?_;subst aq;refine xe r'.bZ λu aq=>?_;subst aq;exact P.gt_int (fF R)
 |ge=>refine xe r.bZ λt aq=>?_;subst aq;refine xe r'.bZ λu aq=>?_;subst aq;exact P.ge_int (fF R)
 |Qh=>
  refine f7 r.jl λa i1 n1 aq e1 r1=>?_;subst aq;refine f7 r'.jl λb i2 n2 aq e2 r2=>?_;subst aq;refine gF r1.two λt1 t2 aq=>?_;subst aq;refine gF r2.two λu1 u2 aq=>?_;subst aq
  exact aly (op:=.Lt) ⟨_,e1,rfl⟩ ⟨_,e2,rfl⟩ PySem.F.slot_tuple_lt PySem.F.entry_tuple_lt (PySem.F.args_tuple_lt_2 _ _) (ac7 _ _ _ _ _ _ t1 t2 u1 u2 _ _) ⟨e1,e2,(λx=>nomatch x),fF R⟩ hz
 |lex=>
  refine f7 r.jl λa i1 n1 aq e1 r1=>?_;subst aq;refine f7 r'.jl λb i2 n2 aq e2 r2=>?_;subst aq;refine gF r1.two λt1 t2 aq=>?_;subst aq;refine gF r2.two λu1 u2 aq=>?_;subst aq
  exact aly (op:=.LtE) ⟨_,e1,rfl⟩ ⟨_,e2,rfl⟩ PySem.F.slot_tuple_le PySem.F.entry_tuple_le (PySem.F.args_tuple_le_2 _ _) (ac8 _ _ _ _ _ _ t1 t2 u1 u2 _ _) ⟨e1,e2,(λx=>nomatch x),fF R⟩ hz
 |is=>obtain rfl:=r'.PU;exact is_none (by rw[r.isNone];exact fF R)
 |iY=>obtain rfl:=r'.PU;exact isNot_none (by rw[r.isNone];exact fF R)
 |mem h=>exact(Qr hu R r r' h).1
 |oy h=>exact(Qr hu R r r' h).2
end
end
section
open PySem.SeqAt
section
variable{c:Cx}{n:Nat}{ks:Ks}{A:bj}{env:Env}{e:aL}{σ:St}{s:aw}
theorem aH.cmp{op:CmpOp}{l r:Expr}{pos:Pos}{m1 m2:EM}(h1:aH c (n+1) ks l m1)(h2:aH c (n+1) ks r m2)(hm:autoParam (Ma op r=false) aA):
  aH c (n+1) ks (.Compare l [op] [r] pos) (gM op m1 m2):=λA env e σ s Q N q=>
 wpAny_Compare1 (wp_step (h1 N q) λx v ao s1 r1 w1 q1=>wp_step (h2 (N.bu w1) q1) λy w ay s2 r2 w2 q2=>
  let⟨b,q2,q'⟩:=q2;b0 (Qt (N.room.le (Nat.le_add_left ..)) w2.rel (r1.bu w1.rel w2) r2 q2) (λv s' ⟨hb,w'⟩=>by
   subst hb;exact⟨.bool b,ay,.bool b,(w1.trans w2).trans w',q'⟩) λo o z=>z) hm
theorem gI.cmp{op:CmpOp}{l r:Expr}{pos:Pos}{m1 m2:EM}(h1:aH c (n+1) ks l m1)(h2:aH c (n+1) ks r m2)(hm:autoParam (Ma op r=false) aA):
  gI c (n+1) ks (.Compare l [op] [r] pos) (aT op m1 m2):=λA env e σ s Q whole hw N q=>
 wpAny_isTrue_Compare1 (wp_step (h1 N q) λx v ao s1 r1 w1 q1=>wp_step (h2 (N.bu w1) q1) λy w ay s2 r2 w2 q2=>
  let⟨b,q2,q'⟩:=q2;b0 (Qt (N.room.le (Nat.le_add_left ..)) w2.rel (r1.bu w1.rel w2) r2 q2) (λv s' ⟨hb,w'⟩=>by
   subst hb;exact AE ⟨ay,(w1.trans w2).trans w',q'⟩) λo o z=>z) hm
noncomputable def jh(m:EM):TM:=λe σ Q=>m e σ λx ao=>∃b,x=.bool b∧Q b ao
theorem gI.plain{x:Expr}{m:EM}(h:aH c n ks x m)(he:autoParam (∀env whole,isTrue x env whole=(do let v ←whole;oe x.pos;holding [v] (truthy v))) aJ):gI c n ks x (jh m):=λA wx e σ s Q whole hw N q=>by
 subst hw;refine isTrue_plain (wp_step (h N q) λx v ao s1 r1 w1 q1=>?_) (he _ _);obtain⟨b,rfl,q1⟩:=q1;cases r1;exact AE ⟨ao,w1,q1⟩
noncomputable def vS(m:TM):TM:=λe σ Q=>m e σ λb ao=>Q (!b) ao
theorem gI.not{x:Expr}{pos:Pos}{m:TM}(h:gI c n ks x m):gI c n ks (.UnaryOp .Not x pos) (vS m):=λA env e σ s Q whole hw N q=>
 isTrue_not (yT (h _ rfl N q) λb ao s1 w1 q1=>⟨ao,w1,q1⟩)
noncomputable def cQ(b:Bool):TM:=λz σ Q=>Q b σ
noncomputable def bR(m r:TM):TM:=λe σ Q=>m e σ λb ao=>if b then r e ao Q else Q false ao
noncomputable def hG(m r:TM):TM:=λe σ Q=>m e σ λb ao=>if b then Q true ao else r e ao Q
noncomputable def jx(c:Cx)(n:Nat)(ks:Ks)(op:BoolOp)(xs:List Expr)(m:TM):Prop:=
 ∀⦃A:bj⦄ ⦃env:Env⦄ ⦃e:aL⦄ ⦃σ:St⦄ ⦃s:aw⦄ ⦃Q:Bool→St→Prop⦄ (pos:Pos) (whole:Sem ak),cO c n A env ks e σ s→m e σ Q→aM c.M A (isTrue (.BoolOp op xs pos) env whole) (mf c σ s Q) No s
theorem jx.Z9:jx c n ks .And [] (cQ true):=λA env e σ s Q pos whole N q=>isTrue_and_nil ⟨_,.refl N.rel,q⟩
theorem jx.aaa:jx c n ks .Or [] (cQ false):=λA env e σ s Q pos whole N q=>isTrue_or_nil ⟨_,.refl N.rel,q⟩
theorem jx.and{x:Expr}{xs:List Expr}{m r:TM}(h1:gI c n ks x m)(h2:jx c n ks .And xs r):jx c n ks .And (x::xs) (bR m r):=λA env e σ s Q pos whole N q=>
 isTrue_and (yT (h1 _ rfl N q) λb ao s1 w1 q1=>by
  induction b with
  |true=>exact PY w1 (h2 pos whole (N.bu w1) q1)
  |false=>exact⟨ao,w1,q1⟩)
theorem jx.or{x:Expr}{xs:List Expr}{m r:TM}(h1:gI c n ks x m)(h2:jx c n ks .Or xs r):jx c n ks .Or (x::xs) (hG m r):=λA env e σ s Q pos whole N q=>
 isTrue_or (yT (h1 _ rfl N q) λb ao s1 w1 q1=>by
  induction b with
  |false=>exact PY w1 (h2 pos whole (N.bu w1) q1)
  |true=>exact⟨ao,w1,q1⟩)
theorem gI.bool{op:BoolOp}{xs:List Expr}{pos:Pos}{m:TM}(h:jx c n ks op xs m):gI c n ks (.BoolOp op xs pos) m:=λA env e σ s Q whole hw N q=>h pos whole N q
noncomputable def GV(m r:EM):EM:=λe σ Q=>m e σ λx ao=>∃b,x=.bool b∧if b then r e ao Q else Q (.bool false) ao
noncomputable def yv(m r:EM):EM:=λe σ Q=>m e σ λx ao=>∃b,x=.bool b∧if b then Q (.bool true) ao else r e ao Q
theorem aH.MT{op:BoolOp}{x:Expr}{pos:Pos}{m:EM}(h:aH c n ks x m):aH c n ks (.BoolOp op [x] pos) m:=λA env e σ s Q N q=>BoolOp_one (h N q)
theorem aH.and{x y:Expr}{xs:List Expr}{pos:Pos}{m r:EM}(h1:aH c n ks x m)(h2:aH c n ks (.BoolOp .And (y::xs) pos) r):aH c n ks (.BoolOp .And (x::y::xs) pos) (GV m r):=λA env e σ s Q N q=>
 BoolOp_and (wp_step (h1 N q) λx v ao s1 r1 w1 q1=>by
  obtain⟨b,rfl,q1⟩:=q1;cases r1;refine AE ?_
  induction b with
  |true=>exact iE w1 (h2 (N.bu w1) q1)
  |false=>exact⟨_,ao,.bool _,w1,q1⟩)
theorem aH.or{x y:Expr}{xs:List Expr}{pos:Pos}{m r:EM}(h1:aH c n ks x m)(h2:aH c n ks (.BoolOp .Or (y::xs) pos) r):aH c n ks (.BoolOp .Or (x::y::xs) pos) (yv m r):=λA env e σ s Q N q=>
 BoolOp_or (wp_step (h1 N q) λx v ao s1 r1 w1 q1=>by
  obtain⟨b,rfl,q1⟩:=q1;cases r1;refine AE ?_
  induction b with
  |false=>exact iE w1 (h2 (N.bu w1) q1)
  |true=>exact⟨_,ao,.bool _,w1,q1⟩)
noncomputable def eH(t:TM)(m1 m2:EM):EM:=λe σ Q=>t e σ λb ao=>if b then m1 e ao Q else m2 e ao Q
theorem aH.tR{t x y:Expr}{pos:Pos}{mt:TM}{m1 m2:EM}(h:gI c n ks t mt)(h1:aH c n ks x m1)(h2:aH c n ks y m2):aH c n ks (.IfExp t x y pos) (eH mt m1 m2):=λA env e σ s Q N q=>
 IfExp_ (yT (h _ rfl N q) λb ao s1 w1 q1=>by
  induction b with
  |true=>exact iE w1 (h1 (N.bu w1) q1)
  |false=>exact iE w1 (h2 (N.bu w1) q1))
noncomputable def ade(x:CV):VM:=λσ Q=>∃a,x=.int a∧Q (.int (-a)) σ
noncomputable def qD(m:EM):EM:=λe σ Q=>m e σ λx ao=>ade x ao Q
theorem aH.neg{x:Expr}{pos:Pos}{m:EM}(h:aH c n ks x m):aH c n ks (.UnaryOp .USub x pos) (qD m):=λA env e σ s Q N q=>
 UnaryOp_ (wp_step (h N q) λx v ao s1 r1 w1 q1=>by
  obtain⟨a,rfl,q1⟩:=q1;refine xe r1.bZ λt aq=>?_;subst aq
  exact P.neg_int (cC.after w1 _ _ (dq w1.rel (.int _ _) q1)))
end
end
set_option tactic.hygienic true
section
open PySem.SeqAt
theorem adf{h:Heap}{m:bA→Option ak}(n:h.Ns d m)(name:bA):∃o,h.get? d=some o∧lookIn name o=some (m name):=by
 obtain⟨o,es,ep,ho,hd,hk,hf⟩:=n;refine⟨o,ho,?_⟩;unfold lookIn;rw[hd];rw[←hf name];unfold nsFind findBy;rw[←Array.find?_toList];dsimp only
 split
 ·rename_i en he;rw[he];rfl
 ·rename_i he
  rw[he]
  have:es.toList.any (λx=>x.refKey)=false:=by
   rw[Array.any_toList,Array.any_eq_false'];intro e he;refine gF (hk e he) λn t h=>?_;simp[DictEntry.refKey,h]
  rw[this];rfl
theorem adg{name:bA}{jZ:Int}{key:ak}{o:Obj}{es iG:Array DictEntry}{Cb k:Nat}(hd:o.data=.dict es ep)(hk:es.size≤k)
  (h1:nsFind es name=none→k+1≤k')(h2:k≤k')(fQ:(Fc name jZ key v o).data=.dict iG Cb):iG.size≤k':=by
 obtain⟨cl,dd,dt,sl⟩:=o;simp only at hd;subst hd;rw[Obj.putName_eq]at fQ;simp only[Obj.putNameByArray]at fQ
 split at fQ<;>cases fQ
 ·simpa using aR hk h2
 ·rename_i hn
  have:nsFind es name=none:=by
   unfold nsFind findBy
   have:es.find? (·.key.isStr name)=none:=by
    rw[Array.findIdx?_eq_none_iff]at hn;rw[Array.find?_eq_none];intro x hx;simp[hn x hx]
   rw[this];rfl
  have:=h1 this;simp;exact je hk this
theorem adh{M:fy}{Γ:Ctx}{E:ak→Pos→aw→Prop}{p:Pos}{s:aw}{m}(hn:s.heap.Ns a m)(name:bA)(v:ak):∃jZ key,
  ∀Q:Unit→Pos→aw→Prop,Sem.wp M Γ (nsSet a name v) Q E p s=Q () p {s with heap:=s.heap.update a (Fc name jZ key v),toks:=s.toks+1}:=by
 obtain⟨o,es,ep,ho,hd,hk,hm⟩:=hn
 have adi:es.any (λx=>x.refKey)=false:=by
  rw[Array.any_eq_false'];intro e he;refine gF (hk e he) λn t h=>?_;simp[DictEntry.refKey,h]
 refine⟨if name.cps.isEmpty then 0 else reduceHash (M.w.params.strHash name.cps),.str name s.toks,λQ=>?_⟩
 simp only[nsSet,strHash,Fb,Sem.wp_cmd_ask,Sem.wp_pure',Sem.wp_cmd_mkText]
 rw[Sem.wp_loadPart_of M Γ E p {s with toks:=s.toks+1} (o:=o) _ ho]
 simp only[hd,aRefKeyMayBeTheName_eq,aRefKeyMayBeTheNameByArray,adi,Bool.and_false,pd,if_false,Sem.wp_cmd_updatePart];rw[ho];simp only[YV,true_and]
theorem adj{M:fy}{A:bj}{s:aw}{m}{name:bA}{k:Nat}{Q:Unit→aw→Prop}(hn:s.heap.Ns a m)(hl:s.heap.DictLe a k)(HN:m name=none→k+1≤k')(hk2:k≤k')
  (h:∀h',h'.Ns a (λx=>if x=name then some v else m x)→jt a s.heap h'→h'.DictLe a k'→Q () {s with heap:=h',toks:=s.toks+1}):
  aM M A (nsSet a name v) Q E s:=λΓ p _=>by
 refine gF (adh (M:=M) (Γ:=Γ) (E:=λe u s'=>E e s') (p:=p) hn name v) λjZ key e=>?_
 have q:=Sem.wp_nsSet M Γ (λe u s'=>E e s') p s hn name v (λu u s'=>s'.heap.Ns a (λx=>if x=name then some v else m x)∧jt a s.heap s'.heap) (λh' x y=>⟨x,y⟩)
 rw[e]at q ⊢;refine h _ q.1 q.2 λo es ep ho hd=>?_;obtain⟨HP,alF,alG,Qu,Cc,_,adk⟩:=hn;obtain⟨Qv,alH,alI,Qw,alJ,_⟩:=q.1;have eo:Qv=o:=bt (Qw.symm.trans ho);subst eo
 have:Qv=Fc name jZ key v HP:=by
  have z:=rD (Fc name jZ key v) Qu (by
   cases f:(Fc name jZ key v HP).isFreed with
   |false=>rfl
   |true=>
    obtain⟨cl,dd,dt,sl⟩:=HP;simp only at Cc;subst Cc;rw[Obj.putName_eq]at f;simp only[Obj.putNameByArray]at f
    split at f<;>simp[Obj.isFreed]at f)
  exact bt (Qw.symm.trans z)
 subst this
 exact adg Cc (hl _ _ _ Qu Cc) (λz=>HN (by rw[←adk,z])) hk2 hd
theorem HR(fs:List (Nat×CV))(i:Nat)(v:CV):(l7 fs i v).length=if iz fs i=none then fs.length+1 else fs.length:=by
 induction fs with
 |nil=>simp[l7,iz]
 |cons p r ih=>obtain⟨j,x⟩:=p;unfold l7 iz;split<;>simp[ih];split<;>simp
section
variable{c:Cx}{n:Nat}{ks:Ks}{A:bj}{env:Env}{e:aL}{σ:St}{s:aw}
theorem HS(R:Rel c σ s.heap)(h1:σ a=some (.inst C d))(h2:σ d=some (.iV fs))(hi:i<nN):
  ∃od m,W.InstAt s.heap a (mU C d) C (some od)∧s.heap.Ns d m∧s.heap.get? d=some od∧lookIn (nm i) od=some (m (nm i))∧sD s.heap fs m:=by
 obtain⟨_,e1⟩:=R.objs _ _ h1;obtain⟨_,m,hn,hr,_⟩:=R.objs _ _ h2;refine a9 (adf hn (nm i)) λod ho hl=>?_;exact⟨od,m,⟨e1,rfl,rfl,ho⟩,hn,ho,hl,hr⟩
theorem adl{h:Heap}(r:aV h x v)(z:x.tX=false):handedIn v=true:=by
 cases r<;>first |rfl |exact iR z
noncomputable def isField(C i:Nat):Bool:=yo.contains (C,i)
theorem Qx{C:Nat}(h:isField C i=true):(C,i)∈yo:=by simpa[isField]using h
noncomputable def vR(i:Nat)(x:CV):VM:=λσ Q=>∃a C d fs v,x=.loc a∧σ a=some (.inst C d)∧σ d=some (.iV fs)∧isField C i=true∧iz fs i=some v∧Q v σ
theorem Qy{b:Bool}(R:Rel c σ s.heap)(r:aV s.heap x v)(q:vR i x σ Q):
  aM c.M A (getAttr v (nm i) b) (cC c σ s Q) No s:=by
 obtain⟨a,C,d,fs,y,rfl,h1,h2,h3,h4,q⟩:=q;cases r;obtain⟨hi,k1,k2,⟨attr,k3,k4⟩,_⟩:=c.fld _ _ (Qx h3);refine mX (HS R h1 h2 hi) λod m I hn ho hl hr=>?_;have:=hr i hi;rw[h4]at this;obtain⟨z,e1,r1,nb⟩:=this;rw[e1]at hl;exact get_value (c.jV.keeps R.base) I (plainGet_of k1).1 (findObj_own k2 k3 k4 hl) (adl r1 nb) (dq R r1 q)
noncomputable def bf(i:Nat)(m:EM):EM:=λe σ Q=>m e σ λx ao=>vR i x ao Q
theorem aH.attr{x:Expr}{name:bA}{pos:Pos}{m:EM}(i:Nat)(hx:nm i=name)(h:aH c n ks x m)
  (he:autoParam (∀env,eval (.Attribute x name pos) env=(do
   let o ←eval x env
   oe pos.atName
   let r ←holding [o] (getAttr o name true)
   letTemporaryGo x o r
   pure r)) aW):aH c n ks (.Attribute x name pos) (bf i m):=λA wx e σ s Q N q=>by
 subst hx;exact Attribute_any_ (wp_step (h N q) λx v ao s1 r1 w1 q1=>iE w1 (Qy w1.rel r1 q1)) (he _)
noncomputable def yz(i:Nat)(x y:CV)(σ:St)(Q:St→Prop):Prop:=∃a C d fs,x=.loc a∧σ a=some (.inst C d)∧σ d=some (.iV fs)∧isField C i=true∧y.tX=false∧fs.length≤20∧Q (upd σ d (.iV (l7 fs i y)))
theorem Qz{w:ak}{Q:St→Prop}(R:Rel c σ s.heap)(r:aV s.heap x v)(r':aV s.heap y w)(q:yz i x y σ Q):
  aM c.M A (setAttr v (nm i) w) (λo s'=>∃ae,bK c σ s ae s'∧Q ae) No s:=by
 obtain⟨a,C,d,fs,rfl,h1,h2,h3,h4',h5,q⟩:=q;cases r;obtain⟨hi,k1,k2,_,k5,k6,k7⟩:=c.fld _ _ (Qx h3);refine mX (HS R h1 h2 hi) λod m I hn ho hl hr=>?_;have X:=c.jV.keeps R.base;obtain⟨HT,m',yW,yX,hle⟩:=R.objs _ _ h2
 refine set_plain X I k5 (osa_open (s:={s with toks:=s.toks+1}) X I k6 k7 λb=>?_)
 refine a9 (any_some k2) λcd hc fQ=>?_;obtain⟨hx,g8,QH,-⟩:=I;refine aC (aO (aC (aC (wpAny_loadPart hx (aC (looks_clsIn X hc _ _ _ _ (λo o e=>e) ?_))))));rw[fQ];refine aO (a:=some d) (aC (aO (aC ?_)))
 have nz:m' (nm i)=none→iz fs i=none:=λz=>by
  have:=yX i hi
  cases q:iz fs i with
  |none=>rfl
  |some x=>rw[q]at this;obtain⟨v,e,_⟩:=this;exact bo (z.symm.trans e)
 refine adj (s:={s with toks:=s.toks+1}) yW hle (k':=(l7 fs i y).length) (λz=>?_) (by rw[HR];split<;>(first |exact mL .. |exact cP _)) λh' lE hs QI=>?_
 ·rw[HR,if_pos (nz z)]
  exact cP _
 obtain⟨o2,yY,QJ,iZ,hd2,_⟩:=id lE
 refine aC (wpAny_lookBehind iZ (by rw[hd2];exact pastItsLine_dict (aR (QI _ _ _ iZ hd2) (by rw[HR,A1];split<;>(first |exact lz h5 rfl |exact cB h5 rfl)))) (aO ?_))
 exact⟨_,⟨R.set (y:=.iV (l7 fs i y)) h2 rfl hs λtu=>⟨HT,_,lE,(yX.bQ tu).set hi (r'.bQ tu) h4',QI⟩,Ext.set h2 rfl hs ⟨_,iZ⟩,rfl,rfl⟩,q⟩
end
end
set_option tactic.hygienic false
structure lF(X:Addr→Prop)(σ:St)(h:Heap)(ae:St)(h':Heap):Prop where
 keep:∀b o,¬X b→h.get? b=some o→(∀x,σ b=some x→x.fc=true)→h'.get? b=some o
 gc:∀b o,¬X b→h.get? b=some o→σ b=none→ae b=none
 fc:∀b x,σ b=some x→x.fc=true→ae b=some x
 more:∀b o,h.get? b=some o→∃o',h'.get? b=some o'
theorem Ext.dA{σ:St}{h:Heap}(x:Ext σ h ae h')(X:Addr→Prop):lF X σ h ae h':=⟨λb o z=>x.keep b o,λb o z=>x.gc b o,x.fc,x.more⟩
theorem lF.trans{X:Addr→Prop}{d8 dP gQ:Heap}(x:lF X b7 d8 bT dP)(y:lF X bT dP fC gQ):lF X b7 d8 fC gQ:=by
 refine⟨λb o nx e k=>?_,λb o nx e n=>?_,λb z e i=>y.fc b z (x.fc b z e i) i,λb o e=>let⟨o',e'⟩:=x.more b o e;y.more b o' e'⟩
 ·have e2:=x.keep b o nx e k
  refine y.keep b o nx e2 λz hz=>?_
  cases q:b7 b with
  |none=>exact bo ((x.gc b o nx e q).symm.trans hz)
  |some z1=>have y1:=k z1 q;obtain rfl:=(bt ((x.fc b z1 q y1).symm.trans hz)).symm;exact y1
 ·have e2:=x.keep b o nx e (λz hz=>by exact bo (n.symm.trans hz))
  exact y.gc b o nx e2 (x.gc b o nx e n)
theorem lF.mono{X:Addr→Prop}{σ:St}{h:Heap}(x:lF X σ h ae h')(k:∀b,X b→Y b):lF Y σ h ae h':=
 ⟨λb o n=>x.keep b o λq=>n (k b q),λb o n=>x.gc b o λq=>n (k b q),x.fc,x.more⟩
theorem lF.ext{X:Addr→Prop}{σ:St}{h₀ h:Heap}(y:Ext σ₀ h₀ σ h)(x:lF X σ h ae h')(n:∀b,X b→h₀.get? b=none):Ext σ₀ h₀ ae h':=by
 refine⟨λb o e k=>?_,λb o e k=>?_,λb z e i=>x.fc b z (y.fc b z e i) i,λb o e=>let⟨o',e'⟩:=y.more b o e;x.more b o' e'⟩
 ·have nx:¬X b:=λq=>by exact bo ((n b q).symm.trans e)
  refine x.keep b o nx (y.keep b o e k) λz hz=>?_
  cases q:σ₀ b with
  |none=>exact bo ((y.gc b o e q).symm.trans hz)
  |some z1=>have y1:=k z1 q;obtain rfl:=(bt ((y.fc b z1 q y1).symm.trans hz)).symm;exact y1
 ·have nx:¬X b:=λq=>by exact bo ((n b q).symm.trans e)
  exact x.gc b o nx (y.keep b o e λz hz=>by exact bo (k.symm.trans hz)) (y.gc b o e k)
structure c8(c:Cx)(X:Addr→Prop)(σ:St)(s:aw)(ae:St)(s':aw):Prop where
 rel:Rel c ae s'.heap
 ext:lF X σ s.heap ae s'.heap
 gens:s'.gens=s.gens
 os:s'.os=s.os
theorem bK.dA{c:Cx}{σ:St}{s:aw}(w:bK c σ s ae s')(X:Addr→Prop):c8 c X σ s ae s':=⟨w.rel,w.ext.dA X,w.gens,w.os⟩
theorem c8.trans{c:Cx}{X:Addr→Prop}{fu:aw}(x:c8 c X b7 bq bT bg)(y:c8 c X bT bg fC fu):c8 c X b7 bq fC fu:=
 ⟨y.rel,x.ext.trans y.ext,y.gens.trans x.gens,y.os.trans x.os⟩
theorem c8.mono{c:Cx}{X:Addr→Prop}(x:c8 c X b7 bq bT bg)(k:∀b,X b→Y b):c8 c Y b7 bq bT bg:=⟨x.rel,x.ext.mono k,x.gens,x.os⟩
noncomputable def eU(env:Env)(ks:Ks)(b:Addr):Prop:=b=env.locals∨∃i,ks.lookup i=some .cell∧env.cells.lookup (nm i)=some b
inductive dy where
 |next |brk |cont |ret (v:CV)
inductive ub(h:Heap):dy→Flow→Prop
 |next:ub h .next .next
 |brk:ub h .brk .brk
 |cont:ub h .cont .cont
 |ret {x:CV} {v:ak} (r:aV h x v):ub h (.ret x) (.ret v)
noncomputable abbrev SM:=aL→St→(dy→aL→St→Prop)→Prop
noncomputable abbrev AM:=CV→aL→St→(aL→St→Prop)→Prop
noncomputable def hM(c:Cx)(env:Env)(ks:Ks)(σ:St)(s:aw)(Q:dy→aL→St→Prop):Flow→aw→Prop:=
 λf s'=>∃fl e' ae,ub s'.heap fl f∧c8 c (eU env ks) σ s ae s'∧eY c env ks e' ae s'.heap∧Q fl e' ae
noncomputable def kJ(c:Cx)(X:Addr→Prop)(env:Env)(ks:Ks)(σ:St)(s:aw)(Q:aL→St→Prop):Unit→aw→Prop:=
 λz s'=>∃e' ae,c8 c X σ s ae s'∧eY c env ks e' ae s'.heap∧Q e' ae
theorem hM.after{c:Cx}{env:Env}{ks:Ks}{Q:dy→aL→St→Prop}(w:c8 c (eU env ks) b7 bq bT bg):∀v s',hM c env ks bT bg Q v s'→hM c env ks b7 bq Q v s':=
 λ_ _ ⟨fl,e',ae,r,w',f,q⟩=>⟨fl,e',ae,r,w.trans w',f,q⟩
theorem kJ.after{c:Cx}{X:Addr→Prop}{env:Env}{ks:Ks}{Q:aL→St→Prop}(w:c8 c X b7 bq bT bg):∀v s',kJ c X env ks bT bg Q v s'→kJ c X env ks b7 bq Q v s':=
 λ_ _ ⟨e',ae,w',f,q⟩=>⟨e',ae,w.trans w',f,q⟩
noncomputable def cF(c:Cx)(n:Nat)(ks:Ks)(x:Stmt)(m:SM):Prop:=
 ∀⦃A:bj⦄ ⦃env:Env⦄ ⦃e:aL⦄ ⦃σ:St⦄ ⦃s:aw⦄ ⦃Q:dy→aL→St→Prop⦄,cO c n A env ks e σ s→m e σ Q→aM c.M A (exec x env) (hM c env ks σ s Q) No s
noncomputable def eQ(c:Cx)(n:Nat)(ks:Ks)(x:List Stmt)(m:SM):Prop:=
 ∀⦃A:bj⦄ ⦃env:Env⦄ ⦃e:aL⦄ ⦃σ:St⦄ ⦃s:aw⦄ ⦃Q:dy→aL→St→Prop⦄,cO c n A env ks e σ s→m e σ Q→aM c.M A (execs x env) (hM c env ks σ s Q) No s
noncomputable def eG(c:Cx)(n:Nat)(ks:Ks)(X:Env→Addr→Prop)(t:Expr)(m:AM):Prop:=
 ∀⦃A:bj⦄ ⦃env:Env⦄ ⦃e:aL⦄ ⦃σ:St⦄ ⦃s:aw⦄ ⦃x:CV⦄ ⦃v:ak⦄ ⦃Q:aL→St→Prop⦄,cO c n A env ks e σ s→aV s.heap x v→m x e σ Q→aM c.M A (assign t env v) (kJ c (X env) env ks σ s Q) No s
section
variable{c:Cx}{n:Nat}{ks:Ks}{A:bj}{env:Env}{e:aL}{σ:St}{s:aw}
theorem cO.moved{e':aL}(N:cO c n A env ks e σ s)(F:eY c env ks e' ae s'.heap)(R:Rel c ae s'.heap):cO c n A env ks e' ae s':=⟨N.room,N.ok,F,R⟩
theorem HU(N:cO c n A env ks e σ s){b:Addr}(hb:eU env ks b):∀items k,s.heap.get? b≠some (d7 items k):=by
 intro items k q
 rcases hb with rfl |⟨i,hi,hc⟩
 ·obtain⟨m,⟨o,es,ep,ho,hd,_⟩,_⟩:=N.fr.ns
  obtain rfl:=bt (ho.symm.trans q);exact Aw hd
 ·obtain⟨a,x,h1,⟨o,ho,hd⟩,_⟩:=N.fr.cells i (.inl hi)
  obtain rfl:=(bt (h1.symm.trans hc)).symm;obtain rfl:=bt (ho.symm.trans q);exact Aw hd
theorem bK.yZ(N:cO c n A env ks e σ s)(w:c8 c (eU env ks) σ s ae s'):gq s.heap s'.heap:=λb items k eb=>by
 by_cases q:eU env ks b
 ·exact absurd eb (HU N q items k)
 ·refine w.ext.keep b _ q eb λz hz=>?_
  refine a9 (eK.there (N.rel.objs b z hz)) λy hy ht=>?_;obtain rfl:=bt (eb.symm.trans hy);exact absurd rfl (ht _ _)
theorem Ce{X:Addr→Prop}{x:bA}{Q:aL→St→Prop}(hX:∀b,b=env.locals∨(ks.lookup i=some .cell∧env.cells.lookup (nm i)=some b)→X b)(hx:nm i=x)(hk:ks.lookup i=some .local∨ks.lookup i=some .cell)
  (N:cO c n A env ks e σ s)(r:aV s.heap y v)(q:Q (bz e i y) σ):aM c.M A (storeName env x v) (kJ c X env ks σ s Q) No s:=by
 subst hx
 have hi:i<nN:=by rcases hk with hk |hk<;>exact N.ok.lt hk
 have jm:=N.ok.kindOf hi
 rcases hk with hl |hl
 ·rw[hl]at jm
  refine a9 N.fr.ns λm hm hv=>?_
  refine wpAny_storeName_local jm hm (λh' hn hs=>?_) (by rw[N.ok.kind];rfl)
  have tl:∀items k,s.heap.get? env.locals≠some (d7 items k):=HU N (.inl rfl)
  have tu:gq s.heap h':=λb items k eb=>hs.extBut b _ (λz=>by subst z;exact tl _ _ eb) eb
  refine⟨_,_,⟨N.rel.but hs.extBut N.fr.t4 N.fr.yR tl,⟨λb o nb eb u=>hs.extBut b o (λz=>nb (hX _ (.inl z))) eb,λu u u u z=>z,λu u z u=>z,λb o eb=>by
    by_cases z:b=env.locals
    ·obtain⟨o',_,_,c7,_⟩:=hn;exact⟨o',z▸c7⟩
    ·exact⟨o,hs.extBut b o z eb⟩⟩,rfl,rfl⟩,
   ⟨⟨_,hn,λj w hj hw=>?_⟩,N.fr.t4,N.fr.yR,λj hj=>?_⟩,q⟩
  ·by_cases z:j=i
   ·subst z;rw[hH]at hw;obtain rfl:=bt hw;exact⟨v,by simp,r.bQ tu⟩
   ·rw[ox z]at hw
    refine a9 (hv j w hj hw) λy' h1 h2=>?_;have:nm j≠nm i:=λq=>z (oE (N.ok.lt hj) hi q)
    exact⟨y',by simp only[this,if_false];exact h1,h2.bQ tu⟩
  ·obtain⟨a,y',h1,⟨o,ho,hd⟩,h3,h4,h5⟩:=N.fr.cells j hj
   have na:a≠env.locals:=λz=>by
    obtain⟨o',es,ep,c7,fQ,_⟩:=hm;subst z;obtain rfl:=bt (ho.symm.trans c7);rw[hd]at fQ;exact Aw fQ
   refine⟨a,y',h1,⟨o,hs.extBut _ _ na ho,hd⟩,h3,h4,λw hw=>?_⟩
   have ji:j≠i:=λz=>by subst z;rw[hl]at hj;rcases hj with hj |hj<;>cases hj
   rw[ox ji]at hw;refine a9 (h5 w hw) λy2 h6 h7=>?_
   exact⟨y2,h6,h7.bQ tu⟩
 ·rw[hl]at jm
  refine mX (N.fr.cells i (.inl hl)) λa y0 h1 hc h3 h4 h5=>?_;refine wpAny_storeName_cell N.ok.kind jm h1 hc λh' pS hs=>?_;obtain⟨oc,HV,Cf⟩:=id hc;have tl:∀items k,s.heap.get? a≠some (d7 items k):=HU N (.inr ⟨i,hl,h1⟩)
  have tu:gq s.heap h':=λb items k eb=>hs.extBut b _ (λz=>by subst z;exact tl _ _ eb) eb
  refine⟨_,_,⟨N.rel.but hs.extBut h3 h4 tl,⟨λb o nb eb u=>hs.extBut b o (λz=>nb (hX _ (.inr ⟨hl,z▸h1⟩))) eb,λu u u u z=>z,λu u z u=>z,λb o eb=>by
    by_cases z:b=a
    ·obtain⟨o2,iZ,_⟩:=pS;exact⟨o2,z▸iZ⟩
    ·exact⟨o,hs.extBut b o z eb⟩⟩,rfl,rfl⟩,
   ⟨?_,N.fr.t4,N.fr.yR,λj hj=>?_⟩,q⟩
  ·obtain⟨m,⟨o,es,ep,ho,hd,hr⟩,hv⟩:=N.fr.ns
   have na:env.locals≠a:=λz=>by
    rw[z,HV]at ho;obtain rfl:=bt ho;rw[hd]at Cf;exact Aw Cf
   refine⟨m,⟨o,es,ep,hs.extBut _ _ na ho,hd,hr⟩,λj w hj hw=>?_⟩
   have ji:j≠i:=λz=>by subst z;rw[hl]at hj;cases hj
   rw[ox ji]at hw;refine a9 (hv j w hj hw) λy' h6 h7=>?_
   exact⟨y',h6,h7.bQ tu⟩
  ·by_cases z:j=i
   ·subst z
    exact⟨a,_,h1,pS,h3,h4,λw hw=>by rw[hH]at hw;obtain rfl:=bt hw;exact⟨v,rfl,r.bQ tu⟩⟩
   ·obtain⟨a',y',g1,⟨o,ho,hd⟩,g3,g4,g5⟩:=N.fr.cells j hj
    have wA:j<nN:=by rcases hj with hj |hj<;>exact N.ok.lt hj
    have na:a'≠a:=λq=>z (N.ok.apart j i a wA hi (q▸g1) h1);refine⟨a',y',g1,⟨o,hs.extBut _ _ na ho,hd⟩,g3,g4,λw hw=>?_⟩;rw[ox z]at hw;refine a9 (g5 w hw) λy2 h6 h7=>?_;exact⟨y2,h6,h7.bQ tu⟩
theorem HW{X:Addr→Prop}{t:Sem Unit}{Q:aL→St→Prop}(w:c8 c X σ s bT bg)(h:aM c.M A t (kJ c X env ks bT bg Q) No bg):aM c.M A t (kJ c X env ks σ s Q) No bg:=
 b0 h (kJ.after w) λo o z=>z
theorem HX{t:Sem Flow}{Q:dy→aL→St→Prop}(w:c8 c (eU env ks) σ s bT bg)(h:aM c.M A t (hM c env ks bT bg Q) No bg):aM c.M A t (hM c env ks σ s Q) No bg:=
 b0 h (hM.after w) λo o z=>z
theorem wB{X:Addr→Prop}{t:Sem Unit}{Q1:aL→St→Prop}{R:Unit→aw→Prop}(h:aM c.M A t (kJ c X env ks σ s Q1) No s)
  (k:∀e' ae s',c8 c X σ s ae s'→eY c env ks e' ae s'.heap→Q1 e' ae→R () s'):aM c.M A t R No s:=
 b0 h (λv s' ⟨e',ae,w,f,q⟩=>k e' ae s' w f q) λo o z=>z
theorem adm{t:Sem Flow}{Q1:dy→aL→St→Prop}{R:Flow→aw→Prop}(h:aM c.M A t (hM c env ks σ s Q1) No s)
  (k:∀fl f e' ae s',ub s'.heap fl f→c8 c (eU env ks) σ s ae s'→eY c env ks e' ae s'.heap→Q1 fl e' ae→R f s'):aM c.M A t R No s:=
 b0 h (λv s' ⟨fl,e',ae,r,w,f,q⟩=>k fl v e' ae s' r w f q) λo o z=>z
noncomputable def fN:Option gC→Bool
 |some .local |some .cell=>true
 |_=>false
theorem oF{k:Option gC}(h:fN k=true):k=some .local∨k=some .cell:=by
 induction k with
 |none=>exact eP h
 |some k=>cases k<;>first |exact .inl rfl |exact .inr rfl |exact eP h
noncomputable def aName(i:Nat):AM:=λv e σ Q=>Q (bz e i v) σ
theorem HY:∀b,b=env.locals∨(ks.lookup i=some .cell∧env.cells.lookup (nm i)=some b)→eU env ks b:=λb h=>by
 rcases h with h |⟨h1,h2⟩
 ·exact .inl h
 ·exact .inr ⟨i,h1,h2⟩
noncomputable abbrev pq(ks:Ks):Env→Addr→Prop:=λenv=>eU env ks
noncomputable def jS(raw kc:Ks):Env→Addr→Prop:=λenv b=>b=env.locals∨∃i,fN (raw.lookup i)=true∧kc.lookup i=some .cell∧env.cells.lookup (nm i)=some b
theorem jS.Fy{kc:Ks}:∀env b,jS raw kc env b→eU env kc b:=λenv b h=>by
 rcases h with h |⟨i,_,h1,h2⟩
 ·exact .inl h
 ·exact .inr ⟨i,h1,h2⟩
theorem eG.name{x:bA}{pos:Pos}(i:Nat)(hx:nm i=x)(hk:fN (ks.lookup i)=true):eG c n ks (pq ks) (.Name x pos) (aName i):=λA env e σ s x1 v Q N r q=>
 wpAny_assign_Name (Ce HY hx (oF hk) N r q)
theorem eG.Z0{raw:Ks}{x:bA}{pos:Pos}(i:Nat)(hx:nm i=x)(hk:fN (ks.lookup i)=true)(hr:fN (raw.lookup i)=true):eG c n ks (jS raw ks) (.Name x pos) (aName i):=λA env e σ s x1 v Q N r q=>
 wpAny_assign_Name (Ce (λb h=>by
  rcases h with h |⟨h1,h2⟩
  ·exact .inl h
  ·exact .inr ⟨i,hr,h1,h2⟩) hx (oF hk) N r q)
noncomputable def az:SM:=λe σ Q=>Q .next e σ
noncomputable def ah(m1 m2:SM):SM:=λe σ Q=>m1 e σ λfl e' ae=>match fl with |.next=>m2 e' ae Q |f=>Q f e' ae
theorem eQ.nil:eQ c n ks [] az:=λA env e σ s Q N q=>EX ⟨.next,_,_,.next,(bK.refl N.rel).dA _,N.fr,q⟩
theorem eQ.cons{x:Stmt}{xs:List Stmt}{m1 m2:SM}(h1:cF c n ks x m1)(h2:eQ c n ks xs m2):eQ c n ks (x::xs) (ah m1 m2):=λA env e σ s Q N q=>by
 refine wpAny_execs_cons (adm (h1 N q) λfl f e' ae s' r w F q'=>?_)
 induction r with
 |next=>exact HX w (h2 (N.moved F w.rel) q')
 |brk=>exact⟨_,_,_,.brk,w,F,q'⟩
 |cont=>exact⟨_,_,_,.cont,w,F,q'⟩
 |ret r=>exact⟨_,_,_,.ret r,w,F,q'⟩
noncomputable def aP(m:EM)(a:AM):SM:=λe σ Q=>m e σ λv ao=>a v e ao λe' ae=>Q .next e' ae
theorem cF.assign{t x:Expr}{pos:Pos}{m:EM}{a:AM}(h:aH c n ks x m)(ha:eG c n ks (pq ks) t a)
  (hs:∀env,jj c env ks→swapsWithSole [t] x pos.line env=pure false)(hw:∀env,jj c env ks→qt [t] x env=pure none)(he:autoParam (∀env,qw [t] env=[(false,AX t env)]) aI):cF c n ks (.Assign [t] x pos) (aP m a):=λA env e σ s Q N q=>by
 rw[exec_Assign,hs _ N.ok];refine aC (kZ (aC (aO ?_)))
 rw[if_neg (by decide)]
 refine aC (wp_step (h N q) λy v ao s1 r w q1=>?_);rw[hw _ N.ok];refine aC (aO ?_)
 show aM c.M A (do assignAll v ((qw [t] env).map (λx=>x.2));pure Flow.next) _ _ _
 rw[he];exact aC (wB (ha (N.bu w) r q1) λe' ae s' w' f' q'=>aO ⟨_,_,_,.next,(w.dA _).trans w',f',q'⟩)
noncomputable def cw(m:EM):SM:=λe σ Q=>m e σ λz ao=>Q .next e ao
noncomputable def bh(m:EM):SM:=λe σ Q=>m e σ λv ao=>Q (.ret v) e ao
noncomputable def BR:SM:=λe σ Q=>Q (.ret .none) e σ
noncomputable def BQ:SM:=λe σ Q=>Q .brk e σ
noncomputable def yD:SM:=λe σ Q=>Q .cont e σ
noncomputable def bC(t:TM)(a b:SM):SM:=λe σ Q=>t e σ λv ao=>if v=true then a e ao Q else b e ao Q
theorem QK(ok:jj c env ks):interactive env=false:=by
 unfold interactive;rw[ok.kind];rfl
theorem cF.expr{x:Expr}{pos:Pos}{m:EM}(h:aH c n ks x m)(hs:autoParam (∀env,mS x none pos.line env=pure false) aI):cF c n ks (.Expr x pos) (cw m):=λA wx e σ s Q N q=>
 wpAny_Expr_any (wp_step (h N q) λy v ao s1 r w q1=>⟨_,_,_,.next,w.dA _,(N.bu w).fr,q1⟩) (QK N.ok) (hs _)
theorem cF.ret{x:Expr}{pos:Pos}{m:EM}(h:aH c n ks x m):cF c n ks (.Return (some x) pos) (bh m):=λA env e σ s Q N q=>
 wpAny_Return_some (wp_step (h N q) λy v ao s1 r w q1=>⟨_,_,_,.ret r,w.dA _,(N.bu w).fr,q1⟩)
theorem cF.aax{pos:Pos}:cF c n ks (.Return none pos) BR:=λA env e σ s Q N q=>
 wpAny_Return_none ⟨_,_,_,.ret .none,(bK.refl N.rel).dA _,N.fr,q⟩
theorem cF.brk{pos:Pos}:cF c n ks (.Break pos) BQ:=λA env e σ s Q N q=>wpAny_Break ⟨_,_,_,.brk,(bK.refl N.rel).dA _,N.fr,q⟩
theorem cF.cont{pos:Pos}:cF c n ks (.Continue pos) yD:=λA env e σ s Q N q=>wpAny_Continue ⟨_,_,_,.cont,(bK.refl N.rel).dA _,N.fr,q⟩
theorem cF.ite{x:Expr}{a b:List Stmt}{pos:Pos}{t:TM}{ma mb:SM}(h:gI c n ks x t)(ha:eQ c n ks a ma)(hb:eQ c n ks b mb):cF c n ks (.If x a b pos) (bC t ma mb):=λA env e σ s Q N q=>by
 refine wpAny_If (yT (h _ rfl N q) λb ao s1 w q1=>?_)
 induction b with
 |true=>simp only[if_true]at q1 ⊢;exact HX (w.dA _) (ha (N.bu w) q1)
 |false=>simp only[pd,if_false]at q1 ⊢;exact HX (w.dA _) (hb (N.bu w) q1)
end
section
open PySem.SeqAt
noncomputable def iW{α:Type}(vs:List α)(i:Int):Option α:=if-(2^62)≤i∧i<2^62 then(if 0≤i then vs[i.toNat]? else if-(vs.length:Int)≤i then vs[(i+vs.length).toNat]? else none)else none
theorem Cg{α:Type}{vs:List α}{i:Int}{x:α}(h:iW vs i=some x):-(2^62)≤i∧i<2^62:=by
 unfold iW at h
 by_cases g:-(2^62)≤i∧i<2^62
 ·exact g
 ·exact bo ((if_neg g).symm.trans h)
theorem adn{α:Type}(vs:List α)(i:Nat)(h:i<1000):iW vs (i:Int)=vs[i]?:=by
 unfold iW;rw[if_pos (Zj (by assumption)),if_pos (fX _)];rfl
theorem QL{i:Int}{n:Nat}(e:(if i<0 then i+n else i)=j)(h:j<n):A4 i n=some j:=by
 unfold A4;simp only[e];rw[decide_eq_true (fX _),decide_eq_true (dN.2 h)];rfl
theorem QM{α:Type}{vs:List α}{i:Int}{x:α}(h:iW vs i=some x):∃j,A4 i vs.length=some j∧vs[j]?=some x:=by
 have g:=Cg h;unfold iW at h;rw[if_pos g]at h
 by_cases h0:0≤i
 ·rw[if_pos h0]at h
  exact⟨i.toNat,QL (by rw[if_neg (nZ.2 h0)];exact(YQ h0).symm) (iL.1 h).1,h⟩
 ·rw[if_neg h0]at h
  by_cases h1:-(vs.length:Int)≤i
  ·rw[if_pos h1]at h
   exact⟨(i+vs.length).toNat,QL (by rw[if_pos (Int.not_le.1 h0)];exact(YQ (Zk h1)).symm) (iL.1 h).1,h⟩
  ·exact bo ((if_neg h1).symm.trans h)
theorem ado(slice:Expr)(o i:ak):∃ops,subscripted slice false o i=operate ops (getItem o i):=by
 cases slice with
 |Slice l u st p=>cases st<;>exact⟨_,rfl⟩
 |_=>exact⟨_,rfl⟩
section
variable{c:Cx}{n:Nat}{ks:Ks}{A:bj}{env:Env}{e:aL}{σ:St}{s:aw}
theorem pT{o i:ak}{T id:String}{Q:ak→aw→Prop}(hT:s.TypeIs o T)
  (hl:tD (.type T) "__getitem__"=pure (some (.builtin id)))(hg:aM c.M A (getItem o i) Q No s):aM c.M A (Md value slice o i) Q No s:=
 let⟨ops,e⟩:=ado slice o i
 tail_any (ops:=ops) hT hl hg e
inductive qJ(σ:St)(Q:CV→St→Prop):CV→CV→Prop
 |tup {vs:List CV} {i:Int} {v:CV} (h:iW vs i=some v) (q:Q v σ):qJ σ Q (.tup vs) (.int i)
 |kz {b:List UInt8} {i:Nat} {v:UInt8} (h1:b.length≤1099511627776) (h:b[i]?=some v) (q:Q (.int v.toNat) σ):qJ σ Q (.bytes b) (.int i)
 |str {b:Str} {i:Int} {v:Nat} (h:iW b.cps.toList i=some v) (q:Q (.str ⟨#[v]⟩) σ):qJ σ Q (.str b) (.int i)
 |li {a:Addr} {i:Int} {vs:List CV} {v:CV} (h1:σ a=some (.list vs)∨σ a=some (.ro vs)) (h:iW vs i=some v) (q:Q v σ):qJ σ Q (.loc a) (.int i)
 |dI {a:Addr} {i:Int} {es:List (Int×CV)} {v:CV} (h1:σ a=some (.dI es)) (h:bB es i=some v) (q:Q v σ):qJ σ Q (.loc a) (.int i)
 |dB {a:Addr} {i:List UInt8} {es:List (List UInt8×CV)} {v:CV} (h1:σ a=some (.dB es)) (h:bB es i=some v) (q:Q v σ):qJ σ Q (.loc a) (.bytes i)
 |dS {a:Addr} {i:Str} {es:List (Str×CV)} {v:CV} (h1:σ a=some (.dS es)) (h:bB es i=some v) (q:Q v σ):qJ σ Q (.loc a) (.str i)
noncomputable def vQ(x y:CV):VM:=λσ Q=>qJ σ Q x y
theorem uc(R:Rel c σ s.heap){vs:List CV}(h:σ a=some (.list vs)∨σ a=some (.ro vs)):∃items n,s.heap.get? a=some (listOf items n)∧aN s.heap vs items.toList:=by
 rcases h with h |h
 ·obtain⟨_,r⟩:=R.objs _ _ h;exact r
 ·obtain⟨_,r⟩:=R.objs _ _ h;exact r
theorem cZ.val{κ:Type}[DecidableEq κ]{h:Heap}{es:List (κ×CV)}{kvs:List (κ×ak)}(r:cZ h es kvs){k:κ}(e:bB es k=some x):∃v,valueAt kvs k=some v∧aV h x v:=by
 rcases r.at k with⟨h1,_⟩ |⟨y,u,h1,h2,h3⟩
 ·exact bo (h1.symm.trans e)
 ·obtain rfl:=(bt (h1.symm.trans e)).symm;exact⟨u,h2,h3⟩
theorem adp{w:ak}(R:Rel c σ s.heap)(r:aV s.heap x v)(r':aV s.heap y w)(q:vQ x y σ Q):
  aM c.M A (Md value slice v w) (cC c σ s Q) No s:=by
 change qJ σ Q x y at q
 induction q with
 |tup hz q=>
  refine f7 r.jl λa items n aq eL rs=>?_;subst aq;refine xe r'.bZ λt aq=>?_;subst aq;have hU:=Cg hz;refine a9 (QM hz) λj h1 h2=>?_;refine a9 (rs.get h2) λu h3 h4=>?_;have ht:IsTup s.heap a items:=⟨_,eL,rfl,n,rfl⟩
  exact pT ht.typeIs slot_tuple_getitem.lookup (PyProof.Rows.getItem_tuple ht (rO (by decide) hU.1) (tm hU.2 (by decide)) (rs.size▸h1) (by rw[←vq];exact h3) (pR R h4 q))
 |kz h1 hz q=>
  refine xe r.fP λt aq=>?_;subst aq;refine xe r'.bZ λu aq=>?_;subst aq;have hl:=(List.getElem?_eq_some_iff.mp hz).1;refine pT (fZ _ _ _) FB.slot_bytes_getitem.lookup (W.getItem_bytes h1 (fX _) (dN.2 hl) ?_);rw[pe,dG,hz]
  exact dq R (.int _ _) q
 |@str b i z hz q=>
  refine xe r.pQ λt aq=>?_;subst aq;refine xe r'.bZ λu aq=>?_;subst aq;have hU:=Cg hz;refine a9 (QM hz) λj h1 h2=>?_
  refine pT (typeIs_str _ _ _) slot_str_getitem.lookup (PyProof.Rows.getItem_str (by simp;exact Zl hU) ?_ (dq R (.str _ _) q))
  rw[show A4 i b.length=some j from h1];exact(vq ..).symm.trans h2
 |@li a i vs z h0 hz q=>
  obtain rfl:=r.dj;refine xe r'.bZ λt aq=>?_;subst aq;refine gH (uc R h0) λitems n eL rs=>?_;have hU:=Cg hz;have hl:=rs.size;have ht:=dJ eL;refine pT ht.typeIs slot_list_getitem.lookup ?_;unfold iW at hz;rw[if_pos hU]at hz
  by_cases h0:0≤i
  ·rw[if_pos h0]at hz
   refine a9 (rs.get hz) λu h3 h4=>?_
   exact wpAny_getItem_list ht h0 (tm hU.2 (by decide)) (by rw[←vq];exact h3) (pR R h4 q)
  ·rw[if_neg h0]at hz
   split at hz
   ·refine a9 (rs.get hz) λu h3 h4=>?_
    exact wpAny_getItem_list_neg ht (Int.not_le.1 h0) (by rw[←hl];assumption) (rO (by decide) hU.1) (by rw[←hl,←vq];exact h3) (pR R h4 q)
   ·exact bo hz
 |dI h0 hz q=>
  obtain rfl:=r.dj;refine xe r'.bZ λt aq=>?_;subst aq;obtain⟨_,kvs,hd,hr⟩:=R.objs _ _ h0;refine a9 (hr.val hz) λu h2 h3=>?_
  exact pT hd.typeIs slot_dict_getitem.lookup (Y8 (Fl _ _ _ _) hd.mapOf h2 (dq R h3 q))
 |dB h0 hz q=>
  obtain rfl:=r.dj;refine xe r'.fP λt aq=>?_;subst aq;obtain⟨_,kvs,hd,hr⟩:=R.objs _ _ h0;refine a9 (hr.val hz) λu h2 h3=>?_
  exact pT hd.typeIs slot_dict_getitem.lookup (Y8 (E9 _ _ _ _) hd.mapOf h2 (dq R h3 q))
 |dS h0 hz q=>
  obtain rfl:=r.dj;refine xe r'.pQ λt aq=>?_;subst aq;obtain⟨_,kvs,hd,hr⟩:=R.objs _ _ h0;refine a9 (hr.val hz) λu h2 h3=>?_;exact pT hd.typeIs slot_dict_getitem.lookup (Y8 (A3 _ _ _ _) hd.mapOf h2 (dq R h3 q))
noncomputable def bc(m1 m2:EM):EM:=λe σ Q=>m1 e σ λx ao=>m2 e ao λy ay=>vQ x y ay Q
theorem aH.item{x y:Expr}{pos:Pos}{m1 m2:EM}(h1:aH c n ks x m1)(h2:aH c n ks y m2):aH c n ks (.Subscript x y pos) (bc m1 m2):=λA env e σ s Q N q=>
 Subscript_ (wp_step (h1 N q) λx v ao s1 r1 w1 q1=>wp_step (h2 (N.bu w1) q1) λy w ay s2 r2 w2 q2=>
  iE (w1.trans w2) (adp w2.rel (r1.bu w1.rel w2) r2 q2))
end
end
section
open PySem.SeqAt
theorem adq(k n:Nat)(hk:k≤n):YB none (some (k:Int)) 1 (n:Int)=(0,(k:Int)):=by
 unfold YB
 have h1:¬((1:Int)<0):=by exact by decide
 have h2:¬((k:Int)<0):=by exact nZ.2 (fX _)
 simp only[h1,h2,if_false]
 congr 1
 exact Int.min_eq_left (ki.2 hk)
theorem ads(k:Nat):Lb 0 (k:Int) 1=k:=by
 unfold Lb
 have h1:(1:Int)>0:=by exact fX _
 simp only[h1,if_true,Int.ediv_one]
 split
 ·exact Zm k
 ·exact Zn (by assumption)
theorem adt{A:bj}{s:aw}{k n:Nat}{Q:Int×Int×Nat→aw→Prop}(hs:s.heap.IsSliceOf sl .none (.int k u) .none)(hk:k≤n)(h:Q (0,1,k) s):
  aM (model prog w) A (alb (.ref sl) (pure (n:Int))) Q E s:=by
 obtain⟨os,sE,y4,qK⟩:=id hs;unfold alb Builtin.Slice.sliceFields;refine aC (aC (wpAny_field sE qK (x:=.none) rfl (aC (wpAny_field sE qK (x:=.int k u) rfl (aC (wpAny_field sE qK (x:=.none) rfl (aO ?_)))))));refine aC (slicePart_none ?_)
 show aM _ _ (if((1:Int)==0)=true then _ else _) _ _ s
 rw[if_neg (by decide)]
 refine aC (slicePart_none (aC (slicePart_int (aC (aO ?_)))))
 show aM _ _ (match YB none (some (k:Int)) 1 (n:Int)with |(lo,hi)=>pure (lo,(1:Int),Lb lo hi 1)) _ _ s
 rw[adq k n hk];show aM _ _ (pure ((0:Int),(1:Int),Lb 0 (k:Int) 1)) _ _ s;rw[ads k];exact aO h
theorem adu(xs:Array ak)(k:Nat):((cS k).filterMap λ(j:Nat)=>xs[((0:Int)+(j:Int)*1).toNat]?).toArray=(xs.toList.take k).toArray:=by
 have e:(λ(j:Nat)=>xs[((0:Int)+(j:Int)*1).toNat]?)=λj=>xs[0+j]?:=by
  funext j
  have:((0:Int)+(j:Int)*1).toNat=0+j:=by exact tC ..
  rw[this]
 rw[e];have:=pick_run xs 0 k;rw[YW]at this;have e2:((λx=>xs[x]?)∘λx=>0+x)=λj=>xs[0+j]?:=rfl;rw[e2]at this;rw[this];simp
theorem adv{A:bj}{s:aw}{t:Addr}{k:Nat}{Q:ak→aw→Prop}(ht:IsTup s.heap t items)(hs:s.heap.IsSliceOf sl .none (.int k u) .none)(hk:k<items.size)
  (h:Q (.ref s.heap.objs.size) {s with heap:=s.heap.push {cls:=.type "tuple",data:=.seq (items.toList.take k).toArray}})
  (dK:items.size≤mT):aM (model prog w) A (getItem (.ref t) (.ref sl)) Q E s:=by
 have Ci:sizeOk (.seq (items.toList.take k).toArray):=by
  show(items.toList.take k).toArray.size≤mT;rw[xK,Ly,mI];exact aR (Nat.min_le_right ..) dK
 obtain⟨os,sE,y4,qK⟩:=id hs;have hTs:s.TypeIs (.ref sl) "slice":=⟨os,sE,y4⟩;unfold getItem
 try with_reducible refine jf ?_
 first |refine aC (aO ?_) |skip
 refine aC (wpAny_sequenceKey ht.typeIs (by decide) ?_)
 refine aC (Av (name:=ax "__getitem__") ht.typeIs slot_tuple_getitem
  (rH slot_tuple_getitem ht.typeIs entry_tuple_getitem ?_ (args_tuple_getitem _ _)))
 show aM _ _ (Builtin.Tuple.tupleItemsOf (.ref t) >>= _) _ _ s;refine aC (tupleItemsOf_ ht ?_);refine aC (xR hTs ?_)
 rw[if_pos (by decide)]
 refine aC (adt hs (iQ hk) ?_)
 have QH:¬(((0:Int)==0&&(1:Int)==1&&k==items.size)=true):=by
  have:(k==items.size)=false:=by rw[beq_eq_false_iff_ne];exact iP hk
  rw[this];simp
 show aM _ _ (if((0:Int)==0&&(1:Int)==1&&k==items.size)=true then _ else _) _ _ s
 rw[if_neg QH,adu items k]
 first
  |exact aC (m:=Li _) (rF (aO ⟨_,rfl,aO h⟩) Ci)
  |exact aC (m:=Li _) (rF (aC (aO (aO ⟨_,rfl,aO h⟩))) Ci)
  |exact aC (aC (m:=Li _) (rF (aO (aO ⟨_,rfl,aO h⟩)) Ci))
  |exact aC (aC (m:=Li _) (rF (aO ⟨_,rfl,aO h⟩) Ci))
theorem adw(items:Array ak)(m:Nat)(hm:m≤items.size):List.filterMap ((λx=>items[x]?)∘λ(i:Nat)=>((items.size:Int)- 1+-1*i).toNat) (cS m)=items.toList.reverse.take m:=by
 induction m with
 |zero=>rfl
 |succ m ih=>
  have hl:items.size- 1- m<items.size:=Zr hm;rw[List.range_succ,List.filterMap_append,ih (AF hm),Lv,List.getElem?_reverse hm,mI,vq,o9 hl]
  have e2:items[((items.size:Int)- 1+-1*(m:Int)).toNat]?=some items[items.size- 1- m]:=by
   rw[show((items.size:Int)- 1+-1*(m:Int)).toNat=items.size- 1- m from Zt hm,o9 hl]
  simp only[List.filterMap_cons,Mf,e2,List.filterMap_nil]
  rfl
theorem adx(items:Array ak):slicePick items none none (some (-1))=items.toList.reverse.toArray:=by
 show(List.filterMap (λ(i:Nat)=>items[i]?) ((cS (if((items.size:Int)- 1)>-1 then(((items.size:Int)- 1- -1- -1- 1)/ -(-1))else 0).toNat).map λ(i:Nat)=>((items.size:Int)- 1+-1*i).toNat)).toArray=_
 have hlen:(if((items.size:Int)- 1)>-1 then(((items.size:Int)- 1- -1- -1- 1)/ -(-1))else 0).toNat=items.size:=by
  rw[show(-(-1):Int)=1 from rfl,Int.ediv_one]
  split
  ·exact Zo _
  ·exact Zp (by assumption)
 rw[hlen,YW,adw items _ (cP _),vo (by rw[EI];exact cP _)]
section
variable{c:Cx}{n:Nat}{ks:Ks}{A:bj}{env:Env}{e:aL}{σ:St}{s:aw}
inductive y5(σ:St)(Q:CV→St→Prop):CV→Int→Prop
 |tup {vs:List CV} {k:Nat} (h:k<vs.length) (hl:vs.length≤1000) (q:Q (.tup (vs.take k)) σ):y5 σ Q (.tup vs) k
 |li {a:Addr} {vs:List CV} {k:Nat} (h:σ a=some (.list vs)∨σ a=some (.ro vs)) (hl:vs.length≤1000) (q:σ.new (.list (vs.take k)) Q):y5 σ Q (.loc a) k
 |kz {b:List UInt8} {k:Nat} (hl:b.length≤16777216) (q:Q (.bytes (b.take k)) σ):y5 σ Q (.bytes b) k
noncomputable def yA(x:CV)(k:Int):VM:=λσ Q=>y5 σ Q x k
noncomputable def ady(x:CV)(j k:Nat):VM:=λσ Q=>∃a vs,x=.loc a∧σ a=some (.list vs)∧j≤k∧k≤vs.length∧vs.length≤1000∧σ.new (.list ((vs.drop j).take (k- j))) Q
noncomputable def QN(x:CV):VM:=λσ Q=>∃a vs,x=.loc a∧σ a=some (.list vs)∧vs.length≤1000∧σ.new (.list vs.reverse) Q
theorem HZ{vs:List CV}{vl vu vk:ak}{lo hi st:Option Int}(R:Rel c σ s.heap)(h:σ a=some (.list vs)∨σ a=some (.ro vs))(hz:vs.length≤1000)
  (pl:IsPart vl lo)(pu:IsPart vu hi)(ps:IsPart vk st)(h0:st≠some 0)(hw:∀items:Array ak,aN s.heap vs items.toList→aN s.heap ws (slicePick items lo hi st).toList)(q:σ.new (.list ws) Q):
  aM c.M A (Md value slice (.ref a) (.ref s.heap.objs.size)) (cC c σ s Q) No {s with heap:=s.heap.push {cls:=.type "slice",data:=.fields #[vl,vu,vk]}}:=by
 refine gH (uc R h) λitems n eL rs=>?_;have w1:=t6 (s:=s) (o:={cls:=.type "slice",data:=.fields #[vl,vu,vk]}) R;have hl:(s.heap.push {cls:=.type "slice",data:=.fields #[vl,vu,vk]}).IsList a items:=(dJ eL).push _
 have hs:items.size≤mT:=by
  have:vs.length=items.size:=by simpa using rs.length
  exact dQ (this▸hz)
 refine iE w1 (pT (Heap.IsList.typeIs (s:={s with heap:=s.heap.push {cls:=.type "slice",data:=.fields #[vl,vu,vk]}}) hl) slot_list_getitem.lookup
  (wpAny_getItem_list_slice (s:={s with heap:=s.heap.push {cls:=.type "slice",data:=.fields #[vl,vu,vk]}}) hl (YX ..) pl pu ps h0 ?_ hs))
 have:=HB (s:={s with heap:=s.heap.push {cls:=.type "slice",data:=.fields #[vl,vu,vk]}}) w1.rel ((hw items rs).bu R w1) q
 simpa using this
theorem adz{k:Int}(R:Rel c σ s.heap)(r:aV s.heap x v)(q:yA x k σ Q):
  aM c.M A (Md value slice v (.ref s.heap.objs.size)) (cC c σ s Q) No {s with heap:=s.heap.push {cls:=.type "slice",data:=.fields #[.none,.int k u,.none]}}:=by
 have w1:=t6 (s:=s) (o:={cls:=.type "slice",data:=.fields #[.none,.int k u,.none]}) R;change y5 σ Q x k at q
 induction q with
 |@li a vs k h1 h3 q=>
  obtain rfl:=r.dj
  exact HZ R h1 h3 .none (.int _ _) .none (λz=>bo z) (λitems rs=>by rw[slicePick_upto'];exact rs.take k) q
 |@tup vs k h2 h3 q=>
  refine f7 r.jl λa items n aq eL rs=>?_;subst aq;have hl:=rs.size;have ht:IsTup (s.heap.push {cls:=.type "slice",data:=.fields #[.none,.int k u,.none]}) a items:=⟨_,dY _ eL,rfl,n,rfl⟩
  refine iE w1 (pT (IsTup.typeIs (s:={s with heap:=s.heap.push {cls:=.type "slice",data:=.fields #[.none,.int k u,.none]}}) ht) slot_tuple_getitem.lookup
   (adv (s:={s with heap:=s.heap.push {cls:=.type "slice",data:=.fields #[.none,.int k u,.none]}}) ht (YX ..) (hl▸h2) ?_ (hl▸dQ h3)))
  exact HC (s:={s with heap:=s.heap.push {cls:=.type "slice",data:=.fields #[.none,.int k u,.none]}}) w1.rel ((rs.take k).bu R w1) q
 |@kz b k h2 q=>
  refine xe r.fP λt aq=>?_;subst aq
  refine iE w1 (pT (fZ _ _ _) FB.slot_bytes_getitem.lookup (getItem_meets (fZ _ _ _) (by decide) FB.slot_bytes_getitem FB.entry_bytes_getitem (FB.args_bytes_getitem_2 _ _) (KBc.meets_slice2 b.toArray t _ (lo:=none) (hi:=some (k:Int)) .none (.int _ _))
   ⟨YX _ _ _ _,aR (KBc.size_picked_le _ _ _) (by rw[A1];simpa using h2),λt' j=>?_⟩))
  have e:KBy.picked b.toArray none (some (k:Int))=(b.take k).toArray:=by
   rw[KBc.picked_eq];simp[clipAt_nat]
  rw[e]
  exact dq (s:={s with heap:=_}) w1.rel (.bytes _ _) q
noncomputable def jW(m1 m2:EM):EM:=λe σ Q=>m1 e σ λx ao=>m2 e ao λy ay=>∃k,y=.int k∧yA x k ay Q
theorem aH.Z8{x y:Expr}{pos p:Pos}{m1 m2:EM}(h1:aH c n ks x m1)(h2:aH c n ks y m2):aH c n ks (.Subscript x (.Slice none (some y) none p) pos) (jW m1 m2):=λA env e σ s Q N q=>
 Subscript_ (wp_step (h1 N q) λx v ao s1 r1 w1 q1=>wpAny_Slice (aO (wp_step (h2 (N.bu w1) q1) λy w ay s2 r2 w2 q2=>aO (by
  obtain⟨k,rfl,q2⟩:=q2;refine xe r2.bZ λt aq=>?_;subst aq
  exact b0 (adz w2.rel (r1.bu w1.rel w2) q2) (cC.after (w1.trans w2)) λo o z=>z))))
noncomputable def Hg(m1 m2 m3:EM):EM:=λe σ Q=>m1 e σ λx ao=>m2 e ao λy ay=>m3 e ay λz aQ=>∃j k:Nat,y=.int j∧z=.int k∧ady x j k aQ Q
theorem aH.fromTo{x y z:Expr}{pos p:Pos}{m1 m2 m3:EM}(h1:aH c n ks x m1)(h2:aH c n ks y m2)(h3:aH c n ks z m3):aH c n ks (.Subscript x (.Slice (some y) (some z) none p) pos) (Hg m1 m2 m3):=λA env e σ s Q N q=>
 Subscript_ (wp_step (h1 N q) λx v ao s1 r1 w1 q1=>wpAny_Slice (wp_step (h2 (N.bu w1) q1) λy w ay s2 r2 w2 q2=>wp_step (h3 ((N.bu w1).bu w2) q2) λz w3 aQ s3 r3 w3 q3=>aO (by
  obtain⟨j,k,rfl,rfl,a,vs,rfl,g1,g3,g4,g5,q3⟩:=q3;refine xe r2.bZ λt aq=>?_;subst aq;refine xe r3.bZ λu aq=>?_;subst aq;obtain rfl:=r1.dj;refine b0 (HZ w3.rel (.inl g1) g5 (.int _ _) (.int _ _) .none (λz=>bo z) (λitems rs=>?_) q3) (cC.after ((w1.trans w2).trans w3)) λo o z=>z;rw[slicePick_run _ _ _ (rs.size▸g4) g3]
  exact(rs.drop j).take (k- j))))
noncomputable def yC(m1:EM):EM:=λe σ Q=>m1 e σ λx ao=>QN x ao Q
theorem aH.rev{x y:Expr}{pos p:Pos}{m1:EM}(h1:aH c n ks x m1)(h2:aH c n ks y (au (.int (-1)))):aH c n ks (.Subscript x (.Slice none none (some y) p) pos) (yC m1):=λA env e H3 s Q1 N q=>
 Subscript_ (wp_step (h1 N q) λx v ao s1 r1 w1 q1=>wpAny_Slice (aO (aO (wp_step (h2 (N.bu w1) (Q:=λv σ=>v=.int (-1)∧QN x σ _) ⟨rfl,q1⟩) λy w ay s2 r2 w2 q2=>by
  obtain⟨rfl,a,vs,rfl,g1,g5,q3⟩:=q2;refine xe r2.bZ λt aq=>?_;subst aq;obtain rfl:=r1.dj;refine b0 (HZ w2.rel (.inl g1) g5 .none .none (.int _ _) (λz=>nomatch z) (λitems rs=>?_) q3) (cC.after (w1.trans w2)) λo o z=>z;rw[adx]
  exact rs.reverse))))
end
end
section
open PySem.SeqAt
noncomputable def bY{κ:Type}[DecidableEq κ](es:List (κ×CV))(k:κ)(x:CV):List (κ×CV):=
 if es.any (λkv=>kv.1=k)then es.map (λkv=>if kv.1=k then(kv.1,x)else kv)else es++[(k,x)]
section
variable{κ:Type}[DecidableEq κ]{h:Heap}{es:List (κ×CV)}{kvs:List (κ×ak)}{k:κ}{x:CV}{v:ak}
theorem cZ.any(r:cZ h es kvs)(k:κ):es.any (λkv=>kv.1=k)=kvs.any (λkv=>kv.1=k):=by
 induction r with
 |nil=>rfl
 |cons e _ ih=>rw[xP,xP,ih]
theorem cZ.put(r:cZ h es kvs)(e:aV h x v):cZ h (es.map λkv=>if kv.1=k then(kv.1,x)else kv) (kvs.map λkv=>if kv.1=k then(kv.1,v)else kv):=by
 induction r with
 |nil=>exact .nil
 |@cons k2 y2 u2 xs2 vs2 e2 r2 ih=>
  rw[gB,gB]
  by_cases g:k2=k
  ·rw[if_pos g,if_pos g];exact .cons e ih
  ·rw[if_neg g,if_neg g];exact .cons e2 ih
theorem cZ.snoc(r:cZ h es kvs)(e:aV h x v):cZ h (es++[(k,x)]) (kvs++[(k,v)]):=by
 induction r with
 |nil=>exact .cons e .nil
 |cons e2 r2 ih=>exact .cons e2 ih
theorem cZ.bY(r:cZ h es kvs)(k:κ)(e:aV h x v):cZ h (bY es k x) (stored kvs k v):=by
 unfold Internal.bY stored;rw[r.any k]
 by_cases g:(kvs.any λkv=>decide (kv.1=k))=true
 ·rw[if_pos g,if_pos g];exact r.put e
 ·rw[if_neg g,if_neg g];exact r.snoc e
end
section
variable{M:fy}{A:bj}{E:ak→aw→Prop}{s:aw}{env:Env}
theorem adB{o i pos v}{Q:Unit→aw→Prop}
  (h:aM M A (eval o env) (λov bg=>aM M A (eval i env) (λiv fu=>aM M A (setItem ov iv v) Q E fu) E bg) E s):
  aM M A (assign (.Subscript o i pos) env v) Q E s:=by
 rw[assign_Subscript];refine aC (jf (b0 h (λov bg dP=>?_) λz z z=>z));refine aC (jf (b0 dP (λiv fu gQ=>?_) λz z z=>z));exact aC (kZ (aC (jf (b0 gQ (λz Cj y6=>wpAny_release y6) λz z z=>z))))
theorem adC{o attr pos v}{Q:Unit→aw→Prop}
  (h:aM M A (eval o env) (λov bg=>aM M A (setAttr ov attr v) Q E bg) E s):
  aM M A (assign (.Attribute o attr pos) env v) Q E s:=by
 rw[PySem.assign_Attribute];refine aC (jf (b0 h (λov bg dP=>?_) λz z z=>z));exact aC (kZ (aC (jf (b0 dP (λz Cj y6=>wpAny_release y6) λz z z=>z))))
end
section
variable{c:Cx}{n:Nat}{ks:Ks}{A:bj}{env:Env}{e:aL}{σ:St}{s:aw}
noncomputable def QT(c:Cx)(σ:St)(s:aw)(Q:St→Prop):Unit→aw→Prop:=λz s'=>∃ae,bK c σ s ae s'∧Q ae
inductive wD(σ:St)(Q:St→Prop)(v:CV):CV→CV→Prop
 |li {a:Addr} {vs:List CV} {i:Nat} (h:σ a=some (.list vs)) (hi:i<vs.length) (hl:vs.length≤1000) (q:Q (upd σ a (.list (vs.set i v)))):wD σ Q v (.loc a) (.int i)
 |dI {a:Addr} {es:List (Int×CV)} {i:Int} (h:σ a=some (.dI es)) (hl:es.length≤1000) (q:Q (upd σ a (.dI (bY es i v)))):wD σ Q v (.loc a) (.int i)
 |dB {a:Addr} {es:List (List UInt8×CV)} {i:List UInt8} (h:σ a=some (.dB es)) (hl:es.length≤1000) (q:Q (upd σ a (.dB (bY es i v)))):wD σ Q v (.loc a) (.bytes i)
 |dS {a:Addr} {es:List (Str×CV)} {i:Str} (h:σ a=some (.dS es)) (hl:es.length≤1000) (q:Q (upd σ a (.dS (bY es i v)))):wD σ Q v (.loc a) (.str i)
noncomputable def lx(x y v:CV)(σ:St)(Q:St→Prop):Prop:=wD σ Q v x y
theorem y7{x y:CO}{t:Nat}{Q:St→Prop}(R:Rel c σ s.heap)(e:σ a=some x)(hi:x.fc=false)(hs:jt a s.heap h')(q:gq s.heap h'→eK c h' a y)(hq:Q (upd σ a y)):
  QT c σ s Q () {s with heap:=h',toks:=t}:=
 have R':=R.set e hi hs q
 ⟨_,⟨R',Ext.set e hi hs (let⟨o,ho,_⟩:=eK.there (R'.objs a y (eJ _ _ _));⟨o,ho⟩),rfl,rfl⟩,hq⟩
theorem adD{E:ak→aw→Prop}{m:Nat}{k:Int}{t:Tok}{v:ak}{Q:Unit→aw→Prop}(hl:s.heap.get? l=some (listOf items m))
  (h0:0≤k)(y8:k<2^63)(hn:k<items.size)
  (hQ:∀h',(∃m',h'.get? l=some (listOf (items.setIfInBounds k.toNat v) m'))→jt l s.heap h'→Q () {s with heap:=h'}):
  aM (model prog w) A (setItem (.ref l) (.int k t) v) Q E s:=by
 have qL:s.heap.IsList l items:=dJ hl;obtain⟨o,ho,hc,ne,hd⟩:=id qL;have eo:o=listOf items m:=bt (ho.symm.trans hl);unfold setItem
 try with_reducible refine jf ?_
 first |refine aC (aO ?_) |skip
 refine aC (wpAny_sequenceKey qL.typeIs (by decide) ?_)
 refine aC (Av (name:=ax "__setitem__") qL.typeIs slot_list_setitem
  (rH slot_list_setitem qL.typeIs entry_list_setitem ?_ (args_list_setitem _ _ _)))
 show aM _ _ (Builtin.List.listSubscript? (.int k t) >>= _) _ _ s;refine aC (wpAny_listSubscript_int (fitsIndex_of h0 y8) ?_);clear y8;obtain⟨j,rfl⟩:=Int.eq_ofNat_of_zero_le h0
 have hj:j<items.size:=by exact dN.1 hn
 have Ck:items[j]?=some items[j]:=o9 hj;show aM _ _ ((seqItemAt l j >>= λr=>pure (r.map (j,·))) >>= _) _ _ s;refine aC (aC (wpAny_seqItemAt ho hd (aO ?_)));rw[Ck];show aM _ _ (setSeqItemAt l j v >>= _) _ _ s;refine xe (Obj.data_mapSeq hd (·.setIfInBounds j v)) λn' fQ=>?_
 have QU:∃m',(s.heap.update l (ju (·.setIfInBounds j v))).get? l=some (listOf (items.setIfInBounds j v) m'):=by
  refine⟨n',(rD _ ho (Obj.isFreed_of_seq fQ)).trans ?_⟩;subst eo;have:(ju (·.setIfInBounds j v) (listOf items m)).data=.seq (items.setIfInBounds j v) n':=fQ
  congr 1
  simp only[ju]at this ⊢
  first |rfl |(cases this;rfl) |simp_all
 refine aC (wpAny_setSeqItemAt ho hd ?_)
 first
  |exact aC (aO (aO ⟨.none,rfl,aO (hQ _ QU (mJ ..))⟩))
  |exact aO ⟨.none,rfl,aO (hQ _ QU (mJ ..))⟩
theorem adE{x z:CV}{v w u:ak}{Q:St→Prop}(R:Rel c σ s.heap)(r:aV s.heap x v)(r':aV s.heap y w)(Cn:aV s.heap z u)(q:lx x y z σ Q):
  aM c.M A (setItem v w u) (QT c σ s Q) No s:=by
 change wD σ Q z x y at q
 induction q with
 |@li a vs i h1 h3 h4 q=>
  obtain rfl:=r.dj;refine xe r'.bZ λt aq=>?_;subst aq;obtain⟨z0,items,m,eL,rs⟩:=R.objs _ _ h1;have hl:=rs.size
  exact adD eL (fX _) (dN.2 (jQ h3 h4 rfl)) (dN.2 (ey h3 (el hl))) λh' ⟨_,g⟩ hs=>y7 (y:=.list (vs.set i _)) R h1 rfl hs (λtu=>⟨z0,_,_,g,by rw[Array.toList_setIfInBounds];exact(rs.bQ tu).set i (Cn.bQ tu)⟩) q
 |@dI a es i h1 h2 q=>
  obtain rfl:=r.dj;refine xe r'.bZ λt aq=>?_;subst aq;obtain⟨z0,kvs,hd,hr⟩:=R.objs _ _ h1
  exact YR (k:=i) (Fl _ _ _ _) hd (λh' g hs=>y7 (y:=.dI (bY es i _)) R h1 rfl hs (λtu=>⟨z0,_,g,(hr.bQ tu).bY i (Cn.bQ tu)⟩) q) (hr.length▸dQ h2)
 |@dB a es i h1 h2 q=>
  obtain rfl:=r.dj;refine xe r'.fP λt aq=>?_;subst aq;obtain⟨z0,kvs,hd,hr⟩:=R.objs _ _ h1
  exact YR (k:=i) (E9 _ _ _ _) hd (λh' g hs=>y7 (y:=.dB (bY es i _)) R h1 rfl hs (λtu=>⟨z0,_,g,(hr.bQ tu).bY i (Cn.bQ tu)⟩) q) (hr.length▸dQ h2)
 |@dS a es i h1 h2 q=>
  obtain rfl:=r.dj;refine xe r'.pQ λt aq=>?_;subst aq;obtain⟨z0,kvs,hd,hr⟩:=R.objs _ _ h1;exact YR (k:=i) (A3 _ _ _ _) hd (λh' g hs=>y7 (y:=.dS (bY es i _)) R h1 rfl hs (λtu=>⟨z0,_,g,(hr.bQ tu).bY i (Cn.bQ tu)⟩) q) (hr.length▸dQ h2)
noncomputable def dg(m1 m2:EM):AM:=λv e σ Q=>m1 e σ λx ao=>m2 e ao λy ay=>lx x y v ay λaQ=>Q e aQ
theorem eG.item{X:Env→Addr→Prop}{x y:Expr}{pos:Pos}{m1 m2:EM}(h1:aH c n ks x m1)(h2:aH c n ks y m2):eG c n ks X (.Subscript x y pos) (dg m1 m2):=λA env e σ s x1 v1 Q N r q=>
 adB (wp_step (h1 N q) λx v ao s1 r1 w1 q1=>wp_step (h2 (N.bu w1) q1) λy w ay s2 r2 w2 q2=>
  b0 (adE w2.rel (r1.bu w1.rel w2) r2 ((r.bu N.rel w1).bu w1.rel w2) q2) (λ_ s3 ⟨aQ,w3,q3⟩=>
   have w:=(w1.trans w2).trans w3
   ⟨_,aQ,w.dA _,(N.bu w).fr,q3⟩) λo o z=>z)
noncomputable def dx(i:Nat)(m1:EM):AM:=λv e σ Q=>m1 e σ λx ao=>yz i x v ao λaQ=>Q e aQ
theorem eG.attr{X:Env→Addr→Prop}{x:Expr}{name:bA}{pos:Pos}{m1:EM}(i:Nat)(hx:nm i=name)(h1:aH c n ks x m1):eG c n ks X (.Attribute x name pos) (dx i m1):=λA env e σ s x1 v1 Q N r q=>by
 subst hx
 exact adC (wp_step (h1 N q) λx v ao s1 r1 w1 q1=>
  b0 (Qz w1.rel r1 (r.bu N.rel w1) q1) (λ_ s3 ⟨aQ,w3,q3⟩=>
   have w:=w1.trans w3
   ⟨_,aQ,w.dA _,(N.bu w).fr,q3⟩) λo o z=>z)
noncomputable def vX:List AM→List CV→aL→St→(aL→St→Prop)→Prop
 |m::ms,v::vs,e,σ,Q=>m v e σ λe' ae=>vX ms vs e' ae Q
 |_,_,e,σ,Q=>Q e σ
noncomputable def eB(ms:List AM):AM:=λv e σ Q=>∃vs,v=.tup vs∧vs.length=ms.length∧vX ms vs e σ Q
inductive oj(c:Cx)(n:Nat)(ks:Ks)(X:Env→Addr→Prop):List Expr→List AM→Prop
 |nil:oj c n ks X [] []
 |cons {t:Expr} {m:AM} {ts:List Expr} {ms:List AM} (h:eG c n ks X t m) (hs:oj c n ks X ts ms) (he:∀env,qw (t::ts) env=(false,AX t env)::qw ts env):oj c n ks X (t::ts) (m::ms)
theorem oj.length{X:Env→Addr→Prop}{ms:List AM}(h:oj c n ks X ts ms)(env:Env):(qw ts env).length=ms.length:=by
 induction h with
 |nil=>rfl
 |cons _ _ he ih=>rw[he];simp[ih]
theorem oj.noStar{X:Env→Addr→Prop}{ms:List AM}(h:oj c n ks X ts ms)(env:Env):(qw ts env).findIdx? (λx=>x.1)=none:=by
 induction h with
 |nil=>rfl
 |cons _ _ he ih=>rw[he];simp[List.findIdx?_cons,ih]
theorem oj.run{X:Env→Addr→Prop}(hX:∀env b,X env b→eU env ks b){ms:List AM}(h:oj c n ks X ts ms):∀{A:bj} {env:Env} {e:aL} {σ:St} {s:aw} {xs:List CV} {vs:List ak} {Q:aL→St→Prop},
  cO c n A env ks e σ s→aN s.heap xs vs→vX ms xs e σ Q→aM c.M A (assignInOrder ((qw ts env).map (λx=>x.2)) vs) (kJ c (X env) env ks σ s Q) No s:=by
 induction h with
 |nil=>intro A env e σ s xs vs Q N r q;exact assignInOrder_nil ⟨_,_,(bK.refl N.rel).dA _,N.fr,by cases xs<;>exact q⟩
 |@cons t m ts ms h hs he ih=>
  intro A env e σ s xs vs Q N r q;rw[he]
  cases xs with
  |nil=>obtain rfl:=r.jU;exact aO ⟨_,_,(bK.refl N.rel).dA _,N.fr,q⟩
  |cons x xs=>
   refine jg r.iT λv vs aq r1 rs=>?_;subst aq;refine assignInOrder_cons (wB (h N r1 q) λe' ae s' w f q'=>?_);exact HW w (ih (N.moved f w.rel) (rs.bQ (bK.yZ N (w.mono (hX env)))) q')
theorem QV(R:Rel c σ s.heap)(he:A0 s.heap.objs.size s.heap h'):bK c σ s σ {s with heap:=h'}:=
 have k:∀b o,s.heap.get? b=some o→h'.get? b=some o:=λb o e=>he b o (λq=>by rw[q,kH]at e;exact bo e) e
 ⟨R.kept k,.kept k,rfl,rfl⟩
theorem eG.ZY{X:Env→Addr→Prop}(hX:∀env b,X env b→eU env ks b){k:Nat}{pos:Pos}{ms:List AM}(h:oj c n ks X ts ms):eG c n ks X (.Tuple ts k pos) (eB ms):=λA env e σ s x v Q N r q=>by
 obtain⟨vs,rfl,hl,q⟩:=q;refine f7 r.jl λa items m aq eL rs=>?_;subst aq
 refine assign_Tuple_tuple N.room.h ⟨_,eL,rfl,m,rfl⟩ (by rw[h.length env,←hl,rs.size]) (h.noStar env) λh' he=>?_
 have w:=QV N.rel he;exact HW (w.dA _) (h.run hX (N.bu w) (rs.bu N.rel w) q)
noncomputable def eW:List Nat→List CV→aL→aL
 |[],_,e=>e
 |i::is,vs,e=>match vs with
  |[]=>e
  |v::vs=>eW is vs (bz e i v)
noncomputable def gO(is:List Nat)(m:EM):SM:=λe σ Q=>m e σ λv ao=>∃vs,v=.tup vs∧vs.length=is.length∧Q .next (eW is.reverse vs.reverse e) ao
theorem adF(is:List Nat)(hk:∀i∈is,fN (ks.lookup i)=true):∀{A:bj} {env:Env} {e:aL} {σ:St} {s:aw} {xs:List CV} {vs:List ak} {Q:aL→St→Prop},
  cO c n A env ks e σ s→aN s.heap xs vs→Q (eW is xs e) σ→aM c.M A (assignInOrder ((is.map nm).map λx=>bindName env x) vs) (kJ c (eU env ks) env ks σ s Q) No s:=by
 induction is with
 |nil=>intro A env e σ s xs vs Q N r q;exact assignInOrder_nil ⟨_,_,(bK.refl N.rel).dA _,N.fr,by cases xs<;>exact q⟩
 |cons i is ih=>
  intro A env e σ s xs vs Q N r q
  cases xs with
  |nil=>obtain rfl:=r.jU;exact aO ⟨_,_,(bK.refl N.rel).dA _,N.fr,q⟩
  |cons x xs=>
   refine jg r.iT λv vs aq r1 rs=>?_;subst aq;refine assignInOrder_cons (wB (bindName_ (Ce HY rfl (oF (hk i (.head _))) N r1 (Q:=λe' ae=>Q (eW is _ e') ae) q)) λe' ae s' w f q'=>?_);exact HW w (ih (λj hj=>hk j (.tail _ hj)) (N.moved f w.rel) (rs.bQ (bK.yZ N w)) q')
theorem cF.swap{ts:List Expr}{k:Nat}{H5 pos:Pos}{x:Expr}{m:EM}(is:List Nat)(h:aH c n ks x m)(hk:∀i∈is,fN (ks.lookup i)=true)
  (hs:∀env,jj c env ks→swapsWithSole [.Tuple ts k H5] x pos.line env=pure false)(hw:∀env,jj c env ks→qt [.Tuple ts k H5] x env=pure (some (is.map nm))):cF c n ks (.Assign [.Tuple ts k H5] x pos) (gO is m):=λA env e σ s Q N q=>by
 refine Assign_Tuple_swapped (names:=is.map nm) (wp_step (h N q) λy v ao s1 r w q1=>?_) (hs _ N.ok) (hw _ N.ok)
 obtain⟨vs,rfl,hl,q1⟩:=q1
 ·refine f7 r.jl λa items m' aq eL rs=>?_;subst aq
  have:=unpackItems_tuple (prog:=c.prog) (w:=c.w) (A:=A) (E:=No) (s:=s1) (t:=a) (items:=items) (Q:=λitems bg=>aM c.M A (assignInOrder ((is.map nm).reverse.map λx=>bindName env x) items.reverse) (λz=>hM c env ks σ s Q Flow.next) No bg) N.room.h ⟨_,eL,rfl,m',rfl⟩ (λh' he=>?_)
  ·rw[show(is.map nm).length=items.size by rw[aZ,←hl,rs.size]];exact this
  ·have w2:=QV w.rel he
   have N2:=(N.bu w).bu w2;rw[←vt];refine wB (adF is.reverse (λi hi=>hk i (List.mem_reverse.mp hi)) N2 ((rs.bu w.rel w2).reverse) (Q:=λe' ae=>Q .next e' ae) q1) λe' ae s' w' f q'=>?_;exact⟨_,_,_,.next,((w.trans w2).dA _).trans w',f,q'⟩
inductive v5:jv→CV→CV→CV→Prop
 |add {a b:Int}:v5 .Add (.int a) (.int b) (.int (a+b))
 |sub {a b:Int}:v5 .Sub (.int a) (.int b) (.int (a- b))
theorem QW{x z:CV}{v w:ak}(R:Rel c σ s.heap)(r:aV s.heap x v)(r':aV s.heap y w)(q:v5 op x y z)(hq:Q z σ):
  aM c.M A (inplaceOp op v w) (cC c σ s Q) No s:=by
 induction q with
 |add=>refine xe r.bZ λt aq=>?_;subst aq;refine xe r'.bZ λu aq=>?_;subst aq;exact wpAny_iadd_int (dq R (.int _ _) hq)
 |sub=>refine xe r.bZ λt aq=>?_;subst aq;refine xe r'.bZ λu aq=>?_;subst aq;exact P.isub_int (dq R (.int _ _) hq)
noncomputable def v7(i:Nat)(op:jv)(m:EM):SM:=λe σ Q=>∃old,e i=some old∧m e σ λv ao=>∃r,v5 op old v r∧Q .next (bz e i r) ao
theorem cF.aav{x:bA}{p pos:Pos}{op:jv}{y:Expr}{m:EM}(i:Nat)(hx:nm i=x)(hk:fN (ks.lookup i)=true)(hd2:i≠tO)(h:aH c n ks y m):cF c n ks (.AugAssign (.Name x p) op y pos) (v7 i op m):=λA env e σ s Q1 N q=>by
 obtain⟨old,ho,q⟩:=q
 have hv:isVar (ks.lookup i)=true:=by rcases oF hk with h |h<;>rw[h]<;>rfl
 refine wpAny_AugAssign_Name (wp_step (Qa (Q:=λy ae=>y=old∧ae=_) hx hv hd2 N (BG ho ⟨rfl,rfl⟩)) λy0 v0 bL s0 r0 w0 q0=>?_);obtain⟨rfl,rfl⟩:=q0;refine wp_step (h (N.bu w0) q) λy1 v1 ao s1 r1 w1 q1=>?_;refine a9 q1 λr hr q1=>?_;refine wp_step (QW (Q:=λz ae=>z=r∧ae=ao) w1.rel (r0.bu w0.rel w1) r1 hr ⟨rfl,rfl⟩) λy2 v2 ay s2 r2 w2 q2=>?_;obtain⟨rfl,rfl⟩:=q2;have w:=(w0.trans w1).trans w2;exact wB (Ce HY hx (oF hk) (N.bu w) r2 (Q:=λe' ae=>_) q1) λe' ae s' w' f q'=>⟨_,_,_,.next,(w.dA _).trans w',f,q'⟩
noncomputable def H6(i:Nat)(op:jv)(mo m:EM):SM:=λe σ Q=>mo e σ λo bL=>vR i o bL λold ao=>m e ao λv ay=>∃r,v5 op old v r∧yz i o r ay λaQ=>Q .next e aQ
theorem cF.aaw{x:Expr}{name:bA}{p pos:Pos}{op:jv}{y:Expr}{mo m:EM}(i:Nat)(hx:nm i=name)(ho:aH c n ks x mo)(h:aH c n ks y m):cF c n ks (.AugAssign (.Attribute x name p) op y pos) (H6 i op mo m):=λA env e σ s Q1 N q=>by
 subst hx;refine wpAny_AugAssign_AttributeAny (wp_step (ho N q) λy0 v0 bL s0 r0 w0 q0=>wp_step (Qy w0.rel r0 q0) λy1 v1 ao s1 r1 w1 q1=>wp_step (h ((N.bu w0).bu w1) q1) λy2 v2 ay s2 r2 w2 q2=>?_);refine a9 q2 λr hr q2=>?_;refine wp_step (QW (Q:=λz ae=>z=r∧ae=ay) w2.rel (r1.bu w1.rel w2) r2 hr ⟨rfl,rfl⟩) λy3 v3 aQ s3 r3 w3 q3=>?_;obtain⟨rfl,rfl⟩:=q3;have iI:=(w1.trans w2).trans w3;refine b0 (Qz w3.rel (r0.bu w0.rel iI) r3 q2) (λ_ s4 ⟨bU,w4,q4⟩=>?_) λo o z=>z;have w:=(w0.trans iI).trans w4;exact⟨_,_,_,.next,w.dA _,(N.bu w).fr,q4⟩
end
end
section
open PySem.SeqAt
noncomputable def jC(t:TM)(b:SM):SM:=λe σ Q=>∃(I:Nat→aL→St→Prop) (n:Nat),I n e σ∧∀k e σ,I k e σ→t e σ λv ao=>
 if v=true then b e ao λfl e' ae=>match fl with |.next |.cont=>∃m,m<k∧I m e' ae |.brk=>Q .next e' ae |.ret x=>Q (.ret x) e' ae else Q .next e ao
noncomputable def f9(ok:St→Prop)(a:AM)(b:SM)(Q:dy→aL→St→Prop):List CV→aL→St→Prop
 |[],e,σ=>ok σ∧Q .next e σ
 |v::vs,e,σ=>ok σ∧a v e σ λe1 ao=>b e1 ao λfl e2 ay=>match fl with
  |.next |.cont=>f9 ok a b Q vs e2 ay
  |.brk=>Q .next e2 ay
  |.ret x=>Q (.ret x) e2 ay
noncomputable abbrev IM:=aL→St→(List CV→(St→Prop)→St→Prop)→Prop
noncomputable def cY(it:IM)(a:AM)(b:SM):SM:=λe σ Q=>it e σ λitems ok ao=>f9 ok a b Q items e ao
structure gR(c:Cx)(t:Expr)(I:Addr)(fp:List Addr)(items:List CV)(ok:St→Prop)(S:Nat→Heap→Prop):Prop where
 next:∀{A:bj} {s:aw} {σ:St} {k:Nat} {x:CV},A.handled=none→Rel c σ s.heap→ok σ→items[k]?=some x→S k s.heap→∀{Q:Option ak→aw→Prop} {E:ak→aw→Prop},
  (∀v h1 tk,(∀{Q2:Unit→aw→Prop} {E2:ak→aw→Prop},(∀h',aV h' x v→S (k+1) h'→(∀b o,b∉fp→s.heap.get? b=some o→h'.get? b=some o)→Q2 () {s with heap:=h',toks:=tk})→
   aM c.M A (L1 t (.ref I) v) Q2 E2 {s with heap:=h1,toks:=tk})→Q (some v) {s with heap:=h1,toks:=tk})→aM c.M A (mV (.ref I)) Q E s
 done:∀{A:bj} {s:aw} {σ:St},A.handled=none→Rel c σ s.heap→ok σ→S items.length s.heap→∀{Q:Option ak→aw→Prop} {E:ak→aw→Prop},
  (∀h' tk,(∀b o,b∉fp→s.heap.get? b=some o→h'.get? b=some o)→Q none {s with heap:=h',toks:=tk})→aM c.M A (mV (.ref I)) Q E s
 self:∀{A:bj} {s:aw} {k:Nat},S k s.heap→∀{Q:ak→aw→Prop} {E:ak→aw→Prop},Q (.ref I) s→aM c.M A (pyIter (.ref I)) Q E s
 move:∀{k:Nat} {h h':Heap},S k h→(∀b∈fp,∀o,h.get? b=some o→h'.get? b=some o)→gq h h'→S k h'
 here:∀{k:Nat} {h:Heap},S k h→∀b∈fp,∃o,h.get? b=some o∧∀items n,o≠d7 items n
noncomputable def H7(c:Cx)(t:Expr)(σ:St)(s:aw)(Q:List CV→(St→Prop)→St→Prop):ak→aw→Prop:=λit bg=>∃I fp items ok S ae,it=.ref I∧gR c t I fp items ok S∧S 0 bg.heap∧(∀b∈fp,s.heap.get? b=none∧ae b=none)∧bK c σ s ae bg∧Q items ok ae
theorem H7.in{c:Cx}{t:Expr}{σ:St}{s:aw}{Q:List CV→(St→Prop)→St→Prop}{items:List CV}{ok:St→Prop}(W:gR c t I fp items ok S)(h:S 0 bg.heap)(hf:∀b∈fp,s.heap.get? b=none∧ae b=none)(w:bK c σ s ae bg)(q:Q items ok ae):H7 c t σ s Q (.ref I) bg:=
 ⟨I,fp,items,ok,S,ae,rfl,W,h,hf,w,q⟩
noncomputable def jR(c:Cx)(n:Nat)(ks:Ks)(t x:Expr)(m:IM):Prop:=
 ∀⦃A:bj⦄ ⦃env:Env⦄ ⦃e:aL⦄ ⦃σ:St⦄ ⦃s:aw⦄ ⦃Q:List CV→(St→Prop)→St→Prop⦄,cO c n A env ks e σ s→m e σ Q→
  aM c.M A (eval x env) (λxv bq=>aM c.M A (pyIter xv) (H7 c t σ s Q) No bq) No s
section
variable{c:Cx}{n:Nat}{ks:Ks}{A:bj}{env:Env}{e:aL}{σ:St}{s:aw}
theorem cF.while{x:Expr}{b:List Stmt}{pos:Pos}{t:TM}{mb:SM}(h:gI c n ks x t)(hb:eQ c n ks b mb):cF c n ks (.While x b [] pos) (jC t mb):=λA env e σ s Q N q=>by
 obtain⟨I,k,h0,step⟩:=q;obtain⟨Inv,jD⟩:∃Inv:Nat→aw→Prop,∀k s',Inv k s'↔∃e' ae,c8 c (eU env ks) σ s ae s'∧eY c env ks e' ae s'.heap∧I k e' ae:=⟨_,λo o=>Iff.rfl⟩;refine wpAny_While (codeAny_whileLoop Inv (λk s' hI=>cps λG g=>?_) k ((jD _ _).2 ⟨e,σ,(bK.refl N.rel).dA _,N.fr,h0⟩));refine jg ((jD _ _).1 hI) λe' ae w f hI=>?_;refine g (b0 (Q:=mf c ae s' _) (E:=No) (h _ rfl (N.moved f w.rel) (step k e' ae hI)) (λv s2 q2=>cps λG2 g2=>?_) λo o z=>z.elim);clear g;obtain⟨ay,w2,q2⟩:=q2;have N2:=(N.moved f w.rel).bu w2;have nh:=w.trans (w2.dA (eU env ks));refine g2 ?_;clear g2
 induction v with
 |false=>exact EX ⟨_,_,_,.next,nh,N2.fr,q2⟩
 |true=>
  refine b0 (Q:=hM c env ks ay s2 _) (E:=No) (hb N2 q2) (λfl s3 q3=>cps λG g=>?_) λo o z=>z.elim;obtain⟨H8,e3,aQ,r3,w3,f3,q3⟩:=q3;have iI:=nh.trans w3;refine g ?_;clear g
  induction r3 with
  |next=>exact q3.imp λm z=>⟨z.1,(jD _ _).2 ⟨e3,aQ,iI,f3,z.2⟩⟩
  |cont=>exact q3.imp λm z=>⟨z.1,(jD _ _).2 ⟨e3,aQ,iI,f3,z.2⟩⟩
  |brk=>exact⟨_,_,_,.next,iI,f3,q3⟩
  |ret r=>exact⟨_,_,_,.ret r,iI,f3,q3⟩
theorem y9{h:Heap}(k:∀b o,b∉fp→h.get? b=some o→h'.get? b=some o)(nt:∀b∈fp,∀items n,h.get? b≠some (d7 items n)):gq h h':=
 λb items n e=>k b _ (λq=>nt b q items n e) e
theorem Rel.moved{h:Heap}(R:Rel c σ h)(k:∀b o,b∉fp→h.get? b=some o→h'.get? b=some o)(nt:∀b∈fp,∀items n,h.get? b≠some (d7 items n))
  (hn:∀b∈fp,σ b=none∧c.H0.get? b=none):Rel c σ h':=
 ⟨λb o e=>k b o (λq=>by exact bo (((hn b q).2).symm.trans e)) (R.base b o e),
  λa o e=>eK.move (R.objs a o e) (y9 k nt) λx q=>k a x (λz=>by exact bo (((hn a z).1).symm.trans e)) q⟩
theorem eY.moved{h:Heap}(F:eY c env ks e σ h)(k:∀b o,b∉fp→h.get? b=some o→h'.get? b=some o)(nt:∀b∈fp,∀items n,h.get? b≠some (d7 items n))
  (hn:∀b∈fp,b≠env.locals∧∀i,(ks.lookup i=some .cell∨ks.lookup i=some .free)→env.cells.lookup (nm i)≠some b):eY c env ks e σ h':=by
 have tu:=y9 k nt;obtain⟨m,⟨o,es,ep,ho,hr⟩,hm⟩:=F.ns
 refine⟨⟨m,⟨o,es,ep,k _ _ (λq=>(hn _ q).1 rfl) ho,hr⟩,λi v a b=>?_⟩,F.t4,F.yR,λi hi=>?_⟩
 ·refine a9 (hm i v a b) λy h1 h2=>?_;exact⟨y,h1,h2.bQ tu⟩
 ·obtain⟨a,y,h1,⟨o',c7,fQ⟩,h3,h4,h5⟩:=F.cells i hi
  exact⟨a,y,h1,⟨o',k _ _ (λq=>(hn _ q).2 i hi h1) c7,fQ⟩,h3,h4,λv hv=>let⟨z,hz,hr⟩:=h5 v hv;⟨z,hz,hr.bQ tu⟩⟩
structure Apart(cg:aw)(σ:St)(fp:List Addr):Prop where
 new:∀b∈fp,cg.heap.get? b=none
 out:∀b∈fp,σ b=none
theorem Apart.base(a:Apart cg σ fp)(R:Rel c σ₀ cg.heap):∀b∈fp,c.H0.get? b=none:=λb hb=>R.out (a.new b hb)
theorem Apart.cells(a:Apart cg σ fp)(N:cO c n A env ks za σ₀ cg):∀b∈fp,b≠env.locals∧∀i,(ks.lookup i=some .cell∨ks.lookup i=some .free)→env.cells.lookup (nm i)≠some b:=λb hb=>
 ⟨λq=>N.fr.ns.elim λm z=>z.1.elim λo z=>z.elim λes z=>z.elim λep z=>(nomatch (a.new b hb).symm.trans ((congrArg _ q).trans z.1)),λi hi q=>(N.fr.cells i hi).elim λa' z=>z.elim λx z=>z.2.1.elim λo y=>by
  cases q.symm.trans z.1
  exact(nomatch (a.new b hb).symm.trans y.1)⟩
theorem Apart.frame(a:Apart cg σ fp)(N:cO c n A env ks za σ₀ cg):∀b∈fp,b≠env.locals∧¬eU env ks b:=λb hb=>
 have z:=a.cells N b hb
 ⟨z.1,λq=>q.elim z.1 λq=>q.elim λi h=>z.2 i (.inl h.1) h.2⟩
theorem eY.Co{h:Heap}(N:cO c n A env ks za σ₀ cg)(a:Apart cg σ fp)(F:eY c env ks e σ h)
  (k:∀b o,b∉fp→h.get? b=some o→h'.get? b=some o)(nt:∀b∈fp,∀items n,h.get? b≠some (d7 items n)):eY c env ks e σ h':=F.moved k nt (a.cells N)
theorem c8.moved{X:Addr→Prop}{t:Nat}(w:c8 c X σ₀ cg σ s)(R:Rel c σ h')(k:∀b o,b∉fp→s.heap.get? b=some o→h'.get? b=some o)
  (hn:∀b∈fp,cg.heap.get? b=none):c8 c X σ₀ cg σ {s with heap:=h',toks:=t}:=
 ⟨R,⟨λb o nx e z=>k b o (λq=>by exact bo ((hn b q).symm.trans e)) (w.ext.keep b o nx e z),w.ext.gc,w.ext.fc,λb o e=>let⟨o',e'⟩:=w.ext.more b o e;⟨o',k b o' (λq=>by exact bo ((hn b q).symm.trans e)) e'⟩⟩,w.gens,w.os⟩
theorem cF.for{t x:Expr}{b:List Stmt}{pos:Pos}{it:IM}{a:AM}{mb:SM}(hi:jR c n ks t x it)(ha:eG c n ks (pq ks) t a)(hb:eQ c n ks b mb)
  (hs:autoParam (∀env v,xI x env v=pure v) aJ):cF c n ks (.For t x b [] pos) (cY it a mb):=λA env e σ s Q N q=>by
 refine wpAny_For (b0 (hi N q) (λxv bq d8=>b0 d8 (λit bg dP=>?_) λu u z=>z) λu u z=>z) (hs _);obtain⟨I,fp,items,ok,S,ae,rfl,W,hS,mh,w,q⟩:=dP;have H9:Apart s ae fp:=⟨λb hb=>(mh b hb).1,λb hb=>(mh b hb).2⟩;obtain⟨Inv,jD⟩:∃Inv:Nat→aw→Prop,∀k s',Inv k s'↔∃i e' ae,k=items.length- i∧i≤items.length∧S i s'.heap∧c8 c (eU env ks) σ s ae s'∧eY c env ks e' ae s'.heap∧Apart s ae fp∧f9 ok a mb Q (items.drop i) e' ae:=⟨_,λu u=>Iff.rfl⟩;refine codeAny_forLoop_any Inv (λk s' hI=>cps λG g=>?_) items.length ((jD _ _).2 ⟨0,e,ae,rfl,dE _,hS,w.dA _,(N.bu w).fr,H9,q⟩);refine A8 ((jD _ _).1 hI) λi e' ae aq ff hS w f ap q=>?_;subst aq;refine g ?_;clear g hI;have base:=ap.base (σ₀:=σ) N.rel
 have nt:∀b∈fp,∀items n,s'.heap.get? b≠some (d7 items n):=λb hb items n z=>by refine a9 (W.here hS b hb) λo ho hn=>?_;rw[ho]at z;exact hn _ _ (bt z)
 cases hx:items[i]? with
 |none=>
  have jE:i=items.length:=qq ff (YC.1 hx);subst jE;rw[Lz]at q;refine W.done N.room.h w.rel q.1 hS λh' tk k=>?_;have R':=w.rel.moved k nt λb hb=>⟨ap.out b hb,base b hb⟩
  exact EX ⟨_,_,_,.next,w.moved R' k ap.new,eY.Co N ap f k nt,q.2⟩
 |some y=>
  obtain⟨ck,rfl⟩:=List.getElem?_eq_some_iff.mp hx;rw[Lc ck]at q;obtain⟨q0,q⟩:=q
  refine W.next N.room.h w.rel q0 hx hS λv h1 tk go=>go λh' rv gr k=>?_
  ·have R':=w.rel.moved k nt λb hb=>⟨ap.out b hb,base b hb⟩
   have w':=w.moved (t:=tk) R' k ap.new;have f':=eY.Co N ap f k nt
   have N':cO c n A env ks e' ae {s' with heap:=h',toks:=tk}:=N.moved f' R'
   refine b0 (Q:=kJ c (eU env ks) env ks ae _ _) (E:=No) (ha N' rv q) (λu s2 q2=>cps λG g=>?_) λu u z=>z.elim;obtain⟨e2,ay,w2,f2,q2⟩:=q2;refine g ?_;clear g;refine b0 (Q:=hM c env ks ay s2 _) (E:=No) (hb (N'.moved f2 w2.rel) q2) (λfl s3 q3=>cps λG g=>?_) λu u z=>z.elim;obtain⟨H8,e3,aQ,r3,w3,f3,q3⟩:=q3;refine g ?_;clear g;have qM:=w2.trans w3;have iI:=w'.trans qM;have tu:=bK.yZ N' qM;have nf:=ap.frame N
   have keep:∀b∈fp,∀o,h'.get? b=some o→s3.heap.get? b=some o:=λb hb o eo=>qM.ext.keep b o (nf b hb).2 eo λz hz=>by exact bo ((ap.out b hb).symm.trans hz)
   have S3:S (i+1) s3.heap:=W.move gr keep tu
   have Ia:Apart s aQ fp:=⟨ap.new,λb hb=>by
     refine a9 (W.here gr b hb) λo ho zz=>?_
     exact qM.ext.gc b o (nf b hb).2 ho (ap.out b hb)⟩
   have again:f9 ok a mb Q (items.drop (i+1)) e3 aQ→∃m,m<items.length- i∧Inv m s3:=
    λq=>⟨items.length- (i+1),Lq ck (kX i),(jD _ _).2 ⟨i+1,e3,aQ,rfl,ck,S3,iI,f3,Ia,q⟩⟩
   induction r3 with
   |next=>exact again q3
   |cont=>exact again q3
   |brk=>exact⟨_,_,_,.next,iI,f3,q3⟩
   |ret r=>exact⟨_,_,_,.ret r,iI,f3,q3⟩
end
end
section
open PySem.SeqAt
noncomputable def QX:List String:=["enumerate","zip","dict_itemiterator","dict_reverseitemiterator","odict_iterator","itertools.zip_longest","itertools.pairwise"]
section
variable{prog:dv}{w:cM}{A:bj}{E:ak→aw→Prop}{s:aw}
theorem zb{t:Expr}{o:Obj}{T:String}{Q:Unit→aw→Prop}(ho:s.heap.get? I=some o)(hc:o.cls=.type T)(hT:QX.contains T=false)(h:Q () s):
  aM (model prog w) A (L1 t (.ref I) v) Q E s:=by
 obtain⟨cl,dd,dt,sl⟩:=o;simp only at hc;subst hc
 have key:aM (model prog w) A (match(A5 I,v)with
   |(.ref r,.ref a)=>(do
    let o ←load r
    match o.cls,o.data with
    |.type n,.fields vs=>
     if(QX.contains n&&vs[0]?==some (mW a))=true then do
      rule "for.unpacks-the-owned-tuple"
      updateField r 0 .none
     else pure ()
    |_,_=>pure ())
   |_=>pure ()) Q E s:=by
  induction v with
  |ref a=>
   refine aC (tE ho ?_)
   cases dt<;>first |exact aO h |(simp only[hT,Bool.false_and,pd,if_false];exact aO h)
  |_=>exact aO h
 cases t<;>first |exact aO h |exact key
end
section
variable{c:Cx}{n:Nat}{ks:Ks}{A:bj}{env:Env}{e:aL}{σ:St}{s:aw}
theorem ue{h:Heap}(hs:jt I h h'):∀b o,b∉[I]→h.get? b=some o→h'.get? b=some o:=λb o nb e=>hs.extBut b o (λq=>nb (by simp[q])) e
theorem zc{h:Heap}(hs:A0 I h h'):∀b o,b∉[I]→h.get? b=some o→h'.get? b=some o:=λb o nb e=>hs b o (λq=>nb (by simp[q])) e
theorem QY{h:Heap}{o:Obj}(ho:h.get? I=some o)(hc:o.cls≠.type "tuple")(hs:A0 I h h'):gq h h':=λb items n e=>hs b _ (λq=>by subst q;rw[ho]at e;obtain rfl:=bt e;exact hc rfl) e
theorem gR.list{t:Expr}(I a:Addr)(vs:List CV):gR c t I [I] vs (λσ=>σ a=some (.list vs)∨σ a=some (.ro vs)) (λk h=>h.IsListIter I a k) where
 next:=λ{A s σ k x} hh R ok hx hS {Q E} go=>by
  refine gH (uc R ok) λitems n eL rs=>?_;refine a9 (rs.get hx) λv hv rv=>?_;obtain⟨o,ho,hc,hd⟩:=id hS
  refine wpAny_pyNext_list_item hS (dJ eL) (by simpa using hv) λh' hit hs=>?_
  have tu:=QY ho (by rw[hc];simp) hs.extBut
  refine go v h' s.toks λ{Q2 E2} k=>?_;obtain⟨o',c7,pS,_⟩:=id hit
  exact zb (s:={s with heap:=h'}) c7 pS (by decide) (k h' (rv.bQ tu) hit (ue hs))
 done:=λ{A s σ} hh R ok hS {Q E} go=>by
  refine gH (uc R ok) λitems n eL rs=>?_
  have hl:vs.length=items.size:=by simpa using rs.length
  exact wpAny_pyNext_list_end hh hS (dJ eL) (by rw[hl];simp) λh' he=>go h' s.toks (zc he)
 self:=λ{A s k} hS {Q E} q=>wpAny_pyIter_listiter hS q
 move:=λhS k tu=>let⟨o,ho,r⟩:=hS;⟨o,k _ (by simp) o ho,r⟩
 here:=λhS b hb=>by
  obtain⟨o,ho,hc,_⟩:=hS;rw[List.mem_singleton.mp hb]
  exact⟨o,ho,kF (by rw[hc];simp)⟩
theorem gR.tup{t:Expr}(I a:Addr)(vs:List CV)(items:Array ak)(m:Nat):gR c t I [I] vs (λz=>True) (λk h=>IsTupIter h I a k∧h.get? a=some (d7 items m)∧aN h vs items.toList) where
 next:=λ{A s σ k x} hh R ok hx hS {Q E} go=>by
  refine pj hS λhit eL rs=>?_;refine a9 (rs.get hx) λv hv rv=>?_;obtain⟨o,ho,hc,hd⟩:=id hit
  refine next_tuple_item hit ⟨_,eL,rfl,m,rfl⟩ (by simpa using hv) λh' pU hs=>?_
  have tu:=QY ho (by rw[hc];simp) hs.extBut
  refine go v h' s.toks λ{Q2 E2} k=>?_;obtain⟨o',c7,pS,_⟩:=id pU
  exact zb (s:={s with heap:=h'}) c7 pS (by decide) (k h' (rv.bQ tu) ⟨pU,tu _ _ _ eL,rs.bQ tu⟩ (ue hs))
 done:=λ{A s σ} hh R ok hS {Q E} go=>by
  refine pj hS λhit eL rs=>?_
  have hl:vs.length=items.size:=by simpa using rs.length
  exact next_tuple_end hh hit ⟨_,eL,rfl,m,rfl⟩ (by rw[hl];simp) λh' he=>go h' s.toks (zc he)
 self:=λ{A s k} hS {Q E} q=>wpAny_pyIter_tupleiter hS.1 q
 move:=λhS k tu=>let⟨⟨o,ho,r⟩,eL,rs⟩:=hS;⟨⟨o,k _ (by simp) o ho,r⟩,tu _ _ _ eL,rs.bQ tu⟩
 here:=λhS b hb=>by
  obtain⟨⟨o,ho,hc,_⟩,_⟩:=hS;rw[List.mem_singleton.mp hb]
  exact⟨o,ho,kF (by rw[hc];simp)⟩
noncomputable def yK(b:List UInt8):List CV:=b.map λx=>.int x.toNat
theorem gR.bytes{t:Expr}(I:Addr)(b:List UInt8)(tk:Tok):gR c t I [I] (yK b) (λz=>True) (λk h=>KBw.IsBytesIter h I b.toArray tk k) where
 next:=λ{A s σ k x} hh R ok hx hS {Q E} go=>by
  unfold yK at hx;rw[dM]at hx
  cases hb:b[k]? with
  |none=>rw[hb]at hx;exact bo hx
  |some y=>
   rw[hb]at hx;obtain rfl:=bt hx;obtain⟨o,ho,hc,hd⟩:=id hS
   refine KBw.next_item hS (c:=y) (by simpa using hb) λh' hit hs=>?_
   refine go _ h' (s.toks+1) λ{Q2 E2} k=>?_;obtain⟨o',c7,pS,_⟩:=id hit
   exact zb (s:={s with heap:=h',toks:=s.toks+1}) c7 pS (by decide) (k h' (.int _ _) hit (ue hs))
 done:=λ{A s σ} hh R ok hS {Q E} go=>by
  exact KBw.next_end hh hS (by simp[yK]) λh' he=>go h' s.toks (zc he)
 self:=λ{A s k} hS {Q E} q=>KBw.pyIter_self hS q
 move:=λhS k tu=>let⟨o,ho,r⟩:=hS;⟨o,k _ (by simp) o ho,r⟩
 here:=λhS b hb=>by
  obtain⟨o,ho,hc,_⟩:=hS;rw[List.mem_singleton.mp hb]
  exact⟨o,ho,kF (by rw[hc];simp)⟩
noncomputable def yO(x:bA):List CV:=x.cps.toList.map λy=>.str ⟨#[y]⟩
theorem gR.str{t:Expr}(I:Addr)(X:bA)(tk:Tok):gR c t I [I] (yO X) (λz=>True) (λk h=>h.IsStrIter I "str_ascii_iterator" X tk k) where
 next:=λ{A s σ k x} hh R ok hx hS {Q E} go=>by
  unfold yO at hx;rw[dM]at hx
  cases hb:X.cps.toList[k]? with
  |none=>rw[hb]at hx;exact bo hx
  |some y=>
   rw[hb]at hx;obtain rfl:=bt hx;obtain⟨o,ho,hc,hd⟩:=id hS
   refine wpAny_pyNext_ascii_item hS (c:=y) (by simpa using hb) λh' hit hs=>?_
   refine go _ h' (s.toks+1) λ{Q2 E2} k=>?_;obtain⟨o',c7,pS,_⟩:=id hit
   exact zb (s:={s with heap:=h',toks:=s.toks+1}) c7 pS (by decide) (k h' (.str _ _) hit (ue hs))
 done:=λ{A s σ} hh R ok hS {Q E} go=>by
  exact wpAny_pyNext_ascii_end hh hS (by simp[yO]) λh' he=>go h' s.toks (zc he)
 self:=λ{A s k} hS {Q E} q=>wpAny_pyIter_striter_ascii hS q
 move:=λhS k tu=>let⟨o,ho,r⟩:=hS;⟨o,k _ (by simp) o ho,r⟩
 here:=λhS b hb=>by
  obtain⟨o,ho,hc,_⟩:=hS;rw[List.mem_singleton.mp hb]
  exact⟨o,ho,kF (by rw[hc];simp)⟩
noncomputable def m8(n:Int):List CV:=(cS n.toNat).map λ(i:Nat)=>.int i
theorem gR.range{t:Expr}(I:Addr)(n:Int):gR c t I [I] (m8 n) (λz=>True) (λk h=>IsRangeIter h I (k:Nat) ((n.toNat:Int)- (k:Nat)) 1) where
 next:=λ{A s σ k x} hh R ok hx hS {Q E} go=>by
  unfold m8 at hx;rw[dM]at hx
  cases hb:(cS n.toNat)[k]? with
  |none=>rw[hb]at hx;exact bo hx
  |some y=>
   rw[hb]at hx;obtain rfl:=bt hx
   have hk:k<n.toNat:=by
    have:=(List.getElem?_eq_some_iff.mp hb).1;simpa using this
   have hy:y=k:=by
    rw[YS hk]at hb;obtain rfl:=bt hb;rfl
   subst hy;refine wpAny_pyNext_range_item hS (Int.sub_pos_of_lt (dN.2 hk)) λh' hit hs=>?_;refine go _ h' (s.toks+1) λ{Q2 E2} k=>?_
   have adG:IsRangeIter h' I ((y+1:Nat):Int) ((n.toNat:Int)- ((y+1:Nat):Int)) 1:=by
    have e1:((y+1:Nat):Int)=(y:Int)+1:=by exact rfl
    have e2:(n.toNat:Int)- ((y+1:Nat):Int)=(n.toNat:Int)- (y:Int)- 1:=Zu ..
    rw[e1]at*;rw[show(n.toNat:Int)- ((y:Int)+1)=(n.toNat:Int)- (y:Int)- 1 by exact e2];exact hit
   exact zb (s:={s with heap:=h',toks:=s.toks+1}) (T:="range_iterator") hit rfl (by decide) (k h' (.int _ _) adG (ue hs))
 done:=λ{A s σ} hh R ok hS {Q E} go=>by
  exact wpAny_pyNext_range_end hh hS (by simp[m8]) λh' he=>go h' s.toks (zc he)
 self:=λ{A s k} hS {Q E} q=>wpAny_pyIter_rangeiter hS q
 move:=λhS k tu=>k _ (by simp) _ hS
 here:=λhS b hb=>by
  rw[List.mem_singleton.mp hb]
  exact⟨_,hS,kF (by simp)⟩
noncomputable def qx:Nat→List CV→List CV
 |_,[]=>[]
 |i,v::vs=>.tup [.int i,v]::qx (i+1) vs
theorem enumItems_get(vs:List CV):∀(i k:Nat),(qx i vs)[k]?=vs[k]?.map λv=>.tup [.int ((i+k:Nat):Int),v]:=by
 induction vs with
 |nil=>intro i k;rfl
 |cons v vs ih=>
  intro i k
  induction k with
  |zero=>rfl
  |succ k=>refine(ih _ _).trans ?_;rw[show i+1+k=i+(k+1) by exact AW ..];rfl
theorem enumItems_length(vs:List CV):∀i,(qx i vs).length=vs.length:=by
 induction vs with
 |nil=>intro i;rfl
 |cons v vs ih=>intro i;exact congrArg Nat.succ (ih (i+1))
theorem gR.enum{elts:List Expr}{kk:Nat}{pp:Pos}(en it a:Addr)(vs:List CV)(Cp:en≠it)(QZ:a≠en)(Q0:a≠it):
  gR c (.Tuple elts kk pp) en [en,it] (qx 0 vs) (λσ=>σ a=some (.list vs)∨σ a=some (.ro vs)) (λk h=>(∃old,IsEnum h en it k old)∧h.IsListIter it a k) where
 next:=λ{A s σ k x} hh R ok hx hS {Q E} go=>by
  refine gH (uc R ok) λitems n eL rs=>?_;have W:=WalksT.enumerate (prog:=c.prog) (w:=c.w) hh en it a Cp QZ Q0 items;rw[enumItems_get]at hx
  cases hv:vs[k]? with
  |none=>rw[hv]at hx;exact bo hx
  |some y=>
   rw[hv]at hx;obtain rfl:=bt hx
   have hl:vs.length=items.size:=by simpa using rs.length
   have hk:k<items.size:=hl▸(List.getElem?_eq_some_iff.mp hv).1;obtain⟨⟨old,he⟩,hit⟩:=hS;obtain⟨oi,hoi,hci,_⟩:=id hit;have Ib:items[k]?=some items[k]:=o9 hk;refine a9 (rs.get hv) λu hu ru=>?_
   have hxu:items[k]=u:=by rw[show items[k]?=some u by simpa using hu]at Ib;exact(bt Ib).symm
   refine wpAny_pyNext_enum_item he hit (dJ eL) Ib Cp λh' ho pU hT dK HN=>?_;refine go _ h' (s.toks+1) λ{Q2 E2} kk2=>?_
   have nt:∀b∈[en,it],∀items n,s.heap.get? b≠some (d7 items n):=λb hb items n q=>by
    rcases List.mem_cons.mp hb with rfl |hb
    ·rw[he]at q;exact kF (by simp) _ _ (bt q)
    ·rw[List.mem_singleton.mp hb,hoi]at q;exact kF (by rw[hci];simp) _ _ (bt q)
   refine wpAny_letOwnedTupleGo_enum (s:={s with heap:=h',toks:=s.toks+1}) ho λIc zd cH=>?_
   have adH:en<s.heap.objs.size:=mP he
   have Q6:∀b o,b∉[en,it]→s.heap.get? b=some o→Ic.get? b=some o:=λb o nb e=>by
    have n1:b≠en:=λq=>nb (by simp[q])
    have n2:b≠it:=λq=>nb (by simp[q])
    exact cH.extBut b o n1 (HN b o n1 n2 e)
   have tu:=y9 Q6 nt;have hT2:Ic.get? s.heap.objs.size=some (d7 #[.int (k:Int) s.toks,items[k]] 0):=cH.extBut _ _ (vA adH) hT
   refine kk2 Ic (.tup hT2 (.cons (by rw[mO];exact .int _ _) (.cons (by rw[hxu];exact ru.bQ tu) .nil))) ⟨⟨_,by simpa using zd⟩,?_⟩ Q6
   exact pU.at λo e=>cH.extBut _ _ (Ne.symm Cp) e
 done:=λ{A s σ} hh R ok hS {Q E} go=>by
  refine gH (uc R ok) λitems n eL rs=>?_;have W:=WalksT.enumerate (prog:=c.prog) (w:=c.w) hh en it a Cp QZ Q0 items
  have hl:vs.length=items.size:=by simpa using rs.length
  rw[enumItems_length,hl]at hS;exact W.done s _ _ ⟨hS.1,hS.2,dJ eL⟩ λh' tk k=>go h' tk k
 self:=λ{A s k} hS {Q E} q=>let⟨⟨_,he⟩,_⟩:=hS;wpAny_pyIter_enum he q
 move:=λhS k tu=>by
  obtain⟨⟨old,he⟩,⟨o,ho,r⟩⟩:=hS
  exact⟨⟨old,k _ (by simp) _ he⟩,⟨o,k _ (by simp) _ ho,r⟩⟩
 here:=λhS b hb=>by
  obtain⟨⟨old,he⟩,⟨o,ho,hc,r⟩⟩:=hS
  rcases List.mem_cons.mp hb with rfl |hb
  ·exact⟨_,he,kF (by simp)⟩
  ·rw[List.mem_singleton.mp hb];exact⟨o,ho,kF (by rw[hc];simp)⟩
end
end
section
open PySem.SeqAt
noncomputable abbrev KV:=List (Nat×CV)
noncomputable abbrev FM:=List CV→KV→VM
inductive gZ(h:Heap):KV→List (bA×ak)→Prop
 |nil:gZ h [] []
 |cons {i:Nat} {x:CV} {v:ak} {xs vs} (hi:i<nN) (e:aV h x v) (r:gZ h xs vs):gZ h ((i,x)::xs) ((nm i,v)::vs)
noncomputable def aU(c:Cx)(n:Nat)(f:ak)(F:FM):Prop:=
 ∀⦃A:bj⦄ ⦃σ:St⦄ ⦃s:aw⦄ ⦃xs:List CV⦄ ⦃vs:List ak⦄ ⦃kx:KV⦄ ⦃kv:List (bA×ak)⦄ ⦃Q:CV→St→Prop⦄,fe n A→Rel c σ s.heap→aN s.heap xs vs→gZ s.heap kx kv→F xs kx σ Q→
  aM c.M A (call f vs kv) (cC c σ s Q) No s
inductive AK where
 |L |B |I |S |V
noncomputable abbrev AK.T:AK→Type
 |.L=>Addr
 |.B=>List UInt8
 |.I=>Int
 |.S=>bA
 |.V=>CV
noncomputable abbrev AK.cv:(k:AK)→k.T→CV
 |.L,a=>.loc a
 |.B,b=>.bytes b
 |.I,i=>.int i
 |.S,x=>.str x
 |.V,x=>x
noncomputable abbrev AK.ok(h:Heap):(k:AK)→k.T→ak→Prop
 |.L,a,v=>v=.ref a
 |.B,b,v=>∃t,v=.bytes b.toArray t
 |.I,i,v=>∃t,v=.int i t
 |.S,x,v=>∃t,v=.str x t
 |.V,x,v=>aV h x v
theorem AK.inv{h:Heap}:∀{k:AK} {x:k.T},aV h (k.cv x) v→k.ok h x v
 |.L,_,r=>r.dj
 |.B,_,r=>r.fP
 |.I,_,r=>r.bZ
 |.S,_,r=>r.pQ
 |.V,_,r=>r
theorem gZ.jU{h:Heap}(r:gZ h [] kv):kv=[]:=by cases r;rfl
noncomputable def fv(k:AK)(P:k.T→VM):FM:=λxs kx σ Q=>∃x,xs=[k.cv x]∧kx=[]∧P x σ Q
noncomputable def mj(k l:AK)(P:k.T→l.T→VM):FM:=λxs kx σ Q=>∃x y,xs=[k.cv x,l.cv y]∧kx=[]∧P x y σ Q
noncomputable def Cq(k l m:AK)(P:k.T→l.T→m.T→VM):FM:=λxs kx σ Q=>∃x y z,xs=[k.cv x,l.cv y,m.cv z]∧kx=[]∧P x y z σ Q
noncomputable def pV(F G:FM):FM:=λxs kx σ Q=>F xs kx σ Q∨G xs kx σ Q
section
variable{c:Cx}{n:Nat}{f:ak}{k l m:AK}{σ:St}{Q:CV→St→Prop}
theorem a1{P:k.T→VM}{x:k.T}(q:P x σ Q):fv k P [k.cv x] [] σ Q:=⟨x,rfl,rfl,q⟩
theorem a2{P:k.T→l.T→VM}{x:k.T}{y:l.T}(q:P x y σ Q):mj k l P [k.cv x,l.cv y] [] σ Q:=⟨x,y,rfl,rfl,q⟩
theorem a3{P:k.T→l.T→m.T→VM}{x:k.T}{y:l.T}{z:m.T}(q:P x y z σ Q):Cq k l m P [k.cv x,l.cv y,m.cv z] [] σ Q:=⟨x,y,z,rfl,rfl,q⟩
theorem aN.one{h:Heap}{x:CV}{vs:List ak}{G:List ak→Prop}(r:aN h [x] vs)(g:∀v,aV h x v→G [v]):G vs:=by
 obtain⟨v,_,rfl,r1,r⟩:=r.iT;rw[r.jU];exact g v r1
theorem aN.more{h:Heap}{G:List ak→Prop}(r:aN h (x::xs) vs)(g:∀v ws,aV h x v→aN h xs ws→G (v::ws)):G vs:=by
 obtain⟨v,_,rfl,r1,r⟩:=r.iT;exact g v _ r1 r
theorem gZ.no{h:Heap}{G:List (bA×ak)→Prop}(r:gZ h [] kv)(g:G []):G kv:=r.jU▸g
noncomputable abbrev CW:=bj→aw→St→List ak→List (bA×ak)→(CV→St→Prop)→Prop
noncomputable def hZ(c:Cx)(n:Nat)(W:CW)(F:FM):Prop:=
 ∀⦃A:bj⦄ ⦃σ:St⦄ ⦃s:aw⦄ ⦃xs:List CV⦄ ⦃vs:List ak⦄ ⦃kx:KV⦄ ⦃kv:List (bA×ak)⦄ ⦃Q:CV→St→Prop⦄,fe n A→Rel c σ s.heap→aN s.heap xs vs→gZ s.heap kx kv→F xs kx σ Q→W A s σ vs kv Q
section
variable{W:CW}
theorem hZ.of{F:FM}(h:∀{A σ s xs vs kx Q},fe n A→Rel c σ s.heap→aN s.heap xs vs→F xs kx σ Q→kx=[]∧W A s σ vs [] Q):hZ c n W F:=
 λA σ s xs vs kx kv Q hr R r rk q=>have z:=h hr R r q;gZ.no (G:=λkv=>W A s σ vs kv Q) (z.1▸rk) z.2
theorem hZ.a1{P:k.T→VM}(h:∀{A σ s x v Q},fe n A→Rel c σ s.heap→k.ok s.heap x v→P x σ Q→W A s σ [v] [] Q):hZ c n W (fv k P):=
 hZ.of λ{A σ s xs vs kx Q} hr R r q=>q.elim λx q=>⟨q.2.1,aN.one (G:=λvs=>W A s σ vs [] Q) (q.1▸r) λv r1=>h hr R (AK.inv r1) q.2.2⟩
theorem hZ.a2{P:k.T→l.T→VM}(h:∀{A σ s x y v w Q},fe n A→Rel c σ s.heap→k.ok s.heap x v→l.ok s.heap y w→P x y σ Q→W A s σ [v,w] [] Q):hZ c n W (mj k l P):=
 hZ.of λ{A σ s xs vs kx Q} hr R r q=>q.elim λx q=>q.elim λy q=>⟨q.2.1,aN.more (G:=λvs=>W A s σ vs [] Q) (q.1▸r) λv ws r1 r=>aN.one (G:=λvs=>W A s σ (v::vs) [] Q) r λw r2=>h hr R (AK.inv r1) (AK.inv r2) q.2.2⟩
theorem hZ.a3{P:k.T→l.T→m.T→VM}(h:∀{A σ s x y z v w u Q},fe n A→Rel c σ s.heap→k.ok s.heap x v→l.ok s.heap y w→m.ok s.heap z u→P x y z σ Q→W A s σ [v,w,u] [] Q):hZ c n W (Cq k l m P):=
 hZ.of λ{A σ s xs vs kx Q} hr R r q=>q.elim λx q=>q.elim λy q=>q.elim λz q=>⟨q.2.1,aN.more (G:=λvs=>W A s σ vs [] Q) (q.1▸r) λv ws r1 r=>aN.more (G:=λvs=>W A s σ (v::vs) [] Q) r λw ws r2 r=>aN.one (G:=λvs=>W A s σ (v::w::vs) [] Q) r λu r3=>h hr R (AK.inv r1) (AK.inv r2) (AK.inv r3) q.2.2⟩
theorem hZ.or{F G:FM}(h1:hZ c n W F)(h2:hZ c n W G):hZ c n W (pV F G):=λA σ s xs vs kx kv Q hr R r rk q=>q.elim (h1 hr R r rk) (h2 hr R r rk)
end
noncomputable abbrev uf(c:Cx)(f:ak):CW:=λA s σ vs kv Q=>aM c.M A (call f vs kv) (cC c σ s Q) No s
theorem aU.a1{P:k.T→VM}(h:∀{A σ s x v Q},fe n A→Rel c σ s.heap→k.ok s.heap x v→P x σ Q→uf c f A s σ [v] [] Q):aU c n f (fv k P):=@hZ.a1 c n k (uf c f) P h
theorem aU.a2{P:k.T→l.T→VM}(h:∀{A σ s x y v w Q},fe n A→Rel c σ s.heap→k.ok s.heap x v→l.ok s.heap y w→P x y σ Q→uf c f A s σ [v,w] [] Q):aU c n f (mj k l P):=@hZ.a2 c n k l (uf c f) P h
theorem aU.a3{P:k.T→l.T→m.T→VM}(h:∀{A σ s x y z v w u Q},fe n A→Rel c σ s.heap→k.ok s.heap x v→l.ok s.heap y w→m.ok s.heap z u→P x y z σ Q→uf c f A s σ [v,w,u] [] Q):aU c n f (Cq k l m P):=@hZ.a3 c n k l m (uf c f) P h
theorem aU.or{F G:FM}(h1:aU c n f F)(h2:aU c n f G):aU c n f (pV F G):=@hZ.or c n (uf c f) F G @h1 @h2
end
section
variable{c:Cx}{σ:St}{s:aw}{a:Addr}{G:Prop}(R:Rel c σ s.heap)
include R
theorem Rel.li{vs:List CV}(h:σ a=some (.list vs))(k:∀items m,s.heap.get? a=some (listOf items m)→vs.length=items.size→aN s.heap vs items.toList→G):G:=
 (R.objs _ _ h).2.elim λitems z=>z.elim λm z=>k items m z.1 z.2.length z.2
theorem Rel.lr{vs:List CV}(h:σ a=some (.list vs)∨σ a=some (.ro vs))(k:∀items m,s.heap.get? a=some (listOf items m)→vs.length=items.size→aN s.heap vs items.toList→G):G:=
 (uc R h).elim λitems z=>z.elim λm z=>k items m z.1 z.2.length z.2
theorem Rel.di{es:List (Int×CV)}(h:σ a=some (.dI es))(k:∀kvs,s.heap.DictOf (intKind c.prog c.w) a kvs→es.length=kvs.length→cZ s.heap es kvs→G):G:=
 (R.objs _ _ h).2.elim λkvs z=>k kvs z.1 z.2.length z.2
theorem Rel.ds{es:List (bA×CV)}(h:σ a=some (.dS es))(k:∀kvs,s.heap.DictOf (AR c.prog c.w) a kvs→es.length=kvs.length→cZ s.heap es kvs→G):G:=
 (R.objs _ _ h).2.elim λkvs z=>k kvs z.1 z.2.length z.2
theorem Rel.db{es:List (List UInt8×CV)}(h:σ a=some (.dB es))(k:∀kvs,s.heap.DictOf (fL c.prog c.w) a kvs→es.length=kvs.length→cZ s.heap es kvs→G):G:=
 (R.objs _ _ h).2.elim λkvs z=>k kvs z.1 z.2.length z.2
end
noncomputable def dw(c:Cx)(f:ak):Prop:=∀h,c.K.In h→∃k,(k=Keeper.frame∨k=Keeper.machine∨k=Keeper.boundFrame)∧Looks c.M h (keeperOf f) k
theorem dw.bi{c:Cx}(id:String):dw c (.builtin id):=λh z=>⟨.machine,.inr (.inl rfl),.now⟩
theorem dw.ty{c:Cx}(id:String):dw c (.type id):=λh z=>⟨.machine,.inr (.inl rfl),.now⟩
theorem dw.fn{c:Cx}{f:Addr}(hk:keepIn c.K (.ref f)=true):dw c (.ref f):=keeps_K hk
noncomputable def tN:CV→Option ak
 |.loc a=>some (.ref a)
 |.ty n=>some (.type n)
 |.bi n=>some (.builtin n)
 |_=>none
theorem Cr{h:Heap}{f:ak}:∀{x:CV},aV h x v→tN x=some f→v=f
 |.loc _,r,e=>r.dj.trans (bt e)
 |.ty _,r,e=>r.PV.trans (bt e)
 |.bi _,r,e=>r.vbi.trans (bt e)
 |.none,_,e |.bool _,_,e |.int _,_,e |.str _,_,e |.bytes _,_,e |.tup _,_,e=>bo e
section
variable{c:Cx}{n:Nat}{ks:Ks}{A:bj}{env:Env}{e:aL}{σ:St}{s:aw}
theorem adI{M:fy}{A:bj}{s:aw}{f:ak}{args:List (Bool×Sem ak)}{Q:Args→aw→Prop}(hp:args.any (λx=>x.1)=false)
  (h:aM M A (spliced args) (λvs s'=>Q ⟨vs,[]⟩ s') E s):aM M A (evalArgs f true args []) Q E s:=by
 induction args with
 |nil=>
  unfold evalArgs;show aM M A (spliced [] >>= _) Q E s;refine aC (b0 h (λvs s' h'=>?_) λz z x=>x);refine aC (aO (jf ?_))
  exact aC (aO (aC (aO (aO h'))))
 |cons x rest=>
  obtain⟨b,x⟩:=x
  have:b=false:=by rw[xP,YM]at hp;exact hp.1
  subst this;exact Calls.evalArgs_plain h
theorem Cs{pos:Pos}{f:ak}{fx:List CV}{F:FM}{m:Nat}{Q:CV→St→Prop}(hk:dw c f)(hF:aU c m f F)(hm:m≤n)(h:gY c n ks args ms)(N:cO c n A env ks e σ s)(rf:aN s.heap fx first)
  (q:ms e σ λxs ae=>F (fx++xs) [] ae Q)(hp:∀env,(dZ pos (cU args env)).any (λx=>x.1)=false):aM c.M A (lV pos f first (dZ pos (cU args env)) []) (cC c σ s Q) No s:=
 callWith_of (P:=c.K.In) (by simpa using hp env) hk (adI (hp env) (t5 (h pos N q) λxs vs ae s' r w q'=>
  ⟨c.jV.keeps w.rel.base,iE w (hF (N.room.le hm) w.rel ((rf.bu N.rel w).append r) .nil q')⟩))
noncomputable def aY(F:FM)(ms:cV):EM:=λe σ Q=>ms e σ λxs ae=>F xs [] ae Q
theorem aH.call{fx:Expr}{args:List Expr}{pos:Pos}{x:CV}{f:ak}{F:FM}{m:Nat}{ms:cV}(hf:aH c n ks fx (au x))(hx:tN x=some f)(hk:dw c f)(hF:aU c m f F)(hm:m≤n)(h:gY c n ks args ms)
  (he:autoParam (∀env,eval (.Call fx args [] pos) env=(do lV pos (←eval fx env) [] (dZ pos (cU args env)) (lW pos (lT [] env)))) aI)
  (hp:autoParam (∀env,(dZ pos (cU args env)).any (λx=>x.1)=false) aI):aH c n ks (.Call fx args [] pos) (aY F ms):=λA env e σ s Q N q=>
 Call_ (wp_step (hf (Q:=λy ae=>y=x∧ae=σ) N ⟨rfl,rfl⟩) λy v ao s1 r1 w1 q1=>by
  obtain⟨rfl,rfl⟩:=q1;rw[Cr r1 hx]
  exact iE w1 (Cs hk hF hm h (N.bu w1) .nil q hp)) (he _)
noncomputable def Ie(i:Nat)(x:CV)(F:FM)(ms:cV):EM:=λe σ Q=>e i=some x∧ms e σ λxs ae=>F xs [] ae Q
theorem aH.aam{fx:Expr}{args:List Expr}{pos:Pos}{x:CV}{f:ak}{F:FM}{m i:Nat}{ms:cV}(hf:aH c n ks fx (af i))(hx:tN x=some f)(hk:dw c f)(hF:aU c m f F)(hm:m≤n)(h:gY c n ks args ms)
  (he:autoParam (∀env,eval (.Call fx args [] pos) env=(do lV pos (←eval fx env) [] (dZ pos (cU args env)) (lW pos (lT [] env)))) aI)
  (hp:autoParam (∀env,(dZ pos (cU args env)).any (λx=>x.1)=false) aI):aH c n ks (.Call fx args [] pos) (Ie i x F ms):=λA env e σ s Q N q=>
 Call_ (wp_step (hf (Q:=λy ae=>y=x∧ae=σ) N (BG q.1 ⟨rfl,rfl⟩)) λy v ao s1 r1 w1 q1=>by
  obtain⟨rfl,rfl⟩:=q1;rw[Cr r1 hx]
  exact iE w1 (Cs hk hF hm h (N.bu w1) .nil q.2 hp)) (he _)
noncomputable def rV(C i f:Nat):Bool:=yp.contains ((C,i),f)
theorem Ig{C f:Nat}(h:rV C i f=true):((C,i),f)∈yp:=by simpa[rV]using h
noncomputable def r9(C i:Nat)(x:CV)(σ:St):Prop:=∃a d fs,x=.loc a∧σ a=some (.inst C d)∧σ d=some (.iV fs)∧iz fs i=none
noncomputable def bN(C i:Nat)(F:FM)(mo:EM)(ms:cV):EM:=λe σ Q=>mo e σ λx ao=>r9 C i x ao∧ms e ao λxs ay=>F (x::xs) [] ay Q
theorem Q7{C f:Nat}{pl:Sem Bool}{Q:ak×List ak→aw→Prop}(hm:rV C i f=true)(R:Rel c σ s.heap)(r:aV s.heap x v)(q:r9 C i x σ)(h:Q (.ref f,[v]) s):aM c.M A (tF v (nm i) pl) Q No s:=by
 obtain⟨a,d,fs,rfl,h1,h2,h3⟩:=q;obtain rfl:=r.dj;have k:=c.BB _ _ _ (Ig hm);refine mX (HS R h1 h2 k.1) λod m I hn ho hl hr=>?_
 have z:∀o,o=none→(match o with |some x=>∃v,m (nm i)=some v∧aV s.heap x v∧x.tX=false |none=>m (nm i)=none)→m (nm i)=none:=λy e z=>by subst e;exact z
 exact method_fn (c.jV.keeps R.base) I (plainGet_of k.2.1).1 (plainGet_of k.2.1).2 k.2.2.1 (beq_iff_eq.mp k.2.2.2.1) (congrArg (Option.map Option.isSome) (hl.trans (congrArg some (z _ h3 (hr i k.1))))) h
theorem aH.jy{o:Expr}{name:bA}{args:List Expr}{apos pos:Pos}{F:FM}{m C i f:Nat}{mo:EM}{ms:cV}{pl:Env→Sem Bool}(hx:nm i=name)(ho:aH c n ks o mo)(ht:rV C i f=true)(hF:aU c m (.ref f) F)(hm:m≤n)(h:gY c n ks args ms)
  (he:autoParam (∀env,eval (.Call (.Attribute o name apos) args [] pos) env=(do
   let ov ←eval o env
   oe apos.atName
   let(f,first) ←holding [ov] (tF ov name (pl env))
   lV pos f first (dZ pos (cU args env)) (lW pos (lT [] env)))) aI)
  (hp:autoParam (∀env,(dZ pos (cU args env)).any (λx=>x.1)=false) aI):aH c n ks (.Call (.Attribute o name apos) args [] pos) (bN C i F mo ms):=λA env e σ s Q N q=>by
 subst hx;refine MethodCall_ (wp_step (ho N q) λx v ao s1 r1 w1 q1=>Q7 ht w1.rel r1 q1.1 ?_) (he _);obtain⟨_,_,_,_,k4⟩:=c.BB _ _ _ (Ig ht);exact iE w1 (Cs (dw.fn k4) hF hm h (N.bu w1) (.cons r1 .nil) q1.2 hp)
end
end
section
open PySem.SeqAt
noncomputable def qz(p:Arguments):Bool:=p.posonlyargs.isEmpty&&p.vararg.isNone&&p.kwonlyargs.isEmpty&&p.kwarg.isNone
theorem adJ{p:Arguments}(h:qz p=true):p=⟨[],p.args,none,[],p.kw_defaults,none,p.defaults⟩:=by
 have h:=cK.1 h;have g:=cK.1 h.1;have k:=cK.1 g.1;have e1:=L0.1 k.1;have e2:=EA.1 k.2;have e3:=L0.1 g.2;have e4:=EA.1 h.2;obtain⟨_,_,_,_,_,_,_⟩:=p;dsimp only at e1 e2 e3 e4;rw[e1,e2,e3,e4]
noncomputable def kwOk(ns:List Str):List (Str×ak)→List (Str×ak)→Bool
 |[],_=>true
 |(k,v)::r,sl=>ns.contains k&&(sl.lookup k).isNone&&kwOk ns r (sl++[(k,v)])
noncomputable def ug:List (Str×ak)→List (Str×ak)→List (Str×ak)
 |[],sl=>sl
 |(n,d)::r,sl=>if(sl.lookup n).isNone then ug r (sl++[(n,d)])else ug r sl
section
variable{M:fy}{A:bj}{E:ak→aw→Prop}{s:aw}
noncomputable abbrev L2:=List (Str×ak)
theorem Q8{ns:List Str}{f:Str×ak→L2×L2→Sem (ForInStep (L2×L2))}(hf:∀k v sl ex,ns.contains k=true→(sl.lookup k).isNone=true→f (k,v) (sl,ex)=pure (.yield (sl++[(k,v)],ex))):
  ∀(kv sl:L2) {Q:L2×L2→aw→Prop},kwOk ns kv sl=true→Q (sl++kv,[]) s→aM M A (forIn kv (sl,[]) f) Q E s
 |[],sl,Q,_,q=>by rw[fj]at q;exact aO q
 |(k,v)::r,sl,Q,h,q=>by
  have h:=cK.1 h;have g:=cK.1 h.1;rw[L3,hf k v sl [] g.1 g.2]
  exact aC (aO (Q8 hf r _ h.2 (by rw[fJ];exact q)))
theorem Ih{f:Str×ak→L2→Sem (ForInStep L2)}(hf:∀n d sl,f (n,d) sl=if(sl.lookup n).isNone=true then pure (.yield (sl++[(n,d)]))else pure (.yield sl)):
  ∀(l sl:L2) {Q:L2→aw→Prop},Q (ug l sl) s→aM M A (forIn l sl f) Q E s
 |[],sl,Q,q=>aO q
 |(n,d)::r,sl,Q,q=>by
  rw[L3,hf n d sl]
  by_cases h:(sl.lookup n).isNone=true
  ·rw[show ug ((n,d)::r) sl=_ from if_pos h]at q;rw[if_pos h];exact aC (aO (Ih hf r _ q))
  ·rw[show ug ((n,d)::r) sl=_ from if_neg h]at q;rw[if_neg h];exact aC (aO (Ih hf r _ q))
end
noncomputable def Ct(ns:List Str)(vs:List ak)(kv:L2)(ds:List ak)(binds:L2):Prop:=
 vs.length≤ns.length∧kwOk ns kv (ns.zip vs)=true∧
 (ns.take (ns.length- (ds.drop (ds.length- ns.length)).length)).filter (λn=>((ns.zip vs++kv).lookup n).isNone)=[]∧
 ((ns++[]).filterMap λn=>((ug ((ns.drop (ns.length- (ds.drop (ds.length- ns.length)).length)).zip (ds.drop (ds.length- ns.length))) (ns.zip vs++kv)).lookup n).map (n,·))=binds
theorem adK{l:List Str}(h:l=[]):¬(!l.isEmpty)=true:=by rw[h];exact gX
section
variable{s:aw}{fd:ph}{as:List Arg}{kd:List (Option Expr)}{df:List Expr}{vs:List ak}{kv binds:L2}{od:Option (Array ak)}
theorem adL(hd:∀{M A E Q},Q od s→aM M A (xT fd.defaults) Q E s)(h:Ct (as.map (λx=>x.arg)) vs kv (od.getD #[]).toList binds):rR s {fd with params:=⟨[],as,none,[],kd,none,df⟩} ⟨vs,kv⟩ binds:=λM A E Q q=>
 aC (Q8 (ns:=as.map (λx=>x.arg)) (λk v sl ex g1 g2=>(if_pos (by rw[g1];rfl)).trans (if_neg (λz=>by rw[EA.1 g2]at z;exact eP z))) kv _ h.2.1
  (aC (m:=xT _) (hd (tG (Fm (λz=>Nat.not_lt.2 h.1 (of_decide_eq_true (cK.1 z).1)) (tG (Fm (adK h.2.2.1)
   (aC (Ih (λn d sl=>rfl) _ _ (aO (h.2.2.2▸q)))))))))))
theorem Q9{ns:List Str}(hp:qz fd.params=true)(ha:fd.params.args.map (λx=>x.arg)=ns)(hd:∀{M A E Q},Q od s→aM M A (xT fd.defaults) Q E s)(h:Ct ns vs kv (od.getD #[]).toList binds):rR s fd ⟨vs,kv⟩ binds:=by
 subst ha
 have e:fd={fd with params:=⟨[],fd.params.args,none,[],fd.params.kw_defaults,none,fd.params.defaults⟩}:=congrArg (λp=>{fd with params:=p}) (adJ hp)
 rw[e];exact adL @hd h
theorem adM{l:L2}(hn:(l.map (λx=>x.1)).Nodup):∀p∈l,l.lookup p.1=some p.2:=by
 induction l with
 |nil=>exact λz h=>cA h
 |cons q l ih=>
  have hn:=mN.1 hn;intro p hp
  rcases eO.1 hp with rfl |hp
  ·exact List.lookup_cons_self
  ·rw[kg,beq_eq_false_iff_ne.2 λe=>hn.1 (dD.2 ⟨p,hp,e⟩)]
   exact ih hn.2 p hp
theorem Ra{sl:L2}:∀{l:L2},(∀p∈l,(sl.lookup p.1).isNone=false)→ug l sl=sl
 |[],_=>rfl
 |p::l,h=>(if_neg (by rw[h p (.head _)];exact gX)).trans (Ra λq hq=>h q (.tail _ hq))
theorem Rb{f:Str×ak→Option (Str×ak)}:∀{l:L2},(∀p∈l,f p=some p)→l.filterMap f=l
 |[],_=>rfl
 |p::l,h=>by rw[List.filterMap_cons,h p (.head _)];exact congrArg _ (Rb λq hq=>h q (.tail _ hq))
theorem adN{ns:List Str}{ds:List ak}(hn:ns.Nodup)(hl:vs.length=ns.length):Ct ns vs [] ds (ns.zip vs):=by
 have e:(ns.zip vs).map (λx=>x.1)=ns:=List.map_fst_zip (rN hl.symm);have lk:=adM (l:=ns.zip vs) (e.symm▸hn)
 have Rd:∀n∈ns,((ns.zip vs).lookup n).isNone=false:=λn hn=>by
  rw[←e]at hn;refine a9 (dD.1 hn) λp hp aq=>?_;subst aq;rw[lk p hp];rfl
 refine⟨rN hl,rfl,?_,?_⟩
 ·rw[fj,Ll]
  exact λn h=>by rw[Rd n (List.mem_of_mem_take h)];exact gX
 ·rw[fj,fj,Ra λp hp=>Rd _ (List.mem_of_mem_drop (List.of_mem_zip (show(p.1,p.2)∈_ from hp)).1)]
  conv=>lhs;arg 2;rw[←e]
  rw[YW];exact Rb λp hp=>congrArg (Option.map (p.1,·)) (lk p hp)
theorem adO(hs:∀i∈ps,i<nN)(hn:ps.Nodup):(ps.map nm).Nodup:=Y0.2 (hn.imp_of_mem λha hb h e=>h (oE (hs _ ha) (hs _ hb) e))
noncomputable def DfltIs(s:aw)(v:ak)(od:Option (Array ak)):Prop:=∀{M:fy} {A:bj} {E:ak→aw→Prop} {Q:Option (Array ak)→aw→Prop},Q od s→aM M A (xT v) Q E s
theorem Rf(hp:qz fd.params=true)(ha:fd.params.args.map (λx=>x.arg)=ps.map nm)(hs:∀i∈ps,i<nN)(hn:ps.Nodup)(hl:vs.length=ps.length)(hd:∃od,DfltIs s fd.defaults od):rR s fd ⟨vs,[]⟩ ((ps.map nm).zip vs):=
 hd.elim λod hd=>Q9 hp ha @hd (adN (adO hs hn) (hl.trans (aZ _).symm))
end
end
section
open PySem.SeqAt
theorem uh:∀(names:List (bA×gC)) (n:Nat) (acc:List (bA×Addr)) (x:bA),((x,Mh)∈names∨(acc.lookup x).isSome=true)→((km n names acc).lookup x).isSome=true
 |[],_,acc,x,h=>h.elim (λh=>cA h) id
 |(y,k)::r,n,acc,x,h=>by
  unfold km
  by_cases hk:(k==.cell)=true
  ·rw[if_pos hk]
   refine uh r _ _ x ?_;rw[kg]
   by_cases e:x=y
   ·rw[e,beq_self_eq_true];exact .inr rfl
   ·rw[beq_eq_false_iff_ne.2 e];exact h.imp (λh=>(eO.1 h).resolve_left λz=>e (k0 z).1) id
  ·rw[if_neg hk]
   exact uh r _ _ x (h.imp (λh=>(eO.1 h).resolve_left λz=>hk (beq_iff_eq.2 (k0 z).2.symm)) id)
noncomputable def Bound(h:Heap)(env:Env)(m cm:bA→Option ak)(e:aL):Prop:=∀i v,i<nN→e i=some v→
 (env.kindOf (nm i)=some .local→∃x,m (nm i)=some x∧aV h v x)∧(env.kindOf (nm i)≠some .local→∃x,cm (nm i)=some x∧aV h v x)
theorem Bound.set{h:Heap}{m cm:bA→Option ak}(hi:i<nN)(rx:aV h x v)(b:Bound h env m cm e):Bound h env (if env.kindOf (nm i)=some .local then λy=>if y=nm i then some v else m y else m) (if env.kindOf (nm i)=some .local then cm else λy=>if y=nm i then some v else cm y) (bz e i x):=λj y hj hy=>by
 by_cases q:j=i
 ·subst q
  rw[hH]at hy;obtain rfl:=bt hy
  exact⟨λk=>by rw[if_pos k];exact⟨v,if_pos rfl,rx⟩,λk=>by rw[if_neg k];exact⟨v,if_pos rfl,rx⟩⟩
 ·rw[ox q]at hy
  have jF:nm j≠nm i:=λz=>q (oE hj hi z);have b:=b j y hj hy
  refine⟨λk=>?_,λk=>?_⟩
  ·split
   ·exact(b.1 k).imp λo z=>⟨(if_neg jF).trans z.1,z.2⟩
   ·exact b.1 k
  ·split
   ·exact b.2 k
   ·exact(b.2 k).imp λo z=>⟨(if_neg jF).trans z.1,z.2⟩
theorem Bound.go{h:Heap}:∀{ps:List Nat} {xs:List CV} {vs:List ak} {m cm:bA→Option ak} {e:aL},(∀i∈ps,i<nN)→xs.length=ps.length→aN h xs vs→Bound h env m cm e→
  Bound h env (bindL env.kindOf ((ps.map nm).zip vs) m) (bindC env.kindOf ((ps.map nm).zip vs) cm) (eW ps xs e)
 |[],_,_,_,_,_,_,_,_,b=>b
 |i::ps,[],_,_,_,_,_,hl,_,_=>rT hl
 |i::ps,x::xs,_,_,_,_,hs,hl,r,b=>by
  obtain⟨v,vs,rfl,rx,r⟩:=r.iT;exact Bound.go (ps:=ps) (xs:=xs) (λj hj=>hs j (.tail _ hj)) (Nat.succ.inj hl) r (b.set (hs i (.head _)) rx)
section
variable{c:Cx}{n:Nat}{A:bj}{σ:St}{s:aw}
structure vJ(c:Cx)(f:Addr)(fd:ph)(body:List Stmt)(ks:Ks):Prop where
 at_:∃o,c.K.lookup f=some o∧o.data=.func fd
 body:fd.body=.stmts body
 Rg:fd.closure=[]
 glob:fd.globals=nV
 blt:fd.builtins=Fk
 code:codeIn c.K fd.code fd.qualname=true
 kind:fd.scope.kind=.function
 co:fd.scope.isCoroutine=false
 gen:fd.scope.isGenerator=false
 names:fd.scope.names=ks.map λp=>(nm p.1,p.2)
 small:∀p∈ks,p.1<nN
 free:∀p∈ks,p.2≠.free
noncomputable def ui(m:SM)(e:aL):VM:=λσ Q=>m e σ λfl z ae=>match fl with |.ret v=>Q v ae |.next=>Q .none ae |_=>False
noncomputable def Cu(c:Cx)(σ:St)(s:aw)(Q:CV→St→Prop):lg→aw→Prop:=λr s'=>match r with
 |.ok (.ret v)=>cC c σ s Q v s'
 |_=>False
noncomputable def bE(c:Cx)(n:Nat)(f:ak)(F:FM):Prop:=
 ∀⦃A:bj⦄ ⦃σ:St⦄ ⦃s:aw⦄ ⦃xs:List CV⦄ ⦃vs:List ak⦄ ⦃kx:KV⦄ ⦃kv:List (bA×ak)⦄ ⦃Q:CV→St→Prop⦄,fe n A→Rel c σ s.heap→aN s.heap xs vs→gZ s.heap kx kv→F xs kx σ Q→
  rS c.M A (.call f ⟨vs,kv⟩) (Cu c σ s Q) s
theorem bE.toF{c:Cx}{n:Nat}{F:FM}(h:bE c n f F):aU c n f F:=λA σ s xs vs kx kv Q hr R r rk q=>wpAny_call (AY (h hr R r rk q) λr s' z=>by
 induction r with
 |error e=>exact z.elim
 |ok f=>cases f<;>first |exact z |exact z.elim)
theorem yj{f:Addr}{m:SM}(ok:vJ c f fd body ks)(hm:eQ c n ks body m){ze:List ak}
  (dR:∀i∈ps,fN (ks.lookup i)=true)(ml:fe (n+1) A)(R:Rel c σ s.heap)(hb:rR s fd ⟨ze,kv⟩ ((ps.map nm).zip vs))(r:aN s.heap xs vs)(hl:xs.length=ps.length)(q:ui m (eW ps xs λy=>none) σ Q):
  rS c.M A (.call (.ref f) ⟨ze,kv⟩) (Cu c σ s Q) s:=by
 refine a9 ok.at_ λo ho hd=>?_;have X:=c.jV.keeps R.base
 have nj:∀i∈ps,i<nN:=λi hi=>by
  rcases oF (dR i hi)with h |h<;>exact ok.small _ (lookup_mem h)
 have zf:∀{i:Nat},i<nN→fd.scope.names.lookup (nm i)=ks.lookup i:=λ{i} hi=>by rw[ok.names];exact yQ ok.small hi
 refine codeAny_call_function ml.depth (X _ _ ho) hd ok.co ok.gen ok.body (codeRec_of X ok.code) (hb _ _ _ _ ?_);rw[ok.Rg,ok.glob,ok.blt]
 refine alc ok.kind (λx hx=>?_) λenv he s' ic=>?_
 ·have Ii:=(List.of_mem_zip (show(x.1,x.2)∈_ from hx)).1
  refine a9 (List.mem_map.mp Ii) λi hi Ij=>?_;rw[←Ij,zf (nj i hi)]
  rcases oF (dR i hi)with h |h
  ·exact .inl h
  ·refine .inr ⟨h,uh _ _ _ _ (.inl ?_)⟩
   rw[ok.names];exact List.mem_map.mpr ⟨(i,.cell),lookup_mem h,rfl⟩
 ·have oG:env.scope=fd.scope:=by rw[he];rfl
  have jm:∀{i:Nat},i<nN→env.kindOf (nm i)=ks.lookup i:=λ{i} hi=>by unfold Env.kindOf;rw[oG];exact zf hi
  have hL:env.locals=s.heap.objs.size:=by rw[he];rfl
  have keep:=ic.toInCall.keep;have new:∀b,s.heap.objs.size≤b→s.heap.get? b=none:=λb hb=>EF hb
  have nu:s.heap.get? env.locals=none:=new _ (by rw[hL];exact cP _)
  have uj:∀{x a},env.cells.lookup x=some a→s.heap.get? a=none:=λ{x a} h=>new _ (by
   have:=ic.above _ _ (mem_of_lookup h);rw[hL]at this;exact iQ this)
  have R':Rel c σ s'.heap:=R.kept keep
  have e1:∃h' tk,s'={s with heap:=h',toks:=tk}:=ic.toInCall.same
  refine gF e1 λh' tk aq=>?_;clear e1;subst aq
  have B:Bound h' env _ _ (eW ps xs λy=>none):=Bound.go (m:=λy=>none) (cm:=λy=>none) nj hl (r.bQ λb items n e=>keep b _ e) λi v y hv=>by exact bo hv
  have ap:∀i j a,i<nN→j<nN→env.cells.lookup (nm i)=some a→env.cells.lookup (nm j)=some a→i=j:=λi j a hi hj h1 h2=>
   oE hi hj (name_of_addr ic.apart (mem_of_lookup h1) (mem_of_lookup h2))
  have uk:jj c env ks:=⟨by rw[oG];exact ok.names,ok.small,by rw[oG];exact ok.kind,by rw[he];rfl,by rw[he];rfl,ap⟩
  have fr:eY c env ks (eW ps xs λy=>none) σ h':=by
   refine⟨⟨_,ic.toInCall.ns,λi v hi hv=>?_⟩,R.fresh nu,R.out nu,λi hi=>?_⟩
   ·have ff:=uk.lt hi
    exact(B i v ff hv).1 (by rw[jm ff];exact hi)
   ·have um:ks.lookup i=some .cell:=by
     rcases hi with h |h
     ·exact h
     ·exact absurd rfl (ok.free _ (lookup_mem h))
    have ff:=uk.lt um
    have:(env.cells.lookup (nm i)).isSome=true:=by
     rw[he];refine uh _ _ _ _ (.inl ?_);rw[ok.names];exact List.mem_map.mpr ⟨(i,.cell),lookup_mem um,rfl⟩
    obtain⟨a,ha⟩:=Option.isSome_iff_exists.mp this;refine⟨a,_,ha,ic.cell _ _ ha,R.fresh (uj ha),R.out (uj ha),λv hv=>?_⟩
    exact(B i v ff hv).2 (by rw[jm ff,um];simp)
  have N:cO c n (A.deeper env) env ks (eW ps xs λy=>none) σ {s with heap:=h',toks:=tk}:=⟨ml.deeper,uk,fr,R'⟩
  refine⟨c.GI.keeps R'.base,codeAny_func ?_⟩;refine b0 (hm N q) (λf j0 hq=>?_) λy y z=>z.elim;obtain⟨fl,e',ae,rf,w,_,q'⟩:=hq
  have ext:Ext σ s.heap ae j0.heap:=lF.ext (Ext.kept keep) w.ext λb hb=>by
   rcases hb with rfl |⟨i,_,hc⟩
   ·exact nu
   ·exact uj hc
  have W:bK c σ s ae j0:=⟨w.rel,ext,w.gens,w.os⟩
  induction rf with
  |next=>exact⟨_,_,.none,W,q'⟩
  |brk=>exact q'.elim
  |cont=>exact q'.elim
  |ret r=>exact⟨_,_,r,W,q'⟩
noncomputable def bD(ps:List Nat)(m:SM):FM:=λxs kx σ Q=>xs.length=ps.length∧kx=[]∧ui m (eW ps xs λz=>none) σ Q
noncomputable def refOf:ak→Option Addr
 |.ref a=>some a
 |_=>none
theorem adP(h:refOf v=some a):v=.ref a:=by
 induction v with
 |ref b=>exact congrArg A5 (bt h)
 |_=>exact nomatch (show(none:Option Addr)=some a from h)
noncomputable def Rh:Data→Option (Array ak)
 |.seq xs _=>some xs
 |_=>none
theorem adQ{xs:Array ak}{d:Data}(h:Rh d=some xs):∃n,d=.seq xs n:=by
 induction d with
 |seq ys n=>exact⟨n,congrArg (λz=>Data.seq z n) (bt h)⟩
 |_=>exact nomatch (show(none:Option (Array ak))=some xs from h)
noncomputable def FH(K:Frag)(v:ak):Option (Array ak):=(refOf v).bind λT=>(K.lookup T).bind λo=>Rh o.data
theorem Nq{xs:Array ak}(h:FH K v=some xs):∃T o n,v=.ref T∧K.lookup T=some o∧o.data=.seq xs n:=
 (vm.1 h).elim λT h=>(vm.1 h.2).elim λo z=>(adQ z.2).elim λn d=>⟨T,o,n,adP h.1,z.1,d⟩
noncomputable def vK(K:Frag)(v:ak):Bool:=v==.none||(FH K v).isSome
theorem Ri(h:vK c.K fd.defaults=true)(R:Rel c σ s.heap):∃od,DfltIs s fd.defaults od:=by
 rcases Bool.or_eq_true_iff.1 h with h |h
 ·rw[n9 h];exact⟨none,λh=>aC (aO (aO h))⟩
 ·obtain⟨xs,h⟩:=Lf.1 h
  refine f7 (Nq h) λT o n e q d=>?_;rw[e];exact⟨some xs,λh=>E5 ((c.jV.keeps R.base) _ _ q) d h⟩
theorem bE.def{f:Addr}{m:SM}(ok:vJ c f fd body ks)(hm:eQ c n ks body m)(ps:List Nat)(dR:∀i∈ps,fN (ks.lookup i)=true)(hn:ps.Nodup)
  (hp:qz fd.params=true)(ha:fd.params.args.map (λx=>x.arg)=ps.map nm)(hd:vK c.K fd.defaults=true):bE c (n+1) (.ref f) (bD ps m):=λA σ s xs vs kx kv Q hr R r rk q=>by
 obtain⟨hl,rfl,q⟩:=q;cases rk
 have nj:∀i∈ps,i<nN:=λi hi=>by
  rcases oF (dR i hi)with h |h<;>exact ok.small _ (lookup_mem h)
 exact yj ok hm dR hr R (Rf hp ha nj hn (by rw[←r.length,hl]) (Ri hd R)) r hl q
end
end
section
open PySem.SeqAt
section
variable{c:Cx}{n:Nat}{ks:Ks}{A:bj}{env:Env}{e:aL}{σ:St}{s:aw}
noncomputable def ya(C f:Nat):Bool:=yq.contains (C,f)
theorem Nn{C f:Nat}(h:ya C f=true):(C,f)∈yq:=by simpa[ya]using h
noncomputable def eV(C:Addr)(F:FM):FM:=λxs kx σ Q=>∀a d,a≠d→σ a=none→σ d=none→F (.loc a::xs) kx (upd (upd σ d (.iV [])) a (.inst C d)) λv ae=>v=.none∧Q (.loc a) ae
theorem aU.make{f:Addr}{F:FM}(hi:ya C f=true)(hF:bE c n (.ref f) F):aU c (n+1) (.ref C) (eV C F):=λA σ s xs vs kx kv Q hr R r rk q=>by
 refine xY (c.FJ _ _ (Nn hi)) λk1 k2 k3 k4=>?_;have X:=c.jV.keeps R.base;obtain⟨h,g,d,t,os⟩:=s;refine wpAny_call (make_core (makes_of X k1) (looks_findIn X k2) (λself=>bind_fn X self (beq_iff_eq.mp k3)) (.inl rfl) ?_);have n1:h.get? h.objs.size=none:=kH h;have n2:h.get? (h.objs.size+1)=none:=EF (nW _);have s1:(h.push lU).objs.size=h.objs.size+1:=tz ..;have g1:(h.push lU).get? h.objs.size=some lU:=fW _ rfl
 have g2:((h.push lU).push (mU C h.objs.size)).get? (h.objs.size+1)=some (mU C h.objs.size):=by
  have:=fW (h.push lU) (o:=mU C h.objs.size) rfl;rwa[s1]at this
 have g3:((h.push lU).push (mU C h.objs.size)).get? h.objs.size=some lU:=dY _ g1;have keep:∀b o,h.get? b=some o→((h.push lU).push (mU C h.objs.size)).get? b=some o:=λb o e=>dY _ (dY _ e);have jF:h.objs.size+1≠h.objs.size:=Za _;have R0:Rel c σ ((h.push lU).push (mU C h.objs.size)):=R.kept keep
 have R1:Rel c (upd σ h.objs.size (.iV [])) ((h.push lU).push (mU C h.objs.size)):=by
  refine R0.new ⟨R.out n1,λy=>none,⟨_,_,_,g3,rfl,λe he=>by simp at he,λy=>rfl⟩,λi hi=>rfl,λo es ep ho hd=>?_⟩
  obtain rfl:=bt (g3.symm.trans ho);cases hd;exact cP _
 have R2:Rel c (upd (upd σ h.objs.size (.iV [])) (h.objs.size+1) (.inst C h.objs.size)) ((h.push lU).push (mU C h.objs.size)):=R1.new ⟨R.out n2,g2⟩
 have x1:Ext σ h (upd (upd σ h.objs.size (.iV [])) (h.objs.size+1) (.inst C h.objs.size)) ((h.push lU).push (mU C h.objs.size)):=
  ((Ext.kept keep).new n1 (R.fresh n1)).new n2 (R.fresh n2)
 have W:bK c σ ⟨h,g,d,t,os⟩ (upd (upd σ h.objs.size (.iV [])) (h.objs.size+1) (.inst C h.objs.size)) ⟨(h.push lU).push (mU C h.objs.size),g,d,t,os⟩:=⟨R2,x1,rfl,rfl⟩;have q':=q (h.objs.size+1) h.objs.size jF (R.fresh n2) (R.fresh n1)
 have ml:fe n (A.under (.builtin "type.__call__" ⟨.ref C::vs,kv⟩)):=by
  refine⟨?_,?_,hr.h⟩
  ·have:=hr.d;show A.depth+1+n<_;exact l1 this (by simp+arith only)
  ·have:=hr.u;show A.units+_+20*n<_
   have:(Code.builtin "type.__call__" ⟨.ref C::vs,kv⟩).cUnits=1:=by first |rfl |simp[Code.cUnits,Code.frames,Code.isFrame]
   rw[this];exact l1 hr.u (by simp+arith only)
 have tu:gq h ((h.push lU).push (mU C h.objs.size)):=λb y y e=>keep b _ e
 have rk':∀{kx:KV} {kv:List (bA×ak)},gZ h kx kv→gZ ((h.push lU).push (mU C h.objs.size)) kx kv:=λr=>by
  induction r with
  |nil=>exact .nil
  |cons hi e _ ih=>exact .cons hi (e.bQ tu) ih
 refine AY (hF ml R2 (aN.cons (.loc _) (r.bQ tu)) (rk' rk) q') λr s' z=>?_
 induction r with
 |error e=>exact z.elim
 |ok f=>
  induction f with
  |ret v=>
   obtain⟨x,ae,rv,w,rfl,hq⟩:=z;cases rv
   exact⟨rfl,_,_,.loc _,W.trans w,hq⟩
  |_=>exact z.elim
theorem Rj{h:Heap}:∀{is:List Nat} {xs:List CV} {vs:List ak},(∀i∈is,i<nN)→aN h xs vs→xs.length=is.length→gZ h (is.zip xs) ((is.map nm).zip vs)
 |[],_,_,_,_,_=>.nil
 |i::is,_,_,hi,.cons e r,hl=>.cons (hi i (.head _)) e (Rj (λj hj=>hi j (.tail _ hj)) r (by simpa using hl))
noncomputable def pv(c:Cx)(n:Nat)(ks:Ks)(jT:List Keyword)(is:List Nat)(ms:cV):Prop:=
 (∀(env:Env) (pos:Pos),(lW pos (lT jT env)).filterMap (λx=>x.1)=is.map nm)∧(∀(env:Env) (pos:Pos),(lW pos (lT jT env)).all (λx=>x.1.isSome)=true)∧(∀i∈is,i<nN)∧
 ∀{A:bj} {env:Env} {e:aL} {σ:St} {s:aw} {Q:List CV→St→Prop} (pos:Pos),cO c n A env ks e σ s→ms e σ Q→aM c.M A (evalAll ((lW pos (lT jT env)).map (λx=>x.2))) (yS c σ s λxs ae=>xs.length=is.length∧Q xs ae) No s
theorem pv.nil:pv c n ks [] [] ar:=⟨λz z=>rfl,λz z=>rfl,λz h=>(cA h),λpos N q=>wpAny_evalAll_nil ⟨[],_,.nil,.refl N.rel,rfl,q⟩⟩
theorem pv.cons{x:Expr}{p:Pos}{name:bA}{r:List Keyword}{is:List Nat}{m:EM}{ms:cV}(i:Nat)(hx:nm i=name)(hi:i<nN)(h1:aH c n ks x m)(h2:pv c n ks r is ms):
  pv c n ks (⟨some name,x,p⟩::r) (i::is) (ag m ms):=by
 obtain⟨k1,k2,k3,k4⟩:=h2
 refine⟨λenv pos=>?_,λenv pos=>?_,λj hj=>?_,λpos N q=>?_⟩
 ·subst hx;exact congrArg (List.cons (nm i)) (k1 env pos)
 ·exact k2 env pos
 ·rcases List.mem_cons.mp hj with rfl |hj
  ·exact hi
  ·exact k3 j hj
 ·refine wpAny_evalAll_cons ?_
  refine aC (wp_step (h1 N q) λx v ao s1 r1 w1 q1=>aC (kZ (aO (t5 (k4 pos (N.bu w1) q1) λxs vs ay s2 r2 w2 q2=>?_))))
  exact⟨x::xs,ay,.cons (r1.bu w1.rel w2) r2,w1.trans w2,by simp[q2.1],q2.2⟩
noncomputable def Cv(F:FM)(ms:cV)(is:List Nat)(mk:cV):EM:=λe σ Q=>ms e σ λxs ao=>mk e ao λys ay=>F xs (is.zip ys) ay Q
theorem aH.aap{fx a:Expr}{args:List Expr}{jT:List Keyword}{pos:Pos}{x:CV}{f:ak}{F:FM}{m:Nat}{ms mk:cV}{is:List Nat}(hf:aH c n ks fx (au x))(hx:tN x=some f)(hk:dw c f)(hF:aU c m f F)(hm:m≤n)
  (h:gY c n ks (a::args) ms)(pW:pv c n ks jT is mk)
  (he:autoParam (∀env,eval (.Call fx (a::args) jT pos) env=(do lV pos (←eval fx env) [] (dZ pos (cU (a::args) env)) (lW pos (lT jT env)))) aI)
  (hp:autoParam (∀env,((dZ pos (cU (a::args) env)).any (λx=>x.1)||(lW pos (lT jT env)).any (λx=>x.1.isNone))=false) aI)
  (hs:autoParam (∀env,cU (a::args) env=(false,eval a env)::cU args env) aI):aH c n ks (.Call fx (a::args) jT pos) (Cv F ms is mk):=λA env e σ s Q N q=>by
 obtain⟨k1,k2,k3,k4⟩:=pW;rw[he];refine aC (wp_step (hf (Q:=λy ae=>y=x∧ae=σ) N ⟨rfl,rfl⟩) λy v ao s1 r1 w1 q1=>?_);obtain⟨rfl,rfl⟩:=q1;rw[Cr r1 hx];refine iE w1 (callWith_of (P:=c.K.In) (hp env) hk (evalArgs_kw2 (k2 env pos) (t5 (h pos (N.bu w1) q) λxs vs ay s2 r2 w2 q2=>t5 (k4 pos ((N.bu w1).bu w2) q2) λys ws aQ s3 r3 w3 q3=>?_) (hs env)))
 refine⟨c.jV.keeps w3.rel.base,iE (w2.trans w3) (hF ((N.room.le hm)) w3.rel (by simpa using r2.bu w2.rel w3) ?_ q3.2)⟩
 rw[k1 env pos];exact Rj k3 r3 q3.1
end
end
set_option tactic.hygienic true
section
open PySem.SeqAt
theorem Cw:∀(names:List (bA×gC)) (n:Nat) (acc:List (bA×Addr)),km n names acc=km n names []++acc
 |[],_,acc=>rfl
 |(x,k)::r,n,acc=>by
  unfold km
  split
  ·rw[Cw r (n+1) ((x,n)::acc),Cw r (n+1) [(x,n)],fJ];rfl
  ·exact Cw r n acc
theorem Ik:∀(names:List (bA×gC)) (n:Nat) (acc:List (bA×Addr)) (x:bA) (a:Addr),(x,a)∈km n names acc→(x,a)∈acc∨(x,Mh)∈names
 |[],_,acc,x,a,h=>.inl h
 |(y,k)::r,n,acc,x,a,h=>by
  unfold km at h
  split at h
  ·rename_i hk
   rcases Ik r _ _ x a h with h |h
   ·rcases List.mem_cons.mp h with h |h
    ·cases h;right;rw[n9 hk];exact .head _
    ·exact .inl h
   ·exact .inr (.tail _ h)
  ·rcases Ik r _ _ x a h with h |h
   ·exact .inl h
   ·exact .inr (.tail _ h)
theorem Rk{α:Type}:∀{l:List (bA×α)} {x:bA},(∀a,(x,a)∉l)→l.lookup x=none
 |[],_,_=>rfl
 |(y,a)::r,x,h=>by
  rw[kg]
  split
  ·rename_i q;exact absurd (by rw[n9 q];exact .head _) (h a)
  ·exact Rk λb hb=>h b (.tail _ hb)
theorem Il{α:Type}:∀(l m:List (bA×α)) (x:bA),(l++m).lookup x=(l.lookup x).or (m.lookup x)
 |[],m,x=>rfl
 |(y,a)::r,m,x=>by
  rw[xM,kg,kg]
  split
  ·rfl
  ·exact Il r m x
theorem Im:∀(names:List (bA×gC)),(∀x,(x,qu)∈names→(env.cells.lookup x).isSome=true)→∀acc:List (bA×Addr),(∀x a,(x,a)∈acc→env.cells.lookup x=some a)→
  ∃cl:List (bA×Addr),(forIn names acc (λ(x:bA×gC) cs=>if(x.2==.free)=true then(do let a ←cellOf env x.1;pure (.yield ((x.1,a)::cs)))else pure (.yield cs)):Sem _)=pure cl∧
   (∀x a,(x,a)∈cl→env.cells.lookup x=some a)∧(∀x,(x,qu)∈names∨(∃a,(x,a)∈acc)→∃a,(x,a)∈cl)∧(∀x a,(x,a)∈cl→(x,qu)∈names∨∃b,(x,b)∈acc)
 |[],_,acc,h=>⟨acc,rfl,h,(λx h=>by rcases h with h |h;exact cA h;exact h),λx a h=>.inr ⟨a,h⟩⟩
 |(y,k)::r,hh,acc,h=>by
  rw[L3]
  by_cases hk:k=.free
  ·subst hk
   obtain⟨a,ha⟩:=Option.isSome_iff_exists.mp (hh y (.head _))
   have e1:cellOf env y=pure a:=by unfold cellOf;rw[ha]
   obtain⟨cl,h1,h2,h3,h4⟩:=Im r (λx hx=>hh x (.tail _ hx)) ((y,a)::acc) (λx b hb=>by
    rcases List.mem_cons.mp hb with hb |hb
    ·cases hb;exact ha
    ·exact h x b hb)
   refine⟨cl,?_,h2,λx hx=>h3 x ?_,λx b hx=>?_⟩
   rotate_right
   ·rcases h4 x b hx with h |⟨b',h⟩
    ·exact .inl (.tail _ h)
    ·rcases List.mem_cons.mp h with h |h
     ·cases h;exact .inl (.head _)
     ·exact .inr ⟨_,h⟩
   ·simp only[e1,A6]
    rw[if_pos (by rfl)]
    simp only[A6]
    exact h1
   ·rcases hx with hx |⟨b,hb⟩
    ·rcases List.mem_cons.mp hx with hx |hx
     ·cases hx;exact .inr ⟨a,.head _⟩
     ·exact .inl hx
    ·exact .inr ⟨b,.tail _ hb⟩
  ·refine cz (Im r (λx hx=>hh x (.tail _ hx)) acc h) λcl h1 h2 h3 h4=>?_
   refine⟨cl,?_,h2,λx hx=>h3 x ?_,λx b hx=>(h4 x b hx).imp (λh=>.tail _ h) id⟩
   ·rw[if_neg (by simpa using hk)]
    simp only[A6]
    exact h1
   ·rcases hx with hx |hx
    ·rcases List.mem_cons.mp hx with hx |hx
     ·cases hx;exact absurd rfl hk
     ·exact .inl hx
    ·exact .inr hx
theorem adR(h:∀x,(x,qu)∈scope.names→(env.cells.lookup x).isSome=true):
  ∃cl:List (bA×Addr),closureFor scope env=pure cl∧(∀x a,(x,a)∈cl→env.cells.lookup x=some a)∧(∀x,(x,qu)∈scope.names→∃a,(x,a)∈cl)∧(∀x a,(x,a)∈cl→(x,qu)∈scope.names):=by
 refine cz (Im (env:=env) scope.names h [] (λz z h=>cA h)) λcl h1 h2 h3 h4=>?_;refine⟨cl,?_,h2,λx hx=>h3 x (.inl hx),λx a hx=>(h4 x a hx).elim id λ⟨_,h⟩=>cA h⟩;unfold closureFor
 have:(forIn scope.names ([]:List (bA×Addr)) (λ(x:bA×gC) cs=>if(x.2==.free)=true then(do let a ←cellOf env x.1;pure (.yield ((x.1,a)::cs)))else pure (.yield cs)):Sem _)=pure cl:=h1
 simp only[]at this ⊢
 rw[show(forIn scope.names ([]:List (bA×Addr)) (λ(x:bA×gC) r=>
   match x with
   |(name,kind)=>if(kind==qu)=true then do let adS ←cellOf env name;pure (EY ((name,adS)::r))else pure (EY r)):Sem _)=pure cl from this]
 simp
section
variable{M:fy}{A:bj}{E:ak→aw→Prop}{s:aw}
theorem adT{globals:Addr}{cl:List (bA×Addr)}{qual:bA}{outer:Env}{Q:Env→aw→Prop}
  (hQ:CellsOk (pushCells (s.heap.push {cls:=.type "dict",data:=.dict #[]}) scope.names) (s.heap.objs.size+1) (km (s.heap.objs.size+1) scope.names [])→
   Q {scope,locals:=s.heap.objs.size,globals,cells:=km (s.heap.objs.size+1) scope.names []++cl,qual,func:=none,code:=outer.code,frame:=outer.frame,builtins:=outer.builtins}
    {s with heap:=pushCells (s.heap.push {cls:=.type "dict",data:=.dict #[]}) scope.names}):
  aM M A (newFunctionEnv scope globals cl [] qual none .none (some outer)) Q E s:=by
 simp only[newFunctionEnv,YV,if_true];refine aC (wpAny_alloc ?_)
 refine aC (wpAny_layCells _ (λname kind cells=>by cases wF:kind==Mh<;>simp[wF]) _ _ _ _ ?_)
 have ok:=cellsFrom_ok scope.names (s.heap.push {cls:=.type "dict",data:=.dict #[]}) (s.heap.objs.size+1) [] ⟨λz z hm=>(cA hm),Y1⟩ (by rw[tz];exact cP _)
 rw[tz]at ok
 rw[show({s with heap:=s.heap.push {cls:=.type "dict",data:=.dict #[]}}:aw).heap.objs.size=s.heap.objs.size+1 from tz ..]
 rw[Cw];refine aC ?_;rw[List.forIn_nil];exact aO (aO (hQ ok))
end
end
set_option tactic.hygienic false
section
open PySem.SeqAt
noncomputable def hJ(ok:St→Prop)(a:AM)(t:TM)(el:EM)(Q:List CV→St→Prop):List CV→aL→List CV→St→Prop
 |[],_,acc,σ=>ok σ∧Q acc σ
 |v::vs,e,acc,σ=>ok σ∧acc.length≤1000∧a v e σ λe1 ao=>t e1 ao λb ay=>if b=true then el e1 ay λx aQ=>hJ ok a t el Q vs e1 (acc++[x]) aQ else hJ ok a t el Q vs e1 acc ay
noncomputable def de:TM:=λz σ Q=>Q true σ
noncomputable abbrev Rm(ifs:List Expr)(env:Env):Sem Bool:=forIn ifs true λc r=>if r=true then do let ok ←isTrue c env (eval c env);pure (EY ok)else pure (EY r)
noncomputable def mZ(c:Cx)(n:Nat)(ks:Ks)(ifs:List Expr)(m:TM):Prop:=
 ∀⦃A:bj⦄ ⦃env:Env⦄ ⦃e:aL⦄ ⦃σ:St⦄ ⦃s:aw⦄ ⦃Q:Bool→St→Prop⦄,cO c n A env ks e σ s→m e σ Q→aM c.M A (Rm ifs env) (mf c σ s Q) No s
noncomputable def uo:gC→gC
 |.free=>.cell
 |k=>k
noncomputable def dO(raw:Ks):Ks:=raw.map λp=>(p.1,uo p.2)
structure om(ks:Ks)(raw:Ks)(scope:Scope):Prop where
 names:scope.names=raw.map λp=>(nm p.1,p.2)
 kind:scope.kind=.function
 small:∀p∈raw,p.1<nN
 nodup:(raw.map (λx=>x.1)).Nodup
 free:∀p∈raw,p.2=.free→ks.lookup p.1=some .cell
noncomputable def lB(raw:Ks)(e:aL):aL:=λi=>if fN (raw.lookup i)=true then none else e i
theorem adU(raw:Ks)(i:Nat):(dO raw).lookup i=(raw.lookup i).map uo:=by
 unfold dO
 induction raw with
 |nil=>rfl
 |cons p r ih=>
  obtain⟨j,k⟩:=p;rw[gB,kg,kg]
  cases i==j
  ·exact ih
  ·rfl
theorem mem_lookup{α β:Type}[BEq α][LawfulBEq α]{l:List (α×β)}(hn:(l.map (λx=>x.1)).Nodup){i:α}{k:β}(h:(i,k)∈l):l.lookup i=some k:=by
 induction l with
 |nil=>exact cA h
 |cons p r ih=>
  have hn:=mN.1 hn
  rcases List.mem_cons.mp h with rfl |h
  ·exact List.lookup_cons_self
  ·rw[kg,beq_eq_false_iff_ne.mpr λq=>hn.1 (List.mem_map.mpr ⟨(i,k),h,q⟩)]
   exact ih hn.2 h
theorem Io{k:gC}(h:(dO raw).lookup i=some k):∃k',raw.lookup i=some k'∧uo k'=k:=tg.1 (adU raw i▸h)
theorem adV:∀{k:gC},uo k=.local→k=.local
 |.local,_=>rfl
theorem adW:∀{k:gC},uo k=.cell→k=.cell∨k=.free
 |.cell,_=>.inl rfl
 |.free,_=>.inr rfl
theorem adX:∀{k:gC},uo k=.free→False
 |.local,h |.cell,h |.free,h |.globalImplicit,h |.globalExplicit,h=>nomatch h
theorem Ip(h:(dO raw).lookup i=some .cell∨(dO raw).lookup i=some .free):raw.lookup i=some .cell∨raw.lookup i=some .free:=
 h.elim (λh=>(Io h).elim λk z=>(adW z.2).imp (λe=>z.1.trans (congrArg some e)) λe=>z.1.trans (congrArg some e)) λh=>(Io h).elim λk z=>(adX z.2).elim
theorem om.look{ks:Ks}(ok:om ks raw scope)(hi:i<nN):scope.names.lookup (nm i)=raw.lookup i:=by rw[ok.names];exact yQ ok.small hi
theorem om.mem{ks:Ks}(ok:om ks raw scope){x:bA}{k:gC}(h:(x,k)∈scope.names):∃i,i<nN∧nm i=x∧raw.lookup i=some k:=by
 rw[ok.names]at h;obtain⟨⟨i,k'⟩,h1,h2⟩:=List.mem_map.mp h;refine xa (k0 h2) λaq qN=>?_;subst aq;subst qN;exact⟨i,ok.small _ h1,rfl,mem_lookup ok.nodup h1⟩
section
variable{c:Cx}{n:Nat}{ks:Ks}{A:bj}{env:Env}{e:aL}{σ:St}{s:aw}
theorem mZ.nil:mZ c n ks [] de:=λA env e σ s Q N q=>wpAny_tests_nil ⟨_,.refl N.rel,q⟩
theorem mZ.one{x:Expr}{m:TM}(h:gI c n ks x m):mZ c n ks [x] m:=λA env e σ s Q N q=>wpAny_tests_one (h _ rfl N q)
theorem Rn{α β:Type}[BEq α][LawfulBEq α]{x:α}{b:β}:∀{l:List (α×β)},(x,b)∈l→∃a,l.lookup x=some a
 |p::l,h=>by
  by_cases e:x=p.1
  ·exact⟨p.2,by rw[kg,e,beq_self_eq_true]⟩
  ·rw[kg,beq_eq_false_iff_ne.2 e]
   exact Rn ((eO.1 h).resolve_left λz=>e (congrArg Prod.fst z))
structure Ro(c:Cx)(env:Env)(ks raw:Ks)(σ:St)(s:aw)(L:Addr)(h':Heap)(cells:List (bA×Addr)):Prop where
 keep:∀b o,s.heap.get? b=some o→h'.get? b=some o
 own:∀{i:Nat},i<nN→raw.lookup i=some .cell→∃a,cells.lookup (nm i)=some a∧h'.IsCell a none∧s.heap.get? a=none
 apart:∀{i j:Nat} {a:Addr},i<nN→j<nN→raw.lookup i=some .cell→raw.lookup j=some .cell→cells.lookup (nm i)=some a→cells.lookup (nm j)=some a→i=j
 out:∀{i:Nat} {a:Addr},i<nN→raw.lookup i≠some .cell→cells.lookup (nm i)=some a→env.cells.lookup (nm i)=some a∧∃o,s.heap.get? a=some o
 got:∀{i:Nat},i<nN→raw.lookup i=some .free→∃a,cells.lookup (nm i)=some a∧env.cells.lookup (nm i)=some a
theorem adY(ok:om ks raw scope)(N:cO c n A env ks e σ s){cl:List (bA×Addr)}(h2:∀x a,(x,a)∈cl→env.cells.lookup x=some a)(h3:∀x,(x,qu)∈scope.names→∃a,(x,a)∈cl)(h4:∀x a,(x,a)∈cl→(x,qu)∈scope.names)
  (keep:∀b o,s.heap.get? b=some o→h'.get? b=some o)(co:CellsOk h' (s.heap.objs.size+1) (km (s.heap.objs.size+1) scope.names [])):Ro c env ks raw σ s s.heap.objs.size h' (km (s.heap.objs.size+1) scope.names []++cl):=by
 have oy:∀{i:Nat},i<nN→raw.lookup i≠some .cell→(km (s.heap.objs.size+1) scope.names []++cl).lookup (nm i)=cl.lookup (nm i):=λ{i} hi jF=>by
  rw[Il,Rk λa ha=>?_];rfl;refine(Ik _ _ _ _ _ ha).elim (λh=>cA h) λh=>?_;refine bF (ok.mem h) λj hj hx hl=>?_;exact jF (oE hj hi hx▸hl)
 have own:∀{i:Nat},i<nN→raw.lookup i=some .cell→∃a,(km (s.heap.objs.size+1) scope.names []++cl).lookup (nm i)=some a∧(nm i,a)∈km (s.heap.objs.size+1) scope.names []:=λ{i} hi hl=>by
  have hm:(nm i,Mh)∈scope.names:=by rw[ok.names];exact List.mem_map.mpr ⟨(i,.cell),lookup_mem hl,rfl⟩
  obtain⟨a,ha⟩:=Option.isSome_iff_exists.mp (uh scope.names (s.heap.objs.size+1) [] (nm i) (.inl hm))
  exact⟨a,by rw[Il,ha];rfl,mem_of_lookup ha⟩
 have mem:∀{i a},i<nN→raw.lookup i=some .cell→(km (s.heap.objs.size+1) scope.names []++cl).lookup (nm i)=some a→(nm i,a)∈km (s.heap.objs.size+1) scope.names []:=λhi hl h=>(own hi hl).elim λb z=>bt (z.1.symm.trans h)▸z.2
 refine⟨keep,λhi hl=>(own hi hl).imp λa z=>⟨z.1,(co.empty _ _ z.2).1,EF (AF (co.empty _ _ z.2).2)⟩,λhi hj ci cj ai aj=>oE hi hj (name_of_addr co.apart (mem hi ci ai) (mem hj cj aj)),λ{i a} hi jF h=>?_,λ{i} hi hf=>?_⟩
 ·rw[oy hi jF]at h
  have hm:=mem_of_lookup h;have he:=h2 _ _ hm;refine bF (ok.mem (h4 _ _ hm)) λj hj hx hl=>?_;rw[oE hj hi hx]at hl;obtain⟨a',x,g1,⟨o,ho,_⟩,_⟩:=N.fr.cells i (.inl (ok.free _ (lookup_mem hl) rfl))
  exact⟨he,o,bt (he.symm.trans g1)▸ho⟩
 ·have hm:(nm i,qu)∈scope.names:=by rw[ok.names];exact List.mem_map.mpr ⟨(i,.free),lookup_mem hf,rfl⟩
  obtain⟨b,hb⟩:=h3 _ hm;obtain⟨a,ha⟩:=Rn hb
  exact⟨a,by rw[oy hi (by rw[hf];exact λz=>nomatch z)];exact ha,h2 _ _ (mem_of_lookup ha)⟩
theorem adZ(ok:om ks raw scope)(N:jj c env ks):(relabel scope env).names=(dO raw).map λp=>(nm p.1,p.2):=by
 show scope.names.map _=_;rw[ok.names];unfold dO;rw[dp,dp];refine pb λp hp=>?_;obtain⟨i,k⟩:=p;have e1:=N.kindOf (ok.small _ hp)
 induction k with
 |free=>
  rw[ok.free _ hp rfl]at e1
  simp[N.kind,e1,uo]
 |_=>rfl
theorem ad0(ok:om ks raw scope)(N:cO c n A env ks e σ s){cenv:Env}(C:Ro c env ks raw σ s s.heap.objs.size h' cenv.cells)(hn:h'.Ns s.heap.objs.size λu=>none)
  (y4:cenv.scope=relabel scope env)(hL:cenv.locals=s.heap.objs.size)(hg:cenv.globals=env.globals)(hb:cenv.builtins=env.builtins):
  cO c n A cenv (dO raw) (lB raw e) σ {s with heap:=h'}∧
   (∀b,jS raw (dO raw) cenv b→s.heap.get? b=none)∧s.heap.get? cenv.locals=none∧
   (∀i b,((dO raw).lookup i=some .cell∨(dO raw).lookup i=some .free)→cenv.cells.lookup (nm i)=some b→s.heap.get? b=none∨(ks.lookup i=some .cell∧env.cells.lookup (nm i)=some b)):=by
 have nu:s.heap.get? cenv.locals=none:=hL▸kH _;have small:∀{i k},raw.lookup i=some k→i<nN:=λh=>ok.small _ (lookup_mem h);have ne:∀{i},raw.lookup i=some .free→raw.lookup i≠some .cell:=λh z=>nomatch h.symm.trans z
 have none_:∀{i k},raw.lookup i=some k→fN (some k)=true→lB raw e i=none:=λh z=>if_pos (by rw[h];exact z)
 refine⟨⟨N.room,⟨by rw[y4];exact adZ ok N.ok,λp hp=>?_,by rw[y4];exact ok.kind,hg.trans N.ok.glob,hb.trans N.ok.blt,λi j a hi hj ai aj=>?_⟩,⟨⟨λu=>none,hL▸hn,λi v hl hv=>?_⟩,N.rel.fresh nu,N.rel.out nu,λi hi=>?_⟩,N.rel.kept C.keep⟩,λb hb=>?_,nu,λi b hi hb=>?_⟩
 ·refine a9 (List.mem_map.mp hp) λq hq aq=>?_;subst aq
  exact ok.small q hq
 ·by_cases c1:raw.lookup i=some .cell<;>by_cases c2:raw.lookup j=some .cell
  ·exact C.apart hi hj c1 c2 ai aj
  ·obtain⟨_,o,ho⟩:=C.out hj c2 aj
   obtain⟨a1,e1,_,z⟩:=C.own hi c1;cases ai.symm.trans e1
   exact bo (z.symm.trans ho)
  ·obtain⟨_,o,ho⟩:=C.out hi c1 ai
   obtain⟨a1,e1,_,z⟩:=C.own hj c2;cases aj.symm.trans e1
   exact bo (z.symm.trans ho)
  ·exact N.ok.apart i j a hi hj (C.out hi c1 ai).1 (C.out hj c2 aj).1
 ·refine a9 (Io hl) λk hk e1=>?_
  cases adV e1
  exact bo ((none_ hk rfl).symm.trans hv)
 ·rcases Ip hi with h |h
  ·refine bF (C.own (small h) h) λa e1 e2 hn=>?_
   exact⟨a,none,e1,e2,N.rel.fresh hn,N.rel.out hn,λv hv=>by rw[none_ h rfl]at hv;cases hv⟩
  ·refine a9 (C.got (small h) h) λa hl he=>?_
   obtain⟨a',x,g1,⟨o,ho,hd⟩,g3,g4,g5⟩:=N.fr.cells i (.inl (ok.free _ (lookup_mem h) rfl));cases he.symm.trans g1;refine⟨a,x,hl,⟨o,C.keep _ _ ho,hd⟩,g3,g4,λv hv=>(g5 v ?_).imp λy z=>⟨z.1,z.2.bQ λb u u eb=>C.keep b _ eb⟩⟩
   rwa[lB,if_neg (by rw[h];exact gX)]at hv
 ·rcases hb with rfl |⟨i,h1,h2,h3⟩
  ·exact nu
  ·rcases Ip (.inl h2)with h |h
   ·refine bF (C.own (small h) h) λa e1 zz hn=>?_
    cases h3.symm.trans e1;exact hn
   ·rw[h]at h1;exact eP h1
 ·rcases Ip hi with h |h
  ·refine bF (C.own (small h) h) λa e1 zz hn=>?_
   cases hb.symm.trans e1;exact .inl hn
  ·exact .inr ⟨ok.free _ (lookup_mem h) rfl,(C.out (small h) (ne h) hb).1⟩
end
end
section
open PySem.SeqAt
section
variable{c:Cx}{n:Nat}{ks:Ks}{A:bj}{env:Env}{e:aL}{σ:St}{s:aw}
theorem Iq{h:Heap}{b:Addr}(k:∀b o,h.get? b=some o→∃o',h'.get? b=some o')(e:h'.get? b=none):h.get? b=none:=by
 cases q:h.get? b with
 |none=>rfl
 |some o=>exact(k _ _ q).elim λo' z=>bo (e.symm.trans z)
noncomputable abbrev isNew(s:aw):Addr→Prop:=λb=>s.heap.get? b=none
theorem c8.ad1{σ:St}{s:aw}(w:c8 c (isNew cg) σ₀ cg σ s):bK c σ₀ cg σ s:=⟨w.rel,lF.ext (.refl _ _) w.ext λz h=>h,w.gens,w.os⟩
theorem c8.shift{t:Nat}(w:c8 c (isNew cg) σ₀ cg σ s)(R:Rel c σ h')(k:∀b o,cg.heap.get? b≠none→s.heap.get? b=some o→h'.get? b=some o):c8 c (isNew cg) σ₀ cg σ {s with heap:=h',toks:=t}:=
 ⟨R,⟨λb o nx e z=>k b o nx (w.ext.keep b o nx e z),w.ext.gc,w.ext.fc,λb o e=>let⟨o',e'⟩:=w.ext.more b o e;⟨o',k b o' (by rw[e];simp) e'⟩⟩,w.gens,w.os⟩
theorem ad2{A:bj}{R:lg→aw→Prop}{s:aw}{pos:Pos}{it acc:ak}{env:Env}(I:Nat→aw→Prop)
  (turn:∀n s,I n s→aM (model prog w) A (mV it) (λr bq=>match r with
   |none=>R (.ok .next) bq
   |some v=>aM (model prog w) A (L1 target it v) (λz zg=>aM (model prog w) A (AX target env v) (λz bg=>
     aM (model prog w) A (Rm ifs env) (λok fu=>
      if ok=true then aM (model prog w) A (eval elt env) (λx Cj=>
       aM (model prog w) A (call (.builtin "list.append") [acc,x]) (λz Rp=>∃m,m<n∧I m Rp) (notedBy (model prog w) A env λe s'=>R (.error e) s') Cj) (notedBy (model prog w) A env λe s'=>R (.error e) s') fu
      else∃m,m<n∧I m fu) (notedBy (model prog w) A env λe s'=>R (.error e) s') bg) (notedBy (model prog w) A env λe s'=>R (.error e) s') zg) (notedBy (model prog w) A env λe s'=>R (.error e) s') bq) (notedBy (model prog w) A env λe s'=>R (.error e) s') s)
  (n:Nat)(h:I n s):
  rS (model prog w) A (.compLoop (.ListComp elt [⟨target,iter,ifs,0⟩] scope pos) 0 it acc env) R s:=by
 refine codeAny_loop rfl I (λn s hI=>?_) n h
 show aM _ A ((compTurn (.ListComp elt [⟨target,iter,ifs,0⟩] scope pos) 0 it acc env).onRaise (λx=>do noteFrame x env;L5 x)) _ _ s
 refine wpAny_noted ?_;rw[compTurn_list];refine aC (kZ (aC (b0 (turn n s hI) (λr bq d8=>?_) λz z h'=>h')))
 induction r with
 |none=>exact aO d8
 |some v=>
  refine aC (b0 d8 (λz zg Ir=>?_) λz z h'=>h');refine aC (b0 Ir (λz bg dP=>aC (b0 dP (λok fu gQ=>?_) λz z h'=>h')) λz z h'=>h')
  induction ok with
  |false=>exact aO ⟨rfl,gQ⟩
  |true=>
   exact aC (aC (b0 gQ (λx Cj y6=>aC (b0 y6 (λz Rp ad3=>aO (aO ⟨rfl,ad3⟩)) λz z h'=>h')) λz z h'=>h'))
structure sF(c:Cx)(D:Addr)(fp:List Addr)(S:Nat→Heap→Prop)(i:Nat)(acc:List CV)(σ:St)(h:Heap):Prop where
 st:S i h
 dn:σ D=none
 dl:∃c0 m,h.get? D=some (listOf c0 m)∧aN h acc c0.toList
 fn:∀b∈fp,σ b=none
theorem sF.bu{D:Addr}{t:Expr}{items:List CV}{ny:St→Prop}(W:gR c t I fp items ny S){X:Addr→Prop}{acc:List CV}{σ:St}{s:aw}(C:sF c D fp S i acc σ s.heap)
  (w:c8 c X σ s ae s')(tu:gq s.heap s'.heap)(hD:¬X D)(hf:∀b∈fp,¬X b):sF c D fp S i acc ae s'.heap:=by
 obtain⟨st,dn,⟨c0,m,dl,dr⟩,fn⟩:=C
 refine⟨W.move st (λb hb o eo=>w.ext.keep b o (hf b hb) eo λz hz=>by exact bo ((fn b hb).symm.trans hz)) tu,w.ext.gc D _ hD dl dn,⟨c0,m,w.ext.keep D _ hD dl (λz hz=>by exact bo (dn.symm.trans hz)),dr.bQ tu⟩,λb hb=>?_⟩
 refine a9 (W.here st b hb) λo ho zz=>?_;exact w.ext.gc b o (hf b hb) ho (fn b hb)
theorem ad4{pos:Pos}{kc:Ks}{a:AM}{t:TM}{el:EM}(ha:eG c n kc (jS raw kc) target a)(ht:mZ c n kc ifs t)(he:aH c n kc elt el)
  {D:Addr}{items:List CV}{ny:St→Prop}{cenv:Env}{ce:aL}{Q:List CV→St→Prop}{RR:lg→aw→Prop}
  (W:gR c target I fp items ny S)(N:cO c n A cenv kc ce b7 bq)(w:c8 c (isNew cg) σ₀ cg b7 bq)(C:sF c D fp S 0 [] b7 bq.heap)(pX:cg.heap.get? D=none)(Iu:D≠cenv.locals∧∀i,(kc.lookup i=some .cell∨kc.lookup i=some .free)→cenv.cells.lookup (nm i)≠some D)(Iv:D∉fp)
  (R₀:Rel c σ₀ cg.heap)(mh:∀b∈fp,cg.heap.get? b=none)(Cy:∀b∈fp,b≠cenv.locals∧∀i,(kc.lookup i=some .cell∨kc.lookup i=some .free)→cenv.cells.lookup (nm i)≠some b)(hX:∀b,jS raw kc cenv b→cg.heap.get? b=none)
  (q:hJ ny a t el Q items ce [] b7)
  (hR:∀ae s' acc,c8 c (isNew cg) σ₀ cg ae s'→ae D=none→(∃c0 m,s'.heap.get? D=some (listOf c0 m)∧aN s'.heap acc c0.toList)→(∃m,s'.heap.Ns cenv.locals m)→ae cenv.locals=none→Q acc ae→RR (.ok .next) s'):
  rS c.M A (.compLoop (.ListComp elt [⟨target,iter,ifs,0⟩] scope pos) 0 (.ref I) (.ref D) cenv) RR bq:=by
 have base:∀b∈fp,c.H0.get? b=none:=λb hb=>R₀.out (mh b hb)
 have ad5:¬jS raw kc cenv D:=λh=>by
  rcases h with h |⟨i,_,h1,h2⟩
  ·exact Iu.1 h
  ·exact Iu.2 i (.inl h1) h2
 have hfX:∀b∈fp,¬eU cenv kc b:=λb hb h=>by
  rcases h with h |⟨i,h1,h⟩
  ·exact(Cy b hb).1 h
  ·exact(Cy b hb).2 i (.inl h1) h
 obtain⟨Inv,jD⟩:∃Inv:Nat→aw→Prop,∀k s',Inv k s'↔∃i mc ae acc,k=items.length- i∧i≤items.length∧c8 c (isNew cg) σ₀ cg ae s'∧eY c cenv kc mc ae s'.heap∧sF c D fp S i acc ae s'.heap∧hJ ny a t el Q (items.drop i) mc acc ae:=⟨_,λu u=>Iff.rfl⟩;refine ad2 Inv (λk s' hI=>cps λG g=>?_) items.length ((jD _ _).2 ⟨0,ce,b7,[],rfl,dE _,w,N.fr,C,q⟩);refine Fs ((jD _ _).1 hI) λi mc ae acc aq ff w f C q=>?_;subst aq;refine g ?_;clear g hI
 have nt:∀b∈fp,∀items n,s'.heap.get? b≠some (d7 items n):=λb hb items n z=>by refine a9 (W.here C.st b hb) λo ho hn=>?_;rw[ho]at z;exact hn _ _ (bt z)
 cases hx:items[i]? with
 |none=>
  have jE:i=items.length:=qq ff (YC.1 hx);subst jE;rw[Lz]at q;refine W.done N.room.h w.rel q.1 C.st λh' tk k=>?_;have R':=w.rel.moved k nt λb hb=>⟨C.fn b hb,base b hb⟩;refine gH C.dl λc0 m dl dr=>?_;have f':=f.moved k nt Cy
  exact hR ae _ acc (w.shift R' λb o nb eb=>k b o (λhb=>nb (mh b hb)) eb) C.dn ⟨c0,m,k D _ Iv dl,dr.bQ (y9 k nt)⟩ (let⟨m,hm,_⟩:=f'.ns;⟨m,hm⟩) f'.t4 q.2
 |some y=>
  obtain⟨ck,rfl⟩:=List.getElem?_eq_some_iff.mp hx;rw[Lc ck]at q;obtain⟨q0,dK,q⟩:=q;refine W.next N.room.h w.rel q0 hx C.st λv h1 tk go=>go λh' rv gr k=>?_;have R':=w.rel.moved k nt λb hb=>⟨C.fn b hb,base b hb⟩;have w':=w.shift (t:=tk) R' λb o nb eb=>k b o (λhb=>nb (mh b hb)) eb;have f':=f.moved k nt Cy
  have N':cO c n A cenv kc mc ae {s' with heap:=h',toks:=tk}:=N.moved f' R'
  have C':sF c D fp S (i+1) acc ae h':=by
   refine gH C.dl λc0 m dl dr=>?_;exact⟨gr,C.dn,⟨c0,m,k D _ Iv dl,dr.bQ (y9 k nt)⟩,C.fn⟩
  refine b0 (Q:=kJ c (jS raw kc cenv) cenv kc ae _ _) (E:=No) (ha N' rv q) (λu s2 q2=>cps λG g=>?_) λu u z=>z.elim;obtain⟨e2,ay,w2,f2,q2⟩:=q2;refine g ?_;clear g;have tu2:=bK.yZ N' (w2.mono (jS.Fy cenv));have C2:=C'.bu W w2 tu2 ad5 λb hb h=>hfX b hb (jS.Fy _ _ h);have N2:=N'.moved f2 w2.rel;have w02:=w'.trans (w2.mono hX);refine b0 (Q:=mf c ay s2 _) (E:=No) (ht N2 q2) (λb s3 q3=>cps λG g=>?_) λu u z=>z.elim;obtain⟨aQ,w3,q3⟩:=q3;refine g ?_;clear g;have tu3:=w3.ext.lC w2.rel;have C3:=C2.bu W (w3.dA λu=>False) tu3 (λh=>h) λu u h=>h;have N3:=N2.bu w3;have Rq:=w02.trans (w3.dA _)
  induction b with
  |false=>
   simp only[pd,if_false]at q3 ⊢
   exact⟨items.length- (i+1),Lq ck (kX i),(jD _ _).2 ⟨i+1,e2,aQ,acc,rfl,ck,Rq,N3.fr,C3,q3⟩⟩
  |true=>
   simp only[if_true]at q3 ⊢;refine b0 (Q:=cC c aQ s3 _) (E:=No) (he N3 q3) (λxv s4 q4=>cps λG g=>?_) λu u z=>z.elim;obtain⟨x,bU,rx,w4,q4⟩:=q4;have tu4:=w4.ext.lC w3.rel;have C4:=C3.bu W (w4.dA λu=>False) tu4 (λh=>h) λu u h=>h;have N4:=N3.bu w4;have w04:=Rq.trans (w4.dA _);refine gH C4.dl λc0 m dl dr=>?_;have hl:acc.length=c0.size:=dr.length;refine g (wpAny_list_append_plain (items:=c0) ⟨m,dl⟩ (λh5 hp5 zh=>?_) (hl▸dQ dK));clear g;obtain⟨m5,hm5⟩:=hp5
   have Iw:gq s4.heap h5:=λb ad6 n' eb=>zh.extBut b _ (λz=>by subst z;rw[dl]at eb;exact kF (qH (by decide)) _ _ (bt eb)) eb
   have R5:Rel c bU h5:=w4.rel.but zh.extBut C4.dn (R₀.out pX) λad6 n' eb=>by rw[dl]at eb;exact kF (qH (by decide)) _ _ (bt eb)
   have w05:c8 c (isNew cg) σ₀ cg bU {s4 with heap:=h5}:=w04.shift (t:=s4.toks) R5 λb o nb eb=>zh.extBut b o (λz=>nb (z▸pX)) eb
   have k5:∀b o,b∉[D]→s4.heap.get? b=some o→h5.get? b=some o:=ue zh
   have f5:eY c cenv kc e2 bU h5:=N4.fr.moved k5 (λb hb items n z=>by
     rw[List.mem_singleton.mp hb,dl]at z;exact kF (qH (by decide)) _ _ (bt z)) λb hb=>by
    rw[List.mem_singleton.mp hb];exact Iu
   have C5:sF c D fp S (i+1) (acc++[x]) bU h5:=by
    refine⟨W.move C4.st (λb hb o eo=>zh.extBut b o (λz=>Iv (z▸hb)) eo) Iw,C4.dn,⟨c0.push xv,m5,hm5,?_⟩,C4.fn⟩;rw[ER];exact(dr.bQ Iw).snoc (rx.bQ Iw)
   exact⟨items.length- (i+1),Lq ck (kX i),(jD _ _).2 ⟨i+1,e2,bU,acc++[x],rfl,ck,w05,f5,C5,q4⟩⟩
end
end
section
open PySem.SeqAt
section
variable{c:Cx}{n:Nat}{ks:Ks}{A:bj}{env:Env}{e:aL}{σ:St}{s:aw}
noncomputable abbrev Rr(scope:Scope)(env:Env)(L:Addr)(cl:List (bA×Addr)):Env:=
 {scope:=relabel scope env,locals:=L,globals:=env.globals,cells:=km (L+1) scope.names []++cl,qual:=env.qual,func:=none,code:=env.code,frame:=env.frame,builtins:=env.builtins}
theorem Rt{pos pos':Pos}{it:IM}{a:AM}{t:TM}{el:EM}{use:Option (ak→Sem Unit)}{Qm:ak→aw→Prop}{Q:List CV→St→Prop}
  (hi:jR c n ks target iter it)(ok:om ks raw scope)(ha:eG c n (dO raw) (jS raw (dO raw)) target a)(ht:mZ c n (dO raw) ifs t)(he:aH c n (dO raw) elt el)
  (hs:∀env v,xI iter env v=pure v)(N:cO c n A env ks e σ s)(q:it e σ λitems ny ao=>hJ ny a t el Q items (lB raw e) [] ao)
  (K:∀D C ae s' acc,c8 c (isNew s) σ s ae s'→ae D=none→s.heap.get? D=none→(∃c0 m,s'.heap.get? D=some (listOf c0 m)∧aN s'.heap acc c0.toList)→(∃m,s'.heap.Ns C m)→ae C=none→s.heap.get? C=none→C≠D→Q acc ae→compPost c.M A No use Qm (.ref D) C (.ok .next) s'):
  aM c.M A (comprehension (.ListComp elt [⟨target,iter,ifs,0⟩] scope pos) scope env pos' (newList []) false (eval iter env) use) Qm No s:=by
 have ad7:∀x,(x,qu)∈scope.names→(env.cells.lookup x).isSome=true:=λx hx=>by
  refine bF (ok.mem hx) λi ff aq hl=>?_;subst aq;exact(N.fr.cells i (.inl (ok.free _ (lookup_mem hl) rfl))).elim λb z=>z.elim λy z=>z.1▸rfl
 refine cz (adR ad7) λcl g8 h2 h3' h4=>?_
 refine wpAny_comprehension_free rfl (hs env) g8 ok.kind (λx hx hk=>?_) (b0 (hi N q) (λxv bq d8=>b0 d8 (λitv bg dP=>?_) λu u z=>z) λu u z=>z)
 ·obtain⟨x,k⟩:=x
  subst hk;refine bF (ok.mem hx) λi ff aq hl=>?_;subst aq;rw[ok.look ff,hl]
 obtain⟨I,fp,items,ny,S,ae,rfl,W,hS,mh,w,q⟩:=dP;refine yU (s:=bg) ?_ (dE _);have Iy:=kH bg.heap;have newD:=Iq w.ext.more Iy;have N3:=(N.bu w).bu (t6 (o:={cls:=.type "list",data:=.seq ([]:List ak).toArray}) w.rel);have gD:(bg.heap.push {cls:=.type "list",data:=.seq ([]:List ak).toArray}).get? bg.heap.objs.size=some (listOf #[] 0):=fW _ rfl;have zi:∀b o,bg.heap.get? b=some o→(bg.heap.push {cls:=.type "list",data:=.seq ([]:List ak).toArray}).get? b=some o:=λb o eb=>dY _ eb
 have dK:(bg.heap.push {cls:=.type "list",data:=.seq ([]:List ak).toArray}).objs.size≠bg.heap.objs.size:=by rw[tz];exact Za _
 generalize bg.heap.push {cls:=.type "list",data:=.seq ([]:List ak).toArray}=h3 at*;refine adT λco=>?_;have Iz:∀b o,h3.get? b=some o→(pushCells (h3.push {cls:=.type "dict",data:=.dict #[]}) scope.names).get? b=some o:=λb o eb=>pushCells_keeps _ _ b o (dY _ eb);have Cz:(pushCells (h3.push {cls:=.type "dict",data:=.dict #[]}) scope.names).Ns h3.objs.size λu=>none:=(Heap.Ns.new h3 (.type "dict")).keeps (pushCells_keeps _ _);refine xY (ad0 (cenv:=Rr scope env h3.objs.size cl) ok N3 (adY ok N3 h2 h3' h4 Iz co) Cz rfl rfl rfl rfl) λN4 hX4 hC4 IA=>?_;clear Cz co;generalize pushCells (h3.push {cls:=.type "dict",data:=.dict #[]}) scope.names=h4 at*;have keep:∀b o,bg.heap.get? b=some o→h4.get? b=some o:=λb o eb=>Iz b o (zi b o eb);have Ru:∀b,h3.get? b=none→s.heap.get? b=none:=λb hb=>Iq (λb o e=>(w.ext.more b o e).imp λu=>zi b _) hb;have CI:sF c bg.heap.objs.size fp S 0 [] ae h4:=⟨W.move hS (λb hb=>keep b) λb u u=>keep b _,w.rel.fresh Iy,⟨#[],0,Iz _ _ gD,.nil⟩,λb hb=>(mh b hb).2⟩
 have apart:∀b,s.heap.get? b=none→(∃o,h3.get? b=some o)→b≠h3.objs.size∧∀i,((dO raw).lookup i=some .cell∨(dO raw).lookup i=some .free)→(Rr scope env h3.objs.size cl).cells.lookup (nm i)≠some b:=λb hb ⟨o,ho⟩=>
  ⟨λq0=>(by rw[q0,kH]at ho;exact bo ho),λi ff hl=>(IA i b ff hl).elim (λh=>bo (h.symm.trans ho)) λz=>(N.fr.cells i (.inl z.1)).elim λb' g=>g.elim λy g=>by
   cases z.2.symm.trans g.1;obtain⟨o',c7,_⟩:=g.2.1
   exact bo (hb.symm.trans c7)⟩
 have Rv:∀b∈fp,∃o,bg.heap.get? b=some o:=λb hb=>(W.here hS b hb).imp λu z=>z.1;refine(λloop=>codeAny_compStart_list loop (W.self CI.st loop)) ?_
 exact ad4 ha ht he W N4 ((w.dA (isNew s)).shift (t:=bg.toks) N4.rel λb o nb eb=>keep b o eb) CI newD (apart _ newD ⟨_,gD⟩) (λhb=>(Rv _ hb).elim λo ho=>bo (Iy.symm.trans ho)) N.rel (λb hb=>(mh b hb).1) (λb hb=>apart b (mh b hb).1 ((Rv b hb).imp λo=>zi b o)) (λb hb=>Ru b (hX4 b hb)) q
  λl0 j0 acc w' hD' lj lE hC' hq=>K _ _ l0 j0 acc w' hD' newD lj lE hC' (Ru _ hC4) dK hq
noncomputable def cT(raw:Ks)(it:IM)(a:AM)(t:TM)(el:EM):EM:=λe σ Q=>it e σ λitems ny ao=>hJ ny a t el (λacc ay=>ay.new (.list acc) Q) items (lB raw e) [] ao
theorem Rw{D:Addr}{acc:List CV}(R:Rel c σ s.heap)(w:c8 c (isNew s) σ s ae s')(hD:ae D=none)(pX:s.heap.get? D=none)(hl:∃c0 m,s'.heap.get? D=some (listOf c0 m)∧aN s'.heap acc c0.toList)
  (lE:∃m,s'.heap.Ns C m)(hC:ae C=none)(nA:s.heap.get? C=none)(wG:C≠D)(hs:jt C s'.heap h'):
  bK c σ s (upd ae D (.list acc)) {s' with heap:=h'}:=by
 refine gH hl λc0 m dl dr=>?_;obtain⟨m',o,es,ep,ho,hd,_⟩:=lE
 have nt:∀items n,s'.heap.get? C≠some (d7 items n):=λitems n z=>by obtain rfl:=bt (ho.symm.trans z);exact Aw hd
 have R':Rel c ae h':=w.rel.but hs.extBut hC (R.out nA) nt
 have tu:gq s'.heap h':=λb items n eb=>hs.extBut b _ (λz=>by subst z;exact nt _ _ eb) eb
 have w2:c8 c (isNew s) σ s ae {s' with heap:=h'}:=w.shift (t:=s'.toks) R' λb o nb eb=>hs.extBut b o (λz=>nb (z▸nA)) eb
 have dl':h'.get? D=some (listOf c0 m):=hs.extBut _ _ (Ne.symm wG) dl;have w3:=w2.ad1;exact⟨R'.new ⟨R.out pX,c0,m,dl',dr.bQ tu⟩,w3.ext.new pX (R.fresh pX),w3.gens,w3.os⟩
theorem aH.comp{elt target iter:Expr}{ifs:List Expr}{scope:Scope}{pos:Pos}(raw:Ks){it:IM}{a:AM}{t:TM}{el:EM}
  (hi:jR c n ks target iter it)(ok:om ks raw scope)(ha:eG c n (dO raw) (jS raw (dO raw)) target a)(ht:mZ c n (dO raw) ifs t)(he:aH c n (dO raw) elt el)
  (hs:autoParam (∀env v,xI iter env v=pure v) aJ):aH c n ks (.ListComp elt [⟨target,iter,ifs,0⟩] scope pos) (cT raw it a t el):=λA wx e σ s Q N q=>by
 rw[eval_ListComp];refine Rt hi ok ha ht he hs N q λD C ae s' acc w hD pX hl lE hC nA wG hq=>?_;refine⟨_,lE.choose_spec,λh' cH=>?_⟩;exact⟨_,_,.loc D,Rw N.rel w hD pX hl lE hC nA wG cH,hq D hD⟩
end
end
section
open PySem.SeqAt
section
variable{c:Cx}{n:Nat}{ks:Ks}{A:bj}{env:Env}{e:aL}{σ:St}{s:aw}
theorem ad8(a:Addr)(h:Heap):jt a h h:=⟨rfl,λz z=>rfl⟩
theorem cF.aat{x:bA}{px Rx:Pos}{elt target iter:Expr}{ifs:List Expr}{scope:Scope}{pos:Pos}(i:Nat)(raw:Ks){it:IM}{a:AM}{t:TM}{el:EM}(hx:nm i=x)(hk:fN (ks.lookup i)=true)
  (IB:∀env,jj c env ks→mS (.ListComp elt [⟨target,iter,ifs,0⟩] scope pos) (some (.Name x px)) Rx.line env=pure true)
  (hi:jR c n ks target iter it)(ok:om ks raw scope)(ha:eG c n (dO raw) (jS raw (dO raw)) target a)(ht:mZ c n (dO raw) ifs t)(he:aH c n (dO raw) elt el)
  (hs:autoParam (∀env v,xI iter env v=pure v) aJ):cF c n ks (.Assign [.Name x px] (.ListComp elt [⟨target,iter,ifs,0⟩] scope pos) Rx) (aP (cT raw it a t el) (aName i)):=λA env e σ s Q N q=>by
 rw[exec_Assign_Name_used _ _ _ _ (IB env N.ok)];refine aC (kZ (aC ?_))
 show aM _ A (do let _ ←comprehension (.ListComp elt [⟨target,iter,ifs,0⟩] scope pos) scope env _ (newList []) false (eval iter env) (some (AX (.Name x px) env))) _ _ s
 refine aC (b0 (Q:=λu s'=>hM c env ks σ s Q .next s') (E:=No) (Rt hi ok ha ht he hs N q λD C ae s' acc w hD pX hl lE hC nA wG hq=>?_) (λu s' hq=>aO (aO hq)) λu u z=>z);have W:=Rw N.rel w hD pX hl lE hC nA wG (ad8 C s'.heap);have N':=N.bu W;refine b0 (Q:=kJ c (eU env ks) env ks _ s' (λe' l0=>e'=bz e i (.loc D)∧l0=upd ae D (.list acc))) (E:=No) (eG.name i hx hk N' (.loc D) ⟨rfl,rfl⟩) (λu j0 q2=>?_) λu u z=>z;obtain⟨_,_,w2,f2,rfl,rfl⟩:=q2;obtain⟨m,o,es,ep,ho,hd,hr⟩:=lE
 have nX:¬eU env ks C:=λh=>by
  rcases h with h |⟨j,h1,h2⟩
  ·obtain⟨m',⟨o',iG,Cb,c7,_⟩,_⟩:=N.fr.ns
   rw[←h,nA]at c7;exact bo c7
  ·obtain⟨b,y,g1,⟨o',c7,_⟩,_⟩:=N.fr.cells j (.inl h1)
   obtain rfl:=bt (h2.symm.trans g1);exact bo (nA.symm.trans c7)
 have uC:upd ae D (.list acc) C=none:=by rw[iU wG];exact hC
 have iZ:j0.heap.get? C=some o:=w2.ext.keep C o nX ho λz hz=>by exact bo (uC.symm.trans hz)
 refine⟨m,⟨o,es,ep,iZ,hd,hr⟩,λh' cH=>?_⟩
 have nt:∀items n,j0.heap.get? C≠some (d7 items n):=λitems n z=>by obtain rfl:=bt (iZ.symm.trans z);exact Aw hd
 have R':Rel c (upd ae D (.list acc)) h':=w2.rel.but cH.extBut uC (N.rel.out nA) nt;have nh:=(W.dA (eU env ks)).trans w2;have kC:=ue cH
 have f':eY c env ks (bz e i (.loc D)) (upd ae D (.list acc)) h':=f2.moved kC (λb hb=>by rw[List.mem_singleton.mp hb];exact nt) λb hb=>by
  rw[List.mem_singleton.mp hb];refine⟨λz=>nX (.inl z),λj hj z=>?_⟩;obtain⟨b,y,g1,⟨o',c7,_⟩,_⟩:=N.fr.cells j hj;obtain rfl:=bt (z.symm.trans g1);exact bo (nA.symm.trans c7)
 refine⟨.next,_,_,.next,⟨R',⟨λb o' nx eb z=>kC b o' (λhb=>by rw[List.mem_singleton.mp hb,nA]at eb;exact bo eb) (nh.ext.keep b o' nx eb z),nh.ext.gc,nh.ext.fc,λb o' eb=>?_⟩,nh.gens,nh.os⟩,f',hq D hD⟩
 obtain⟨o2,e2⟩:=nh.ext.more b o' eb
 exact⟨o2,kC b o2 (λhb=>by rw[List.mem_singleton.mp hb,nA]at eb;exact bo eb) e2⟩
end
end
section
open PySem.SeqAt
section
variable{c:Cx}{n:Nat}{ks:Ks}{A:bj}{env:Env}{e:aL}{σ:St}{s:aw}
noncomputable def bJ(recv:CV→St→Prop)(F:FM)(mo:EM)(ms:cV):EM:=λe σ Q=>mo e σ λx ao=>recv x ao∧ms e ao λxs ay=>F (x::xs) [] ay Q
noncomputable def c5(c:Cx)(name:bA)(id:String)(recv:CV→St→Prop):Prop:=∀{A:bj} {σ:St} {s:aw} {x:CV} {v:ak} {pl:Sem Bool} {Q:ak×List ak→aw→Prop},Rel c σ s.heap→aV s.heap x v→recv x σ→Q (.builtin id,[v]) s→aM c.M A (tF v name pl) Q No s
theorem aH.pw{o:Expr}{name:bA}{args:List Expr}{apos pos:Pos}{F:FM}{m:Nat}{mo:EM}{ms:cV}{recv:CV→St→Prop}{id:String}{pl:Env→Sem Bool}(ho:aH c n ks o mo)(hb:c5 c name id recv)(hF:aU c m (.builtin id) F)(hm:m≤n)(h:gY c n ks args ms)
  (he:autoParam (∀env,eval (.Call (.Attribute o name apos) args [] pos) env=(do
   let ov ←eval o env
   oe apos.atName
   let(f,first) ←holding [ov] (tF ov name (pl env))
   lV pos f first (dZ pos (cU args env)) (lW pos (lT [] env)))) aI)
  (hp:autoParam (∀env,(dZ pos (cU args env)).any (λx=>x.1)=false) aI):aH c n ks (.Call (.Attribute o name apos) args [] pos) (bJ recv F mo ms):=λA env e σ s Q N q=>
 MethodCall_ (wp_step (ho N q) λx v ao s1 r1 w1 q1=>hb w1.rel r1 q1.1 (iE w1 (Cs (dw.bi id) hF hm h (N.bu w1) (.cons r1 .nil) q1.2 hp))) (he _)
noncomputable def cD(x:CV)(σ:St):Prop:=∃a vs,x=.loc a∧σ a=some (.list vs)
theorem c5.of{name:bA}{T id:String}{recv:CV→St→Prop}(pa:PlainAttrs T)(slot:Slot T name id)(hty:typeOf (.builtin id)=pure (.type "method_descriptor"))
  (hr:∀{σ:St} {s:aw} {x:CV} {v:ak},Rel c σ s.heap→aV s.heap x v→recv x σ→s.TypeIs v T∧∀a,v=.ref a→∃o,s.heap.get? a=some o∧o.dict=none):c5 c name id recv:=λR r hx h=>by
 refine xa (hr R r hx) λh1 h2=>?_;exact getMethod_builtin h1 pa slot hty h2 h
theorem CJ{σ:St}{s:aw}(R:Rel c σ s.heap)(r:aV s.heap x v)(h:cD x σ):s.TypeIs v "list"∧∀a,v=.ref a→∃o,s.heap.get? a=some o∧o.dict=none:=by
 obtain⟨a,vs,rfl,h⟩:=h;obtain rfl:=r.dj;exact R.li h λitems m hg z z=>⟨(dJ hg).typeIs,λb e=>Value.ref.inj e▸⟨_,hg,rfl⟩⟩
theorem FK:c5 c "append" "list.append" cD:=c5.of Lw F.slot_list_append (by kernel_rfl) CJ
theorem aaB:c5 c "pop" "list.pop" cD:=c5.of Lw F.slot_list_pop (by kernel_rfl) CJ
theorem aaD:c5 c "reverse" "list.reverse" cD:=c5.of Lw F.slot_list_reverse (by kernel_rfl) CJ
theorem aaE:c5 c "extend" "list.extend" cD:=c5.of Lw F.slot_list_extend (by kernel_rfl) CJ
theorem zj{m:Nat}{vs:List CV}{f:Array ak→Array ak}(R:Rel c σ s.heap)(h:σ a=some (.list vs))(hg:s.heap.get? a=some (listOf items m))(r:aV s.heap x v)
  (rs:aN s.heap ws (f items).toList)(q:Q x (upd σ a (.list ws))):cC c σ s Q v {s with heap:=s.heap.update a (ju f)}:=by
 have g:=IsL.update hg f;have hs:jt a s.heap (s.heap.update a (ju f)):=mJ ..;have z:=R.objs _ _ h
 have tu:gq s.heap (s.heap.update a (ju f)):=λb c0 n eb=>hs.extBut b _ (λz=>by subst z;rw[hg]at eb;exact kF (qH (by decide)) _ _ (bt eb)) eb
 exact⟨x,_,r.bQ tu,⟨R.set (y:=.list ws) h rfl hs λo=>⟨z.1,_,_,g,rs.bQ tu⟩,Ext.set h rfl hs ⟨_,g⟩,rfl,rfl⟩,q⟩
noncomputable def cN:FM:=mj .L .V λa v σ Q=>∃vs,σ a=some (.list vs)∧vs.length≤1000∧Q .none (upd σ a (.list (vs++[v])))
theorem aU.append:aU c 0 (.builtin "list.append") cN:=aU.a2 λhr R e r2 q=>by
 refine bF q λws h1 h2 q=>?_;subst e
 exact R.li h1 λitems m hg hl rs=>mR F.slot_list_append ⟨_,hg,rfl⟩ F.entry_list_append (F.args_list_append_2 _ _) (list_append _ items m _ (hl▸dQ h2)) ⟨hg,zj R h1 hg .none (by rw[ER];exact rs.snoc r2) q⟩
theorem Ry{k:Nat}(h:k<items.size):(items.eraseIdxIfInBounds k).toList=items.toList.eraseIdx k:=by
 unfold Array.eraseIdxIfInBounds;rw[dif_pos h,Array.toList_eraseIdx]
noncomputable def Rz:FM:=fv .L λa σ Q=>∃vs v,σ a=some (.list (vs++[v]))∧vs.length+1≤1000∧Q v (upd σ a (.list vs))
noncomputable def R3:FM:=mj .L .I λa i σ Q=>∃(k:Nat) (vs:List CV) (v:CV),i=k∧σ a=some (.list vs)∧vs[k]?=some v∧vs.length≤1000∧Q v (upd σ a (.list (vs.eraseIdx k)))
noncomputable def sr:FM:=pV Rz R3
theorem aU.aaC:aU c 0 (.builtin "list.pop") Rz:=aU.a1 λhr R e q=>by
 refine jg q λws v h1 h2 q=>?_;subst e;refine R.li h1 λitems m hg hl rs=>?_;rw[bW]at hl
 have hi:items.size- 1=ws.length:=by rw[←hl];rfl
 have hx:(ws++[v])[ws.length]?=some v:=by rw[Ez (cP _),Nat.sub_self];rfl
 have e2:(ws++[v]).eraseIdx ws.length=ws:=by rw[List.eraseIdx_append_of_length_le (cP _),Nat.sub_self];exact fj _
 have e3:=rs.eraseIdx ws.length;rw[e2,←Ry (hl▸kX _),←hi]at e3;refine(rs.get hx).elim λu z=>mR F.slot_list_pop ⟨_,hg,rfl⟩ F.entry_list_pop (F.args_list_pop_1 _) (MeetsSeq.list_pop_last _ items m u ?_ (hl▸dQ h2)) ⟨hg,zj R h1 hg z.2 e3 q⟩;rw[hi,←vq];exact z.1
theorem R4{k:Nat}(h:k≤1000):Builtin.List.listTooLong k=false:=decide_eq_false (Nat.not_lt.2 (dQ h))
theorem R6{k:Nat}(h:k≤1000):Builtin.List.listFitsIndex (k:Int)=true:=cK.2 ⟨decide_eq_true (rO (by decide) (fX k)),decide_eq_true (B6 h)⟩
theorem ad9{n k:Nat}(h:k<n):A4 (k:Int) n=some k:=by
 unfold A4;rw[if_neg (nZ.2 (fX _))]
 exact if_pos (by rw[decide_eq_true (fX k),decide_eq_true (dN.2 h)];rfl)
theorem aU.FL:aU c 0 (.builtin "list.pop") R3:=aU.a2 λ{A σ s a i v w Q} hr R e e2 q=>by
 refine Fq q λk ws v hk h1 hx h2 q=>?_;subst e;refine xe e2 λt aq=>?_;clear e2;subst aq;refine R.li h1 λitems m hg hl rs=>?_;have ck:k<items.size:=hl▸(List.getElem?_eq_some_iff.mp hx).1;rw[hl]at h2;have hf:=R6 (iQ (ey ck h2));have hs:=ad9 ck;rw[←hk]at hf hs
 refine(rs.get hx).elim λu z=>mR F.slot_list_pop ⟨_,hg,rfl⟩ F.entry_list_pop (F.args_list_pop_2 _ _) (MeetsSeq.list_pop_at _ items m i t k u hf hs (by rw[←vq];exact z.1) (dQ h2)) ⟨hg,zj R h1 hg z.2 (by rw[Ry ck];exact rs.eraseIdx _) q⟩
noncomputable def R7:FM:=fv .L λa σ Q=>∃vs,σ a=some (.list vs)∧vs.length≤1000∧Q .none (upd σ a (.list vs.reverse))
theorem aU.reverse:aU c 0 (.builtin "list.reverse") R7:=aU.a1 λhr R e q=>by
 refine bF q λws h1 h2 q=>?_;subst e
 exact R.li h1 λitems m hg hl rs=>mR F.slot_list_reverse ⟨_,hg,rfl⟩ F.entry_list_reverse (F.args_list_reverse_1 _) (AutoSeq1.list_reverse_list_0 _ items m (hl▸dQ h2)) ⟨hg,zj R h1 hg .none (by rw[Array.toList_reverse];exact rs.reverse) q⟩
noncomputable def Hm:FM:=mj .L .L λa b σ Q=>∃vs ws,σ a=some (.list vs)∧σ b=some (.list ws)∧vs.length+ws.length≤1000∧Q .none (upd σ a (.list (vs++ws)))
theorem aU.extend:aU c 0 (.builtin "list.extend") Hm:=aU.a2 λhr R e e2 q=>by
 refine xZ q λus ws h1 h3 h2 q=>?_;subst e;subst e2;refine R.li h1 λitems m hg hl rs=>R.li h3 λaea m2 hg2 lG rs2=>?_;rw[hl,lG]at h2
 exact mR F.slot_list_extend ⟨_,hg,rfl⟩ F.entry_list_extend (F.args_list_extend_2 _ _) (AutoSeq1.list_extend_list_list_0 _ items m _ aea m2 (by rw[R4 h2,Bool.and_false];exact gX) (dQ (aR (mL _ _) h2)) (rG (dQ h2)))
  ⟨hg,hg2,zj R h1 hg .none (by rw[Array.toList_append];exact rs.append rs2) q⟩
end
end
section
open PySem.SeqAt
section
variable{c:Cx}{n:Nat}{ks:Ks}{A:bj}{env:Env}{e:aL}{σ:St}{s:aw}
noncomputable def pO(a:Addr)(vs:List CV):St→Prop:=λσ=>σ a=some (.list vs)∨σ a=some (.ro vs)
noncomputable abbrev pM:St→Prop:=λz=>True
inductive wH(σ:St)(Q:List CV→(St→Prop)→St→Prop):CV→Prop
 |li {a:Addr} {vs:List CV} (h:pO a vs σ) (q:Q vs (pO a vs) σ):wH σ Q (.loc a)
 |tu {vs:List CV} (q:Q vs pM σ):wH σ Q (.tup vs)
 |«by» {b:List UInt8} (q:Q (yK b) pM σ):wH σ Q (.bytes b)
 |st {x:bA} (h:x.cps.all (·<128)=true) (q:Q (yO x) pM σ):wH σ Q (.str x)
noncomputable def B0(x:CV)(σ:St)(Q:List CV→(St→Prop)→St→Prop):Prop:=wH σ Q x
noncomputable def bO(m:EM):IM:=λe σ Q=>m e σ λx ao=>B0 x ao Q
theorem bK.IC(w:bK c σ₀ cg σ s)(o:Obj):bK c σ₀ cg σ {s with heap:=s.heap.push o}:=w.trans (t6 w.rel)
theorem bK.R8(w:bK c σ₀ cg σ s){b:Addr}(h:s.heap.get? b=none):cg.heap.get? b=none∧σ b=none:=⟨Iq w.ext.more h,w.rel.fresh h⟩
theorem ID(w:bK c σ₀ cg σ s):∀b∈[s.heap.objs.size],cg.heap.get? b=none∧σ b=none:=λb hb=>w.R8 (List.mem_singleton.mp hb▸kH _)
theorem jR.src{t x:Expr}{m:EM}(h:aH c n ks x m):jR c n ks t x (bO m):=λA env e σ s Q N q=>by
 refine wp_step (h N q) λy v ao s1 r w q1=>?_;have w':=bK.IC w;have f:=ID w;change wH ao Q y at q1
 induction q1 with
 |li h q=>obtain rfl:=r.dj;exact w.rel.lr h λitems m hg z z=>Y2 (dJ hg) (.in (gR.list _ _ _) ⟨_,fW _ rfl,rfl,rfl⟩ f (w' _) q)
 |tu q=>refine f7 r.jl λa items m aq hg rs=>?_;subst aq;exact iter_tuple ⟨_,hg,rfl,m,rfl⟩ (.in (gR.tup _ a _ items m) ⟨⟨_,fW _ rfl,rfl,rfl⟩,dY _ hg,rs.bQ ((Ext.push _).lC w.rel)⟩ f (w' _) q)
 |«by» q=>refine xe r.fP λt aq=>?_;subst aq;exact KBw.pyIter_bytes (.in (gR.bytes _ _ t) ⟨_,fW _ rfl,rfl,rfl⟩ f (w' _) q)
 |st h q=>refine xe r.pQ λt aq=>?_;subst aq;exact wpAny_pyIter_ascii h (.in (gR.str _ _ t) ⟨_,fW _ rfl,rfl,rfl⟩ f (w' _) q)
noncomputable abbrev wI(fx x:Expr)(pos:Pos):Prop:=∀env,eval (.Call fx [x] [] pos) env=(do lV pos (←eval fx env) [] (dZ pos (cU [x] env)) (lW pos (lT [] env)))
noncomputable abbrev wJ(x:Expr):Prop:=∀env,cU [x] env=[(false,eval x env)]
theorem IE{T:String}{fx x:Expr}{pos:Pos}{R P:ak→aw→Prop}(hf:aH c n ks fx (au (.ty T)))(N:cO c n A env ks e σ s)(he:wI fx x pos)(hs:wJ x)
  (hx:∀s1,bK c σ s σ s1→aM c.M A (eval x env) P No s1)(k:∀v s',P v s'→aM c.M A (call (.type T) [v]) R No s'):aM c.M A (eval (.Call fx [x] [] pos) env) R No s:=by
 refine Call_ (wp_step (hf (Q:=λy ae=>y=.ty T∧ae=σ) N ⟨rfl,rfl⟩) λy v ao s1 r1 w1 q1=>?_) (he _);obtain⟨rfl,rfl⟩:=q1;obtain rfl:=r1.PV;refine PyProof.Rows.callWith_type1 (e:=x) (rest:=[]) ?_ (hs _);rw[hs];exact spliced_cons (b0 (hx s1 w1) (λv s' p=>spliced_nil (k v s' p)) λo o z=>z)
noncomputable def R9(c:Cx)(σ:St)(s:aw)(Q:Int→St→Prop):ak→aw→Prop:=λv s'=>∃i r t u w ae,v=.ref r∧IsRange s'.heap r 0 i 1 t u w∧bK c σ s ae s'∧Q i ae
theorem Sa{fx x:Expr}{pos:Pos}{m:EM}{Q':Int→St→Prop}(hf:aH c n ks fx (au (.ty "range")))(h:aH c n ks x m)(N:cO c n A env ks e σ s)(q:m e σ Q)(he:wI fx x pos)(hs:wJ x)(k:∀y ae,Q y ae→∃i,y=.int i∧Q' i ae):
  aM c.M A (eval (.Call fx [x] [] pos) env) (R9 c σ s Q') No s:=
 IE (P:=cC c σ s Q) hf N he hs (λs1 w1=>iE w1 (h (N.bu w1) q)) λv s' p=>p.elim λy p=>p.elim λae p=>(k y ae p.2.2).elim λi z=>by
  obtain⟨rfl,z⟩:=z;refine xe p.1.bZ λt aq=>?_;subst aq;exact call_range_1 ⟨i,_,_,t,_,ae,rfl,IsRange.new s'.heap 0 i 1 _ t _,(bK.IC p.2.1 _).tok _,z⟩
noncomputable def oh(m:EM):IM:=λe σ Q=>m e σ λx ao=>∃i,x=.int i∧-(2^62)≤i∧i<2^62∧Q (m8 i) (λz=>True) ao
theorem Sb(i:Int):alr 0 i 1=(i.toNat:Int):=by
 rw[rangeSize_one,Int.toNat_eq_max,Mj]
 split
 ·exact(Int.max_eq_left (Int.le_of_lt ‹_›)).symm
 ·exact(Int.max_eq_right (nZ.1 ‹_›)).symm
theorem jR.range{t fx x:Expr}{pos:Pos}{m:EM}(hf:aH c n ks fx (au (.ty "range")))(h:aH c n ks x m)(he:autoParam (wI fx x pos) aI)(hs:autoParam (wJ x) aI):jR c n ks t (.Call fx [x] [] pos) (oh m):=λA env e σ s Q N q=>
 b0 (Sa (Q':=λi ae=>-(2^62)≤i∧i<2^62∧Q (m8 i) (λo=>True) ae) hf h N q he hs λo o z=>z) (λv s' z=>by
  obtain⟨i,r,t,u,w,ae,rfl,hr,W,h1,h2,q⟩:=z
  have e:alr 0 i 1=(i.toNat:Int)- ((0:Nat):Int):=by rw[Sb];exact(Mj _).symm
  exact wpAny_pyIter_range hr (small_one (by decide) (by decide) h1 h2) (.in (gR.range _ i) (e▸fW _ rfl) (ID W) (bK.IC W _) q)) λo o z=>z
noncomputable def IF(m:EM):EM:=λe σ Q=>m e σ λx ao=>∃i,x=.int i∧-(2^62)≤i∧i≤1000∧ao.new (.list (m8 i)) Q
theorem aeb{h:Heap}{k:Nat}(hi:ItemsOf (λi v=>∃t,v=Value.int ((0:Int)+i*1) t) c0 k):aN h ((cS k).map λ(i:Nat)=>CV.int i) c0.toList:=by
 obtain⟨h1,h2⟩:=hi
 have:∀(m:Nat) (l:List ak),l.length=m→(∀(j:Nat) (v:ak),l[j]?=some v→∃t,v=Value.int (j:Int) t)→aN h ((cS m).map λ(i:Nat)=>CV.int i) l:=by
  intro m
  induction m with
  |zero=>intro l hl _;rw[List.length_eq_zero_iff.mp hl];exact .nil
  |succ m ih=>
   intro l hl hv
   obtain⟨l',x,rfl⟩:∃l' x,l=l'++[x]:=⟨l.dropLast,l.getLast (by intro e;rw[e]at hl;exact rT hl),(vj _).symm⟩
   have qL:l'.length=m:=by simpa using hl
   rw[List.range_succ,cR]
   refine(ih l' qL λj v hj=>hv j v ?_).append ?_
   ·rw[xE (List.getElem?_eq_some_iff.mp hj).1];exact hj
   ·obtain⟨t,rfl⟩:=hv m x (by rw[←qL];simp)
    exact .cons (.int _ _) .nil
 refine this k c0.toList (by simpa using h1) λj v hj=>?_
 obtain⟨t,rfl⟩:=h2 j v (by simpa using hj)
 exact⟨t,by simp⟩
theorem aH.aaq{gx fx x:Expr}{p pos:Pos}{m:EM}(hg:aH c n ks gx (au (.ty "list")))(hf:aH c n ks fx (au (.ty "range")))(h:aH c n ks x m)
  (he:autoParam (wI fx x p) aI)(hs:autoParam (wJ x) aI)(qO:autoParam (wI gx (.Call fx [x] [] p) pos) aI)(IG:autoParam (wJ (.Call fx [x] [] p)) aI):aH c n ks (.Call gx [.Call fx [x] [] p] [] pos) (IF m):=λA env e σ s Q N q=>
 IE (P:=R9 c σ s λi ae=>-(2^62)≤i∧i≤1000∧ae.new (.list (m8 i)) Q) hg N qO IG (λs1 w1=>b0 (Sa hf h (N.bu w1) q he hs λo o z=>z) (λv s' z=>by
  obtain⟨i,r,t,u,w,ae,e,hr,W,z⟩:=z;exact⟨i,r,t,u,w,ae,e,hr,w1.trans W,z⟩) λo o z=>z) λv s' z=>by
  obtain⟨i,r,t,u,w,ae,rfl,hr,W,h1,h2,q⟩:=z
  refine call_list_range (n:=i.toNat) N.room.h hr (small_one (by decide) (by decide) h1 (Lr h2 (by decide))) (Sb i) (aR (Int.toNat_le.2 h2) (by decide)) λh' tk2 acc c' keep hl hi=>?_
  have wK:=ID W _ (.head _);exact⟨_,_,.loc _,⟨(W.rel.kept keep).new (x:=.list (m8 i)) ⟨N.rel.out wK.1,_,_,hl,aeb hi⟩,(W.ext.trans (.kept keep)).new wK.1 (N.rel.fresh wK.1),W.gens,W.os⟩,q _ wK.2⟩
noncomputable def tQ(m:EM):IM:=λe σ Q=>m e σ λx ao=>∃a vs,x=.loc a∧pO a vs ao∧Q (qx 0 vs) (pO a vs) ao
theorem jR.enum{elts:List Expr}{kk:Nat}{pp:Pos}{fx x:Expr}{pos:Pos}{m:EM}(hf:aH c n ks fx (au (.ty "enumerate")))(h:aH c n ks x m)
  (he:autoParam (wI fx x pos) aI)(hs:autoParam (wJ x) aI):jR c n ks (.Tuple elts kk pp) (.Call fx [x] [] pos) (tQ m):=λA env e σ s Q N q=>
 IE (P:=cC c σ s λx ao=>∃a vs,x=.loc a∧pO a vs ao∧Q (qx 0 vs) (pO a vs) ao) hf N he hs (λs1 w1=>iE w1 (h (N.bu w1) q)) λv s2 p=>by
 obtain⟨y,ay,r2,W,a,vs,rfl,h1,q2⟩:=p;obtain rfl:=r2.dj
 refine W.rel.lr h1 λitems mm hg z z=>call_enumerate_1 hg λh' Sd hit dK keep=>wpAny_pyIter_enum (s:={s2 with heap:=h'}) Sd ?_
 have ck:a<s2.heap.objs.size:=mP hg;refine .in (gR.enum _ _ a vs (Za _) (iP (xJ ck)) (iP ck)) ⟨⟨_,Sd⟩,hit⟩ (λb hb=>W.R8 ?_) (W.trans (yV W.rel (h':=h') keep)) q2
 rcases List.mem_cons.mp hb with rfl |hb
 ·exact EF (nW _)
 ·rw[List.mem_singleton.mp hb];exact kH _
end
end
section
open PySem.SeqAt
section
variable{c:Cx}{n:Nat}{ks:Ks}{A:bj}{env:Env}{e:aL}{σ:St}{s:aw}
noncomputable def sG(x:CV)(σ:St):Prop:=∃a es,x=.loc a∧σ a=some (.dS es)
noncomputable def CK(x:CV)(σ:St):Prop:=∃a es,x=.loc a∧σ a=some (.dB es)
theorem Se{K:Type}[DecidableEq K]{knd:KeyKind prog w K}{kvs:List (K×ak)}(h:s.heap.DictOf knd a kvs):s.TypeIs (.ref a) "dict"∧∀b,A5 a=.ref b→∃o,s.heap.get? b=some o∧o.dict=none:=
 ⟨h.typeIs,h.mapOf.noDict⟩
theorem aec{σ:St}{s:aw}(R:Rel c σ s.heap)(r:aV s.heap x v)(h:sG x σ):s.TypeIs v "dict"∧∀a,v=.ref a→∃o,s.heap.get? a=some o∧o.dict=none:=by
 obtain⟨a,es,rfl,h⟩:=h;obtain rfl:=r.dj;exact R.ds h λz hd z z=>Se hd
theorem aed{σ:St}{s:aw}(R:Rel c σ s.heap)(r:aV s.heap x v)(h:CK x σ):s.TypeIs v "dict"∧∀a,v=.ref a→∃o,s.heap.get? a=some o∧o.dict=none:=by
 obtain⟨a,es,rfl,h⟩:=h;obtain rfl:=r.dj;exact R.db h λz hd z z=>Se hd
theorem aaF:c5 c "get" "dict.get" sG:=c5.of F.plainAttrs_dict F.slot_dict_get (by kernel_rfl) aec
theorem aaG:c5 c "setdefault" "dict.setdefault" CK:=c5.of F.plainAttrs_dict alz (by kernel_rfl) aed
noncomputable def si:FM:=mj .L .S λa k σ Q=>∃es,σ a=some (.dS es)∧Q ((bB es k).getD .none) σ
theorem cZ.opt{κ:Type}[DecidableEq κ]{h:Heap}{es:List (κ×CV)}{kvs:List (κ×ak)}(r:cZ h es kvs)(k:κ):aV h ((bB es k).getD .none) ((valueAt kvs k).getD .none):=by
 rcases r.at k with⟨g1,g2⟩ |⟨x,v,g1,g2,g3⟩
 ·rw[g1,g2];exact .none
 ·rw[g1,g2];exact g3
theorem Sf{T:String}{name:bA}{id:String}{B:Builtin}{self:ak}{rest:List ak}{S:PySem.Spec}{Q:ak→aw→Prop}(slot:Slot T name id)(hT:s.TypeIs self T)
  (entry:jw table id=some B)(args:gk id ⟨self::rest,[]⟩)(g:MeetsIn c.prog c.w (B ⟨self::rest,[]⟩) S)(h:S A (wants Q No) s):
  aM c.M A (call (.builtin id) (self::rest)) Q No s:=by
 have:=call_meetsIn (E:=No) (Q:=Q) slot hT entry args g h;exact this
theorem aU.get:aU c 0 (.builtin "dict.get") si:=aU.a2 λhr R e e2 q=>by
 refine a9 q λes h1 q=>?_;subst e;refine xe e2 λt aq=>?_;clear e2;subst aq;exact R.ds h1 λkvs hd z cI=>Sf F.slot_dict_get hd.typeIs F.entry_dict_get (F.args_dict_get_2 _ _) (meets_dict_get (AR c.prog c.w) _ (A3 ..) (qI R h1 rfl)) ⟨_,hd.mapOf,dq R (cI.opt _) q⟩
noncomputable def IH:FM:=Cq .L .B .V λa k v σ Q=>∃es,σ a=some (.dB es)∧es.length≤1000∧(∀x,bB es k=some x→Q x σ)∧(bB es k=none→Q v (upd σ a (.dB (bY es k v))))
theorem Rel.aee(R:Rel c σ s.heap)(e:σ a=some o)(hs:jt a s.heap h'):gq s.heap h':=by
 refine a9 (eK.there (R.objs _ _ e)) λy hy ht=>?_
 exact λb c0 m eb=>hs.extBut b _ (λz=>by subst z;rw[hy]at eb;exact ht _ _ (bt eb)) eb
theorem aU.aaH:aU c 0 (.builtin "dict.setdefault") IH:=aU.a3 λ{A σ s a k y v w u Q} hr R e e2 r3 q=>by
 refine cz q λes h1 hz q1 q2=>?_;subst e;refine xe e2 λt aq=>?_;clear e2;subst aq
 refine R.db h1 λkvs hd hl cI=>Sf alz hd.typeIs F.entry_dict_setdefault (F.args_dict_setdefault_3 _ _ _) (kt_meets_setdefault (fL c.prog c.w) _ (E9 ..) (qI R h1 rfl) _) ⟨kvs,hd,hl▸dQ hz,λv hv=>?_,λhv h' fQ hs=>?_⟩
 ·rcases cI.at k with⟨_,g2⟩ |⟨x,v',g1,g2,g3⟩
  ·exact jP (hv.symm.trans g2)
  ·cases hv.symm.trans g2;exact dq R g3 (q1 x g1)
 ·rcases cI.at k with⟨g1,_⟩ |⟨x,v',g1,g2,g3⟩
  ·obtain⟨ae,w,q'⟩:=y7 (Q:=Q _) (t:=s.toks+1) (y:=.dB (bY es k _)) R h1 rfl hs (λtu=>⟨(R.objs _ _ h1).1,_,fQ,(cI.bQ tu).bY k (r3.bQ tu)⟩) (q2 g1)
   exact⟨_,ae,r3.bQ (R.aee h1 hs),w,q'⟩
  ·exact bo (hv.symm.trans g2)
noncomputable def aef:FM:=fv .L λa σ Q=>∃vs,pO a vs σ∧vs.length≤1000∧Q (.int vs.length) σ
noncomputable def aeg:FM:=fv .L λa σ Q=>∃es,σ a=some (.dB es)∧es.length≤1000∧Q (.int es.length) σ
noncomputable def aeh:FM:=fv .B λb σ Q=>b.length≤1099511627776∧Q (.int b.length) σ
noncomputable def eI:FM:=pV aef (pV aeg aeh)
theorem aU.len:aU c 0 (.builtin "len") eI:=aU.or (aU.a1 λhr R e q=>by
  refine bF q λvs h1 h2 q=>?_;subst e;refine R.lr h1 λitems m hg hl z=>call_len_list (dJ hg) (hl▸B6 h2) ?_
  rw[←hl];exact dq R (.int _ _) q) (aU.or (aU.a1 λhr R e q=>by
  refine bF q λes h1 h2 q=>?_;subst e;refine R.db h1 λkvs hd hl z=>call_len_dict (qI R h1 rfl) hd (hl▸B6 h2) ?_
  rw[←hl];exact dq R (.int _ _) q) (aU.a1 λhr R e q=>by
  refine xe e λt aq=>?_;clear e;subst aq
  refine KBw.len_K (ks:=KBw.bInts _) rfl (by rw[KBw.ints_length];exact q.1) ?_
  rw[KBw.ints_length]
  exact dq R (.int _ _) q.2))
noncomputable def GZ:FM:=fv .S λx σ Q=>∃k,x=⟨#[k]⟩∧Q (.int k) σ
theorem aU.ord:aU c 0 (.builtin "ord") GZ:=aU.a1 λhr R e q=>by
 obtain⟨k,rfl,q⟩:=q;refine xe e λt aq=>?_;clear e;subst aq;exact P.ord_of_char (dq R (.int _ _) q)
noncomputable def G6:FM:=fv .I λi σ Q=>Q (.int i) σ
theorem aU.int:aU c 0 (.type "int") G6:=aU.a1 λhr R e q=>by
 refine xe e λt aq=>?_;clear e;subst aq;exact call_int_int (pR R (.int _ _) q)
noncomputable def sH:FM:=fv .L λa σ Q=>∃vs,pO a vs σ∧vs.length≤1000∧σ.new (.list vs) Q
theorem II{x:CO}(R:Rel c σ s.heap)(keep:∀b o,s.heap.get? b=some o→h'.get? b=some o)(hn:s.heap.get? a=none)(r:c.H0.get? a=none→eK c h' a x)(q:σ.new x Q):cC c σ s Q (.ref a) {s with heap:=h',toks:=tk}:=
 ⟨_,_,.loc a,⟨(R.kept keep).new (r (R.out hn)),(Ext.kept keep).new hn (R.fresh hn),rfl,rfl⟩,q a (R.fresh hn)⟩
theorem aU.list:aU c 0 (.type "list") sH:=aU.a1 λ{A σ s a v Q} hr R e q=>by
 refine bF q λws h1 h2 q=>?_;subst e;exact R.lr h1 λitems m hg hl rs=>call_list_seq _ (.inl rfl) hg rfl rfl (λh' c' keep wK=>II (tk:=s.toks) (x:=.list ws) R keep (kH _) (λz=>⟨z,_,_,wK,rs.bQ λb o o eb=>keep b _ eb⟩) q) (hl▸dQ h2)
noncomputable def aei:FM:=fv .L λa σ Q=>∃vs,pO a vs σ∧vs.length≤1000∧Q (.tup vs) σ
noncomputable def aej:FM:=fv .V λx σ Q=>∃vs,x=.tup vs∧Q (.tup vs) σ
noncomputable def vU:FM:=pV aei aej
theorem aU.tuple:aU c 0 (.type "tuple") vU:=aU.or (aU.a1 λ{A σ s a v Q} hr R e q=>by
  refine bF q λws h1 h2 q=>?_;subst e;refine R.lr h1 λitems m hg hl rs=>call_tuple_list (dJ hg) (λh' keep=>?_) (hl▸dQ h2);have IJ:∀b o,s.heap.get? b=some o→(h'.push {cls:=.type "tuple",data:=.seq items}).get? b=some o:=λb o e=>dY _ (keep b o e)
  exact⟨_,σ,.tup (fW _ rfl) (rs.bQ λb z z eb=>IJ b _ eb),⟨R.kept IJ,.kept IJ,rfl,rfl⟩,q⟩) (aU.a1 λhr R e q=>by
  obtain⟨vs,rfl,q⟩:=q;refine f7 (aV.jl e) λa items m aq hg rs=>?_;subst aq
  exact call_tuple_same ⟨_,hg,rfl,_,rfl⟩ (pR R (.tup hg rs) q))
noncomputable def aek:FM:=fv .L λa σ Q=>∃is:List Int,σ a=some (.list (is.map .int))∧(∀i∈is,0≤i∧i<256)∧is.length≤1000∧Q (.bytes (is.map λi=>i.toNat.toUInt8)) σ
noncomputable def ael:FM:=fv .B λb σ Q=>Q (.bytes b) σ
noncomputable def sf:FM:=pV aek ael
theorem aN.CL{h:Heap}:∀{is:List Int} {vs:List ak},aN h (is.map .int) vs→IntsAre vs is
 |[],_,r=>by rw[aN.jU r];exact .nil
 |i::is,_,r=>by
  refine jg (aN.iT r) λv ws aq a r1=>?_;subst aq;refine xe a.bZ λt aq=>?_;subst aq;exact .cons _ _ (aN.CL r1)
theorem aem:tD (.type "bytes") "__bytes__"=pure (some (.builtin "bytes.__bytes__")):=by rw[iO,iM];kernel_rfl
theorem qP{α:Type}{M:fy}{A:bj}{s:aw}{c:Bool}{a b:Sem α}{Q:α→aw→Prop}(hc:c=false)(h:aM M A b Q E s):aM M A (if c=true then a else b) Q E s:=by
 rw[if_neg (by rw[hc];decide)];exact h
theorem aen(b:Array UInt8)(t:Tok):Meets (Builtin.«bytes.__new__» ⟨[.type "bytes",.bytes b t],[]⟩) (λz R s=>R (.ok (.ret (.bytes b t))) s):=by
 refine .of_wp λprog w A R s h=>?_;unfold Builtin.«bytes.__new__»;refine aC (eF (a:=true) rfl ?_);refine qP rfl ?_;refine aC (eF F.bm_sub ?_);refine qP rfl ?_;refine aC (eF (F.bm_bind _) ?_);refine aC (eF (a:=()) rfl ?_);refine aC (eF (a:=()) rfl ?_);refine qP rfl ?_;refine aC (vx (fZ _ _ _) aem ?_);refine aC (rP (aC (xR (fZ _ _ _) ?_)));exact aO ⟨_,rfl,h⟩
theorem aU.bytes:aU c 0 (.type "bytes") sf:=aU.or (aU.a1 λ{A σ s a v Q} hr R e q=>by
  refine cz q λis h1 h2 h3 q=>?_;subst e;refine R.li h1 λitems m hg hl rs=>call_bytes_ints (vs:=items.toList) (dJ hg) rs.CL h2 (aR (rN ((aZ _).symm.trans hl).symm) (dQ h3)) hr.h λh' t k keep=>?_
  exact⟨_,σ,.bytes _ t,⟨R.kept keep,.kept keep,rfl,rfl⟩,q⟩) (aU.a1 λhr R e q=>by
  refine xe e λt aq=>?_;clear e;subst aq
  exact callType_new F.bm_called (by decide) (F.bm_typeCall _) (F.bm_newCall _) (λobj=>F.args_object_init_2 obj _) F.bm_entry (aen _ _) ⟨fZ _ _ _,pR R (.bytes _ _) q⟩)
end
end
section
open PySem.SeqAt
theorem Sg:PlainAttrs "bytearray":=
 ⟨⟨"bytearray.__getattribute__",by rw[iO,iM];kernel_rfl,by decide+kernel⟩,by rw[iO,iM];kernel_rfl⟩
theorem Sh:Slot "bytes" "find" "bytes.find":=
 .of (owner:="bytes") (n:="find") (by rw[iO,iM];kernel_rfl) (by decide+kernel) (by decide+kernel) (by decide+kernel)
  (by first |exact .inl (by decide+kernel) |exact .inr (by decide+kernel)) (by rw[lS];kernel_rfl)
theorem aeo:jw table "bytes.find"=some Builtin.«bytes.find»:=by first |exact qo (by kernel_rfl) |exact qp (by kernel_rfl)
theorem aep(a b:ak):gk "bytes.find" ⟨[a,b],[]⟩:=by
 unfold gk;first |kernel_rfl |(rw[pf (id:="bytes.find") (n:=['d','n','i','f']) (o:=['s','e','t','y','b']) (by kernel_rfl) AN];kernel_rfl)
theorem Si:Slot "bytes" "split" "bytes.split":=
 .of (owner:="bytes") (n:="split") (by rw[iO,iM];kernel_rfl) (by decide+kernel) (by decide+kernel) (by decide+kernel)
  (by first |exact .inl (by decide+kernel) |exact .inr (by decide+kernel)) (by rw[lS];kernel_rfl)
theorem aeq:jw table "bytes.split"=some Builtin.«bytes.split»:=by first |exact qo (by kernel_rfl) |exact qp (by kernel_rfl)
theorem aer(a b:ak):gk "bytes.split" ⟨[a,b],[]⟩:=by
 unfold gk;first |kernel_rfl |(rw[pf (id:="bytes.split") (n:=['t','i','l','p','s']) (o:=['s','e','t','y','b']) (by kernel_rfl) AN];kernel_rfl)
theorem Sj:Slot "bytes" "join" "bytes.join":=
 .of (owner:="bytes") (n:="join") (by rw[iO,iM];kernel_rfl) (by decide+kernel) (by decide+kernel) (by decide+kernel)
  (by first |exact .inl (by decide+kernel) |exact .inr (by decide+kernel)) (by rw[lS];kernel_rfl)
theorem aes:jw table "bytes.join"=some Builtin.«bytes.join»:=by first |exact qo (by kernel_rfl) |exact qp (by kernel_rfl)
theorem aet(a b:ak):gk "bytes.join" ⟨[a,b],[]⟩:=by
 unfold gk;first |kernel_rfl |(rw[pf (id:="bytes.join") (n:=['n','i','o','j']) (o:=['s','e','t','y','b']) (by kernel_rfl) AN];kernel_rfl)
theorem Sk:Slot "bytes" "lower" "bytes.lower":=
 .of (owner:="bytes") (n:="lower") (by rw[iO,iM];kernel_rfl) (by decide+kernel) (by decide+kernel) (by decide+kernel)
  (by first |exact .inl (by decide+kernel) |exact .inr (by decide+kernel)) (by rw[lS];kernel_rfl)
theorem aeu:jw table "bytes.lower"=some Builtin.«bytes.lower»:=by first |exact qo (by kernel_rfl) |exact qp (by kernel_rfl)
theorem aev(a:ak):gk "bytes.lower" ⟨[a],[]⟩:=by
 unfold gk;first |kernel_rfl |(rw[pf (id:="bytes.lower") (n:=['r','e','w','o','l']) (o:=['s','e','t','y','b']) (by kernel_rfl) AN];kernel_rfl)
theorem Sl:Slot "bytes" "count" "bytes.count":=
 .of (owner:="bytes") (n:="count") (by rw[iO,iM];kernel_rfl) (by decide+kernel) (by decide+kernel) (by decide+kernel)
  (by first |exact .inl (by decide+kernel) |exact .inr (by decide+kernel)) (by rw[lS];kernel_rfl)
theorem aew:jw table "bytes.count"=some Builtin.«bytes.count»:=by first |exact qo (by kernel_rfl) |exact qp (by kernel_rfl)
theorem aex(a b:ak):gk "bytes.count" ⟨[a,b],[]⟩:=by
 unfold gk;first |kernel_rfl |(rw[pf (id:="bytes.count") (n:=['t','n','u','o','c']) (o:=['s','e','t','y','b']) (by kernel_rfl) AN];kernel_rfl)
theorem IK:Slot "bytes" "__lt__" "bytes.__lt__":=
 .of (owner:="bytes") (n:="__lt__") (by rw[iO,iM];kernel_rfl) (by decide+kernel) (by decide+kernel) (by decide+kernel)
  (by first |exact .inl (by decide+kernel) |exact .inr (by decide+kernel)) (by rw[lS];kernel_rfl)
theorem Sm:jw table "bytes.__lt__"=some Builtin.«bytes.__lt__»:=by first |exact qo (by kernel_rfl) |exact qp (by kernel_rfl)
theorem Sn(a b:ak):gk "bytes.__lt__" ⟨[a,b],[]⟩:=by
 unfold gk;first |kernel_rfl |(rw[pf (id:="bytes.__lt__") (n:=['_','_','t','l','_','_']) (o:=['s','e','t','y','b']) (by kernel_rfl) AN];kernel_rfl)
theorem So:Slot "bytearray" "append" "bytearray.append":=
 .of (owner:="bytearray") (n:="append") (by rw[iO,iM];kernel_rfl) (by decide+kernel) (by decide+kernel) (by decide+kernel)
  (by first |exact .inl (by decide+kernel) |exact .inr (by decide+kernel)) (by rw[lS];kernel_rfl)
theorem aey:jw table "bytearray.append"=some Builtin.«bytearray.append»:=by first |exact qo (by kernel_rfl) |exact qp (by kernel_rfl)
theorem aez(a b:ak):gk "bytearray.append" ⟨[a,b],[]⟩:=by
 unfold gk;first |kernel_rfl |(rw[pf (id:="bytearray.append") (n:=['d','n','e','p','p','a']) (o:=['y','a','r','r','a','e','t','y','b']) (by kernel_rfl) IL];kernel_rfl)
theorem Sp:Slot "bytearray" "reverse" "bytearray.reverse":=
 .of (owner:="bytearray") (n:="reverse") (by rw[iO,iM];kernel_rfl) (by decide+kernel) (by decide+kernel) (by decide+kernel)
  (by first |exact .inl (by decide+kernel) |exact .inr (by decide+kernel)) (by rw[lS];kernel_rfl)
theorem aeA:jw table "bytearray.reverse"=some Builtin.«bytearray.reverse»:=by first |exact qo (by kernel_rfl) |exact qp (by kernel_rfl)
theorem aeB(a:ak):gk "bytearray.reverse" ⟨[a],[]⟩:=by
 unfold gk;first |kernel_rfl |(rw[pf (id:="bytearray.reverse") (n:=['e','s','r','e','v','e','r']) (o:=['y','a','r','r','a','e','t','y','b']) (by kernel_rfl) IL];kernel_rfl)
theorem Sq:Slot "bytearray" "__len__" "bytearray.__len__":=
 .of (owner:="bytearray") (n:="__len__") (by rw[iO,iM];kernel_rfl) (by decide+kernel) (by decide+kernel) (by decide+kernel)
  (by first |exact .inl (by decide+kernel) |exact .inr (by decide+kernel)) (by rw[lS];kernel_rfl)
theorem aeC:jw table "bytearray.__len__"=some Builtin.«bytearray.__len__»:=by first |exact qo (by kernel_rfl) |exact qp (by kernel_rfl)
theorem aeD(a:ak):gk "bytearray.__len__" ⟨[a],[]⟩:=by
 unfold gk;first |kernel_rfl |(rw[pf (id:="bytearray.__len__") (n:=['_','_','n','e','l','_','_']) (o:=['y','a','r','r','a','e','t','y','b']) (by kernel_rfl) IL];kernel_rfl)
theorem CM:Slot "bytearray" "__init__" "bytearray.__init__":=
 .of (owner:="bytearray") (n:="__init__") (by rw[iO,iM];kernel_rfl) (by decide+kernel) (by decide+kernel) (by decide+kernel)
  (by first |exact .inl (by decide+kernel) |exact .inr (by decide+kernel)) (by rw[lS];kernel_rfl)
theorem aeE:jw table "bytearray.__init__"=some Builtin.«bytearray.__init__»:=by first |exact qo (by kernel_rfl) |exact qp (by kernel_rfl)
theorem aeF(a:ak):gk "bytearray.__init__" ⟨[a],[]⟩:=by
 unfold gk;first |kernel_rfl |(rw[pf (id:="bytearray.__init__") (n:=['_','_','t','i','n','i','_','_']) (o:=['y','a','r','r','a','e','t','y','b']) (by kernel_rfl) IL];kernel_rfl)
end
set_option tactic.hygienic true
section
open PySem.SeqAt
noncomputable def pI(a b:List UInt8):Int:=match(if a.length<b.length then none else Lp a.toArray b.toArray 0 a.length)with
 |some i=>i
 |none=>-1
theorem aeG(n:Nat):Builtin.Bytes.window n none none=(0,(n:Int)):=by
 unfold Builtin.Bytes.window
 have h:¬((n:Int)<0):=by exact nZ.2 (fX _)
 simp[h]
theorem Sr{A:bj}{s:aw}{name:String}{b x:Array UInt8}{t:Tok}{Q:Array UInt8×Array UInt8×Option (Nat×Nat)→aw→Prop}
  (h:Q (b,x,if b.size<x.size then none else some (0,b.size)) s):aM (model prog w) A (aln .bytes name ⟨[.bytes b t,.bytes x u],[]⟩) Q E s:=by
 unfold aln;show aM _ _ (pure (Fd b t,[Fd x u]) >>= _) _ _ _;refine aC (aO ?_);refine aC (aO ?_);refine aC (aO ?_);dsimp only[List.headD];rw[Mc];refine aC (aC (aO (aO ?_)));refine aC (eF (a:=x) rfl ?_);refine aC (eF (a:=b) rfl ?_);refine aO ?_;rw[aeG];simp only[Mj,dN,Int.toNat_zero,pe];exact h
theorem aeH(b x:List UInt8)(t u:Tok):Meets (Builtin.«bytes.find» ⟨[.bytes b.toArray t,.bytes x.toArray u],[]⟩) (λz R s=>∀t' k,R (.ok (.ret (.int (pI b x) t'))) {s with toks:=k}):=by
 refine .of_wp λprog w A R s h=>?_;unfold Builtin.«bytes.find» Builtin.Bytes.searchM;refine aC (Sr ?_)
 have hb:pI b x=match(if b.toArray.size<x.toArray.size then none else some (0,b.toArray.size)).bind (λ(lh:Nat×Nat)=>Lp b.toArray x.toArray lh.1 lh.2)with |some i=>(i:Int) |none=>-1:=by
  unfold pI
  by_cases hl:b.length<x.length<;>simp[hl]
 dsimp only;simp only[pd,if_false]
 split
 ·rename_i i hi
  refine aC (Ff (aO ⟨_,rfl,?_⟩))
  have:pI b x=i:=by rw[hb,hi]
  rw[←this];exact h _ _
 ·rename_i hi
  refine aC (rP (aC (Ff (aO ⟨_,rfl,?_⟩))))
  have:pI b x=-1:=by rw[hb,hi]
  rw[←this];exact h _ _
noncomputable def yw(a b:List UInt8):Nat:=if a.length<b.length then 0 else(Ld a.toArray b.toArray 0 a.length).length
theorem aeI(b x:List UInt8)(t u:Tok)(hx:x≠[]):Meets (Builtin.«bytes.count» ⟨[.bytes b.toArray t,.bytes x.toArray u],[]⟩) (λz R s=>∀t' k,R (.ok (.ret (.int (yw b x) t'))) {s with toks:=k}):=by
 refine .of_wp λprog w A R s h=>?_;unfold Builtin.«bytes.count» Builtin.Bytes.countM;refine aC (Sr ?_);unfold yw at h
 by_cases hl:b.length<x.length
 ·rw[if_pos (by simpa using hl)]
  refine aC (Ff (aO ⟨_,rfl,?_⟩))
  rw[if_pos hl]at h;exact h _ _
 ·rw[if_neg (by simpa using hl)]
  have:x.toArray.isEmpty=false:=by simpa using hx
  dsimp only;rw[this];refine aC (Ff (aO ⟨_,rfl,?_⟩));rw[if_neg hl]at h;simpa using h _ _
noncomputable def Hb(a:List UInt8):List UInt8:=a.map Builtin.Bytes.toLower
theorem aeJ(b:List UInt8)(t:Tok)(hz:b.length≤1000):Meets (Builtin.«bytes.lower» ⟨[.bytes b.toArray t],[]⟩) (λz R s=>∀t' k,R (.ok (.ret (.bytes (Hb b).toArray t'))) {s with toks:=k}):=by
 refine .of_wp λprog w A R s h=>?_;unfold Builtin.«bytes.lower» Builtin.Bytes.mappedM;refine aC (aO ?_);refine aC (eF (a:=b.toArray) rfl ?_)
 exact aC (Mi (aO ⟨_,rfl,h _ _⟩) (by simpa using dQ hz))
section
variable{c:Cx}{n:Nat}{ks:Ks}{A:bj}{env:Env}{e:aL}{σ:St}{s:aw}
noncomputable def jG(x:CV)(_:St):Prop:=∃b,x=.bytes b
theorem zk{σ:St}{s:aw}(R:Rel c σ s.heap)(r:aV s.heap x v)(h:jG x σ):s.TypeIs v "bytes"∧∀a,v=.ref a→∃o,s.heap.get? a=some o∧o.dict=none:=by
 obtain⟨b,rfl⟩:=h;refine xe r.fP λt aq=>?_;subst aq;exact⟨fZ _ _ _,λa e=>nomatch e⟩
theorem aaI:c5 c "find" "bytes.find" jG:=c5.of EJ Sh (by kernel_rfl) zk
theorem aaJ:c5 c "split" "bytes.split" jG:=c5.of EJ Si (by kernel_rfl) zk
theorem aaK:c5 c "join" "bytes.join" jG:=c5.of EJ Sj (by kernel_rfl) zk
theorem aaL:c5 c "lower" "bytes.lower" jG:=c5.of EJ Sk (by kernel_rfl) zk
theorem aaM:c5 c "count" "bytes.count" jG:=c5.of EJ Sl (by kernel_rfl) zk
noncomputable def Hc:FM:=mj .B .B λa b σ Q=>Q (.int (pI a b)) σ
theorem aU.find:aU c 0 (.builtin "bytes.find") Hc:=aU.a2 λhr R e e2 q=>by
 refine xe e λt aq=>?_;clear e;subst aq;refine xe e2 λu aq=>?_;clear e2;subst aq;exact mR Sh (fZ _ _ _) aeo (aep _ _) (aeH _ _ _ _) λt' k=>dq R (.int _ _) q
noncomputable def Hd:FM:=mj .B .B λa b σ Q=>b≠[]∧Q (.int (yw a b)) σ
theorem aU.count:aU c 0 (.builtin "bytes.count") Hd:=aU.a2 λhr R e e2 q=>by
 refine xe e λt aq=>?_;clear e;subst aq;refine xe e2 λu aq=>?_;clear e2;subst aq;exact mR Sl (fZ _ _ _) aew (aex _ _) (aeI _ _ _ _ q.1) λt' k=>dq R (.int _ _) q.2
noncomputable def Ha:FM:=fv .B λa σ Q=>a.length≤1000∧Q (.bytes (Hb a)) σ
theorem aU.lower:aU c 0 (.builtin "bytes.lower") Ha:=aU.a1 λhr R e q=>by
 refine xe e λt aq=>?_;clear e;subst aq;exact mR Sk (fZ _ _ _) aeu (aev _) (aeJ _ _ q.1) λt' k=>dq R (.bytes _ _) q.2
end
end
section
open PySem.SeqAt
noncomputable def lA(a b:List UInt8):List (List UInt8):=
 if((Ld a.toArray b.toArray 0 a.length).take (a.length+1)).isEmpty then[a]else(Builtin.Bytes.between a.toArray b.length ((Ld a.toArray b.toArray 0 a.length).take (a.length+1))).map (λx=>x.toList)
theorem aeK(v:ak):ald "bytes.split" "split" ["sep","maxsplit"] [v] []=pure [some v,none]:=by kernel_rfl
theorem Su:∀(l:List (Array UInt8)) (s:aw) {Q:List ak→aw→Prop},(∀p∈l,p.size≤mT)→
  (∀vs k,(∀h,aN h (l.map λp=>CV.bytes p.toList) vs)→Q vs {s with toks:=k})→aM (model prog w) A (l.mapM (Builtin.Bytes.Kind.new .bytes)) Q E s
 |[],s,Q,_,h=>by rw[List.mapM_nil];exact aO (h [] s.toks λz=>.nil)
 |p::l,s,Q,hz,h=>by
  rw[List.mapM_cons];refine aC (Mi (aC (Su l _ (λq hq=>hz q (.tail _ hq)) λvs k hv=>aO ?_)) (hz p (.head _)))
  have:=h (.bytes p s.toks::vs) k λh=>by
   refine .cons ?_ (hv h);have:=aV.bytes (h:=h) p.toList s.toks;simpa using this
  exact this
theorem aeL(b x:List UInt8)(t u:Tok)(hx:x≠[])(hz:∀p∈lA b x,p.length≤1000)(hl:(lA b x).length≤1000):Meets (Builtin.«bytes.split» ⟨[.bytes b.toArray t,.bytes x.toArray u],[]⟩)
  (λz R s=>∀vs k,(∀h,aN h ((lA b x).map .bytes) vs)→R (.ok (.ret (.ref s.heap.objs.size))) {s with heap:=s.heap.push {cls:=.type "list",data:=.seq vs.toArray},toks:=k}):=by
 refine .of_wp λprog w A R s h=>?_;unfold Builtin.«bytes.split» Builtin.Bytes.splitM;refine aC (eF (aeK _) ?_);refine aC (aO ?_);refine aC (eF (a:=b.toArray) rfl ?_);dsimp only;unfold Builtin.Bytes.bytesLike;rw[Mc];refine aC (aC (aO (aO ?_)))
 have e1:x.toArray.isEmpty=false:=by simpa using hx
 rw[e1]
 have e2:(if(-1:Int)<0 then b.length+1 else(-1:Int).toNat)=b.length+1:=by simp
 simp only[pd,if_false,xK];rw[e2];unfold lA at h hz hl
 by_cases hp:((Ld b.toArray x.toArray 0 b.length).take (b.length+1)).isEmpty=true
 ·rw[if_pos hp]at h hz hl ⊢
  refine aC (rP (aC ?_));unfold Builtin.Bytes.Kind.same;simp only[beq_self_eq_true,if_true];refine aC (xR (fZ _ _ _) ?_)
  rw[if_pos (by decide)]
  refine aO (aC (yU ?_ (dQ (by simp))))
  exact aO ⟨_,rfl,h [.bytes b.toArray t] s.toks λz=>.cons (.bytes _ _) .nil⟩
 ·rw[if_neg hp]at h hz hl ⊢
  refine aC (Su _ _ (λp hp=>?_) λvs k hv=>?_)
  ·have:=hz p.toList (List.mem_map.mpr ⟨p,hp,rfl⟩)
   exact dQ (by simpa using this)
  ·have hvl:vs.length≤1000:=by
    have:=(hv s.heap).length;rw[←this];simpa using hl
   refine aC (yU ?_ (dQ hvl))
   exact aO ⟨_,rfl,h vs k λh=>by rw[dp];exact hv h⟩
noncomputable def oz(sep:List UInt8):List (List UInt8)→List UInt8
 |[]=>[]
 |x::xs=>x++(xs.map (sep++·)).flatten
theorem Sv(sep:Array UInt8):∀(l:List (List UInt8)) (k:Nat) (out:Array UInt8),0<k→
  ((l.map (λx=>x.toArray)).zipIdx k).foldl (λout (p:Array UInt8×Nat)=>(if p.2>0 then out++sep else out)++p.1) out=out++((l.map (sep.toList++·)).flatten).toArray
 |[],k,out,_=>by simp
 |x::l,k,out,hk=>by
  simp only[gB,ET,kh,AG];rw[if_pos hk,Sv sep l (k+1) _ (nU _)];apply Array.ext';simp
theorem aeM(sep:List UInt8)(l:List (List UInt8)):YN sep.toArray (l.map (λx=>x.toArray))=(oz sep l).toArray:=by
 unfold YN
 induction l with
 |nil=>rfl
 |cons x l=>
  simp only[gB,ET,kh]
  have:=Sv sep.toArray l 1 (#[]++x.toArray) (by decide)
  show _=(x++(l.map (sep++·)).flatten).toArray
  refine Eq.trans ?_ (this.trans ?_)
  ·rfl
  ·apply Array.ext';simp
theorem Sw{Q:Unit→aw→Prop}:∀(taken:List (ak×Option ak)) (keep:List ak),(∀p∈taken,p.2=none)→Q () s→aM (model prog w) A (als taken keep) Q E s
 |[],_,_,q=>aO q
 |(x,o)::r,keep,h,q=>by
  have:o=none:=h (x,o) (.head _);subst this;unfold als;refine aC (wpAny_letGo ?_);exact Sw r keep (λp hp=>h p (.tail _ hp)) q
theorem join_loop{m:Nat}{xs:List (List UInt8)}{id:String}(hg:s.heap.get? a=some (listOf items m))(hx:aN s.heap (xs.map .bytes) items.toList)
  {body:Nat→Array (Array UInt8)×List (ak×Option ak)→Sem (ForInStep (Array (Array UInt8)×List (ak×Option ak)))}
  (hb:∀i parts taken (x:List UInt8) t Q,items[i]?=some (.bytes x.toArray t)→(∀p∈taken,p.2=none∧p.1.onHeap=false)→Q (EY (parts.push x.toArray,taken++[(.bytes x.toArray t,none)])) s→aM (model prog w) A (body i (parts,taken)) Q E s)
  {Q:Array (Array UInt8)×List (ak×Option ak)→aw→Prop}(h:∀taken,(∀p∈taken,p.2=none)→Q ((xs.map (λx=>x.toArray)).toArray,taken) s):
  aM (model prog w) A (forIn [0:items.size] (#[],[]) body) Q E s:=by
 rw[Std.Legacy.Range.forIn_eq_forIn_range']
 have dK:([0:items.size]:Std.Legacy.Range).size=items.size:=by simp[Std.Legacy.Range.size]
 show aM _ _ (forIn (mQ 0 ([0:items.size]:Std.Legacy.Range).size 1) _ _) _ _ _;rw[dK]
 have hl:xs.length=items.size:=by simpa using hx.length
 have key:∀(k i:Nat) (parts:Array (Array UInt8)) (taken:List (ak×Option ak)),i+k=items.size→parts.toList=(xs.take i).map (λx=>x.toArray)→(∀p∈taken,p.2=none∧p.1.onHeap=false)→
   aM (model prog w) A (forIn (mQ i k 1) (parts,taken) body) Q E s:=by
  intro k
  induction k with
  |zero=>
   intro i parts taken hi hp ht;rw[List.range'_zero,List.forIn_nil]
   have e:parts=(xs.map (λx=>x.toArray)).toArray:=by
    apply Array.ext'
    rw[hp,vo (by exact aR (el hl) (er hi))]
   exact aO (e▸h taken λp hp=>(ht p hp).1)
  |succ k ih=>
   intro i parts taken hi hp ht;rw[List.range'_succ,L3]
   have ck:i<xs.length:=by exact l2 (er hl) (el hi) (by simp+arith only)
   have h1:(xs.map CV.bytes)[i]?=some (.bytes xs[i]):=by simp[ck]
   refine a9 (hx.get h1) λv hv rv=>?_;cases rv;rename_i t
   refine aC (hb i parts taken xs[i] t _ (by simpa using hv) ht ?_)
   refine ih (i+1) _ _ (by exact q1 hi (by simp+arith only)) ?_ λp hp=>?_
   ·rw[ER,hp,Lv,bS ck];rw[cR];rfl
   ·rcases List.mem_append.mp hp with hp |hp
    ·exact ht p hp
    ·rw[List.mem_singleton.mp hp];exact⟨rfl,rfl⟩
 exact key items.size 0 #[] [] (by exact tC ..) (by simp) (λp hp=>cA hp)
theorem aeN{id:String}{b:Array UInt8}{t:Tok}:Yz id (.bytes b t) 0=pure (some (b,none)):=by
 have e:Ax id (.bytes b t) ((0:Int)==Builtin.Bytes.fullReadOnly)=pure (some b):=Mc;unfold Yz Builtin.Bytes.takeBuffer?;rw[KBy.special_eq KBy.look_buffer,KBy.own_buffer];rw[e]
 rfl
theorem Sx:∀{taken:List (ak×Option ak)},(∀p∈taken,p.2=none∧p.1.onHeap=false)→taken.any (λx=>x.1.onHeap)=false
 |[],_=>rfl
 |p::l,h=>by rw[xP,(h p (.head _)).2,Sx λq hq=>h q (.tail _ hq)];rfl
theorem aeO(sep:List UInt8):∀xs:List (List UInt8),(xs.map (λx=>x.toArray)).toArray.foldl (λa b=>a+b.size) (sep.toArray.size*((xs.map (λx=>x.toArray)).toArray.size- 1))=(oz sep xs).length:=by
 intro xs
 induction xs with
 |nil=>rfl
 |cons x xs=>
  have key:∀(l:List (List UInt8)) (n:Nat),List.foldl (λa (b:Array UInt8)=>a+b.size) (n+sep.length*l.length) (l.map (λx=>x.toArray))=n+((l.map (sep++·)).flatten).length:=by
   intro l
   induction l with
   |nil=>intro n;simp
   |cons y l ih=>
    intro n;have:=ih (n+sep.length+y.length);simp only[gB,kh,AG,bW,kY,xK]at this ⊢
    rw[show n+sep.length*(l.length+1)+y.length=n+sep.length+y.length+sep.length*l.length by rw[Nat.mul_add];exact(by simp+arith only),this]
    exact(by simp+arith only)
  have:=key xs x.length;show _=(x++_).length;rw[bW,←this];rw[←Array.foldl_toList];simp only[gB,kh,xK,kY,aZ,Nat.add_sub_cancel];rw[tC]
theorem aeP{γ:Sort _}(items:Array ak)(f:ak→γ)(g:Array ak→γ)(h:items.size≠1):ak9 (λz=>γ) items f g=g items:=by
 unfold ak9;exact dif_neg h
theorem aeQ{n:Nat}(h:n≤16777216):n≤mT:=by rw[A1];exact h
theorem ite_yes{c:Prop}[Decidable c]{X Y:Prop}(hc:c)(h:X):if c then X else Y:=by
 rw[if_pos hc];exact h
theorem aeR{h:Heap}:∀{xs:List (List UInt8)} {v:ak},aN h (xs.map .bytes) [v]→∃x t,xs=[x]∧v=.bytes x.toArray t
 |[],_,r=>rT r.length
 |[x],_,r=>by
  refine jg r.iT λw ws e r1 zz=>?_;obtain⟨t,rfl⟩:=r1.fP
  exact⟨x,t,rfl,xF e⟩
 |_::_::_,_,r=>nomatch r.length
theorem aeS(sep:List UInt8)(t:Tok)(a:Addr)(items:Array ak)(m:Nat)(xs:List (List UInt8))(hz:(oz sep xs).length≤16777216):Meets (Builtin.«bytes.join» ⟨[.bytes sep.toArray t,.ref a],[]⟩)
  (λz R s=>s.heap.get? a=some (listOf items m)∧aN s.heap (xs.map .bytes) items.toList∧∀t' k,R (.ok (.ret (.bytes (oz sep xs).toArray t'))) {s with toks:=k}):=by
 refine .of_wp λprog w A R s hh=>?_;refine pj hh λhg hx h=>?_;have hT:s.TypeIs (.ref a) "list":=(dJ hg).typeIs
 have hl:xs.length=items.size:=by have:=hx.length;rw[aZ]at this;exact this
 have hk:(alo==alo)=true:=rfl;unfold Builtin.«bytes.join» Builtin.Bytes.joinM;refine aC (aO ?_);refine tG (ite_yes hk ?_);refine aC ?_;unfold Builtin.Bytes.joinItems;refine aC (xR hT ?_)
 refine tG (ite_yes (by decide) ?_)
 refine aO ?_;refine aC (E5 hg rfl ?_);refine tG (ite_yes hk ?_)
 by_cases h1:items.size=1
 ·obtain⟨v,rfl⟩:=Array.size_eq_one_iff.1 h1
  refine gH (aeR hx) λx t' aq qN=>?_;subst aq;subst qN;show aM _ _ (typeOf _ >>= _) _ _ _;refine aC (xR (fZ _ _ _) ?_)
  refine tG (ite_yes (by decide) ?_)
  have h:=h t' s.toks;rw[show oz sep [x]=x from fj x]at h;exact aC (rP (aO ⟨_,rfl,h⟩))
 rw[aeP _ _ _ h1]
 refine aC (join_loop (id:="") hg hx (λi parts taken x u Q hi ht hq=>?_) λtaken ht=>?_)
 ·refine aC (E5 hg rfl ?_)
  have eL:items.getD i .none=.bytes x.toArray u:=by rw[La,hi];rfl
  refine tG (Fm (by rw[Sx ht];decide) ?_)
  show aM _ _ (holding (items.getD i .none::_) (Yz _ (items.getD i .none) 0) >>= _) _ _ _;refine aC (jf ?_);rw[eL];refine eF aeN ?_;show aM _ _ (xT _ >>= _) _ _ _;refine aC (E5 hg rfl ?_)
  refine tG (Fm (by simp) ?_)
  exact aO hq
 ·refine aC (eF (a:=sep.toArray) rfl ?_)
  refine tG (Fm (by rw[aeO,KBy.tooLong_not hz];exact gX) ?_)
  show aM _ _ (Builtin.Bytes.Kind.bytes.new (YN sep.toArray (xs.map (λx=>x.toArray))) >>= _) _ _ _;rw[aeM];refine aC (Mi ?_ (aeQ hz));refine aC (jf (wpAny_point ?_));exact aC (Sw taken _ ht (aO ⟨_,rfl,h _ _⟩))
end
set_option tactic.hygienic false
section
open PySem.SeqAt
section
variable{c:Cx}{n:Nat}{ks:Ks}{A:bj}{env:Env}{e:aL}{σ:St}{s:aw}
theorem aeT{o:Obj}{x:CO}(R:Rel c σ s.heap)(hf:o.isFreed=false)(q:σ.new x Q)
  (h:(s.heap.push o).get? s.heap.objs.size=some o→c.H0.get? s.heap.objs.size=none→eK c (s.heap.push o) s.heap.objs.size x):cC c σ s Q (.ref s.heap.objs.size) {s with heap:=s.heap.push o,toks:=tk}:=by
 obtain⟨x,ae,r,w,q⟩:=wy R hf q h;exact⟨x,ae,r,⟨w.rel,w.ext,rfl,rfl⟩,q⟩
noncomputable def yI:FM:=mj .B .B λa b σ Q=>b≠[]∧(∀p∈lA a b,p.length≤1000)∧(lA a b).length≤1000∧σ.new (.list ((lA a b).map .bytes)) Q
theorem aU.split:aU c 0 (.builtin "bytes.split") yI:=aU.a2 λhr R e e2 q=>by
 refine xe e λt aq=>?_;clear e;subst aq;refine xe e2 λu aq=>?_;clear e2;subst aq;exact mR Si (fZ _ _ _) aeq (aer _ _) (aeL _ _ _ _ q.1 q.2.1 q.2.2.1) λws k hw=>aeT (tk:=k) R rfl q.2.2.2 λe z=>⟨z,_,_,e,hw _⟩
noncomputable def tW:FM:=mj .B .L λa b σ Q=>∃ys:List (List UInt8),σ b=some (.list (ys.map .bytes))∧(oz a ys).length≤16777216∧Q (.bytes (oz a ys)) σ
theorem aU.join:aU c 0 (.builtin "bytes.join") tW:=aU.a2 λhr R e e2 q=>by
 refine bF q λys h1 h2 q=>?_;refine xe e λt aq=>?_;clear e;subst aq;subst e2;exact R.li h1 λitems m hg z rs=>mR Sj (fZ _ _ _) aes (aet _ _) (aeS _ _ _ items m ys h2) ⟨hg,rs,λt' k=>dq R (.bytes _ _) q⟩
theorem aeU{σ:St}{s:aw}(R:Rel c σ s.heap)(r:aV s.heap x v)(h:∃b,x=CV.str b):s.TypeIs v "str"∧∀a,v=.ref a→∃o,s.heap.get? a=some o∧o.dict=none:=by
 obtain⟨b,rfl⟩:=h;refine xe r.pQ λt aq=>?_;subst aq;exact⟨typeIs_str _ _ _,λa e=>nomatch e⟩
theorem aN.Sy{h:Heap}:∀{ys:List Str} {vs:List ak},aN h (ys.map .str) vs→StrsAre vs ys
 |[],_,r=>by rw[aN.jU r];exact .nil
 |i::is,_,r=>by
  refine jg (aN.iT r) λv ws aq a r1=>?_;subst aq;refine xe a.pQ λt aq=>?_;subst aq;exact .cons _ _ (aN.Sy r1)
noncomputable def G8:FM:=mj .S .L λa b σ Q=>∃ys:List Str,σ b=some (.list (ys.map .str))∧(ys.map (λx=>x.length)).sum+ys.length*a.length≤16777216∧Q (.str (Txt.join a ys)) σ
theorem aU.FO:aU c 0 (.builtin "str.join") G8:=aU.a2 λhr R e e2 q=>by
 refine bF q λys h1 h2 q=>?_;refine xe e λt aq=>?_;clear e;subst aq;subst e2;exact R.li h1 λitems m hg z rs=>join_list (dJ hg) rs.Sy h2 λt' k=>dq R (.str _ _) q
noncomputable def CN:FM:=fv .I λa σ Q=>a.natAbs<2^64∧Q (.str (toString a)) σ
theorem aU.str:aU c 0 (.type "str") CN:=aU.a1 λ{A σ s a v Q} hr R e q=>by
 refine xe e λt aq=>?_;clear e;subst aq;refine PySem.P.str_of_int ?_ (dq R (.str _ _) q.2)
 by_cases h0:a.natAbs=0
 ·rw[h0];decide
 ·exact(Nat.log2_lt h0).mpr (ey q.1 (Nat.pow_le_pow_right (by decide) (by decide)))
noncomputable def Hl:FM:=fv .L λa σ Q=>∃is:List Int,σ a=some (.list (is.map .int))∧0<is.length∧∀m,m∈is→(∀i∈is,i≤m)→Q (.int m) σ
theorem aU.max:aU c 0 (.builtin "max") Hl:=aU.a1 λ{A σ s a v Q} hr R e q=>by
 refine bF q λns h1 jF q=>?_;subst e;refine R.li h1 λitems m hg z rs=>?_;have hi:=rs.CL;refine xe hi.allInts.items λxs e=>?_;have e:items=intItems xs:=e
 have lE:ns=xs.toList.map (λx=>x.1):=by rw[←hi.numsOf,←nums_intItems,←e]
 subst lE;rw[aZ,mI]at jF
 refine max_intList hr.h (xs:=xs) (by rw[←e];exact dJ hg) jF λv h' tk hv hk=>?_
 refine xe (intItems_at hv) λt aq=>?_;subst aq;have g:=argBest_gt (numAt xs) (xs.size- 1)
 refine⟨_,σ,.int _ t,yV R hk,q _ ?_ λa ha=>?_⟩
 ·rw[numAt_eq];exact getD_mem (by rw[aZ,mI];exact je g.1 (Fh jF (nU 0)))
 ·refine a9 (mem_getD ha) λj hj aq=>?_;subst aq
  rw[aZ,mI]at hj;rw[←numAt_eq];exact g.2 j (Nat.le_sub_one_of_lt hj)
noncomputable def BL:FM:=fv .L λa σ Q=>∃bs:List Bool,σ a=some (.list (bs.map .bool))∧Q (.bool (bs.all id)) σ
theorem aN.aeV{h:Heap}{bs:List Bool}(r:aN h (bs.map .bool) vs)(e:vs[i]?=some v):∃b,bs[i]?=some b∧v=.bool b:=by
 have hl:=r.length;rw[aZ]at hl;have hb:i<bs.length:=hl▸(List.getElem?_eq_some_iff.mp e).1;have CP:=bS hb
 refine a9 (aN.get r (i:=i) (x:=.bool bs[i]) (by rw[dM,CP];rfl)) λu hu ru=>?_
 cases hu.symm.trans e;exact⟨_,CP,ru.Hw⟩
theorem all_range(bs:List Bool):((cS bs.length).all λi=>(bs[i]?).getD true)=bs.all id:=by
 rw[rL,iy,iy]
 refine⟨λh b hb=>?_,λh i hi=>?_⟩
 ·obtain⟨i,hi,rfl⟩:=List.mem_iff_getElem.mp hb
  have:=h i (List.mem_range.mpr hi)
  rwa[bS hi]at this
 ·have hi:=List.mem_range.mp hi
  rw[bS hi];exact h bs[i] (vv hi)
theorem aU.all:aU c 0 (.builtin "all") BL:=aU.a1 λ{A σ s a v Q} hr R e q=>by
 refine a9 q λbs h1 q=>?_;subst e;refine R.li h1 λitems m hg dK rs=>call_all_walk (Y2 (dJ hg) ?_);rw[aZ]at dK
 refine⟨s.heap.objs.size,[s.heap.objs.size,a],[s.heap.objs.size],items.size,_,_,λi=>(bs[i]?).getD true,rfl,Walks.list (A:=A.in1) hr.h _ a (iP (mP hg)) items,
  ⟨⟨_,fW _ rfl,rfl,rfl⟩,(dJ hg).push _⟩,λi v s' Q' E' hP hQ=>?_,λh' tk hk=>?_⟩
 ·refine a9 (rs.aeV (Array.getElem?_toList.trans hP)) λb e aq=>?_;subst aq
  have hQ:Q' ((bs[i]?).getD true) s':=hQ;rw[e]at hQ
  exact AE hQ
 ·rw[←dK,all_range]
  exact⟨_,σ,.bool _,yV R (LSm.kept_iter hk),q⟩
noncomputable def Hi:CV→CV→St→(CV→St→Prop)→Prop:=λx y σ Q=>∃a i,x=.loc a∧y=.int i∧∃(k:Nat) (v:CV),i=k∧σ a=some (.list [v])∧k≤1000∧σ.new (.list (qr k v)) Q
theorem Sz(v:ak):∀(k:Nat) (acc:Array ak),(List.foldl (λx1 x2=>x1++x2) acc (qr k #[v])).toList=acc.toList++qr k v
 |0,acc=>by simp
 |k+1,acc=>by rw[List.replicate_succ,kh,Sz v k,List.replicate_succ];simp
theorem aN.replicate{h:Heap}(r:aV h x v):∀k,aN h (qr k x) (qr k v)
 |0=>.nil
 |k+1=>.cons r (aN.replicate r k)
noncomputable def Bf(m1 m2:EM):EM:=λe σ Q=>m1 e σ λx ao=>m2 e ao λy ay=>Hi x y ay Q
theorem aeW{w:ak}(R:Rel c σ s.heap)(r:aV s.heap x v)(r':aV s.heap y w)(q:Hi x y σ Q):
  aM c.M A (binaryOp .Mult v w) (cC c σ s Q) No s:=by
 obtain⟨l,i,rfl,rfl,k,v,hi,h1,h3,q⟩:=q;obtain rfl:=r.dj;refine xe r'.bZ λu aq=>?_;subst aq;have hf:=R6 h3;rw[←hi]at hf;refine R.li h1 λitems m hg dK rs=>?_;obtain⟨it,rfl⟩:=Array.size_eq_one_iff.1 dK.symm
 refine wpAny_binaryOp_repeat_ref (T:="list") (U:="int") (by decide) ⟨_,hg,rfl⟩ (λs'=>typeIs_int s' _ u) noFill_list_mul F.fills_int_mul F.slot_int_rmul repeat_list F.slot_int_index.lookup
  (mR F.slot_int_rmul (typeIs_int s _ u) F.entry_int_rmul (F.args_int_rmul_2 _ _) (int___rmul___int_list _ u l #[it] m)
   ⟨hg,rfl,⟨_,hg,rfl⟩,mR F.slot_list_mul ⟨_,hg,rfl⟩ F.entry_list_mul (F.args_list_mul_2 _ _)
    (AutoListH.list___mul___list_int_3 l #[it] m _ u (by rw[hf];exact gX) ?_ ?_)
    ⟨hg,?_⟩⟩)
 ·rw[show #[it].size=1 from rfl,Nat.one_mul,hi];exact Nat.not_lt.2 (aR h3 (cG rfl))
 ·rw[show #[it].size=1 from rfl,Nat.one_mul,hi];exact λz=>nomatch (R4 h3).symm.trans z
 ·refine wy R rfl q λe z=>⟨z,_,_,e,?_⟩
  rw[if_neg (λh=>nomatch h),Sz,hi];exact(aN.replicate (rs.iT.elim λo z=>z.elim λo z=>xF z.1▸z.2.1) _).bQ ((Ext.push _).lC R)
theorem aH.mulL{l r:Expr}{pos:Pos}(h1:aH c n ks l m1)(h2:aH c n ks r m2):aH c n ks (.BinOp l .Mult r pos) (Bf m1 m2):=λA env e σ s Q N q=>
 wpAny_BinOp (wp_step (h1 N q) λx v ao s1 r1 w1 q1=>wp_step (h2 (N.bu w1) q1) λy w ay s2 r2 w2 q2=>
  iE (w1.trans w2) (aeW w2.rel (r1.bu w1.rel w2) r2 q2))
end
end
section
open PySem.SeqAt
section
variable{c:Cx}{n:Nat}{ks:Ks}{A:bj}{env:Env}{e:aL}{σ:St}{s:aw}
noncomputable def M3:SM:=λz z z=>False
noncomputable def pz:SM:=λz z z=>False
theorem eQ.never{b:List Stmt}:eQ c n ks b M3:=λA env e σ s Q z q=>q.elim
theorem cF.aas{b:Stmt}:cF c n ks b pz:=λA env e σ s Q z q=>q.elim
noncomputable def SS:EM:=λe σ Q=>σ.new (.dI []) Q
noncomputable def S0:EM:=λe σ Q=>σ.new (.dS []) Q
noncomputable def nB:EM:=λe σ Q=>σ.new (.dB []) Q
theorem CQ{K:Type}[DecidableEq K](knd:KeyKind prog w K){h:Heap}(g:h.get? a=some {cls:=.type "dict",data:=.dict #[]}):h.DictOf knd a []:=
 ⟨_,#[],0,g,⟨rfl,rfl,rfl⟩,rfl,λe he=>by simp at he,.nil,E6⟩
theorem aH.aai{pos:Pos}:aH c n ks (.Dict [] [] pos) SS:=λA env e1 σ s Q N q=>
 Zb (wy N.rel rfl q λe z=>⟨z,[],CQ _ e,.nil⟩)
theorem aH.aaj{pos:Pos}:aH c n ks (.Dict [] [] pos) S0:=λA env e1 σ s Q N q=>
 Zb (wy N.rel rfl q λe z=>⟨z,[],CQ _ e,.nil⟩)
theorem aH.aah{pos:Pos}:aH c n ks (.Dict [] [] pos) nB:=λA env e1 σ s Q N q=>
 Zb (wy N.rel rfl q λe z=>⟨z,[],CQ _ e,.nil⟩)
theorem aeX{D:Addr}{x:CO}{k:Nat}(R:Rel c σ s.heap)(hD:D=s.heap.objs.size)
  (w:bK c σ {s with heap:=s.heap.push {cls:=.type "dict",data:=.dict #[]}} ae s')(hs:jt D s'.heap h')(q:ae.new x Q)(r:gq s'.heap h'→c.H0.get? D=none→eK c h' D x):cC c σ s Q (.ref D) {s' with heap:=h',toks:=k}:=by
 subst hD;have hn:=kH s.heap;have w0:=(t6 (c:=c) (s:=s) (o:={cls:=.type "dict",data:=.dict #[]}) R).trans w;have g0:(s.heap.push {cls:=.type "dict",data:=.dict #[]}).get? s.heap.objs.size=some {cls:=.type "dict",data:=.dict #[]}:=fW _ rfl;have g1:=w.ext.at g0 (R.fresh hn);have d1:ae s.heap.objs.size=none:=w.ext.gc _ _ g0 (R.fresh hn)
 have nt:∀items n,s'.heap.get? s.heap.objs.size≠some (d7 items n):=λitems n z=>by rw[g1]at z;exact kF (by simp) _ _ (bt z)
 have tu:gq s'.heap h':=λb c0 m eb=>hs.extBut b _ (λz=>by subst z;exact nt _ _ eb) eb
 have R':Rel c ae h':=w.rel.but hs.extBut d1 (R.out hn) nt;have R2:=R'.new (r tu (R.out hn))
 have e2:Ext σ s.heap ae h':=⟨λb o eb z=>hs.extBut b o (λq=>by rw[q,hn]at eb;exact bo eb) (w0.ext.keep b o eb z),w0.ext.gc,w0.ext.fc,λb o eb=>by
  obtain⟨o',eo⟩:=w0.ext.more b o eb
  exact⟨o',hs.extBut b o' (λq=>by rw[q,hn]at eb;exact bo eb) eo⟩⟩
 exact⟨_,_,.loc _,⟨R2,e2.new hn (R.fresh hn),w0.gens,w0.os⟩,q _ d1⟩
noncomputable abbrev EP(κ:Type):=aL→St→(List (κ×CV)→St→Prop)→Prop
noncomputable abbrev IP(env:Env)(pos:Pos)(ps:List (Expr×Expr)):List (Sem ak×Sem ak):=ps.map λp=>(eval p.1 env,do let x ←eval p.2 env;oe pos;pure x)
section
variable{κ:Type}[DecidableEq κ]
noncomputable def aeY(c:Cx)(knd:KeyKind c.prog c.w κ)(σ:St)(s:aw)(Q:List (κ×CV)→St→Prop):List (ak×ak)→aw→Prop:=λvs s'=>∃es kvs ae,Carries knd vs kvs∧cZ s'.heap es kvs∧bK c σ s ae s'∧Q es ae
noncomputable def kK(c:Cx)(n:Nat)(ks:Ks)(knd:KeyKind c.prog c.w κ)(pos:Pos)(ps:List (Expr×Expr))(m:EP κ):Prop:=∀⦃A:bj⦄ ⦃env:Env⦄ ⦃e:aL⦄ ⦃σ:St⦄ ⦃s:aw⦄ ⦃Q:List (κ×CV)→St→Prop⦄,cO c n A env ks e σ s→m e σ Q→aM c.M A (evalPairs (IP env pos ps)) (aeY c knd σ s Q) No s
noncomputable def qQ(c:Cx)(n:Nat)(ks:Ks)(knd:KeyKind c.prog c.w κ)(x:Expr)(m:aL→St→(κ→St→Prop)→Prop):Prop:=∀⦃A:bj⦄ ⦃env:Env⦄ ⦃e:aL⦄ ⦃σ:St⦄ ⦃s:aw⦄ ⦃Q:κ→St→Prop⦄,cO c n A env ks e σ s→m e σ Q→aM c.M A (eval x env) (λv s'=>∃k ae,knd.is k v=true∧bK c σ s ae s'∧Q k ae) No s
variable{knd:KeyKind c.prog c.w κ}{pos:Pos}
theorem kK.nil:kK c n ks knd pos [] λz σ Q=>Q [] σ:=λA env e ao s Q1 N q=>evalPairs_nil ⟨[],[],_,trivial,.nil,.refl N.rel,q⟩
theorem kK.cons{k v:Expr}{ps:List (Expr×Expr)}{mk:aL→St→(κ→St→Prop)→Prop}{m:EM}{r:EP κ}(h0:qQ c n ks knd k mk)(h1:aH c n ks v m)(h2:kK c n ks knd pos ps r):
  kK c n ks knd pos ((k,v)::ps) λe σ Q=>mk e σ λk ao=>m e ao λx ay=>r e ay λes aQ=>Q ((k,x)::es) aQ:=λA env e1 H3 s Q1 N q=>
 evalPairs_cons (b0 (h0 N q) (λkv s1 z=>z.elim λk z=>z.elim λao z=>
  aC (wp_step (h1 (N.bu z.2.1) z.2.2) λx v ay s2 r2 w2 q2=>aC (kZ (aO (b0 (h2 ((N.bu z.2.1).bu w2) q2) (λvs s3 z3=>by
   obtain⟨es,kvs,aQ,hc,hr,w3,q3⟩:=z3
   exact⟨(k,x)::es,(k,v)::kvs,aQ,⟨z.1,rfl,hc⟩,.cons (r2.bu w2.rel w3) hr,(z.2.1.trans w2).trans w3,q3⟩) λo o z=>z))))) λo o z=>z)
theorem aeZ{h:Heap}{es:List (κ×CV)}{kvs:List (κ×ak)}(r:cZ h es kvs):∀{S2:List (κ×CV)} {S5:List (κ×ak)},cZ h S2 S5→cZ h (es.foldl (λl p=>bY l p.1 p.2) S2) (PySem.merged S5 kvs):=by
 induction r with
 |nil=>exact λr=>r
 |cons e _ ih=>exact λr0=>ih (r0.bY _ e)
theorem kK.dict{keys:List (Option Expr)}{values:List Expr}{ps:List (Expr×Expr)}{m:EP κ}{x:List (κ×CV)→CO}(h:kK c n ks knd pos ps m)(hr:∀{h:Heap} {D:Addr} {es kvs},c.H0.get? D=none→h.DictOf knd D kvs→cZ h es kvs→eK c h D (x es))
  (hs:∀env,(evalEachOpt keys env).zip ((evalEach values env).map λv=>do let x ←v;oe pos;pure x)=(IP env pos ps).map λp=>(some p.1,p.2))(h0:ps≠[])(hl:ps.length≤15):
  aH c n ks (.Dict keys values pos) λe σ Q=>m e σ λes ae=>ae.new (x (es.foldl (λl p=>bY l p.1 p.2) [])) Q:=λA env e σ s Q N q=>by
 refine wpAny_Dict_pairs (knd:=knd) (pairs:=IP env pos ps) (hs env) (λz=>h0 (xH.1 z)) (by rw[aZ];exact hl) (b0 (h (N.bu (t6 N.rel)) q) (λvs s1 z=>?_) λo o z=>z)
 obtain⟨es,kvs,ao,hc,hk,w,q1⟩:=z;exact⟨kvs,hc,CQ _ (w.ext.at (fW _ rfl) (N.rel.fresh (kH _))),λh' hd hs=>aeX N.rel rfl w hs q1 λtu z=>hr z hd (aeZ (hk.bQ tu) .nil)⟩
end
theorem qQ.str{a:Str}{k:Nat}{p:Pos}:qQ c n ks (AR c.prog c.w) (.Constant (.str a) k p) λz σ Q=>Q a σ:=λA env e ao s Q1 N q=>λz z z=>⟨a,_,A3 ..,.Hz N.rel _,q⟩
theorem qQ.int{k:Expr}{m:EM}(h:aH c n ks k m):qQ c n ks (intKind c.prog c.w) k λe σ Q=>m e σ λx ao=>∃i,x=.int i∧Q i ao:=λA env e1 H3 s Q1 N q=>
 wp_step (h N q) λx v ao s1 r1 w1 q1=>q1.elim λi z=>by
  obtain⟨rfl,z⟩:=z;refine xe r1.bZ λt aq=>?_;subst aq;exact⟨i,_,Fl ..,w1,z⟩
noncomputable def x7(a b d:Str)(m1 m2 m3:EM):EM:=λe σ Q=>m1 e σ λx ao=>m2 e ao λy ay=>m3 e ay λz aQ=>aQ.new (.dS (bY (bY (bY [] a x) b y) d z)) Q
theorem aH.aaf{a b d:Str}{k1 k2 k3:Nat}{p1 p2 p3 pos:Pos}{v1 v2 v3:Expr}(h1:aH c n ks v1 m1)(h2:aH c n ks v2 m2)(h3:aH c n ks v3 m3):
  aH c n ks (.Dict [some (.Constant (.str a) k1 p1),some (.Constant (.str b) k2 p2),some (.Constant (.str d) k3 p3)] [v1,v2,v3] pos) (x7 a b d m1 m2 m3):=
 kK.dict (ps:=[(.Constant (.str a) k1 p1,v1),(.Constant (.str b) k2 p2,v2),(.Constant (.str d) k3 p3,v3)]) (x:=.dS) (@kK.cons _ _ _ _ _ _ _ _ _ _ _ _ _ (@qQ.str _ _ _ _ _ _) @h1 (@kK.cons _ _ _ _ _ _ _ _ _ _ _ _ _ (@qQ.str _ _ _ _ _ _) @h2 (@kK.cons _ _ _ _ _ _ _ _ _ _ _ _ _ (@qQ.str _ _ _ _ _ _) @h3 (@kK.nil _ _ _ _ _ _ _)))) (λz d r=>⟨z,_,d,r⟩) (λo=>rfl) (List.cons_ne_nil _ _) (cG rfl)
noncomputable def IQ(mk m1:EM):EM:=λe σ Q=>mk e σ λk ao=>∃i,k=.int i∧m1 e ao λx ay=>ay.new (.dI (bY [] i x)) Q
theorem aH.aak{k v:Expr}{pos:Pos}{mk m1:EM}(h0:aH c n ks k mk)(h1:aH c n ks v m1):aH c n ks (.Dict [some k] [v] pos) (IQ mk m1):=
 kK.dict (ps:=[(k,v)]) (x:=.dI) (@kK.cons _ _ _ _ _ _ _ _ _ _ _ _ _ (@qQ.int _ _ _ _ _ @h0) @h1 (@kK.nil _ _ _ _ _ _ _)) (λz d r=>⟨z,_,d,r⟩) (λo=>rfl) (List.cons_ne_nil _ _) (cG rfl)
theorem aaP:c5 c "join" "str.join" (λx z=>∃b,x=CV.str b):=c5.of PySem.F.plainAttrs_str PySem.F.slot_str_join PySem.F.type_str_join aeU
noncomputable abbrev isStr(x:CV)(_:St):Prop:=∃b,x=CV.str b
noncomputable def i5(a b:List UInt8):Bool:=EK a b==.lt
noncomputable def oH(p q:Int×List UInt8):Bool:=decide (p.1<q.1)||(decide (p.1=q.1)&&i5 p.2 q.2)
noncomputable def mn(p:Int×List UInt8):CV:=.tup [.int p.1,.bytes p.2]
noncomputable def ae0:FM:=fv .L λa σ Q=>∃es,σ a=some (.dI es)∧es.length≤4∧∀ws:List Int,ws.Perm (es.map (λx=>x.1))→ws.Pairwise (·≤·)→σ.new (.list (ws.map .int)) Q
noncomputable def ae1:FM:=fv .L λa σ Q=>∃es,σ a=some (.dB es)∧es.length≤4∧∀ws:List (List UInt8),ws.Perm (es.map (λx=>x.1))→ws.Pairwise (λx y=>i5 y x=false)→σ.new (.list (ws.map .bytes)) Q
noncomputable def ae2:FM:=fv .L λa σ Q=>∃bs,σ a=some (.set bs)∧bs.length≤4∧∀ws:List (List UInt8),ws.Perm bs→ws.Pairwise (λx y=>i5 y x=false)→σ.new (.list (ws.map .bytes)) Q
noncomputable def ae3:FM:=fv .L λa σ Q=>∃ps:List (Int×List UInt8),σ a=some (.list (ps.map mn))∧ps.length≤4∧∀ws:List (Int×List UInt8),ws.Perm ps→ws.Pairwise (λx y=>oH y x=false)→σ.new (.list (ws.map mn)) Q
noncomputable def uq:FM:=pV ae0 (pV ae1 (pV ae2 ae3))
noncomputable def wL(l:List (List UInt8)):List (List UInt8):=l.foldl (λacc x=>if x∈acc then acc else acc++[x]) []
noncomputable def S6:FM:=fv .L λa σ Q=>∃bs:List (List UInt8),σ a=some (.list (bs.map .bytes))∧bs.length≤1000∧σ.new (.set (wL bs)) Q
noncomputable def CR(x:CV)(σ:St):Prop:=∃a b,x=.loc a∧σ a=some (.ba b)
noncomputable def Hk:FM:=λxs kx σ Q=>xs=[]∧kx=[]∧σ.new (.ba []) Q
noncomputable def S7:FM:=mj .L .I λa i σ Q=>∃b,σ a=some (.ba b)∧0≤i∧i<256∧b.length≤1000∧Q .none (upd σ a (.ba (b++[i.toNat.toUInt8])))
noncomputable def Ta:FM:=fv .L λa σ Q=>∃b,σ a=some (.ba b)∧b.length≤1000∧Q .none (upd σ a (.ba b.reverse))
noncomputable def IS:FM:=fv .L λa σ Q=>∃b,σ a=some (.ba b)∧b.length≤1000∧Q (.int b.length) σ
noncomputable def IT:FM:=fv .L λa σ Q=>∃b,σ a=some (.ba b)∧b.length≤1000∧Q (.bytes b) σ
end
end
set_option tactic.hygienic true
noncomputable def IU(o:Obj):Option ph:=match o.data with
 |.func fd=>some fd
 |_=>none
theorem ae4{o:Obj}(h:IU o=some fd):o.data=.func fd:=by
 obtain⟨c,d,x,s⟩:=o
 induction x with
 |func f=>exact congrArg _ (bt h)
 |_=>exact bo h
theorem ae5{α:Type}{x:Option α}{p:α→Bool}(h:x.any p=true):∃a,x=some a∧p a=true:=by
 cases x with
 |none=>exact eP h
 |some a=>exact⟨a,rfl,h⟩
noncomputable def fdOf(K:Frag)(a:Nat):ph:=((K.lookup a).bind IU).getD default
noncomputable def Tc(b:FuncBody):List Stmt:=match b with
 |.stmts b=>b
 |.expr _=>[]
noncomputable def x9(K:Frag)(a:Nat):List Stmt:=Tc (fdOf K a).body
noncomputable def Td(b:FuncBody):Bool:=match b with
 |.stmts _=>true
 |.expr _=>false
theorem ae6{b:FuncBody}(h:Td b=true):b=.stmts (Tc b):=by
 cases b with
 |stmts b=>rfl
 |expr x=>exact eP h
noncomputable def Bh(K:Frag)(a:Nat)(ks:Ks)(ps:List Nat):Bool:=((K.lookup a).bind IU).any λfd=>Td fd.body&&fd.closure.isEmpty&&fd.globals==nV&&fd.builtins==Fk&&codeIn K fd.code fd.qualname
 &&fd.scope.kind==.function&&!fd.scope.isCoroutine&&!fd.scope.isGenerator&&decide (fd.scope.names=ks.map λp=>(nm p.1,p.2))&&qz fd.params&&decide (fd.params.args.map (λx=>x.arg)=ps.map nm)&&vK K fd.defaults&&keepIn K (.ref a)
theorem aaz{c:Cx}{a:Nat}(h:Bh c.K a ks ps=true)(hs:∀p∈ks,p.1<nN)(zl:∀p∈ks,p.2≠.free):vJ c a (fdOf c.K a) (x9 c.K a) ks∧qz (fdOf c.K a).params=true∧(fdOf c.K a).params.args.map (λx=>x.arg)=ps.map nm∧vK c.K (fdOf c.K a).defaults=true∧keepIn c.K (.ref a)=true:=by
 refine a9 (ae5 h) λfd e h=>?_
 have e2:fdOf c.K a=fd:=by unfold fdOf;rw[e];rfl
 refine a9 (vm.1 e) λo hl hf=>?_;unfold x9;rw[e2];refine xa (cK.1 h) λh h13=>?_;refine xa (cK.1 h) λh h12=>?_;refine xa (cK.1 h) λh h11=>?_;refine xa (cK.1 h) λh h10=>?_;refine xa (cK.1 h) λh h9=>?_;refine xa (cK.1 h) λh h8=>?_;refine xa (cK.1 h) λh h7=>?_;refine xa (cK.1 h) λh h6=>?_;refine xa (cK.1 h) λh h5=>?_;refine xa (cK.1 h) λh h4=>?_;refine xa (cK.1 h) λh h3=>?_;refine xa (cK.1 h) λh1 h2=>?_;exact⟨⟨⟨_,hl,ae4 hf⟩,ae6 h1,L0.1 h2,n9 h3,n9 h4,h5,n9 h6,mK _▸h7,mK _▸h8,of_decide_eq_true h9,hs,zl⟩,h10,of_decide_eq_true h11,h12,h13⟩
noncomputable def tP:List (Nat×CV):=[(34,.bytes [98,108,111,98]),(38,.bytes [116,114,101,101]),(137,.bytes [99,111,109,109,105,116]),(5,.int 16384),(6,.int 57344),(209,.str (ax "0123456789abcdef")),(259,.bytes [32,9,13,11,12]),(142,.int 1),(139,.int 2),(18,.bi "len"),(24,.bi "ord"),(15,.ty "int"),(58,.ty "list"),(134,.ty "tuple"),(101,.ty "bytes"),(29,.ty "str"),(19,.bi "max"),(7,.bi "all"),(168,.bi "sorted"),(28,.ty "set"),(218,.ty "bytearray"),(124,.ty "range"),(220,.ty "enumerate"),(267,.loc 108),(210,.loc 163),(141,.loc 232),(94,.loc 274),(39,.loc 323),(138,.loc 391),(236,.loc 539),(211,.loc 588),(247,.loc 609),(40,.loc 958),(95,.loc 21),(222,.loc 71),(154,.loc 78),(229,.loc 83),(252,.loc 119),(275,.loc 126),(158,.loc 176),(204,.loc 181),(278,.loc 186),(276,.loc 194),(271,.loc 201),(272,.loc 208),(281,.loc 285),(282,.loc 292),(244,.loc 334),(230,.loc 341),(277,.loc 348),(242,.loc 353),(273,.loc 360),(265,.loc 402),(245,.loc 620),(255,.loc 627),(254,.loc 634),(214,.loc 965),(215,.loc 972),(216,.loc 979),(274,.loc 986),(227,.loc 991),(249,.loc 998),(228,.loc 1012),(248,.loc 1017),(217,.loc 1024),(268,.loc 1029),(279,.loc 1034),(17,.loc 1039),(246,.tup [.int 33188,.int 33261,.int 40960,.int 16384,.int 57344]),(226,.loc 1003),(237,.loc 1007)]
noncomputable def x5(c:Cx):Prop:=∀i x,tP.lookup i=some x→x4 c i x
noncomputable abbrev av(i:Nat):Nat×gC:=(i,.local)
noncomputable abbrev a8(i:Nat):Nat×gC:=(i,.globalImplicit)
noncomputable abbrev e7(i:Nat):Nat×gC:=(i,.cell)
noncomputable abbrev d9(i:Nat):Nat×gC:=(i,.free)
noncomputable def qA:FM:=bD [84] (ah (aP (cT [av 3,av 79,a8 24] (bO (af 84)) (aName 79) de (aY GZ (ag (af 79) ar))) (aName 181)) (ah (cY (bO (af 181)) (aName 160) (ah (bC (aT .Gt (af 160) (au (.int 255))) (ah pz az) az) az)) (ah (bh (aY sf (ag (af 181) ar))) az)))
noncomputable def vL:FM:=bD [161] (ah (aP (eList ar) (aName 110)) (ah (cY (bO (af 161)) (aName 118) (ah (cw (bJ cD cN (af 110) (ag (bc (fm (.str (ax "0123456789abcdef"))) (be .RShift (af 118) (au (.int 4)))) ar))) (ah (cw (bJ cD cN (af 110) (ag (bc (fm (.str (ax "0123456789abcdef"))) (be .BitAnd (af 118) (au (.int 15)))) ar))) az))) (ah (bh (bJ isStr G8 (au (.str (ax ""))) (ag (af 110) ar))) az)))
noncomputable def Bk:FM:=bD [160,61] (ah (bh (aY sf (ag (cT [av 3,av 4,d9 61,d9 160] (oh (af 61)) (aName 4) de (be .BitAnd (be .RShift (af 160) (be .Mult (au (.int 8)) (be .Sub (be .Sub (af 61) (au (.int 1))) (af 4)))) (au (.int 255)))) ar))) az)
noncomputable def Bl:FM:=bD [78,81] (ah (aP (af 81) (dx 81 (af 78))) (ah (aP nB (dx 112 (af 78))) az))
noncomputable def FP:FM:=bD [78,161] (ah (aP (aY sf (ag (af 161) ar)) (aName 175)) (ah (bC (aT .NotIn (af 175) (bf 112 (af 78))) (ah (aP (be .Add (aY eI (ag (bf 112 (af 78)) ar)) (au (.int 1))) (dg (bf 112 (af 78)) (af 175))) az) az) (ah (bh (aY Bk (ag (bc (bf 112 (af 78)) (af 175)) (ag (bf 81 (af 78)) ar)))) az)))
noncomputable def FQ:FM:=bD [161,128] (ah (cY (bO (af 128)) (aName 79) (ah (bC (aT .GtE (bJ jG Hc (af 161) (ag (aY sf (ag (eList (ag (af 79) ar)) ar)) ar)) (au (.int 0))) (ah (bh (au (.bool true))) az) az) az)) (ah (bh (au (.bool false))) az))
noncomputable def FR:FM:=bD [161,128] (ah (cY (bO (af 161)) (aName 79) (ah (bC (aT .NotIn (af 79) (af 128)) (ah (bh (au (.bool false))) az) az) az)) (ah (bh (au (.bool true))) az))
noncomputable def FT:FM:=bD [161,128] (ah (aP (aY eI (ag (af 161) ar)) (aName 9)) (ah (jC (bR (aT .Gt (af 9) (au (.int 0))) (bR (aT .In (bc (af 161) (be .Sub (af 9) (au (.int 1)))) (af 128)) (cQ true))) (ah (v7 9 .Sub (au (.int 1))) az)) (ah (bh (jW (af 161) (af 9))) az)))
noncomputable def tT:FM:=bD [78,66,105,91,93] (ah (aP (af 66) (dx 66 (af 78))) (ah (aP (af 105) (dx 105 (af 78))) (ah (aP (af 91) (dx 91 (af 78))) (ah (aP (af 93) (dx 93 (af 78))) az))))
noncomputable def Bm:FM:=bD [78] (ah (bh (be .Add (be .Add (be .Add (be .Add (be .Add (be .Add (bf 66 (af 78)) (au (.bytes [32,60]))) (bf 105 (af 78))) (au (.bytes [62,32]))) (aY qA (ag (aY CN (ag (bf 91 (af 78)) ar)) ar))) (au (.bytes [32]))) (bf 93 (af 78)))) az)
noncomputable def Bn:FM:=bD [78,63,66,21] (ah (aP (af 63) (dx 63 (af 78))) (ah (aP (af 66) (dx 66 (af 78))) (ah (aP (af 21) (dx 21 (af 78))) az)))
noncomputable def Bo:FM:=bD [78] (ah (bh (eH (aT .Eq (bf 63 (af 78)) (fm (.int 16384))) (be .Add (bf 66 (af 78)) (au (.bytes [47]))) (bf 66 (af 78)))) az)
noncomputable def FU:FM:=bD [66] (ah (bC (aT .Eq (af 66) (au (.bytes []))) (ah (bh (au (.str (ax "an empty name")))) az) az) (ah (bC (aT .In (af 66) (b8 (ag (au (.bytes [46])) (ag (au (.bytes [46,46])) ar)))) (ah (bh (au (.str (ax "a name of dots")))) az) az) (ah (bC (aT .Eq (bJ jG Ha (af 66) ar) (au (.bytes [46,103,105,116]))) (ah (bh (au (.str (ax "the name of the store itself")))) az) az) (ah (bC (jh (aY FQ (ag (af 66) (ag (au (.bytes [47,0])) ar)))) (ah (bh (au (.str (ax "a name with a stroke or a nought")))) az) az) (ah (bh (au .none)) az)))))
noncomputable def yb:FM:=bD [78,176] (ah (aP (af 176) (dx 176 (af 78))) az)
noncomputable def FW:FM:=bD [78,66] (ah (cY (bO (bf 176 (af 78))) (aName 106) (ah (bC (aT .Eq (bf 66 (af 106)) (af 66)) (ah (bh (af 106)) az) az) az)) (ah (bh (au .none)) az))
noncomputable def FX:FM:=bD [87] (ah (gO [110,112,97] (b8 (ag (eList ar) (ag nB (ag (au .none) ar))))) (ah (cY (bO (bf 176 (af 87))) (aName 106) (ah (bC (aT .NotIn (bf 63 (af 106)) (fm (.tup [.int 33188,.int 33261,.int 40960,.int 16384,.int 57344]))) (ah (cw (bJ cD cN (af 110) (ag (au (.str (ax "a mode that is none"))) ar))) az) az) (ah (aP (aY FU (ag (bf 66 (af 106)) ar)) (aName 20)) (ah (bC (aT .IsNot (af 20) (au .none)) (ah (cw (bJ cD cN (af 110) (ag (af 20) ar))) az) az) (ah (bC (aT .In (bf 66 (af 106)) (af 112)) (ah (cw (bJ cD cN (af 110) (ag (au (.str (ax "a name twice"))) ar))) az) (ah (bC (bR (aT .IsNot (af 97) (au .none)) (bR (aT .LtE (bN 274 205 Bo (af 106) ar) (af 97)) (cQ true))) (ah (cw (bJ cD cN (af 110) (ag (au (.str (ax "entries out of order"))) ar))) az) az) az)) (ah (bC (jh (aY FR (ag (bf 21 (af 106)) (ag (au (.bytes [0])) ar)))) (ah (cw (bJ cD cN (af 110) (ag (au (.str (ax "an id of noughts"))) ar))) az) az) (ah (aP (au (.bool true)) (dg (af 112) (bf 66 (af 106)))) (ah (aP (bN 274 205 Bo (af 106) ar) (aName 97)) az)))))))) (ah (bh (af 110)) az)))
noncomputable def FY:FM:=bD [87] (ah (aP (aY FX (ag (af 87) ar)) (aName 110)) (ah (bC (aT .Gt (aY eI (ag (af 110) ar)) (au (.int 0))) (ah pz az) az) az))
noncomputable def FZ:FM:=bD [179] (ah (bh (cT [av 3,av 27,a8 272,a8 259] (bO (bJ jG yI (af 179) (ag (au (.bytes [10])) ar))) (aName 27) de (aY FT (ag (af 27) (ag (fm (.bytes [32,9,13,11,12])) ar))))) az)
noncomputable def F0:FM:=bD [179] (ah (gO [76,4] (b8 (ag (aY FZ (ag (af 179) ar)) (ag (au (.int 0)) ar)))) (ah (jC (bR (aT .Lt (af 4) (aY eI (ag (af 76) ar))) (bR (aT .Eq (bc (af 76) (af 4)) (au (.bytes []))) (cQ true))) (ah (v7 4 .Add (au (.int 1))) az)) (ah (aP (af 4) (aName 130)) (ah (jC (bR (aT .Lt (af 4) (aY eI (ag (af 76) ar))) (bR (aT .NotEq (bc (af 76) (af 4)) (au (.bytes []))) (cQ true))) (ah (v7 4 .Add (au (.int 1))) az)) (ah (bh (b8 (ag (bJ jG tW (au (.bytes [32])) (ag (Hg (af 76) (af 130) (af 4)) ar)) (ag (af 4) ar)))) az)))))
noncomputable def yc:FM:=bD [78,87,185,144,219,107,179] (ah (aP (af 87) (dx 87 (af 78))) (ah (aP (af 185) (dx 185 (af 78))) (ah (aP (af 144) (dx 144 (af 78))) (ah (aP (af 219) (dx 219 (af 78))) (ah (aP (af 107) (dx 107 (af 78))) (ah (aP (af 179) (dx 179 (af 78))) az))))))
noncomputable def NN:FM:=bD [16,135] (ah (bh (be .Add (be .Add (be .Add (af 16) (au (.bytes [32]))) (bJ jG tW (au (.bytes [10,32])) (ag (bJ jG yI (af 135) (ag (au (.bytes [10])) ar)) ar))) (au (.bytes [10])))) az)
noncomputable def F2:FM:=bD [78] (ah (aP (eList (ag (be .Add (be .Add (au (.bytes [116,114,101,101,32])) (aY qA (ag (aY vL (ag (bf 87 (af 78)) ar)) ar))) (au (.bytes [10]))) ar)) (aName 121)) (ah (cY (bO (bf 185 (af 78))) (aName 21) (ah (cw (bJ cD cN (af 121) (ag (be .Add (be .Add (au (.bytes [112,97,114,101,110,116,32])) (aY qA (ag (aY vL (ag (af 21) ar)) ar))) (au (.bytes [10]))) ar))) az)) (ah (cw (bJ cD cN (af 121) (ag (be .Add (be .Add (au (.bytes [97,117,116,104,111,114,32])) (bN 232 161 Bm (bf 144 (af 78)) ar)) (au (.bytes [10]))) ar))) (ah (cw (bJ cD cN (af 121) (ag (be .Add (be .Add (au (.bytes [99,111,109,109,105,116,116,101,114,32])) (bN 232 161 Bm (bf 219 (af 78)) ar)) (au (.bytes [10]))) ar))) (ah (cY (bO (bf 107 (af 78))) (eB [(aName 16),(aName 135)]) (ah (cw (bJ cD cN (af 121) (ag (aY NN (ag (af 16) (ag (af 135) ar))) ar))) az)) (ah (cw (bJ cD cN (af 121) (ag (be .Add (au (.bytes [10])) (bf 179 (af 78))) ar))) (ah (bh (bJ jG tW (au (.bytes [])) (ag (af 121) ar))) az)))))))
noncomputable def yd:FM:=bD [78] (ah (bh (bc (aY F0 (ag (bf 179 (af 78)) ar)) (au (.int 0)))) az)
noncomputable def F4:FM:=bD [55,175] (ah (bh (be .Add (be .Add (be .Add (be .Add (af 55) (au (.bytes [32]))) (aY qA (ag (aY CN (ag (aY eI (ag (af 175) ar)) ar)) ar))) (au (.bytes [0]))) (af 175))) az)
noncomputable def Bp:FM:=bD [78,153] (ah (aP (af 153) (dx 153 (af 78))) (ah (aP nB (dx 54 (af 78))) az))
noncomputable def rX:FM:=bD [78,55,175,132] (ah (aP (bN 108 148 FP (bf 153 (af 78)) (ag (aY F4 (ag (af 55) (ag (af 175) ar))) ar)) (aName 21)) (ah (bC (aT .NotIn (af 21) (bf 54 (af 78))) (ah (aP (b8 (ag (af 55) (ag (af 132) ar))) (dg (bf 54 (af 78)) (af 21))) az) az) (ah (bh (af 21)) az)))
noncomputable def Bq:FM:=bD [78,55,175] (ah (bC (aT .NotEq (af 55) (fm (.bytes [98,108,111,98]))) (ah pz az) az) (ah (bh (bN 539 53 rX (af 78) (ag (fm (.bytes [98,108,111,98])) (ag (af 175) (ag (aY sf (ag (af 175) ar)) ar))))) az))
noncomputable def Br:FM:=bD [78,146] (ah (bh (bN 539 53 rX (af 78) (ag (fm (.bytes [99,111,109,109,105,116])) (ag (bN 391 161 F2 (af 146) ar) (ag (af 146) ar))))) az)
noncomputable def F6:FM:=bD [78,21] (ah (bC (aT .NotIn (af 21) (bf 54 (af 78))) (ah pz az) az) (ah (bh (bc (bf 54 (af 78)) (af 21))) az))
noncomputable def ye:FM:=bD [78,21,55] (ah (aP (bN 539 166 F6 (af 78) (ag (af 21) ar)) (eB [(aName 85),(aName 132)])) (ah (bC (aT .NotEq (af 85) (af 55)) (ah pz az) az) (ah (bh (af 132)) az)))
noncomputable def F7:FM:=bD [78,21] (ah (bh (bN 539 183 ye (af 78) (ag (af 21) (ag (fm (.bytes [98,108,111,98])) ar)))) az)
noncomputable def F8:FM:=bD [78,21] (ah (bh (bN 539 183 ye (af 78) (ag (af 21) (ag (fm (.bytes [116,114,101,101])) ar)))) az)
noncomputable def yf:FM:=bD [78,21] (ah (bh (bN 539 183 ye (af 78) (ag (af 21) (ag (fm (.bytes [99,111,109,109,105,116])) ar)))) az)
noncomputable def yg:FM:=bD [78] (ah (aP (eList ar) (dx 76 (af 78))) (ah (aP (au (.int 0)) (dx 43 (af 78))) az))
noncomputable def yh:FM:=bD [78] (ah (bh (aY eI (ag (bf 76 (af 78)) ar))) az)
noncomputable def qB:FM:=bD [78,74,90] (ah (cw (bJ cD cN (bf 76 (af 78)) (ag (b8 (ag (qD (af 74)) (ag (bf 43 (af 78)) (ag (af 90) ar)))) ar))) (ah (H6 43 .Add (af 78) (au (.int 1))) (ah (aP (be .Sub (aY eI (ag (bf 76 (af 78)) ar)) (au (.int 1))) (aName 4)) (ah (jC (aT .Gt (af 4) (au (.int 0))) (ah (aP (be .FloorDiv (be .Sub (af 4) (au (.int 1))) (au (.int 2))) (aName 96)) (ah (bC (aT .LtE (jW (bc (bf 76 (af 78)) (af 96)) (au (.int 2))) (jW (bc (bf 76 (af 78)) (af 4)) (au (.int 2)))) (ah BR az) az) (ah (aP (b8 (ag (bc (bf 76 (af 78)) (af 4)) (ag (bc (bf 76 (af 78)) (af 96)) ar))) (eB [(dg (bf 76 (af 78)) (af 96)),(dg (bf 76 (af 78)) (af 4))])) (ah (aP (af 96) (aName 4)) az))))) az))))
noncomputable def F9:FM:=bD [78] (ah (gO [4,61] (b8 (ag (au (.int 0)) (ag (aY eI (ag (bf 76 (af 78)) ar)) ar)))) (ah (jC (jh (au (.bool true))) (ah (aP (af 4) (aName 113)) (ah (cY (bO (b8 (ag (be .Add (be .Mult (au (.int 2)) (af 4)) (au (.int 1))) (ag (be .Add (be .Mult (au (.int 2)) (af 4)) (au (.int 2))) ar)))) (aName 100) (ah (bC (bR (aT .Lt (af 100) (af 61)) (bR (aT .Lt (jW (bc (bf 76 (af 78)) (af 100)) (au (.int 2))) (jW (bc (bf 76 (af 78)) (af 113)) (au (.int 2)))) (cQ true))) (ah (aP (af 100) (aName 113)) az) az) az)) (ah (bC (aT .Eq (af 113) (af 4)) (ah BR az) az) (ah (aP (b8 (ag (bc (bf 76 (af 78)) (af 4)) (ag (bc (bf 76 (af 78)) (af 113)) ar))) (eB [(dg (bf 76 (af 78)) (af 113)),(dg (bf 76 (af 78)) (af 4))])) (ah (aP (af 113) (aName 4)) az)))))) az))
noncomputable def yi:FM:=bD [78] (ah (aP (bc (bf 76 (af 78)) (au (.int 0))) (aName 108)) (ah (aP (bJ cD sr (bf 76 (af 78)) ar) (aName 56)) (ah (bC (aT .NotEq (bf 76 (af 78)) (eList ar)) (ah (aP (af 56) (dg (bf 76 (af 78)) (au (.int 0)))) (ah (cw (bN 588 80 F9 (af 78) ar)) az)) az) (ah (bh (bc (af 108) (au (.int 2)))) az))))
noncomputable def Ga:FM:=bD [78,185,87,45] (ah (aP (af 185) (dx 185 (af 78))) (ah (aP (af 87) (dx 87 (af 78))) (ah (aP (af 45) (dx 45 (af 78))) az)))
noncomputable def Gb:FM:=bD [14] (ah (gO [112,110] (b8 (ag nB (ag (eList ar) ar)))) (ah (cY (bO (af 14)) (aName 21) (ah (bC (aT .NotIn (af 21) (af 112)) (ah (aP (au (.bool true)) (dg (af 112) (af 21))) (ah (cw (bJ cD cN (af 110) (ag (af 21) ar))) az)) az) az)) (ah (bh (af 110)) az)))
noncomputable def Bs:FM:=bD [109,111] (ah (bh (af 109)) az)
noncomputable def abt:FM:=bD [109,111] (ah (bh (eH (aT .Eq (af 111) (au (.int 0))) (af 109) (be .BitAnd (af 109) (fm (.int 2))))) az)
noncomputable abbrev M5:Ks:=[av 78,av 131,av 189,av 21]
noncomputable abbrev vF:List Nat:=[78,131,189]
noncomputable def Gc:SM:=(ah (aP (af 131) (dx 131 (af 78))) (ah (aP nB (dx 189 (af 78))) (ah (cY (bO (af 189)) (aName 21) (ah (aP (au (.bool true)) (dg (bf 189 (af 78)) (af 21))) az)) (ah (aP nB (dx 112 (af 78))) (ah (aP nB (dx 156 (af 78))) az)))))
noncomputable def Gd:FM:=λxs kx σ Q=>∃x y,xs=[x,y]∧kx=[]∧ui Gc (eW vF [x,y,.tup []] λz=>none) σ Q
noncomputable def rY:FM:=bD [78,21] (ah (bC (aT .NotIn (af 21) (bf 112 (af 78))) (ah (aP (bN 539 146 yf (bf 131 (af 78)) (ag (af 21) ar)) (aName 146)) (ah (aP (eH (aT .In (af 21) (bf 189 (af 78))) (eList ar) (aY sH (ag (bf 185 (af 146)) ar))) (aName 185)) (ah (aP (aY (eV 609 Ga) (ag (af 185) (ag (bf 87 (af 146)) (ag (bf 91 (bf 219 (af 146))) ar)))) (dg (bf 112 (af 78)) (af 21))) az))) az) (ah (bh (bc (bf 112 (af 78)) (af 21))) az))
noncomputable def Ge:FM:=bD [78,21] (ah (bh (aY sH (ag (bf 185 (bN 958 169 rY (af 78) (ag (af 21) ar))) ar))) az)
noncomputable def yk:FM:=bD [78,21] (ah (bh (bf 45 (bN 958 169 rY (af 78) (ag (af 21) ar)))) az)
noncomputable def Gm:FM:=bD [78,21] (ah (bh (bf 87 (bN 958 169 rY (af 78) (ag (af 21) ar)))) az)
noncomputable def yl:FM:=bD [78,21] (ah (aP (eList (ag (af 21) ar)) (aName 191)) (ah (jC (aT .NotEq (af 191) (eList ar)) (ah (aP (bc (af 191) (qD (au (.int 1)))) (aName 51)) (ah (bC (aT .In (af 51) (bf 156 (af 78))) (ah (cw (bJ cD sr (af 191) ar)) (ah yD az)) az) (ah (aP (bf 185 (bN 958 169 rY (af 78) (ag (af 51) ar))) (aName 185)) (ah (aP (cT [av 3,av 163,d9 78] (bO (af 185)) (aName 163) (aT .NotIn (af 163) (bf 156 (af 78))) (af 163)) (aName 57)) (ah (bC (aT .NotEq (af 57) (eList ar)) (ah (cw (bJ cD Hm (af 191) (ag (af 57) ar))) (ah yD az)) az) (ah (aP (be .Add (au (.int 1)) (aY Hl (ag (be .Add (cT [av 3,av 163,d9 78] (bO (af 185)) (aName 163) de (bc (bf 156 (af 78)) (af 163))) (eList (ag (au (.int 0)) ar))) ar))) (dg (bf 156 (af 78)) (af 51))) (ah (cw (bJ cD sr (af 191) ar)) az)))))))) (ah (bh (bc (bf 156 (af 78)) (af 21))) az)))
noncomputable def Gf:FM:=bD [78,99,164] (ah (gO [109,119,123] (b8 (ag nB (ag (eList ar) (ag (aY (eV 588 yg) ar) ar))))) (ah (cY (bO (af 99)) (eB [(aName 21),(aName 116)]) (ah (bC (aT .NotIn (af 21) (af 109)) (ah (cw (bN 588 26 qB (af 123) (ag (bN 958 114 yl (af 78) (ag (af 21) ar)) (ag (af 21) ar)))) (ah (aP (au (.int 0)) (dg (af 109) (af 21))) az)) az) (ah (aP (be .BitOr (bc (af 109) (af 21)) (af 116)) (dg (af 109) (af 21))) az))) (ah (jC (aT .Gt (bN 588 61 yh (af 123) ar) (au (.int 0))) (ah (aP (bN 588 83 yi (af 123) ar) (aName 21)) (ah (cw (bJ cD cN (af 119) (ag (af 21) ar))) (ah (cY (tQ (bf 185 (bN 958 169 rY (af 78) (ag (af 21) ar)))) (eB [(aName 111),(aName 163)]) (ah (aP (Ie 164 (.loc 627) Bs (ag (bc (af 109) (af 21)) (ag (af 111) ar))) (aName 116)) (ah (bC (aT .Eq (af 116) (au (.int 0))) (ah yD az) az) (ah (bC (aT .NotIn (af 163) (af 109)) (ah (cw (bN 588 26 qB (af 123) (ag (bN 958 114 yl (af 78) (ag (af 163) ar)) (ag (af 163) ar)))) (ah (aP (au (.int 0)) (dg (af 109) (af 163))) az)) az) (ah (aP (be .BitOr (bc (af 109) (af 163)) (af 116)) (dg (af 109) (af 163))) az))))) az)))) (ah (bh (b8 (ag (af 119) (ag (af 109) ar)))) az))))
noncomputable def Gg:FM:=bD [78,170,155,251] (ah (aP (be .Add (cT [av 3,av 21,a8 142] (bO (af 170)) (aName 21) de (b8 (ag (af 21) (ag (fm (.int 1)) ar)))) (cT [av 3,av 21,a8 139] (bO (af 155)) (aName 21) de (b8 (ag (af 21) (ag (fm (.int 2)) ar))))) (aName 99)) (ah (aP (bN 958 184 Gf (af 78) (ag (af 99) (ag (eH (jh (af 251)) (fm (.loc 634)) (fm (.loc 627))) ar))) (eB [(aName 119),(aName 109)])) (ah (aP nB (aName 110)) (ah (cY (bO (af 119)) (aName 21) (ah (bC (aT .Eq (bc (af 109) (af 21)) (fm (.int 1))) (ah (aP (au (.bool true)) (dg (af 110) (af 21))) az) az) az)) (ah (bh (af 110)) az)))))
noncomputable def Gh:FM:=bD [78,21,251] (ah (aP (bf 185 (bN 958 169 rY (af 78) (ag (af 21) ar))) (aName 185)) (ah (bh (eH (jh (af 251)) (jW (af 185) (au (.int 1))) (af 185))) az))
noncomputable def Gi:FM:=bD [78,170,126,251] (ah (gO [123,77,110] (b8 (ag (aY (eV 588 yg) ar) (ag nB (ag (eList ar) ar))))) (ah (cY (bO (aY Gb (ag (af 170) ar))) (aName 21) (ah (bC (aT .In (af 21) (af 126)) (ah (aP (au (.bool true)) (dg (af 77) (af 21))) (ah (cw (bN 588 26 qB (af 123) (ag (bN 958 45 yk (af 78) (ag (af 21) ar)) (ag (af 21) ar)))) az)) az) az)) (ah (jC (aT .Gt (bN 588 61 yh (af 123) ar) (au (.int 0))) (ah (aP (bN 588 83 yi (af 123) ar) (aName 21)) (ah (cw (bJ cD cN (af 110) (ag (af 21) ar))) (ah (cY (bO (bN 958 202 Gh (af 78) (ag (af 21) (ag (af 251) ar)))) (aName 163) (ah (bC (bR (aT .In (af 163) (af 126)) (bR (aT .NotIn (af 163) (af 77)) (cQ true))) (ah (aP (au (.bool true)) (dg (af 77) (af 163))) (ah (cw (bN 588 26 qB (af 123) (ag (bN 958 45 yk (af 78) (ag (af 163) ar)) (ag (af 163) ar)))) az)) az) az)) az)))) (ah (bh (af 110)) az))))
noncomputable abbrev M6:Ks:=[av 78,av 170,av 155,av 119,av 251,av 65,e7 53,av 126,av 110]
noncomputable abbrev vG:List Nat:=[78,170,155,119,251,65,53]
noncomputable def Gj:SM:=(ah (aP (bN 958 126 Gg (af 78) (ag (af 170) (ag (af 155) (ag (af 251) ar)))) (aName 126)) (ah (aP (bN 958 172 Gi (af 78) (ag (af 170) (ag (af 126) (ag (af 251) ar)))) (aName 110)) (ah (bC (aT .Eq (af 119) (au (.str (ax "topo")))) (ah pz az) (ah (bC (aT .Eq (af 119) (au (.str (ax "dated")))) (ah pz az) az) az)) (ah (bC (aT .IsNot (af 53) (au .none)) (ah pz az) az) (ah (bC (aT .IsNot (af 65) (au .none)) (ah (aP (jW (af 110) (af 65)) (aName 110)) az) az) (ah (bC (aT .Eq (af 119) (au (.str (ax "reverse")))) (ah (cw (bJ cD R7 (af 110) ar)) az) az) (ah (bh (af 110)) az)))))))
noncomputable def Gk:FM:=λxs kx σ Q=>∃x y z w,xs=[x,y,z,w]∧kx=[]∧ui Gj (eW vG [x,y,z,w,.bool false,.none,.none] λo=>none) σ Q
noncomputable def Gl:FM:=bD [78,87,72] (ah (gO [63,21] (b8 (ag (fm (.int 16384)) (ag (af 87) ar)))) (ah (bC (aT .Eq (af 72) (au (.bytes []))) (ah (bh (b8 (ag (af 63) (ag (af 21) ar)))) az) az) (ah (cY (bO (bJ jG yI (af 72) (ag (au (.bytes [47])) ar))) (aName 66) (ah (bC (aT .NotEq (af 63) (fm (.int 16384))) (ah (bh (au .none)) az) az) (ah (aP (bN 323 47 FW (bN 539 87 F8 (bf 131 (af 78)) (ag (af 21) ar)) (ag (af 66) ar)) (aName 106)) (ah (bC (aT .Is (af 106) (au .none)) (ah (bh (au .none)) az) az) (ah (gO [63,21] (b8 (ag (bf 63 (af 106)) (ag (bf 21 (af 106)) ar)))) az))))) (ah (bh (b8 (ag (af 63) (ag (af 21) ar)))) az))))
noncomputable def Gn:FM:=bD [89,146,72] (ah (aP (bN 958 201 Gl (af 89) (ag (bN 958 87 Gm (af 89) (ag (af 146) ar)) (ag (af 72) ar))) (aName 85)) (ah (bh (eH (hG (aT .Is (af 85) (au .none)) (hG (aT .In (bc (af 85) (au (.int 0))) (b8 (ag (fm (.int 16384)) (ag (fm (.int 57344)) ar)))) (cQ false))) (au .none) (bc (af 85) (au (.int 1))))) az))
noncomputable def ym:FM:=bD [131,89,146,72,71] (ah (aP (eH (aT .Is (af 146) (au .none)) (au .none) (aY Gn (ag (af 89) (ag (af 146) (ag (af 72) ar))))) (aName 42)) (ah (bh (eH (aT .Is (af 42) (au .none)) (au (.int 0)) (bJ jG Hd (bN 539 42 F7 (af 131) (ag (af 42) ar)) (ag (af 71) ar)))) az))
noncomputable def Gp:FM:=bD [78,50,144,171,186,159] (ah (aP (af 50) (dx 50 (af 78))) (ah (aP (af 144) (dx 144 (af 78))) (ah (aP (af 171) (dx 171 (af 78))) (ah (aP (af 186) (dx 186 (af 78))) (ah (aP (af 159) (dx 159 (af 78))) az)))))
noncomputable def Gq:FM:=bD [78,146] (ah (bC (bR (aT .IsNot (bf 50 (af 78)) (au .none)) (bR (aT .NotIn (bf 50 (af 78)) (bf 179 (af 146))) (cQ true))) (ah (bh (au (.bool false))) az) az) (ah (bC (aT .Is (bf 144 (af 78)) (au .none)) (ah (bh (au (.bool true))) az) az) (ah (bh (yv (gM .In (bf 144 (af 78)) (bf 66 (bf 144 (af 146)))) (gM .In (bf 144 (af 78)) (bf 105 (bf 144 (af 146)))))) az)))
noncomputable def Gr:FM:=bD [78,91] (ah (bC (aT .Is (bf 171 (af 78)) (au .none)) (ah (bh (au (.bool true))) az) az) (ah (aP (bf 171 (af 78)) (eB [(aName 108),(aName 56)])) (ah (bh (GV (yv (gM .Is (af 108) (au .none)) (gM .LtE (af 108) (af 91))) (yv (gM .Is (af 56) (au .none)) (gM .LtE (af 91) (af 56))))) az)))
noncomputable def Bt:FM:=bD [78,131,89,21] (ah (aP (bN 539 146 yf (af 131) (ag (af 21) ar)) (aName 146)) (ah (bC (hG (vS (jh (bN 163 232 Gq (af 78) (ag (af 146) ar)))) (hG (vS (jh (bN 163 221 Gr (af 78) (ag (bf 91 (bf 219 (af 146))) ar)))) (cQ false))) (ah (bh (au (.bool false))) az) az) (ah (aP (bN 958 185 Ge (af 89) (ag (af 21) ar)) (aName 185)) (ah (bC (bR (aT .IsNot (bf 159 (af 78)) (au .none)) (bR (aT .NotEq (bf 159 (af 78)) (gM .Gt (aY eI (ag (af 185) ar)) (au (.int 1)))) (cQ true))) (ah (bh (au (.bool false))) az) az) (ah (bC (aT .Is (bf 186 (af 78)) (au .none)) (ah (bh (au (.bool true))) az) az) (ah (aP (bf 186 (af 78)) (eB [(aName 72),(aName 71)])) (ah (aP (aY ym (ag (af 131) (ag (af 89) (ag (af 21) (ag (af 72) (ag (af 71) ar)))))) (aName 61)) (ah (aP (eH (aT .Gt (aY eI (ag (af 185) ar)) (au (.int 0))) (af 185) (eList (ag (au .none) ar))) (aName 69)) (ah (bh (aY BL (ag (cT [av 3,av 22,a8 275,d9 61,d9 71,d9 72,d9 131,d9 89] (bO (af 69)) (aName 22) de (gM .NotEq (aY ym (ag (af 131) (ag (af 89) (ag (af 22) (ag (af 72) (ag (af 71) ar)))))) (af 61))) ar))) az)))))))))
noncomputable abbrev M7:Ks:=[av 131,av 89,av 170,av 155,av 119,av 92,av 65,av 110,av 21,a8 134,a8 18]
noncomputable abbrev pB:List Nat:=[131,89,170,155,119,92,65]
noncomputable def Bu:SM:=(ah (aP (eList ar) (aName 110)) (ah (cY (bO (bN 958 174 Gk (af 89) (ag (aY vU (ag (af 170) ar)) (ag (aY vU (ag (af 155) ar)) (ag (af 119) ar))))) (aName 21) (ah (bC (bR (aT .IsNot (af 65) (au .none)) (bR (aT .GtE (aY eI (ag (af 110) ar)) (af 65)) (cQ true))) (ah BQ az) az) (ah (bC (hG (aT .Is (af 92) (au .none)) (hG (jh (bN 163 48 Bt (af 92) (ag (af 131) (ag (af 89) (ag (af 21) ar))))) (cQ false))) (ah (cw (bJ cD cN (af 110) (ag (af 21) ar))) az) az) az))) (ah (bh (af 110)) az)))
noncomputable def Gs:FM:=λxs kx σ Q=>∃x y z w u v,xs=[x,y,z,w]∧((kx=[(92,u)]∧v=.none)∨kx=[(92,u),(65,v)])∧ui Bu (eW pB [x,y,z,w,.str (ax "date"),u,v] λo=>none) σ Q
noncomputable def Bv:FM:=bD [174] (ah (aP nB (aName 59)) (ah (cY (bO (yC (af 174))) (aName 146) (ah (cw (bJ cD cN (bJ CK IH (af 59) (ag (bf 66 (bf 144 (af 146))) (ag (eList ar) ar))) (ag (bN 391 190 yd (af 146) ar) ar))) az)) (ah (bh (cT [av 3,av 66,d9 59] (bO (aY uq (ag (af 59) ar))) (aName 66) de (b8 (ag (af 66) (ag (bc (af 59) (af 66)) ar))))) az)))
noncomputable def Gu:FM:=bD [174] (ah (aP (cT [av 3,av 66,av 206,a8 18] (bO (aY Bv (ag (af 174) ar))) (eB [(aName 66),(aName 206)]) de (b8 (ag (qD (aY eI (ag (af 206) ar))) (ag (af 66) ar)))) (aName 76)) (ah (bh (cT [av 3,av 103,av 66] (bO (aY uq (ag (af 76) ar))) (eB [(aName 103),(aName 66)]) de (b8 (ag (qD (af 103)) (ag (af 66) ar))))) az))
noncomputable def Gv:FM:=bD [167] (ah (gO [102,117] (b8 (ag (cT [av 3,av 44,a8 15] (bO (jW (af 167) (au (.int 12)))) (aName 44) de (aY G6 (ag (af 44) ar))) (ag (au (.int 5565)) ar)))) (ah (cY (bO (af 102)) (aName 44) (ah (aP (be .Mod (be .Add (be .Add (be .Mult (af 117) (au (.int 48271))) (be .Mod (af 44) (au (.int 2147483629)))) (au (.int 5565))) (au (.int 2147483587))) (aName 117)) az)) (ah (bh (x7 (ax "cells") (ax "mixed") (ax "turn") (yC (af 102)) (af 117) (au (.int 0)))) az)))
noncomputable def jz:FM:=bD [46,100] (ah (aP (be .Add (bc (af 46) (au (.str (ax "turn")))) (au (.int 1))) (dg (af 46) (au (.str (ax "turn"))))) (ah (aP (be .Add (bc (af 46) (au (.str (ax "mixed")))) (be .Mult (be .Mult (au (.int 65563)) (bc (af 46) (au (.str (ax "turn"))))) (bc (af 46) (au (.str (ax "turn")))))) (aName 151)) (ah (bC (aT .NotEq (bc (af 46) (au (.str (ax "cells")))) (eList ar)) (ah (aP (bJ cD sr (bc (af 46) (au (.str (ax "cells")))) ar) (aName 44)) (ah (bC (aT .GtE (af 44) (au (.int 1000000))) (ah (cw (bJ cD cN (bc (af 46) (au (.str (ax "cells")))) (ag (be .FloorDiv (af 44) (af 100)) ar))) (ah (bh (be .Mod (af 44) (af 100))) az)) az) (ah (aP (be .Add (af 151) (be .Mod (af 44) (au (.int 2147483563)))) (aName 151)) az))) az) (ah (aP (be .Mod (be .Mult (be .Mod (af 151) (au (.int 2147483629))) (au (.int 40692))) (au (.int 2147483647))) (aName 151)) (ah (aP (be .Mod (be .Add (be .Mult (af 151) (af 151)) (au (.int 5569))) (au (.int 2147483587))) (aName 151)) (ah (bh (be .Mod (be .FloorDiv (be .Mod (be .Mult (af 151) (au (.int 39373))) (au (.int 2147483579))) (au (.int 64))) (af 100))) az))))))
noncomputable def pF:FM:=bD [46,82] (ah (bh (bc (af 82) (aY jz (ag (af 46) (ag (aY eI (ag (af 82) ar)) ar))))) az)
noncomputable def Gx:FM:=bD [46,65] (ah (aP (eList ar) (aName 76)) (ah (cY (oh (be .Add (au (.int 2)) (aY jz (ag (af 46) (ag (be .Sub (af 65) (au (.int 1))) ar))))) (aName 1) (ah (gO [57,27] (b8 (ag (IF (af 1)) (ag (eList ar) ar)))) (ah (cY (oh (aY pF (ag (af 46) (ag (eList (ag (au (.int 1)) (ag (au (.int 1)) (ag (au (.int 1)) (ag (au (.int 2)) (ag (au (.int 2)) (ag (au (.int 3)) (ag (au (.int 0)) ar)))))))) ar)))) (aName 88) (ah (bC (aT .NotEq (af 57) (eList ar)) (ah (cw (bJ cD cN (af 27) (ag (bJ cD sr (af 57) (ag (aY jz (ag (af 46) (ag (aY eI (ag (af 57) ar)) ar))) ar)) ar))) az) az) az)) (ah (cw (bJ cD cN (af 76) (ag (af 27) ar))) az)))) (ah (bh (af 76)) az)))
noncomputable def Gy:FM:=bD [46,61] (ah (aP (aY jz (ag (af 46) (ag (au (.int 4)) ar))) (aName 32)) (ah (bC (aT .Eq (af 32) (au (.int 0))) (ah (bh (cT [av 3,av 1] (oh (af 61)) (aName 1) de (be .Add (au (.int 100)) (be .Mult (au (.int 10)) (af 1))))) az) az) (ah (bC (aT .Eq (af 32) (au (.int 1))) (ah (bh (Bf (eList (ag (au (.int 500)) ar)) (af 61))) az) az) (ah (bC (aT .Eq (af 32) (au (.int 2))) (ah (bh (cT [av 3,av 1] (oh (af 61)) (aName 1) de (be .Sub (au (.int 900)) (be .Mult (au (.int 10)) (af 1))))) az) az) (ah (bh (cT [av 3,av 1,a8 215,d9 46] (oh (af 61)) (aName 1) de (be .Add (au (.int 1000)) (aY jz (ag (af 46) (ag (au (.int 6)) ar)))))) az)))))
noncomputable def Gz:FM:=bD [76] (ah (aP (eList ar) (aName 110)) (ah (cY (tQ (af 76)) (eB [(aName 1),(aName 27)]) (ah (aP (IQ (af 1) (au (.bool true))) (aName 82)) (ah (cY (bO (af 27)) (aName 0) (ah (cY (bO (bc (af 110) (af 0))) (aName 2) (ah (aP (au (.bool true)) (dg (af 82) (af 2))) az)) az)) (ah (cw (bJ cD cN (af 110) (ag (aY uq (ag (af 82) ar)) ar))) az)))) (ah (bh (af 110)) az)))
noncomputable def GA:FM:=bD [76,133,126,170] (ah (gO [191,112,110] (b8 (ag (eList ar) (ag SS (ag (eList ar) ar))))) (ah (cY (bO (af 170)) (aName 1) (ah (bC (bR (aT .In (af 1) (af 126)) (bR (aT .NotIn (af 1) (af 112)) (cQ true))) (ah (aP (au (.bool true)) (dg (af 112) (af 1))) (ah (cw (bJ cD cN (af 191) (ag (af 1) ar))) az)) az) az)) (ah (jC (aT .NotEq (af 191) (eList ar)) (ah (aP (bc (af 191) (au (.int 0))) (aName 51)) (ah (cY (bO (af 191)) (aName 1) (ah (aP (eH (aT .Gt (bc (af 133) (af 1)) (bc (af 133) (af 51))) (af 1) (af 51)) (aName 51)) az)) (ah (aP (cT [av 3,av 1,d9 51] (bO (af 191)) (aName 1) (aT .NotEq (af 1) (af 51)) (af 1)) (aName 191)) (ah (cw (bJ cD cN (af 110) (ag (af 51) ar))) (ah (cY (bO (bc (af 76) (af 51))) (aName 0) (ah (bC (bR (aT .In (af 0) (af 126)) (bR (aT .NotIn (af 0) (af 112)) (cQ true))) (ah (aP (au (.bool true)) (dg (af 112) (af 0))) (ah (cw (bJ cD cN (af 191) (ag (af 0) ar))) az)) az) az)) az)))))) (ah (bh (af 110)) az))))
noncomputable def GB:FM:=bD [46,32,133,203] (ah (aP S0 (aName 110)) (ah (bC (aT .Eq (af 32) (au (.int 0))) (ah (aP (b8 (ag (au (.bytes [102])) (ag (au (.bytes [107])) ar))) (dg (af 110) (au (.str (ax "pickaxe"))))) az) az) (ah (bC (aT .Eq (af 32) (au (.int 1))) (ah (aP (aY pF (ag (af 46) (ag (eList (ag (au (.bytes [102,105,120])) (ag (au (.bytes [111])) (ag (au (.bytes [70,105,120])) (ag (au (.bytes [10,10])) ar))))) ar))) (dg (af 110) (au (.str (ax "grep"))))) az) az) (ah (bC (aT .Eq (af 32) (au (.int 2))) (ah (aP (aY pF (ag (af 46) (ag (eList (ag (au (.bytes [110,110])) (ag (au (.bytes [120])) (ag (au (.bytes [65,110,110])) (ag (au (.bytes [64])) ar))))) ar))) (dg (af 110) (au (.str (ax "author"))))) az) az) (ah (bC (hG (aT .Eq (af 32) (au (.int 3))) (hG (bR (vS (jh (af 203))) (bR (aT .Eq (aY jz (ag (af 46) (ag (au (.int 3)) ar))) (au (.int 0))) (cQ true))) (cQ false))) (ah (aP (gM .Eq (aY jz (ag (af 46) (ag (au (.int 2)) ar))) (au (.int 0))) (dg (af 110) (au (.str (ax "merges"))))) az) az) (ah (bC (aT .Eq (af 32) (au (.int 3))) (ah (aP (aY pF (ag (af 46) (ag (eList (ag (b8 (ag (bc (af 133) (au (.int 0))) (ag (au .none) ar))) (ag (b8 (ag (au .none) (ag (bc (af 133) (qD (au (.int 1)))) ar))) (ag (b8 (ag (bc (af 133) (au (.int 0))) (ag (bc (af 133) (au (.int 0))) ar))) ar)))) ar))) (dg (af 110) (au (.str (ax "between"))))) az) az) (ah (bh (af 110)) az)))))))
noncomputable def GC:FM:=bD [92,1,76,133,147,85] (ah (gO [68,66,60] (b8 (ag (bc (bc (af 85) (af 1)) (au (.int 0))) (ag (bc (bc (af 85) (af 1)) (au (.int 2))) (ag (bc (bc (af 85) (af 1)) (au (.int 3))) ar))))) (ah (bC (bR (aT .In (au (.str (ax "grep"))) (af 92)) (bR (aT .NotIn (bc (af 92) (au (.str (ax "grep")))) (af 68)) (cQ true))) (ah (bh (au (.bool false))) az) az) (ah (bC (bR (aT .In (au (.str (ax "author"))) (af 92)) (bR (aT .NotIn (bc (af 92) (au (.str (ax "author")))) (af 66)) (bR (aT .NotIn (bc (af 92) (au (.str (ax "author")))) (af 60)) (cQ true)))) (ah (bh (au (.bool false))) az) az) (ah (bC (bR (aT .In (au (.str (ax "merges"))) (af 92)) (bR (aT .NotEq (gM .Gt (aY eI (ag (bc (af 76) (af 1)) ar)) (au (.int 1))) (bc (af 92) (au (.str (ax "merges"))))) (cQ true))) (ah (bh (au (.bool false))) az) az) (ah (bC (aT .In (au (.str (ax "between"))) (af 92)) (ah (aP (bc (af 92) (au (.str (ax "between")))) (eB [(aName 108),(aName 56)])) (ah (bC (hG (bR (aT .IsNot (af 108) (au .none)) (bR (aT .Lt (bc (af 133) (af 1)) (af 108)) (cQ true))) (hG (bR (aT .IsNot (af 56) (au .none)) (bR (aT .Gt (bc (af 133) (af 1)) (af 56)) (cQ true))) (cQ false))) (ah (bh (au (.bool false))) az) az) az)) az) (ah (bC (aT .In (au (.str (ax "pickaxe"))) (af 92)) (ah (aP (eH (aT .IsNot (bc (af 147) (af 1)) (au .none)) (bc (af 147) (af 1)) (au (.int 0))) (aName 62)) (ah (aP (eH (aT .NotEq (bc (af 76) (af 1)) (eList ar)) (cT [av 3,av 0,d9 147] (bO (bc (af 76) (af 1))) (aName 0) de (eH (aT .IsNot (bc (af 147) (af 0)) (au .none)) (bc (af 147) (af 0)) (au (.int 0)))) (eList (ag (au (.int 0)) ar))) (aName 162)) (ah (bh (gM .NotIn (af 62) (af 162))) az))) az) (ah (bh (au (.bool true))) az)))))))
noncomputable def GD:FM:=bD [131,14,27,85] (ah (aP (cT [av 3,av 1,d9 14,d9 131] (bO (af 27)) (aName 1) de (bN 539 146 yf (af 131) (ag (bc (af 14) (af 1)) ar))) (aName 132)) (ah (aP (eList ar) (aName 8)) (ah (cY (bO (aY uq (ag (aY S6 (ag (cT [av 3,av 1,d9 85] (bO (af 27)) (aName 1) de (bc (bc (af 85) (af 1)) (au (.int 2)))) ar)) ar))) (aName 66) (ah (cw (bJ cD cN (af 8) (ag (b8 (ag (af 66) (ag (cT [av 3,av 1,d9 66,d9 85] (bO (yC (af 27))) (aName 1) (aT .Eq (bc (bc (af 85) (af 1)) (au (.int 2))) (af 66)) (bc (bc (af 85) (af 1)) (au (.int 1)))) ar))) ar))) az)) (ah (bC (aT .NotEq (cT [av 3,av 70,a8 58] (bO (aY Bv (ag (af 132) ar))) (aName 70) de (b8 (ag (bc (af 70) (au (.int 0))) (ag (aY sH (ag (bc (af 70) (au (.int 1))) ar)) ar)))) (af 8)) (ah (bh (au (.bool false))) az) az) (ah (aP (aY uq (ag (cT [av 3,av 70,a8 18] (bO (af 8)) (aName 70) de (b8 (ag (qD (aY eI (ag (bc (af 70) (au (.int 1))) ar))) (ag (bc (af 70) (au (.int 0))) ar)))) ar)) (aName 147)) (ah (bh (gM .Eq (cT [av 3,av 70,a8 134] (bO (aY Gu (ag (af 132) ar))) (aName 70) de (aY vU (ag (af 70) ar))) (cT [av 3,av 61,av 66] (bO (af 147)) (eB [(aName 61),(aName 66)]) de (b8 (ag (qD (af 61)) (ag (af 66) ar)))))) az))))))
noncomputable abbrev M8:Ks:=[av 160,av 149,a8 218,a8 18,a8 101]
noncomputable abbrev M9:List Nat:=[160]
noncomputable def OS:SM:=(ah (aP (aY Hk ar) (aName 149)) (ah (jC (hG (aT .Gt (af 160) (au (.int 0))) (hG (aT .Eq (aY IS (ag (af 149) ar)) (au (.int 0))) (cQ false))) (ah (cw (bJ CR S7 (af 149) (ag (be .Add (au (.int 48)) (be .Mod (af 160) (au (.int 8)))) ar))) (ah (aP (be .FloorDiv (af 160) (au (.int 8))) (aName 160)) az))) (ah (cw (bJ CR Ta (af 149) ar)) (ah (bh (aY IT (ag (af 149) ar))) az))))
noncomputable def Bw:FM:=bD M9 OS
noncomputable abbrev Na:Ks:=[av 78,a8 281]
noncomputable abbrev Nb:List Nat:=[78]
noncomputable def OU:SM:=(ah (bh (be .Add (be .Add (be .Add (be .Add (aY Bw (ag (bf 63 (af 78)) ar)) (au (.bytes [32]))) (bf 66 (af 78))) (au (.bytes [0]))) (bf 21 (af 78)))) az)
noncomputable def Bx:FM:=bD Nb OU
noncomputable abbrev Nc:Ks:=[av 78,av 121,av 106]
noncomputable abbrev Nd:List Nat:=[78]
noncomputable def OX:SM:=(ah (aP (eList ar) (aName 121)) (ah (cY (bO (bf 176 (af 78))) (aName 106) (ah (cw (bJ cD cN (af 121) (ag (bN 274 161 Bx (af 106) ar) ar))) az)) (ah (bh (bJ jG tW (au (.bytes [])) (ag (af 121) ar))) az)))
noncomputable def By:FM:=bD Nd OX
noncomputable abbrev Nf:Ks:=[av 78,av 87,a8 230,a8 38]
noncomputable abbrev Ng:List Nat:=[78,87]
noncomputable def OZ:SM:=(ah (cw (aY FY (ag (af 87) ar))) (ah (bh (bN 539 53 rX (af 78) (ag (fm (.bytes [116,114,101,101])) (ag (bN 323 161 By (af 87) ar) (ag (af 87) ar))))) az))
noncomputable def yn:FM:=bD Ng OZ
noncomputable abbrev Nh:Ks:=[av 46,av 76,av 133,av 147,av 131,e7 14,av 85,av 1,av 27,av 68,av 33,av 176,av 144,av 165,av 87,a8 236,a8 267,a8 220,a8 216,a8 226,a8 237,a8 94,a8 141,a8 39,a8 138]
noncomputable abbrev Ni:List Nat:=[46,76,133,147]
noncomputable def O1:SM:=(ah (aP (b8 (ag (aY (eV 539 Bp) (ag (aY (eV 108 Bl) (ag (au (.int 4)) ar)) ar)) (ag (eList ar) (ag (eList ar) ar)))) (eB [(aName 131),(aName 14),(aName 85)])) (ah (cY (tQ (af 76)) (eB [(aName 1),(aName 27)]) (ah (gO [68,33] (b8 (ag (aY pF (ag (af 46) (ag (fm (.loc 1003)) ar))) (ag (aY pF (ag (af 46) (ag (fm (.loc 1007)) ar))) ar)))) (ah (aP (eList ar) (aName 176)) (ah (bC (aT .IsNot (bc (af 147) (af 1)) (au .none)) (ah (cw (bJ cD cN (af 176) (ag (aY (eV 274 Bn) (ag (au (.int 33188)) (ag (au (.bytes [102])) (ag (bN 539 136 Bq (af 131) (ag (au (.bytes [98,108,111,98])) (ag (be .Add (be .Mult (au (.bytes [107])) (bc (af 147) (af 1))) (au (.bytes [10]))) ar))) ar)))) ar))) az) az) (ah (gO [144,165] (b8 (ag (aY (eV 232 tT) (ag (bc (af 33) (au (.int 0))) (ag (bc (af 33) (au (.int 1))) (ag (be .Add (au (.int 5)) (af 1)) (ag (au (.bytes [43,48,48,48,48])) ar))))) (ag (aY (eV 232 tT) (ag (au (.bytes [90])) (ag (au (.bytes [122,64,122])) (ag (bc (af 133) (af 1)) (ag (au (.bytes [43,48,49,51,48])) ar))))) ar)))) (ah (aP (bN 539 235 yn (af 131) (ag (aY (eV 323 yb) (ag (af 176) ar)) ar)) (aName 87)) (ah (cw (bJ cD cN (af 14) (ag (bN 539 257 Br (af 131) (ag (aY (eV 391 yc) (ag (af 87) (ag (cT [av 3,av 0,d9 14] (bO (af 27)) (aName 0) de (bc (af 14) (af 0))) (ag (af 144) (ag (af 165) (ag (eList ar) (ag (bc (af 68) (au (.int 0))) ar))))))) ar)) ar))) (ah (cw (bJ cD cN (af 85) (ag (be .Add (af 68) (af 33)) ar))) az)))))))) (ah (bh (b8 (ag (af 131) (ag (af 14) (ag (af 85) ar))))) az)))
noncomputable def Bz:FM:=bD Ni O1
noncomputable abbrev Nj:Ks:=[av 167,e7 46,av 32,av 203,e7 76,av 61,e7 133,av 27,e7 147,av 131,e7 14,e7 85,e7 92,av 89,e7 187,e7 155,av 126,av 11,av 98,av 67,av 10,av 31,a8 214,a8 215,a8 274,a8 18,a8 227,a8 228,a8 217,a8 40,a8 249,a8 248,a8 210,a8 58,a8 158,a8 279]
noncomputable abbrev Nk:List Nat:=[167]
noncomputable abbrev Te:SM:=(ah (bC (aT .NotEq (aY sH (ag (Cv Gs (ag (af 131) (ag (af 89) (ag (af 67) (ag (af 10) ar)))) [92] (ag (af 98) ar)) ar)) (cT [av 3,av 1,d9 14] (bO (af 11)) (aName 1) de (bc (af 14) (af 1)))) (ah (bh (au (.bool false))) az) az) (ah (aP (be .Add (au (.int 1)) (aY jz (ag (af 46) (ag (au (.int 3)) ar)))) (aName 31)) (ah (bC (aT .NotEq (aY sH (ag (Cv Gs (ag (af 131) (ag (af 89) (ag (af 67) (ag (af 10) ar)))) [92,65] (ag (af 98) (ag (af 31) ar))) ar)) (cT [av 3,av 1,d9 14] (bO (jW (af 11) (af 31))) (aName 1) de (bc (af 14) (af 1)))) (ah (bh (au (.bool false))) az) az) (ah (bh (aY GD (ag (af 131) (ag (af 14) (ag (af 27) (ag (af 85) ar)))))) az))))
noncomputable abbrev Tf:SM:=(ah (aP (cT [av 3,av 1,a8 268,d9 147,d9 76,d9 133,d9 85,d9 92] (bO (af 27)) (aName 1) (jh (aY GC (ag (af 92) (ag (af 1) (ag (af 76) (ag (af 133) (ag (af 147) (ag (af 85) ar)))))))) (af 1)) (aName 11)) (ah (aP (aY (eV 163 Gp) (ag (bJ sG si (af 92) (ag (au (.str (ax "grep"))) ar)) (ag (bJ sG si (af 92) (ag (au (.str (ax "author"))) ar)) (ag (bJ sG si (af 92) (ag (au (.str (ax "between"))) ar)) (ag (bJ sG si (af 92) (ag (au (.str (ax "pickaxe"))) ar)) (ag (bJ sG si (af 92) (ag (au (.str (ax "merges"))) ar)) ar)))))) (aName 98)) (ah (gO [67,10] (b8 (ag (eList (ag (bc (af 14) (be .Sub (af 61) (au (.int 1)))) ar)) (ag (cT [av 3,av 1,d9 14] (bO (af 155)) (aName 1) de (bc (af 14) (af 1))) ar)))) Te)))
noncomputable abbrev IV:SM:=(ah (aP (cT [av 3,e7 2,d9 155,d9 187] (bO (bc (af 187) (be .Sub (af 61) (au (.int 1))))) (aName 2) (aT .Eq (cT [av 3,av 1,d9 187,d9 2] (bO (af 155)) (aName 1) (aT .In (af 2) (bc (af 187) (af 1))) (af 1)) (eList ar)) (af 2)) (aName 126)) (ah (aP (aY GA (ag (af 76) (ag (af 133) (ag (af 126) (ag (eList (ag (be .Sub (af 61) (au (.int 1))) ar)) ar))))) (aName 27)) Tf))
noncomputable abbrev Tg:SM:=(ah (aP (eH (bR (vS (jh (af 203))) (bR (aT .Eq (aY jz (ag (af 46) (ag (au (.int 3)) ar))) (au (.int 0))) (cQ true))) (eList (ag (aY jz (ag (af 46) (ag (be .Sub (af 61) (au (.int 1))) ar))) ar)) (eList ar)) (aName 155)) IV)
noncomputable abbrev Th:SM:=(ah (aP (b8 (ag (aY GB (ag (af 46) (ag (af 32) (ag (af 133) (ag (af 203) ar))))) (ag (aY (eV 958 Gd) (ag (af 131) ar)) (ag (aY Gz (ag (af 76) ar)) ar)))) (eB [(aName 92),(aName 89),(aName 187)])) Tg)
noncomputable abbrev IW:SM:=(ah (aP (aY Bz (ag (af 46) (ag (af 76) (ag (af 133) (ag (af 147) ar))))) (eB [(aName 131),(aName 14),(aName 85)])) Th)
noncomputable abbrev Ti:SM:=(ah (aP (eH (jh (af 203)) (eList (ag (au (.int 1)) (ag (au (.int 2)) (ag (au (.int 1)) (ag (au (.int 1)) ar))))) (cT [av 3,av 27,a8 216,d9 46] (bO (af 76)) (aName 27) de (aY pF (ag (af 46) (ag (eList (ag (au (.int 0)) (ag (au (.int 1)) (ag (au (.int 1)) (ag (au (.int 2)) (ag (au .none) ar)))))) ar))))) (aName 147)) IW)
noncomputable abbrev Tj:SM:=(ah (aP (b8 (ag (aY eI (ag (af 76) ar)) (ag (aY Gy (ag (af 46) (ag (aY eI (ag (af 76) ar)) ar))) ar))) (eB [(aName 61),(aName 133)])) Ti)
noncomputable abbrev Tn:SM:=(ah (gO [32,203] (b8 (ag (aY jz (ag (af 46) (ag (au (.int 4)) ar))) (ag (gM .Eq (aY jz (ag (af 46) (ag (au (.int 3)) ar))) (au (.int 0))) ar)))) (ah (aP (eH (jh (af 203)) (eList (ag (eList ar) (ag (eList (ag (au (.int 0)) ar)) (ag (eList (ag (au (.int 0)) ar)) (ag (eList (ag (au (.int 1)) (ag (au (.int 2)) ar))) ar))))) (aY Gx (ag (af 46) (ag (au (.int 4)) ar)))) (aName 76)) Tj))
noncomputable def O5:SM:=(ah (aP (aY Gv (ag (af 167) ar)) (aName 46)) Tn)
noncomputable def O6:FM:=bD Nk O5
set_option tactic.hygienic false
section
variable{s:aw}{fd:ph}{T:Addr}{o:Obj}{m:Nat}{x y z w u v d0 d1 d2 d3 d4:ak}(hp:qz fd.params=true)(hd:fd.defaults=.ref T)(ho:s.heap.get? T=some o)
include hp hd ho
theorem CT{ns:List Str}{kv binds:L2}{ds:Array ak}(ha:fd.params.args.map (λx=>x.arg)=ns)(hs:o.data=.seq ds m)(h:Ct ns vs kv ds.toList binds):rR s fd ⟨vs,kv⟩ binds:=
 Q9 (od:=some ds) hp ha (λh=>hd▸E5 ho hs h) h
theorem abw(ha:fd.params.args.map (λx=>x.arg)=vF.map nm)(hs:o.data=.seq #[d0] m):rR s fd ⟨[x,y],[]⟩ ((vF.map nm).zip [x,y,d0]):=
 CT hp hd ho ha hs ⟨cG rfl,rfl,by kernel_rfl,by kernel_rfl⟩
theorem abH(ha:fd.params.args.map (λx=>x.arg)=vG.map nm)(hs:o.data=.seq #[d0,d1,d2,d3,d4] m):rR s fd ⟨[x,y,z,w],[]⟩ ((vG.map nm).zip [x,y,z,w,d2,d3,d4]):=
 CT hp hd ho ha hs ⟨cG rfl,rfl,by kernel_rfl,by kernel_rfl⟩
theorem abR(ha:fd.params.args.map (λx=>x.arg)=pB.map nm)(hs:o.data=.seq #[d0,d1,d2,d3] m):rR s fd ⟨[x,y,z,w],[(nm 92,u)]⟩ ((pB.map nm).zip [x,y,z,w,d1,u,d3]):=
 CT hp hd ho ha hs ⟨cG rfl,by kernel_rfl,by kernel_rfl,by kernel_rfl⟩
theorem abS(ha:fd.params.args.map (λx=>x.arg)=pB.map nm)(hs:o.data=.seq #[d0,d1,d2,d3] m):rR s fd ⟨[x,y,z,w],[(nm 92,u),(nm 65,v)]⟩ ((pB.map nm).zip [x,y,z,w,d1,u,v]):=
 CT hp hd ho ha hs ⟨cG rfl,by kernel_rfl,by kernel_rfl,by kernel_rfl⟩
end
noncomputable def A9(x:Expr):Prop:=∀xs env,cU (x::xs) env=(false,eval x env)::cU xs env
noncomputable def FoldIs(x:Expr):Prop:=∀env v,xI x env v=pure v
noncomputable def Ft(x:Expr):Prop:=∀env whole,isTrue x env whole=(do let v ←whole;oe x.pos;holding [v] (truthy v))
noncomputable def x3(x:Expr):Prop:=∀a env w,attributeBase x a env w=w
theorem ZI{x:Expr}{a:Str}{pos:Pos}(h:x3 x):∀env,eval (.Attribute x a pos) env=(do
   let o ←eval x env
   oe pos.atName
   let r ←holding [o] (getAttr o a true)
   letTemporaryGo x o r
   pure r):=λenv=>congrArg (λt:Sem ak=>t >>= _) (h a env (eval x env))
theorem ZJ{l:List (Bool×Sem ak)}{n:Nat}(h:l.any (λx=>x.1)=false)(hn:k9 n 30=true):E4 n l []=true:=by
 have e:l.all (!·.1)=true:=iy.2 λx hx=>(mK _).mpr (Bool.eq_false_iff.2 (List.any_eq_false.1 h x hx));unfold E4;rw[e];exact decide_eq_true (cG hn)
theorem Ba{o:Expr}{name:Str}{apos pos:Pos}(h:x3 o)(hp:∀pos env,(dZ pos (cU args env)).any (λx=>x.1)=false)(hl:(apos.endLine==pos.line)=true)(ZK:k9 args.length 30=true):∀env,eval (.Call (.Attribute o name apos) args [] pos) env=(do
   let ov ←eval o env
   oe apos.atName
   let(f,first) ←holding [ov] (tF ov name (do return (←importBound o env).getD true))
   lV pos f first (dZ pos (cU args env)) (lW pos (lT [] env))):=λenv=>by
 have hf:E4 (args.length+0) (dZ pos (cU args env)) []=true:=ZJ (hp pos env) ZK
 have e1:∀ov,calleeOf (E4 (args.length+0) (dZ pos (cU args env)) []) o env ov name=tF ov name (do return (←importBound o env).getD true):=λov=>by unfold calleeOf;exact if_pos hf
 have e2:methodCallPos (E4 (args.length+0) (dZ pos (cU args env)) []) o env apos pos=pure pos:=by unfold methodCallPos;exact if_pos (by rw[hl];exact Bool.or_true _)
 refine(congrArg (λt:Sem ak=>t >>= _) (h name env (eval o env))).trans ?_;show(eval o env >>= λov=>oe apos.atName >>= λz=>methodCall o name apos pos env ov (args.length+0) (dZ pos (cU args env)) [])=_
 have e3:∀ov,methodCall o name apos pos env ov (args.length+0) (dZ pos (cU args env)) []=(do
   let(f,first) ←holding [ov] (tF ov name (do return (←importBound o env).getD true))
   lV pos f first (dZ pos (cU args env)) []):=λov=>by unfold methodCall;rw[e1,e2];rfl
 exact congrArg (λK:ak→Sem ak=>eval o env >>= λov=>oe apos.atName >>= λz=>K ov) (funext e3)
noncomputable def mY{M:Expr→Type}(d:∀x,M x)(ZL:∀o xs p,M (.BoolOp o xs p))(bin:∀l o r p,M (.BinOp l o r p))(ZM:∀o x p,M (.UnaryOp o x p))(ite:∀t x y p,M (.IfExp t x y p))(ZN:∀k v p,M (.Dict k v p))(ZO:∀e g s p,M (.ListComp e g s p))
  (cmp:∀l o r p,M (.Compare l o r p))(ZP:∀f a k p,M (.Call f a k p))(con:∀v k p,M (.Constant v k p))(Fu:∀x a p,M (.Attribute x a p))(sub:∀x y p,M (.Subscript x y p))(Fv:∀x p,M (.Name x p))(ZQ:∀xs p,M (.List xs p))(tup:∀xs k p,M (.Tuple xs k p))(ZR:∀a b e p,M (.Slice a b e p))(x:Expr):M x:=
 match x with
 |.BoolOp o xs p=>ZL o xs p
 |.BinOp l o r p=>bin l o r p
 |.UnaryOp o x p=>ZM o x p
 |.IfExp t x y p=>ite t x y p
 |.Dict k v p=>ZN k v p
 |.ListComp e g s p=>ZO e g s p
 |.Compare l o r p=>cmp l o r p
 |.Call f a k p=>ZP f a k p
 |.Constant v k p=>con v k p
 |.Attribute x a p=>Fu x a p
 |.Subscript x y p=>sub x y p
 |.Name x p=>Fv x p
 |.List xs p=>ZQ xs p
 |.Tuple xs k p=>tup xs k p
 |.Slice a b e p=>ZR a b e p
 |x=>d x
section
variable{M:Expr→Type}(d:∀x,M x)
noncomputable def Fw(k:∀x p,M (.Name x p)):∀x,M x:=mY d (λz z z=>d _) (λz z z z=>d _) (λz z z=>d _) (λz z z z=>d _) (λz z z=>d _) (λz z z z=>d _) (λz z z z=>d _) (λz z z z=>d _) (λz z z=>d _) (λz z z=>d _) (λz z z=>d _) k (λz z=>d _) (λz z z=>d _) (λz z z z=>d _)
noncomputable def Fx(k:∀xs k p,M (.Tuple xs k p)):∀x,M x:=mY d (λz z z=>d _) (λz z z z=>d _) (λz z z=>d _) (λz z z z=>d _) (λz z z=>d _) (λz z z z=>d _) (λz z z z=>d _) (λz z z z=>d _) (λz z z=>d _) (λz z z=>d _) (λz z z=>d _) (λz z=>d _) (λz z=>d _) k (λz z z z=>d _)
noncomputable def ZS(k:∀e g s p,M (.ListComp e g s p)):∀x,M x:=mY d (λz z z=>d _) (λz z z z=>d _) (λz z z=>d _) (λz z z z=>d _) (λz z z=>d _) k (λz z z z=>d _) (λz z z z=>d _) (λz z z=>d _) (λz z z=>d _) (λz z z=>d _) (λz z=>d _) (λz z=>d _) (λz z z=>d _) (λz z z z=>d _)
noncomputable def MM(k:∀f a k p,M (.Call f a k p)):∀x,M x:=mY d (λz z z=>d _) (λz z z z=>d _) (λz z z=>d _) (λz z z z=>d _) (λz z z=>d _) (λz z z z=>d _) (λz z z z=>d _) k (λz z z=>d _) (λz z z=>d _) (λz z z=>d _) (λz z=>d _) (λz z=>d _) (λz z z=>d _) (λz z z z=>d _)
noncomputable def MN(k:∀v k p,M (.Constant v k p)):∀x,M x:=mY d (λz z z=>d _) (λz z z z=>d _) (λz z z=>d _) (λz z z z=>d _) (λz z z=>d _) (λz z z z=>d _) (λz z z z=>d _) (λz z z z=>d _) k (λz z z=>d _) (λz z z=>d _) (λz z=>d _) (λz z=>d _) (λz z z=>d _) (λz z z z=>d _)
noncomputable def ZT(k:∀o x p,M (.UnaryOp o x p)):∀x,M x:=mY d (λz z z=>d _) (λz z z z=>d _) k (λz z z z=>d _) (λz z z=>d _) (λz z z z=>d _) (λz z z z=>d _) (λz z z z=>d _) (λz z z=>d _) (λz z z=>d _) (λz z z=>d _) (λz z=>d _) (λz z=>d _) (λz z z=>d _) (λz z z z=>d _)
noncomputable def ZU(k:∀a b e p,M (.Slice a b e p)):∀x,M x:=mY d (λz z z=>d _) (λz z z z=>d _) (λz z z=>d _) (λz z z z=>d _) (λz z z=>d _) (λz z z z=>d _) (λz z z z=>d _) (λz z z z=>d _) (λz z z=>d _) (λz z z=>d _) (λz z z=>d _) (λz z=>d _) (λz z=>d _) (λz z z=>d _) k
noncomputable def Bb(Fv:∀x p,M (.Name x p))(Fu:∀x a p,M (.Attribute x a p))(sub:∀x y p,M (.Subscript x y p)):∀x,M x:=mY d (λz z z=>d _) (λz z z z=>d _) (λz z z=>d _) (λz z z z=>d _) (λz z z=>d _) (λz z z z=>d _) (λz z z z=>d _) (λz z z z=>d _) (λz z z=>d _) Fu sub Fv (λz z=>d _) (λz z z=>d _) (λz z z z=>d _)
end
noncomputable abbrev Fo(P:Prop):=Option (PLift P)
noncomputable abbrev RX(c:Cx)(n:Nat)(ks:Ks)(x:Expr):={m:EM // aH c n ks x m∧A9 x∧FoldIs x}×Fo (Ft x)×Fo (x3 x)×Fo (∀line env,mS x none line env=pure false)
noncomputable abbrev RL(c:Cx)(n:Nat)(ks:Ks)(xs:List Expr):={m:cV // gY c n ks xs m∧∀pos env,(dZ pos (cU xs env)).any (λx=>x.1)=false}
noncomputable abbrev RB(c:Cx)(n:Nat)(ks:Ks)(x:Expr):={m:TM // gI c n ks x m}
section
variable{c:Cx}{n:Nat}{ks:Ks}{x:Expr}{xs:List Expr}
noncomputable def RX.m(a:RX c n ks x):EM:=a.1.1
theorem RX.h(a:RX c n ks x):aH c n ks x a.m:=a.1.2.1
theorem RX.st(a:RX c n ks x):A9 x:=a.1.2.2.1
theorem RX.fo(a:RX c n ks x):FoldIs x:=a.1.2.2.2
noncomputable def RX.pl(a:RX c n ks x):Fo (Ft x):=a.2.1
noncomputable def RX.ba(a:RX c n ks x):Fo (x3 x):=a.2.2.1
noncomputable def RL.m(a:RL c n ks xs):cV:=a.1
theorem RL.h(a:RL c n ks xs):gY c n ks xs a.m:=a.2.1
theorem RL.hp(a:RL c n ks xs):∀pos env,(dZ pos (cU xs env)).any (λx=>x.1)=false:=a.2.2
end
structure Rc(c:Cx)(n:Nat) where
 e:(ks:Ks)→(x:Expr)→Option (RX c n ks x)
 b:(ks:Ks)→(x:Expr)→Option (RB c n ks x)
 s:(ks:Ks)→(x:List Stmt)→{m:SM // eQ c n ks x m}
noncomputable abbrev Fe(c:Cx):={d:Nat×CV×ak×Nat×FM // x4 c d.1 d.2.1∧tN d.2.1=some d.2.2.1∧dw c d.2.2.1∧aU c d.2.2.2.1 d.2.2.1 d.2.2.2.2}
noncomputable abbrev Me(c:Cx):={d:Nat×Nat×Nat×Nat×FM // rV d.2.1 d.1 d.2.2.1=true∧aU c d.2.2.2.1 (.ref d.2.2.1) d.2.2.2.2}
noncomputable abbrev Be(c:Cx):={d:Str×String×(CV→St→Prop)×Nat×FM // c5 c d.1 d.2.1 d.2.2.1∧aU c d.2.2.2.1 (.builtin d.2.1) d.2.2.2.2}
structure Tb(c:Cx) where
 G:x5 c
 fs:List (Fe c)
 ms:List (Me c)
 bs:List (Be c)
 dk:Nat
noncomputable def ko(x:Str):Option {i:Nat // nm i=x}:=
 let i:=x6.findIdx (rQ (code x))
 if h:nm i=x then some ⟨i,h⟩else none
section
variable{c:Cx}{n:Nat}(T:Tb c)(r:Rc c n)(ks:Ks)
noncomputable def kL:(xs:List Expr)→Option (RL c n ks xs)
 |[]=>some ⟨ar,gY.nil,λz z=>rfl⟩
 |x::xs=>(r.e ks x).bind λa=>(kL xs).bind λb=>some ⟨ag a.m b.m,@gY.cons _ _ _ _ _ _ _ (@RX.h _ _ _ _ a) (@RL.h _ _ _ _ b) (a.st xs),λpos env=>by rw[a.st];exact b.hp pos env⟩
noncomputable def ZV(x:Str)(pos:Pos):Option {m:EM // aH c n ks (.Name x pos) m}:=
 (ko x).bind λi=>if hd:i.1≠rW∧i.1≠tO then
  if hk:isVar (ks.lookup i.1)=true then some ⟨af i.1,@aH.var _ _ _ _ _ i.1 i.2 hk hd.1 hd.2⟩
  else if hk:ks.lookup i.1=some .globalImplicit then(tP.lookup i.1).pbind λv hg=>some ⟨fm v,@aH.glob _ _ _ _ _ _ i.1 i.2 hk hd.1 (T.G _ _ hg)⟩
  else none
 else none
noncomputable def Bc{S:String}(j:Nat)(hg:x4 c j (.ty S))(x:Str)(pos:Pos):Fo (aH c n ks (.Name x pos) (au (.ty S))):=
 if h:nm j=x∧ks.lookup j=some .globalImplicit∧j≠rW then some ⟨@aH.glob _ _ _ _ _ _ j h.1 h.2.1 h.2.2 hg⟩else none
noncomputable abbrev RI(c:Cx)(n:Nat)(ks:Ks)(t x:Expr):={m:IM // jR c n ks t x m∧FoldIs x}
noncomputable def ZW(t:Expr):(x:Expr)→Option (RI c n ks t x):=MM (λz=>none) λf a k pos=>Fw (M:=λf=>Option (RI c n ks t (.Call f a k pos))) (λz=>none) (λf p=>match a,k with
 |[y],[]=>(r.e ks y).bind λa=>
  ((Bc (n:=n) ks 124 (T.G 124 (.ty "range") rfl) f p).map λh=>⟨oh a.m,@jR.range _ _ _ _ _ _ _ _ (@Fj _ h) (@RX.h _ _ _ _ a) (λz=>rfl) (a.st []),λz z=>rfl⟩).or
  (Fx (M:=λt=>Option (RI c n ks t (.Call (.Name f p) [y] [] pos))) (λz=>none) (λelts kk pp=>(Bc (n:=n) ks 220 (T.G 220 (.ty "enumerate") rfl) f p).map λh=>⟨tQ a.m,@jR.enum _ _ _ _ _ _ _ _ _ _ (@Fj _ h) (@RX.h _ _ _ _ a) (λz=>rfl) (a.st []),λz z=>rfl⟩) t)
 |_,_=>none) f
noncomputable def kI(t x:Expr):Option (RI c n ks t x):=(ZW T r ks t x).or ((r.e ks x).map λa=>⟨bO a.m,@jR.src _ _ _ _ _ _ (@RX.h _ _ _ _ a),a.fo⟩)
noncomputable def ZX:(xs:List Expr)→Option {m:TM // mZ c n ks xs m}
 |[]=>some ⟨de,@mZ.nil _ _ _⟩
 |[x]=>(r.b ks x).map λa=>⟨a.1,@mZ.one _ _ _ _ _ (@eZ _ _ a)⟩
 |_=>none
noncomputable abbrev RA(c:Cx)(n:Nat)(ks:Ks)(X:Env→Addr→Prop)(t:Expr):={m:AM // eG c n ks X t m∧∀ts env,qw (t::ts) env=(false,AX t env)::qw ts env}
section
variable{X:Env→Addr→Prop}(nR:(i:Nat)→(x:Str)→(p:Pos)→nm i=x→Fo (eG c n ks X (.Name x p) (aName i)))(hX:∀env b,X env b→eU env ks b)
noncomputable def MO:(t:Expr)→Option (RA c n ks X t):=Bb (λz=>none)
 (λx p=>(ko x).bind λi=>(nR i.1 x p i.2).bind λh=>some ⟨aName i.1,@Fj _ h,λz z=>rfl⟩)
 (λo a p=>(r.e ks o).bind λm=>(ko a).bind λi=>some ⟨dx i.1 m.m,@eG.attr _ _ _ _ _ _ _ _ i.1 i.2 (@RX.h _ _ _ _ m),λz z=>rfl⟩)
 (λo i p=>(r.e ks o).bind λm=>(r.e ks i).bind λk=>some ⟨dg m.m k.m,@eG.item _ _ _ _ _ _ _ _ _ (@RX.h _ _ _ _ m) (@RX.h _ _ _ _ k),λz z=>rfl⟩)
noncomputable def MP:(ts:List Expr)→Option {m:List AM // oj c n ks X ts m}
 |[]=>some ⟨[],.nil⟩
 |t::ts=>(MO r ks nR t).bind λa=>(MP ts).bind λb=>some ⟨a.1::b.1,.cons (@f6 _ _ a.2) b.2 (a.2.2 ts)⟩
include hX
noncomputable def kA(t:Expr):Option (RA c n ks X t):=(MO r ks nR t).or (Fx (M:=λt=>Option (RA c n ks X t)) (λz=>none) (λts k p=>(MP r ks nR ts).map λa=>⟨eB a.1,no_implicit_lambda%eG.ZY hX a.2,λz z=>rfl⟩) t)
end
noncomputable def Bd(i:Nat)(x:Str)(p:Pos)(hx:nm i=x):Fo (eG c n ks (pq ks) (.Name x p) (aName i)):=if hk:fN (ks.lookup i)=true then some ⟨@eG.name _ _ _ _ _ i hx hk⟩else none
noncomputable def ZZ(raw:Ks)(i:Nat)(x:Str)(p:Pos)(hx:nm i=x):Fo (eG c n ks (jS raw ks) (.Name x p) (aName i)):=if hk:fN (ks.lookup i)=true∧fN (raw.lookup i)=true then some ⟨@eG.Z0 _ _ _ _ _ _ i hx hk.1 hk.2⟩else none
noncomputable def MQ:(l:List (Str×gC))→Option {raw:Ks // l=raw.map λp=>(nm p.1,p.2)}
 |[]=>some ⟨[],rfl⟩
 |p::l=>(ko p.1).bind λi=>(MQ l).bind λb=>some ⟨(i.1,p.2)::b.1,by rw[gB,←b.2,i.2]⟩
noncomputable def Z1(c:Cx)(n:Nat)(ks:Ks)(elt target iter:Expr)(ifs:List Expr)(scope:Scope)(raw:Ks)(it:IM)(a:AM)(t:TM)(el:EM):Prop:=
 jR c n ks target iter it∧om ks raw scope∧eG c n (dO raw) (jS raw (dO raw)) target a∧mZ c n (dO raw) ifs t∧aH c n (dO raw) elt el∧FoldIs iter
noncomputable abbrev RC(c:Cx)(n:Nat)(ks:Ks)(elt target iter:Expr)(ifs:List Expr)(scope:Scope):={d:Ks×IM×AM×TM×EM // Z1 c n ks elt target iter ifs scope d.1 d.2.1 d.2.2.1 d.2.2.2.1 d.2.2.2.2}
noncomputable def kC(elt target iter:Expr)(ifs:List Expr)(scope:Scope):Option (RC c n ks elt target iter ifs scope):=(MQ scope.names).bind λw=>
  if h:scope.kind=.function∧(∀p∈w.1,p.1<nN)∧(w.1.map (λx=>x.1)).Nodup∧(∀p∈w.1,p.2=.free→ks.lookup p.1=some .cell)then
   (kI T r ks target iter).bind λi=>(kA r (dO w.1) (ZZ (dO w.1) w.1) jS.Fy target).bind λa=>(ZX r (dO w.1) ifs).bind λt=>(r.e (dO w.1) elt).bind λe=>
    some ⟨(w.1,i.1,a.1,t.1,e.m),@f6 _ _ i.2,⟨w.2,h.1,h.2.1,h.2.2.1,h.2.2.2⟩,@f6 _ _ a.2,@eZ _ _ t,@RX.h _ _ _ _ e,i.2.2⟩
  else none
noncomputable def MR{M:List Comprehension→Type}(d:∀g,M g)(k:∀t i ifs,M [⟨t,i,ifs,0⟩]):∀g,M g
 |[⟨t,i,ifs,z⟩]=>if h:0=z then h▸k t i ifs else d _
 |g=>d g
end
section
variable{c:Cx}{n:Nat}(T:Tb c)(r:Rc c (n+1))(ks:Ks)
theorem aH.Z2{x:Expr}{p:Pos}{i:Int}(h:aH c n ks x (au (.int i))):aH c n ks (.UnaryOp .USub x p) (au (.int (-i))):=λA env e σ s Q N q=>aH.neg h N ⟨_,rfl,q⟩
noncomputable def Z3(v:Const)(k:Nat)(p:Pos):Option {m:EM // aH c (n+1) ks (.Constant v k p) m}:=match v with
 |.none=>some ⟨_,@aH.Z4 _ _ _ _ _⟩
 |.bool _=>some ⟨_,@aH.cBool _ _ _ _ _ _⟩
 |.int _=>some ⟨_,@aH.cInt _ _ _ _ _ _⟩
 |.str _=>some ⟨_,@aH.cStr _ _ _ _ _ _⟩
 |.bytes _=>some ⟨_,@aH.Z5 _ _ _ _ _ _⟩
 |_=>none
noncomputable def Z6:(x:Expr)→Option {i:Int // aH c (n+1) ks x (au (.int i))}:=ZT (λz=>none) λo x p=>match o with
 |.USub=>MN (M:=λx=>Option {i:Int // aH c (n+1) ks (.UnaryOp .USub x p) (au (.int i))}) (λz=>none) (λv k q=>match v with
  |.int i=>some ⟨-i,no_implicit_lambda%aH.Z2 ks aH.cInt⟩
  |_=>none) x
 |_=>none
noncomputable def Z7(x y:Expr)(p:Pos):Option {m:EM // aH c (n+1) ks (.Subscript x y p) m}:=(r.e ks x).bind λa=>ZU (M:=λy=>Option {m:EM // aH c (n+1) ks (.Subscript x y p) m})
 (λy=>(r.e ks y).map λb=>⟨_,@aH.item _ _ _ _ _ _ _ _ (@RX.h _ _ _ _ a) (@RX.h _ _ _ _ b)⟩)
 (λlo up st q=>match lo,up,st with
  |none,some z,none=>(r.e ks z).map λb=>⟨_,@aH.Z8 _ _ _ _ _ _ _ _ _ (@RX.h _ _ _ _ a) (@RX.h _ _ _ _ b)⟩
  |some y,some z,none=>(r.e ks y).bind λb=>(r.e ks z).map λd=>⟨_,@aH.fromTo _ _ _ _ _ _ _ _ _ _ _ (@RX.h _ _ _ _ a) (@RX.h _ _ _ _ b) (@RX.h _ _ _ _ d)⟩
  |none,none,some z=>(Z6 ks z).bind λi=>if h:i.1=-1 then some ⟨_,@aH.rev _ _ _ _ _ _ _ _ (@RX.h _ _ _ _ a) (h▸i.2)⟩else none
  |_,_,_=>none) y
noncomputable def MS(p:Pos):(xs:List Expr)→Option {m:EM // aH c (n+1) ks (.BoolOp .And xs p) m}
 |[]=>none
 |[x]=>(r.e ks x).map λa=>⟨_,@aH.MT _ _ _ _ _ _ _ (@RX.h _ _ _ _ a)⟩
 |x::y::ys=>(r.e ks x).bind λa=>(MS p (y::ys)).map λb=>⟨_,@aH.and _ _ _ _ _ _ _ _ _ (@RX.h _ _ _ _ a) (@eZ _ _ b)⟩
noncomputable def MU(p:Pos):(xs:List Expr)→Option {m:EM // aH c (n+1) ks (.BoolOp .Or xs p) m}
 |[]=>none
 |[x]=>(r.e ks x).map λa=>⟨_,@aH.MT _ _ _ _ _ _ _ (@RX.h _ _ _ _ a)⟩
 |x::y::ys=>(r.e ks x).bind λa=>(MU p (y::ys)).map λb=>⟨_,@aH.or _ _ _ _ _ _ _ _ _ (@RX.h _ _ _ _ a) (@eZ _ _ b)⟩
noncomputable def MV:(xs:List Expr)→Option {m:TM // jx c (n+1) ks .And xs m}
 |[]=>some ⟨_,@jx.Z9 _ _ _⟩
 |x::xs=>(r.b ks x).bind λa=>(MV xs).map λb=>⟨_,@jx.and _ _ _ _ _ _ _ (@eZ _ _ a) (@eZ _ _ b)⟩
noncomputable def MW:(xs:List Expr)→Option {m:TM // jx c (n+1) ks .Or xs m}
 |[]=>some ⟨_,@jx.aaa _ _ _⟩
 |x::xs=>(r.b ks x).bind λa=>(MW xs).map λb=>⟨_,@jx.or _ _ _ _ _ _ _ (@eZ _ _ a) (@eZ _ _ b)⟩
noncomputable def aab:Expr→Bool:=mY (λz=>false) (λz z z=>false) (λz z z z=>false) (λz z z=>false) (λz z z z=>false) (λz z z=>false) (λz z z z=>false) (λz z z z=>false) (λz z z z=>false) (λz z z=>false) (λz z z=>false) (λz z z=>false) (λz z=>false) (λz z=>true) (λz z z=>false) (λz z z z=>false)
theorem aac{l x:Expr}{p:Pos}{a b:EM}(h:op=.Mult)(ha:aH c (n+1) ks l a)(hb:aH c (n+1) ks x b):aH c (n+1) ks (.BinOp l op x p) (Bf a b):=by
 subst h;exact aH.mulL ha hb
noncomputable def aad(l:Expr)(op:jv)(x:Expr)(p:Pos):Option {m:EM // aH c (n+1) ks (.BinOp l op x p) m}:=(r.e ks l).bind λa=>(r.e ks x).bind λb=>
 if h:op=.Mult∧aab l=true then some ⟨Bf a.m b.m,aac ks h.1 (@RX.h _ _ _ _ a) (@RX.h _ _ _ _ b)⟩else some ⟨_,@aH.bin _ _ _ _ _ _ _ _ _ (@RX.h _ _ _ _ a) (@RX.h _ _ _ _ b)⟩
noncomputable def Fz:(o:Option Expr)→Option {t:Str×Nat×Pos // o=some (.Constant (.str t.1) t.2.1 t.2.2)}
 |none=>none
 |some x=>MN (M:=λx=>Option {t:Str×Nat×Pos // some x=some (.Constant (.str t.1) t.2.1 t.2.2)}) (λz=>none) (λv k p=>match v with
  |.str x=>some ⟨(x,k,p),rfl⟩
  |_=>none) x
theorem aae{x y z:Option Expr}{i j l:Str×Nat×Pos}{u v w:Expr}{p:Pos}(hx:x=some (.Constant (.str i.1) i.2.1 i.2.2))(hy:y=some (.Constant (.str j.1) j.2.1 j.2.2))(hz:z=some (.Constant (.str l.1) l.2.1 l.2.2))(h1:aH c (n+1) ks u m1)(h2:aH c (n+1) ks v m2)(h3:aH c (n+1) ks w m3):aH c (n+1) ks (.Dict [x,y,z] [u,v,w] p) (x7 i.1 j.1 l.1 m1 m2 m3):=by
 subst hx;subst hy;subst hz;exact aH.aaf h1 h2 h3
noncomputable def aag(p:Pos)(keys:List (Option Expr))(vals:List Expr):Option {m:EM // aH c (n+1) ks (.Dict keys vals p) m}:=match keys,vals with
 |[],[]=>match T.dk with
  |0=>some ⟨_,@aH.aah _ _ _ _⟩
  |1=>some ⟨_,@aH.aai _ _ _ _⟩
  |_=>some ⟨_,@aH.aaj _ _ _ _⟩
 |[some k],[v]=>(r.e ks k).bind λa=>(r.e ks v).map λb=>⟨_,@aH.aak _ _ _ _ _ _ _ _ (@RX.h _ _ _ _ a) (@RX.h _ _ _ _ b)⟩
 |[x,y,z],[u,v,w]=>(Fz x).bind λi=>(Fz y).bind λj=>(Fz z).bind λl=>(r.e ks u).bind λa=>(r.e ks v).bind λb=>(r.e ks w).map λd=>⟨x7 i.1.1 j.1.1 l.1.1 a.m b.m d.m,no_implicit_lambda%aae ks i.2 j.2 l.2 (@RX.h _ _ _ _ a) (@RX.h _ _ _ _ b) (@RX.h _ _ _ _ d)⟩
 |_,_=>none
noncomputable def kFe(id:Str):Option {e:Fe c // nm e.1.1=id}:=(ko id).bind λi=>(T.fs.find? λe=>rQ e.1.1 i.1).bind λe=>if h:e.1.1=i.1 then some ⟨e,h▸i.2⟩else none
noncomputable def kG(id:Str)(q:Pos):Option {e:Fe c // aH c (n+1) ks (.Name id q) (au e.1.2.1)∧e.1.2.2.2.1≤n+1}:=(kFe T id).bind λe=>
 if h:ks.lookup e.1.1.1=some .globalImplicit∧e.1.1.1≠rW∧e.1.1.2.2.2.1≤n+1 then some ⟨e.1,@aH.glob _ _ _ _ _ _ e.1.1.1 e.2 h.1 h.2.1 e.1.2.1,h.2.2⟩else none
noncomputable def aal(id:Str)(q:Pos)(a:List Expr)(p:Pos):Option {m:EM // aH c (n+1) ks (.Call (.Name id q) a [] p) m}:=(kL r ks a).bind λms=>((kG T ks id q).map λe=>⟨_,@aH.call _ _ _ _ _ _ _ _ _ _ _ (@f6 _ _ e.2) e.1.2.2.1 e.1.2.2.2.1 (@vD _ _ e.1.2.2.2) e.2.2 (@RL.h _ _ _ _ ms) (λz=>rfl) (ms.hp p)⟩).or
 ((ko id).bind λi=>T.fs.head?.bind λe=>if h:isVar (ks.lookup i.1)=true∧i.1≠rW∧i.1≠tO∧e.1.2.2.2.1≤n+1 then some ⟨_,@aH.aam _ _ _ _ _ _ _ _ _ _ _ _ (@aH.var _ _ _ _ _ i.1 i.2 h.1 h.2.1 h.2.2.1) e.2.2.1 e.2.2.2.1 (@vD _ _ e.2.2.2) h.2.2.2 (@RL.h _ _ _ _ ms) (λz=>rfl) (ms.hp p)⟩else none)
noncomputable def MX:(jT:List Keyword)→Option {d:List Nat×cV // pv c (n+1) ks jT d.1 d.2}
 |[]=>some ⟨([],ar),pv.nil⟩
 |⟨some x,v,p⟩::jT=>(ko x).bind λi=>(r.e ks v).bind λa=>(MX jT).bind λb=>if h:i.1<nN then some ⟨(i.1::b.1.1,ag a.m b.1.2),pv.cons i.1 i.2 h (@RX.h _ _ _ _ a) b.2⟩else none
 |_=>none
theorem aan{jT:List Keyword}{m:cV}{l:List (Bool×Sem ak)}{p:Pos}(h:pv c (n+1) ks jT is m)(hl:l.any (λx=>x.1)=false):(l.any (λx=>x.1)||(lW p (lT jT env)).any (λx=>x.1.isNone))=false:=by
 rw[hl,Bool.false_or,List.any_eq_false]
 exact λx hx z=>by
  have:=iy.1 (h.2.1 env p) x hx;rw[EA.1 z]at this;exact eP this
noncomputable def aao(id:Str)(q:Pos)(a:List Expr)(k:List Keyword)(p:Pos):Option {m:EM // aH c (n+1) ks (.Call (.Name id q) a k p) m}:=match a with
 |[]=>none
 |a0::a=>(r.e ks a0).bind λa1=>(kL r ks (a0::a)).bind λms=>(MX r ks k).bind λkk=>(kG T ks id q).map λe=>⟨_,@aH.aap _ _ _ _ _ _ _ _ _ _ _ _ _ _ _ (@f6 _ _ e.2) e.1.2.2.1 e.1.2.2.2.1 (@vD _ _ e.1.2.2.2) e.2.2 (@RL.h _ _ _ _ ms) kk.2 (λz=>rfl) (λenv=>aan ks kk.2 (ms.hp p env)) (a1.st a)⟩
noncomputable def kLR(id:Str)(q:Pos)(a:List Expr)(p:Pos):Option {m:EM // aH c (n+1) ks (.Call (.Name id q) a [] p) m}:=match a with
 |[x]=>(Bc (n:=n+1) ks 58 (T.G 58 (.ty "list") rfl) id q).bind λhg=>MM (M:=λx=>Option {m:EM // aH c (n+1) ks (.Call (.Name id q) [x] [] p) m}) (λz=>none) (λf b k p2=>Fw (M:=λf=>Option {m:EM // aH c (n+1) ks (.Call (.Name id q) [.Call f b k p2] [] p) m}) (λz=>none) (λg q2=>match b,k with
  |[y],[]=>(Bc (n:=n+1) ks 124 (T.G 124 (.ty "range") rfl) g q2).bind λhf=>(r.e ks y).map λm=>⟨_,@aH.aaq _ _ _ _ _ _ _ _ _ (@Fj _ hg) (@Fj _ hf) (@RX.h _ _ _ _ m) (λz=>rfl) (m.st []) (λz=>rfl) (λz=>rfl)⟩
  |_,_=>none) f) x
 |_=>none
theorem c5.to{c:Cx}{x y:Str}{f:String}{D:CV→St→Prop}(h:x=y)(g:c5 c x f D):c5 c y f D:=h▸g
noncomputable def aar(o:Expr)(x:Str)(q:Pos)(a:List Expr)(p:Pos):Option {m:EM // aH c (n+1) ks (.Call (.Attribute o x q) a [] p) m}:=
 (r.e ks o).bind λmo=>mo.ba.bind λhb=>(kL r ks a).bind λms=>(ko x).bind λi=>
  if h:(q.endLine==p.line)=true∧k9 a.length 30=true then
   ((T.ms.find? λe=>rQ e.1.1 i.1).bind λe=>if g:nm e.1.1=x∧e.1.2.2.2.1≤n+1 then some ⟨_,@aH.jy _ _ _ _ _ _ _ _ _ _ _ _ _ _ _ _ g.1 (@RX.h _ _ _ _ mo) e.2.1 (@vD _ _ e.2) g.2 (@RL.h _ _ _ _ ms) (Ba hb.down ms.hp h.1 h.2) (ms.hp p)⟩else none).or
   ((T.bs.find? λe=>e.1.1==x).bind λe=>if g:e.1.1=x∧e.1.2.2.2.1≤n+1 then some ⟨_,@aH.pw _ _ _ _ _ _ _ _ _ _ _ _ _ _ _ (@RX.h _ _ _ _ mo) (@c5.to _ _ _ _ _ g.1 (@f6 _ _ e.2)) (@vD _ _ e.2) g.2 (@RL.h _ _ _ _ ms) (Ba hb.down ms.hp h.1 h.2) (ms.hp p)⟩else none)
  else none
noncomputable def kq{x:Expr}(h:A9 x)(f:FoldIs x)(pl:Fo (Ft x))(ba:Fo (x3 x))(dr:Fo (∀line env,mS x none line env=pure false))(m:{m:EM // aH c (n+1) ks x m}):RX c (n+1) ks x:=(⟨m.1,@eZ _ _ m,h,f⟩,pl,ba,dr)
noncomputable def kE:(x:Expr)→Option (RX c (n+1) ks x):=mY (λu=>none)
 (λo xs p=>(match o with
  |.And=>MS r ks p xs
  |.Or=>MU r ks p xs:Option {m:EM // aH c (n+1) ks (.BoolOp o xs p) m}).map (kq ks (λu u=>rfl) (λu u=>rfl) none (some ⟨λu u u=>rfl⟩) none))
 (λl o x p=>(aad r ks l o x p).map (kq ks (λu u=>rfl) (λu u=>rfl) (some ⟨λu u=>rfl⟩) (some ⟨λu u u=>rfl⟩) none))
 (λo x p=>(match o with
  |.USub=>(r.e ks x).map λa=>⟨_,@aH.neg _ _ _ _ _ _ (@RX.h _ _ _ _ a)⟩
  |_=>none:Option {m:EM // aH c (n+1) ks (.UnaryOp o x p) m}).map (kq ks (λu u=>rfl) (λu u=>rfl) none (some ⟨λu u u=>rfl⟩) none))
 (λt x y p=>(r.b ks t).bind λa=>(r.e ks x).bind λb=>(r.e ks y).map λd=>kq ks (λu u=>rfl) (λu u=>rfl) none (some ⟨λu u u=>rfl⟩) none ⟨_,@aH.tR _ _ _ _ _ _ _ _ _ _ (@eZ _ _ a) (@RX.h _ _ _ _ b) (@RX.h _ _ _ _ d)⟩)
 (λk v p=>(aag T r ks p k v).map (kq ks (λu u=>rfl) (λu u=>rfl) (some ⟨λu u=>rfl⟩) (some ⟨λu u u=>rfl⟩) none))
 (λe g s p=>(MR (M:=λg=>Option {m:EM // aH c (n+1) ks (.ListComp e g s p) m}) (λu=>none) (λt i ifs=>(kC T r ks e t i ifs s).map λz=>⟨_,@aH.comp _ _ _ _ _ _ _ _ _ z.1.1 _ _ _ _ (@f6 _ _ z.2) z.2.2.1 (@f6 _ _ z.2.2.2) (@f6 _ _ z.2.2.2.2) (@f6 _ _ z.2.2.2.2.2) z.2.2.2.2.2.2⟩) g).map (kq ks (λu u=>rfl) (λu u=>rfl) (some ⟨λu u=>rfl⟩) (some ⟨λu u u=>rfl⟩) none))
 (λl o x p=>(match o,x with
  |[o],[x]=>(r.e ks l).bind λa=>(r.e ks x).bind λb=>if h:Ma o x=false then some ⟨_,@aH.cmp _ _ _ _ _ _ _ _ _ (@RX.h _ _ _ _ a) (@RX.h _ _ _ _ b) h⟩else none
  |_,_=>none:Option {m:EM // aH c (n+1) ks (.Compare l o x p) m}).map (kq ks (λu u=>rfl) (λu u=>rfl) none (some ⟨λu u u=>rfl⟩) none))
 (λf a k p=>Bb (M:=λf=>Option (RX c (n+1) ks (.Call f a k p))) (λu=>none)
  (λid q=>(match k with
   |[]=>(kLR T r ks id q a p).or (aal T r ks id q a p)
   |k::k'=>aao T r ks id q a (k::k') p:Option {m:EM // aH c (n+1) ks (.Call (.Name id q) a k p) m}).map (kq ks (λu u=>rfl) (λu u=>rfl) (some ⟨λu u=>rfl⟩) (match a with
    |[]=>none
    |_::_=>some ⟨λu u u=>rfl⟩) (some ⟨λu u=>rfl⟩)))
  (λo x q=>(match k with
   |[]=>aar T r ks o x q a p
   |_=>none:Option {m:EM // aH c (n+1) ks (.Call (.Attribute o x q) a k p) m}).map (kq ks (λu u=>rfl) (λu u=>rfl) (some ⟨λu u=>rfl⟩) (some ⟨λu u u=>rfl⟩) (some ⟨λu u=>rfl⟩)))
  (λu u u=>none) f)
 (λv k p=>(Z3 ks v k p).map (kq ks (λu u=>rfl) (λu u=>rfl) (some ⟨λu u=>rfl⟩) (some ⟨λu u u=>rfl⟩) none))
 (λx a p=>(r.e ks x).bind λm=>m.ba.bind λhb=>(ko a).map λi=>kq ks (λu u=>rfl) (λu u=>rfl) (some ⟨λu u=>rfl⟩) (some ⟨λu u u=>rfl⟩) none ⟨_,@aH.attr _ _ _ _ _ _ _ i.1 i.2 (@RX.h _ _ _ _ m) (ZI hb.down)⟩)
 (λx y p=>(Z7 r ks x y p).map (kq ks (λu u=>rfl) (λu u=>rfl) (some ⟨λu u=>rfl⟩) (some ⟨λu u u=>rfl⟩) none))
 (λx p=>(ZV T ks x p).map (kq ks (λu u=>rfl) (λu u=>rfl) (some ⟨λu u=>rfl⟩) (some ⟨λu u u=>rfl⟩) none))
 (λxs p=>(kL r ks xs).map λa=>kq ks (λu u=>rfl) (λu u=>rfl) (some ⟨λu u=>rfl⟩) (some ⟨λu u u=>rfl⟩) none ⟨_,@aH.list _ _ _ _ _ _ (@RL.h _ _ _ _ a)⟩)
 (λxs k p=>(kL r ks xs).map λa=>kq ks (λu u=>rfl) (λu u=>rfl) (some ⟨λu u=>rfl⟩) (some ⟨λu u u=>rfl⟩) none ⟨_,@aH.tup _ _ _ _ _ _ _ (@RL.h _ _ _ _ a)⟩)
 (λu u u u=>none)
noncomputable def oo(x:Expr):Option (RB c (n+1) ks x):=(r.e ks x).bind λa=>a.pl.map λh=>⟨jh a.m,@gI.plain _ _ _ _ _ (@RX.h _ _ _ _ a) h.down⟩
noncomputable def kBo:(x:Expr)→Option (RB c (n+1) ks x):=mY (oo r ks)
 (λo xs p=>match o with
  |.And=>(MV r ks xs).map λa=>⟨_,@gI.bool _ _ _ _ _ _ _ (@eZ _ _ a)⟩
  |.Or=>(MW r ks xs).map λa=>⟨_,@gI.bool _ _ _ _ _ _ _ (@eZ _ _ a)⟩)
 (λz z z z=>oo r ks _)
 (λo x p=>match o with
  |.Not=>(r.b ks x).map λa=>⟨_,@gI.not _ _ _ _ _ _ (@eZ _ _ a)⟩
  |_=>none)
 (λz z z z=>none) (λz z z=>oo r ks _) (λz z z z=>oo r ks _)
 (λl o x p=>match o,x with
  |[o],[x]=>(r.e ks l).bind λa=>(r.e ks x).bind λb=>if h:Ma o x=false then some ⟨_,@gI.cmp _ _ _ _ _ _ _ _ _ (@RX.h _ _ _ _ a) (@RX.h _ _ _ _ b) h⟩else none
  |_,_=>none)
 (λz z z z=>oo r ks _) (λz z z=>oo r ks _) (λz z z=>oo r ks _) (λz z z=>oo r ks _) (λz z=>oo r ks _) (λz z=>oo r ks _) (λz z z=>oo r ks _) (λz z z z=>none)
end
noncomputable def m4(ks:Ks):Env:={scope:={kind:=.function,names:=ks.map λp=>(nm p.1,p.2),isGenerator:=false,isCoroutine:=false},locals:=0,globals:=0,cells:=[]}
theorem sw_eq{c:Cx}{ks:Ks}(N:jj c env ks)(v:Expr)(t:Option Expr)(l:Nat):mS v t l env=mS v t l (m4 ks)∧∀ts x,qt ts x env=qt ts x (m4 ks):=by
 have h1:env.kindOf=(m4 ks).kindOf:=funext λn=>by unfold Env.kindOf;rw[N.names];rfl
 have h3:env.blockKind=(m4 ks).blockKind:=by unfold Env.blockKind;rw[N.kind];rfl
 unfold mS qt;rw[h1,h3,N.kind];exact⟨rfl,λz z=>rfl⟩
theorem FA{c:Cx}{ks:Ks}(N:jj c env ks)(ts:List Expr)(x:Expr):qt ts x env=qt ts x (m4 ks):=(sw_eq N x none 0).2 ts x
noncomputable def pureOf{α:Type}:(t:Sem α)→Option {a:α // t=pure a}
 |.pure a=>some ⟨a,rfl⟩
 |_=>none
noncomputable def MY(ks:Ks):(l:List Str)→Option {is:List Nat // l=is.map nm∧∀i∈is,fN (ks.lookup i)=true}
 |[]=>some ⟨[],rfl,λz h=>cA h⟩
 |x::l=>(ko x).bind λi=>(MY ks l).bind λb=>if h:fN (ks.lookup i.1)=true then some ⟨i.1::b.1,by rw[gB,←b.2.1,i.2],List.forall_mem_cons.2 ⟨h,b.2.2⟩⟩else none
noncomputable def MZ{M:Stmt→Type}(d:∀x,M x)(ret:∀o p,M (.Return o p))(asg:∀t x p,M (.Assign [t] x p))(aug:∀t o x p,M (.AugAssign t o x p))(fo:∀t x b p,M (.For t x b [] p))(wh:∀x b p,M (.While x b [] p))
  (ite:∀x a b p,M (.If x a b p))(ex:∀x p,M (.Expr x p))(br:∀p,M (.Break p))(co:∀p,M (.Continue p))(x:Stmt):M x:=
 match x with
 |.Return o p=>ret o p
 |.Assign ts x p=>match ts with
  |[t]=>asg t x p
  |_=>d _
 |.AugAssign t o x p=>aug t o x p
 |.For t x b e p=>match e with
  |[]=>fo t x b p
  |_=>d _
 |.While x b e p=>match e with
  |[]=>wh x b p
  |_=>d _
 |.If x a b p=>ite x a b p
 |.Expr x p=>ex x p
 |.Break p=>br p
 |.Continue p=>co p
 |x=>d x
section
variable{c:Cx}{n:Nat}(T:Tb c)(r:Rc c (n+1))(ks:Ks)
noncomputable abbrev RS(c:Cx)(n:Nat)(ks:Ks)(x:Stmt):={m:SM // cF c n ks x m}
noncomputable def never{x:Stmt}(o:Option (RS c (n+1) ks x)):RS c (n+1) ks x:=o.getD ⟨pz,@cF.aas _ _ _ _⟩
noncomputable def M0(t x:Expr)(p:Pos):Option (RS c (n+1) ks (.Assign [t] x p)):=Fw (M:=λt=>Option (RS c (n+1) ks (.Assign [t] x p))) (λo=>none) (λy q=>ZS (M:=λx=>Option (RS c (n+1) ks (.Assign [.Name y q] x p))) (λo=>none) (λe g s cp=>
 MR (M:=λg=>Option (RS c (n+1) ks (.Assign [.Name y q] (.ListComp e g s cp) p))) (λo=>none) (λt i ifs=>(ko y).bind λj=>(pureOf (mS (.ListComp e [⟨t,i,ifs,0⟩] s cp) (some (.Name y q)) p.line (m4 ks))).bind λb=>if h:b.1=true∧fN (ks.lookup j.1)=true then
  (kC T r ks e t i ifs s).map λz=>⟨_,@cF.aat _ _ _ _ _ _ _ _ _ _ _ _ j.1 z.1.1 _ _ _ _ j.2 h.2 (λenv N=>(sw_eq N _ _ _).1.trans (h.1▸b.2)) (@f6 _ _ z.2) z.2.2.1 (@f6 _ _ z.2.2.2) (@f6 _ _ z.2.2.2.2) (@f6 _ _ z.2.2.2.2.2) z.2.2.2.2.2.2⟩else none) g) x) t
noncomputable def M1(t x:Expr)(p:Pos):Option (RS c (n+1) ks (.Assign [t] x p)):=(r.e ks x).bind λa=>(pureOf (mS x (some t) p.line (m4 ks))).bind λb=>if h:b.1=false then
 (pureOf (qt [t] x (m4 ks))).bind λw=>
  if g:w.1=none then(kA r ks (X:=pq ks) (Bd ks) (λz z h=>h) t).map λm=>⟨_,@cF.assign _ _ _ _ _ _ _ _ (@RX.h _ _ _ _ a) (@f6 _ _ m.2) (λenv N=>(sw_eq N _ _ _).1.trans (h▸b.2)) (λenv N=>(FA N _ _).trans (g▸w.2)) (m.2.2 [])⟩
  else(MY ks (w.1.getD [])).bind λis=>if g:w.1=some (is.1.map nm)then Fx (M:=λt=>mS x (some t) p.line (m4 ks)=pure false→qt [t] x (m4 ks)=pure (some (is.1.map nm))→Option (RS c (n+1) ks (.Assign [t] x p))) (λz z z=>none) (λts k tp hb hw=>some ⟨_,@cF.swap _ _ _ _ _ _ _ _ _ is.1 (@RX.h _ _ _ _ a) is.2.2 (λenv N=>(sw_eq N _ _ _).1.trans hb) (λenv N=>(FA N _ _).trans hw)⟩) t (h▸b.2) (g▸w.2)else none
 else none
noncomputable def aau(o:jv)(x:Expr)(p:Pos):(t:Expr)→Option (RS c (n+1) ks (.AugAssign t o x p)):=Bb (λu=>none)
 (λy q=>(ko y).bind λi=>(r.e ks x).bind λa=>if h:fN (ks.lookup i.1)=true∧i.1≠tO then some ⟨_,@cF.aav _ _ _ _ _ _ _ _ _ i.1 i.2 h.1 h.2 (@RX.h _ _ _ _ a)⟩else none)
 (λy z q=>(ko z).bind λi=>(r.e ks y).bind λb=>(r.e ks x).map λa=>⟨_,@cF.aaw _ _ _ _ _ _ _ _ _ _ _ i.1 i.2 (@RX.h _ _ _ _ b) (@RX.h _ _ _ _ a)⟩)
 (λu u u=>none)
noncomputable def M2:(x:Stmt)→RS c (n+1) ks x:=MZ (λx=>never ks none)
 (λo p=>match o with
  |none=>⟨_,@cF.aax _ _ _ _⟩
  |some x=>never ks ((r.e ks x).map λa=>⟨_,@cF.ret _ _ _ _ _ _ (@RX.h _ _ _ _ a)⟩))
 (λt x p=>never ks ((M0 T r ks t x p).or (M1 r ks t x p)))
 (λt o x p=>never ks (aau r ks o x p t))
 (λt x b p=>never ks ((kI T r ks t x).bind λi=>(kA r ks (X:=pq ks) (Bd ks) (λz z h=>h) t).map λa=>⟨_,@cF.for _ _ _ _ _ _ _ _ _ _ (@f6 _ _ i.2) (@f6 _ _ a.2) (@eZ _ _ (r.s ks b)) i.2.2⟩))
 (λx b p=>never ks ((r.b ks x).map λt=>⟨_,@cF.while _ _ _ _ _ _ _ _ (@eZ _ _ t) (@eZ _ _ (r.s ks b))⟩))
 (λx a b p=>never ks ((r.b ks x).map λt=>⟨_,@cF.ite _ _ _ _ _ _ _ _ _ _ (@eZ _ _ t) (@eZ _ _ (r.s ks a)) (@eZ _ _ (r.s ks b))⟩))
 (λx p=>never ks ((r.e ks x).bind λa=>a.2.2.2.map λh=>⟨_,@cF.expr _ _ _ _ _ _ (@RX.h _ _ _ _ a) (h.down p.line)⟩))
 (λp=>⟨_,@cF.brk _ _ _ _⟩) (λp=>⟨_,@cF.cont _ _ _ _⟩)
noncomputable def kS:(xs:List Stmt)→{m:SM // eQ c (n+1) ks xs m}
 |[]=>⟨_,@eQ.nil _ _ _⟩
 |x::xs=>⟨_,@eQ.cons _ _ _ _ _ _ _ (@eZ _ _ (M2 T r ks x)) (@eZ _ _ (kS xs))⟩
noncomputable def lX(n:Nat):Nat→Rc c (n+1)
 |0=>⟨λz z=>none,λz z=>none,λz z=>⟨M3,@eQ.never _ _ _ _⟩⟩
 |k+1=>⟨kE T (lX n k),kBo (lX n k),kS T (lX n k)⟩
end
section
open PySem.SeqAt
noncomputable def To:List String:=["claim.caller","bytearray.append","type.__call__","bytearray.__init__"]
noncomputable def wM(id:String):Bool:=!To.contains id
noncomputable def j1:Code→Bool
 |.builtin id _=>wM id
 |_=>false
structure qR(Γ:Ctx):Prop where
 code:j1 Γ.code=false
 below:∀x∈Γ.below,j1 x.1=false
theorem qR.enter{Γ:Ctx}(h:qR Γ){c:Code}(hc:j1 c=false)(hd:Option ak)(p:Pos):qR (Γ.enter c hd p):=
 ⟨hc,λx hx=>by
  rcases List.mem_cons.mp (show x∈(Γ.code,p)::Γ.below from hx)with rfl |hx
  ·exact h.code
  ·exact h.below x hx⟩
theorem qR.goto{Γ:Ctx}(h:qR Γ){c:Code}(hc:j1 c=false):qR (Γ.goto c):=⟨hc,h.below⟩
noncomputable def bx{α:Type}(M:fy)(A:bj)(t:Sem α)(Q:α→aw→Prop)(s:aw):Prop:=
 ∀Γ p,Γ.In A→qR Γ→Sem.wp M Γ t (λa z s'=>Q a s') (λz z z=>False) p s
noncomputable def gg(M:fy)(A:bj)(c:Code)(R:lg→aw→Prop)(s:aw):Prop:=
 ∀Γ p,Γ.code=c→Γ.Below A→qR Γ→wpCode M Γ R p s
section
variable{α β:Type}{M:fy}{A:bj}{s:aw}
theorem gG{t:Sem α}{Q:α→aw→Prop}(h:aM M A t Q (λz z=>False) s):bx M A t Q s:=λΓ p eD _=>h Γ p eD
theorem dC{a:α}{Q:α→aw→Prop}(h:Q a s):bx M A (pure a) Q s:=λz z z z=>h
theorem fB{t:Sem α}{Q Q':α→aw→Prop}(h:bx M A t Q s)(hQ:∀a s,Q a s→Q' a s):bx M A t Q' s:=
 λΓ p eD n=>vB M Γ t (λa z s=>hQ a s) (λz z z e=>e) p s (h Γ p eD n)
theorem bG{m:Sem α}{f:α→Sem β}{Q:β→aw→Prop}(h:bx M A m (λa s'=>bx M A (f a) Q s') s):bx M A (m >>= f) Q s:=λΓ p eD n=>by
 rw[Fb];exact vB M Γ m (λa p' s' h'=>h' Γ p' eD n) (λz z z h'=>h') p s (h Γ p eD n)
theorem ur{m:Sem α}{k:ak→Sem Unit}{Q:α→aw→Prop}(h:bx M A m Q s):bx M A (m.onRaise k) Q s:=λΓ p eD n=>by
 rw[Sem.wp_onRaise];exact vB M Γ m (λz z z h'=>h') (λe p' s' h'=>h'.elim) p s (h Γ p eD n)
theorem uu{m:Sem α}{Q:α→aw→Prop}(h:bx M A m Q s):bx M A (holding vs m) Q s:=
 λΓ p eD n=>by rw[Sem.wp_holding];exact h Γ p eD n
theorem ae7{m:Sem α}{Q:α→aw→Prop}(h:bx M A m Q s):bx M A (m.keep vs) Q s:=
 λΓ p eD n=>by rw[Sem.wp_keep];exact h Γ p eD n
theorem Tp{Q:Unit→aw→Prop}(h:Q () s):bx M A point Q s:=λz z z z=>h
theorem ae8{c:Code}{R R':lg→aw→Prop}(h:gg M A c R s)(hR:∀r s,R r s→R' r s):gg M A c R' s:=
 λΓ p hc eD n=>wpCode_mono hR (h Γ p hc eD n)
theorem Tq{c:Code}{h:Option ak}{Q:Flow→aw→Prop}(hb:j1 c=false)
  (hc:gg M (A.mark h) c (λr s'=>match r with |.ok f=>Q f s' |.error e=>False) s)(hnb:autoParam (h≠some byPass) aX):bx M A (run c h) Q s:=
 λΓ p eD n=>by rw[Sem.wp_run];exact hc _ p rfl (eD.enter c h p hnb) (n.enter hb h p)
theorem ae9{c:Code}{Q:ak→aw→Prop}(hb:j1 c=false)
  (hc:gg M A c (λr s'=>match r with |.ok (.ret v)=>Q v s' |_=>False) s):bx M A (runValue c) Q s:=λΓ p eD n=>by
 rw[Sem.wp_runValue]
 refine wpCode_mono (λr s' z=>?_) (hc _ p rfl (eD.enter c none p (by intro x;exact bo x)) (n.enter hb none p))
 induction r with
 |error e=>exact z
 |ok f=>cases f<;>exact z
theorem CU{pos:List ak}{kw:List (Str×ak)}{Q:ak→aw→Prop}
  (hc:gg M A (.call f ⟨pos,kw⟩) (λr s'=>match r with |.ok (.ret v)=>Q v s' |_=>False) s):bx M A (call f pos kw) Q s:=ae9 rfl hc
theorem sI{c:Code}{R:lg→aw→Prop}
  (h:bx M (A.under c) (M.den c) (λfin s'=>match fin with |.done f=>R (.ok f) s' |.again c'=>c'.quiet=true∧j1 c'=false∧gg M A c' R s') s):gg M A c R s:=λΓ p hc eD n=>by
 rw[wpCode_iff_wp,hc];refine vB M Γ _ (λfin p' s' h'=>?_) (λz z z h'=>h'.elim) p s (h Γ p (hc▸eD.in) n)
 induction fin with
 |done f=>exact h'
 |again c'=>exact⟨h'.1,h'.2.2 (Γ.goto c') p' rfl (eD.goto c') (n.goto h'.2.1)⟩
theorem Tr{c:Code}{R:lg→aw→Prop}(hq:c.quiet=true)(hb:j1 c=false)(I:Nat→aw→Prop)
  (turn:∀n s,I n s→bx M (A.under c) (M.den c)
   (λfin s'=>match fin with
    |.done f=>R (.ok f) s'
    |.again c'=>(c'=c∧∃m,m<n∧I m s')∨(c'.quiet=true∧j1 c'=false∧gg M A c' R s')) s)
  (n:Nat)(h:I n s):gg M A c R s:=by
 induction n using Nat.strongRecOn generalizing s with
 |ind n ih=>
  refine sI (fB (turn n s h) λfin s' hf=>?_)
  induction fin with
  |done f=>exact hf
  |again c'=>
   rcases hf with⟨rfl,m,hm,hI⟩ |hf
   ·exact⟨hq,hb,ih m hm hI⟩
   ·exact hf
end
section
variable{prog:dv}{w:cM}{A:bj}{R:lg→aw→Prop}{s:aw}{env:Env}
theorem afa{l r:Expr}{pos:Pos}{Q:ak→aw→Prop}{M:fy}(h:bx M A (eval l env) (λa bq=>bx M A (eval r env) (λb bg=>bx M A (binaryOp op a b) Q bg) bq) s):
  bx M A (eval (.BinOp l op r pos) env) Q s:=λΓ p eD n=>by
 simp only[eval_BinOp,Fb,Sem.wp_holding,Sem.wp_cmd_standAt,Sem.wp_operate]
 exact vB M Γ _ (λa afb bq d8=>vB M Γ _ (λb z bg dP=>dP Γ _ eD n) (λz z z h'=>h') _ _ (d8 Γ afb eD n))
  (λz z z h'=>h') _ _ (h Γ p eD n)
theorem afc{st:Stmt}{rest:List Stmt}{Q:Flow→aw→Prop}{M:fy}(h:bx M A (exec st env) (λf s'=>match f with |.next=>bx M A (execs rest env) Q s' |f=>Q f s') s):
  bx M A (execs (st::rest) env) Q s:=λΓ p eD n=>by
 rw[execs_cons,Fb];refine vB M Γ _ (λf p' s' h'=>?_) (λz z z h'=>h') _ _ (h Γ p eD n);cases f<;>first |exact h' Γ p' eD n |exact h'
theorem afd{e:Expr}{pos:Pos}{Q:Flow→aw→Prop}{M:fy}(h:bx M A (eval e env) (λv=>Q (.ret v)) s):bx M A (exec (.Return (some e) pos) env) Q s:=λΓ p eD n=>by
 simp only[exec_Return_some,Fb,Sem.wp_cmd_standAt,Sem.wp_pure'];exact h Γ _ eD n
theorem afe{e:Expr}{pos:Pos}{Q:Flow→aw→Prop}(h:bx (model prog w) A (eval e env) (λz=>Q .next) s)
  (hi:interactive env=false)(hs:mS e none pos.line env=pure false):bx (model prog w) A (exec (.Expr e pos) env) Q s:=by
 rw[exec_Expr env e pos hi hs];exact bG (gG (kZ (bG (fB h λv s' h'=>gG (wpAny_dropValue h')))))
theorem aff{stmts:List Stmt}{M:fy}(h:bx (model prog w) A (execs stmts env) (λf s'=>R (.ok f) s') s):gg (model prog w) A (.block stmts env) R s:=by
 refine sI ?_
 show bx _ _ (do return Fin.done (←(execs stmts env).onRaise (λx=>do noteFrame x env;L5 x))) _ s
 exact bG (ur (fB h (λf s' h'=>dC h')))
theorem afg{test:Expr}{pos:Pos}{Q:Flow→aw→Prop}(h:gg (model prog w) A (.whileLoop test body orelse env) (λr s'=>match r with |.ok f=>Q f s' |.error e=>False) s):
  bx (model prog w) A (exec (.While test body orelse pos) env) Q s:=by
 rw[exec_While];unfold runOwn;exact bG (gG (kZ (ur (Tq rfl h))))
theorem afh{test:Expr}(I:Nat→aw→Prop)
  (turn:∀n s,I n s→bx (model prog w) A (isTrue test env (eval test env)) (λb bg=>
    if b then bx (model prog w) A (execs body env) (λf fu=>match f with
      |.next |.cont=>∃m,m<n∧I m fu
      |.brk=>R (.ok .next) fu
      |.ret v=>R (.ok (.ret v)) fu) bg
    else bx (model prog w) A (execs orelse env) (λf fu=>R (.ok f) fu) bg) s)
  (n:Nat)(h:I n s):gg (model prog w) A (.whileLoop test body orelse env) R s:=by
 refine Tr rfl rfl I (λn s hI=>?_) n h
 show bx _ A ((whileTurn test body orelse env).onRaise (λx=>do noteFrame x env;L5 x)) _ s
 refine ur ?_;unfold whileTurn;refine bG (fB (turn n s hI) (λb bg dP=>?_))
 induction b with
 |false=>
  simp only[pd,if_false]at dP ⊢
  exact bG (fB dP (λf fu gQ=>dC gQ))
 |true=>
  simp only[if_true]at dP ⊢;refine bG (fB dP (λf fu gQ=>?_))
  induction f with
  |next=>exact dC (.inl ⟨rfl,gQ⟩)
  |cont=>exact dC (.inl ⟨rfl,gQ⟩)
  |brk=>exact dC gQ
  |ret v=>exact dC gQ
theorem afi{pos:Pos}{Q:Flow→aw→Prop}
  (h:aM (model prog w) A (eval iter env) (λx bq=>aM (model prog w) A (pyIter x) (λit bg=>
   gg (model prog w) A (.forLoop target it body orelse env) (λr s'=>match r with |.ok f=>Q f s' |.error e=>False) bg) (λo o=>False) bq) (λo o=>False) s)
  (hs:∀x,xI iter env x=pure x):
  bx (model prog w) A (exec (.For target iter body orelse pos) env) Q s:=by
 rw[exec_For];refine bG (gG (kZ (bG (gG (b0 h (λx bq d8=>?_) λo o z=>z)))));refine bG (gG (eF (hs x) (bG (gG (kZ (bG (gG (jf (b0 d8 (λit bg dP=>?_) λo o z=>z)))))))));unfold runOwn;exact ur (Tq rfl dP)
theorem afj{it:ak}(I:Nat→aw→Prop)
  (turn:∀n s,I n s→aM (model prog w) A (mV it) (λr bq=>match r with
   |none=>bx (model prog w) A (execs orelse env) (λf fu=>R (.ok f) fu) bq
   |some v=>aM (model prog w) A (L1 target it v) (λz zg=>
     aM (model prog w) A (assign target env v) (λz bg=>bx (model prog w) A (execs body env) (λf fu=>match f with
      |.next |.cont=>∃m,m<n∧I m fu
      |.brk=>R (.ok .next) fu
      |.ret v=>R (.ok (.ret v)) fu) bg) (λz z=>False) zg) (λz z=>False) bq) (λz z=>False) s)
  (n:Nat)(h:I n s):gg (model prog w) A (.forLoop target it body orelse env) R s:=by
 refine Tr rfl rfl I (λn s hI=>?_) n h
 show bx _ A ((forTurn target it body orelse env).onRaise (λx=>do noteFrame x env;L5 x)) _ s
 refine ur ?_;unfold forTurn;refine bG (gG (kZ (bG (ur (gG (b0 (turn n s hI) (λr bq d8=>?_) λz z h'=>h'))))))
 induction r with
 |none=>exact dC (.inr ⟨rfl,rfl,aff (M:=model prog w) d8⟩)
 |some v=>
  refine bG (gG (b0 d8 (λz zg Ir=>?_) λz z h'=>h'));refine bG (gG (b0 Ir (λz bg dP=>bG (fB dP (λf fu gQ=>?_))) λz z h'=>h'))
  induction f with
  |next=>exact dC (.inl ⟨rfl,gQ⟩)
  |cont=>exact dC (.inl ⟨rfl,gQ⟩)
  |brk=>exact dC gQ
  |ret v=>exact dC gQ
theorem afk(h:bx (model prog w) (A.deeper env) (execs body env) (λf s'=>R (.ok (.ret (match f with |.ret v=>v |_=>.none))) s') s):gg (model prog w) A (.func body env) R s:=by
 refine sI ?_
 show bx _ (A.deeper env) (do point;match ←(execs body env).onRaise (leaving env)with |.ret v=>ret v |_=>ret .none) _ s
 refine bG (Tp (bG (ur (fB h (λf s' h'=>?_)))));cases f<;>exact dC h'
theorem afl{args:Args}{o:Obj}(ml:A.depth<recursionLimit)
  (ho:s.heap.get? a=some o)(fQ:o.data=.func fd)(hco:fd.scope.isCoroutine=false)(afm:fd.scope.isGenerator=false)(afn:fd.body=.stmts body)(hcd:s.heap.CodeRec fd.code fd.qualname)
  (h:aM (model prog w) A.in1 (bindArgs fd args) (λbinds bq=>
   aM (model prog w) A.in1 (newFunctionEnv fd.scope fd.globals fd.closure binds (fd.qualname++".<locals>.") (some a) fd.code none fd.builtins)
    (λenv bg=>bg.heap.NoLimit∧gg (model prog w) A (.func body env) R bg) (λz z=>False) bq) (λz z=>False) s):
  gg (model prog w) A (.call (.ref a) args) R s:=by
 refine sI ?_;show bx _ A.in1 (callAny (.ref a) args) _ s;unfold callAny;refine bG (gG (tE ho ?_));refine tM hcd λc oc vs tq hc HV Cf hq=>?_;rw[fQ];show bx _ A.in1 (callFunction a fd args) _ _;unfold callFunction;rw[hc]at h ⊢;rw[afn,hco,afm];dsimp only;refine bG (m:=field (.ref c) 1) (gG (wpAny_field HV Cf hq (bG (dC ?_))))
 exact bG (gG (b0 h (λbinds bq d8=>bG (gG (b0 d8 (λenv bg dP=>bG (gG (wpAny_enterFrame dP.1 ml
  (dC (And.intro rfl (And.intro rfl dP.2)))))) λz z h'=>h'))) λz z h'=>h'))
theorem afo{x:Sem ak}{rest:List (Bool×Sem ak)}{Q:List ak→aw→Prop}{M:fy}
  (h:bx M A x (λv bq=>bx M A (spliced rest) (λvs bg=>Q (v::vs) bg) bq) s):bx M A (spliced ((false,x)::rest)) Q s:=by
 rw[spliced];refine bG (fB h (λv bq d8=>?_));simp only[pd,if_false];exact bG (dC (bG (uu (fB d8 (λvs bg dP=>dC dP)))))
theorem afp{args:List (Bool×Sem ak)}{Q:Args→aw→Prop}{M:fy}(hp:args.any (λx=>x.1)=false)
  (h:bx M A (spliced args) (λvs s'=>Q ⟨vs,[]⟩ s') s):bx M A (evalArgs f true args []) Q s:=by
 induction args with
 |nil=>
  unfold evalArgs;show bx M A (spliced [] >>= _) Q s;refine bG (fB h (λvs s' h'=>?_));refine bG (dC (uu ?_))
  exact bG (dC (bG (dC (dC h'))))
 |cons x rest=>
  obtain⟨b,x⟩:=x
  have:b=false:=by rw[xP,YM]at hp;exact hp.1
  subst this;unfold evalArgs;show bx M A (spliced ((false,x)::rest) >>= _) Q s;refine bG (fB h (λvs s' h'=>?_));refine uu ?_;exact bG (dC (bG (dC (dC h'))))
theorem afq{M:fy}{P:Heap→Prop}{pos:Pos}{Q:ak→aw→Prop}{args:List (Bool×Sem ak)}(afr:args.any (λx=>x.1)=false)
  (hk:∀h,P h→∃k,(k=Keeper.frame∨k=Keeper.machine∨k=Keeper.boundFrame)∧Looks M h (keeperOf f) k)
  (h:bx M A (evalArgs f true args []) (λa bq=>P bq.heap∧bx M A (call f (first++a.pos) a.kw) Q bq) s):bx M A (lV pos f first args []) Q s:=by
 unfold lV;refine bG (uu (fB h (λa bq d8=>bG (gG (kZ ?_)))));refine a9 (hk _ d8.1) λk c4 L=>?_
 have jo:(args.any (λx=>x.1)||([]:List (Option Str×Sem ak)).any (λx=>x.1.isNone))=false:=by rw[afr];rfl
 refine bG (gG (L.here ?_));rw[jo]
 have tail:∀{t:Sem ak},bx M A t Q bq→bx M A (t >>= λr=>holding [r] point >>= λz=>pure r) Q bq:=
  λht=>bG (fB ht (λr bg hr=>bG (uu (Tp (dC hr)))))
 have marked (mk:ak):bx M A (callMarked mk f (first++a.pos) a.kw) Q bq:=by unfold callMarked;exact ae7 d8.2
 rcases c4 with rfl |rfl |rfl<;>dsimp only<;>first |exact tail d8.2 |(split<;>first |exact tail d8.2 |exact tail (marked _))
end
end
section
open PySem.Spec
theorem afP:qR ⟨.builtin "claim.caller" {},none,none,[],none⟩:=⟨by show wM "claim.caller"=false;decide+kernel,λx hx=>cA hx⟩
theorem afQ{t:Sem Fin}{R:lg→aw→Prop}(afR:s.asleep)
  (h:bx (model prog w) callerA t (λfin s'=>∃f,fin=.done f∧(R (.ok f) s'∧leftWithCleanup s'.gens=false)) s):
  ∃n r s' j0,runN (denote table) prog w n s ⟨t,.builtin "claim.caller" {},default,[]⟩=.halted (outcomeOf r) s'∧
   schedN (denote table) prog w n (.single s ⟨t,.builtin "claim.caller" {},default,[]⟩)=.halted (outcomeOf r) s'∧s'.forget=j0.forget∧R r j0:=by
 have key:Sem.wp (model prog w) ⟨.builtin "claim.caller" {},none,none,[],none⟩ t (Sem.finPost (model prog w) ⟨.builtin "claim.caller" {},none,none,[],none⟩ λr s'=>R r s'∧leftWithCleanup s'.gens=false)
   (λe o s'=>R (.error e) s'∧leftWithCleanup s'.gens=false) default s:=by
  refine vB _ _ t (λfin p' s' h'=>?_) (λo o o z=>z.elim) default s (h _ default caller_in afP);refine a9 h' λf aq hf=>?_;clear h';subst aq;exact hf
 refine tM (wp_halts_full (M:=model prog w) (R:=R) afR key) λn r bq bg hs hn ee hR=>?_;exact⟨n,r,bg,bq,hn,hs,ee,hR⟩
noncomputable abbrev WalkG(q:dv)(loose:List Str)(YP:cM→Heap→Prop)(r:RowW)(d:DefRec)(CZ:List (Str×Expr)):Prop:=
 ∀(w:cM) (cg bq:aw) (mg mb:Str→Option ak),Ground q loose r.records (λ_ _=>True) w cg mg mb bq.heap→YP w bq.heap→∀(a:Addr),mg d.name=some (.ref a)→bq.gens=#[]→
  ∀(args:List WData) (vals:List ak) (as:List Addr),r.claim.pre args=true→WData.layableAll args=true→ReadsAllW r.records (classAt cg.heap) bq.heap vals args as→WellAll w.params bq.heap vals args→(∀a∈as,(a==vC)=false)→
   bx (model r.prog w) callerA (PySem.call (.ref a) vals) (λv s'=>GoodWG r.claim (classAt cg.heap) (ExcName.means cg.heap) args bq (.ok (.ret v)) s') bq
theorem hoG{r:OpenRow}{q:dv}{loose:List Str}{α:Type}{Yf:aw→α}{Ya:cM→α}{YP:cM→Heap→Prop}{d:DefRec}{CZ:List (Str×Expr)}{N:Nat}
  (left:LeftO r.prog q loose (λ_=>true) Yf Ya N)(hY:∀w s,Yf s=Ya w→YP w s.heap)(hYk:∀w h h',YP w h→(∀b o,h.get? b=some o→h'.get? b=some o)→YP w h')
  (I1:defOf q r.name=some (d,CZ))(hp:r.prog.theDef r.name=some (d.params,d.body,d.scope))(hk:kwWritten? d.params.kwonlyargs d.params.kw_defaults=some CZ)(RF:∀h,RecFacts r.records h)(hwr:(!r.writes||r.records.isEmpty)=true)
  (k1:r.wellSaid=true)(ok:(chainsOk q&&opensWell r.prog&&(frees r.toRowW&&r.within.isEmpty))=true)(hb:r.prog.bare)(hw:r.toRowW.promised)
  (call:WalkG q loose YP r.toRowW d CZ):r.Holds:=by
 obtain⟨ok,k5⟩:=Bool.and_eq_true_iff.mp ok;obtain⟨TQ,o1⟩:=Bool.and_eq_true_iff.mp ok;obtain⟨k5,k6⟩:=Bool.and_eq_true_iff.mp k5;obtain⟨afS,hu,ha,hap,hm⟩:=frees_parts k5
 refine⟨k1,hw,⟨hb,o1,by show r.toRowW.makers.map _=[];rw[hm];rfl⟩,hw.witness,λw=>⟨(left.behind (XP:=λ_ _=>True) (λ_ _=>trivial) TQ w).1,λs' cH=>cps λG1 g1=>?_⟩⟩
 refine ZH ((left.behind (XP:=λ_ _=>True) (λ_ _=>trivial) TQ w).2 s' cH) λcg hf hg0 s hT hz GL hg G0 y=>?_;have TR:s.gens=#[]:=Array.eq_empty_of_size_eq_zero (beq_iff_eq.mp GL);have G:Ground q loose r.records _ w s _ _ s.heap:=(RF s.heap).ground G0
 refine g1 ⟨cg,hf,hg0,s,hT,λn hn=>?_,(RF s.heap).1,(RF s.heap).2.1,λargs BC BD ord TS=>cps λG2 g2=>?_⟩
 ·obtain rfl:n=r.name:=by first |exact List.mem_singleton.mp hn |(split at hn<;>simp_all)
  exact pinned_of_view hg G0 I1 hp hk
 obtain⟨⟨vs,bq⟩,zr⟩:=Option.isSome_iff_exists.mp (layAllW_isSome (P:=w.params) (ord:=ord) G.has args r.args s (pre_splitW BC).1);have keeps:=layAllW_keeps _ _ _ zr;have qU:=layAllW_rest _ _ _ zr;refine bF (reads_layAllW TS _ _ _ zr BD bq.heap (λu u e=>e)) λas GN I2 hold=>?_;have L:Laid r.records w s bq args vs as:=⟨⟨ord,TS,zr⟩,GN,I2,hold,keeps,qU.1.trans TR,qU.2.2.1⟩;have I3:=G.keeps (λ_ _ _ _ _=>trivial) keeps;refine ZG (I3.fn I1) λfa fo pm cd doc dV kV f1 f2 f3 f4 f5=>?_;have hi:=ident_freeW hu ha hap;have hwi:r.toRowW.claim.within=[]:=List.isEmpty_iff.mp k6;have walk:=call w s bq _ _ I3 (hYk _ _ _ (hY w s y) keeps) fa (defOf_name I1▸f1) L.gens args vs as BC BD L.reads L.well (L.low G.low)
 have tree:bx (model r.prog w) callerA (do match ←nsGet mainNs r.name with
   |some f=>do ret (←PySem.call f vs)
   |none=>unsupported "claim.caller:no-such-global") (λfin s'=>∃f,fin=.done f∧GoodWG r.toRowW.claim (classAt s.heap) (ExcName.means s.heap) args bq (.ok f) s') bq:=by
  refine bG (gG (wpAny_nsGet I3.T.g ?_));rw[f1];exact bG (fB walk λv s' z=>dC ⟨_,rfl,z⟩)
 refine tM (afQ (prog:=r.prog) (w:=w) (s:=bq)
  (R:=λx s'=>(r.toRowW.claim.Ends s args vs bq x s'∧s'.os=s.os)∧(r.writes=true→namesKept r.prog r.keeps s.heap s'.heap∧∀x∈r.records,∀a,classAt s.heap x.1=some a→recordClass s'.heap a x.1 (x.2.map (λx=>x.1))=true))
  (Shared.asleep_of_life qU.2.2.2 hz)
  (fB tree λfin s' ⟨f,e,g⟩=>by
   have z:=g.laid (c:=r.toRowW.claim) afS hwi hi L
   exact⟨f,e,⟨⟨z.1,z.2.1⟩,λq=>⟨namesKept_of hT hg _ keeps g.2.1.old,noTable hwr q⟩⟩,leftWithCleanup_false_of_bare z.2.2⟩)) λk res s' j0 afT afU ee hz=>?_
 have I4:=hz.1.1;have sE:=hz.1.2;have zt:=hz.2;obtain⟨eh,_,_,eo,_⟩:=Shared.forget_eq ee;have I4:=I4.congr eh;rw[←eh]at zt;rw[←eo]at sE;have afV:s'.heap.life=s.heap.life:=(runN_life _ _ _ afT).trans qU.2.2.2
 refine g2 ⟨vs,bq,zr,k,_,s',afU,?_,(λu i x hx=>by rw[TR]at hx;simp at hx),zt,by rw[afV],Shared.rest_eq sE⟩
 exact I4.imp (Exists.imp λv h=>⟨congrArg outcomeOf h.1,h.2.1,h.2.2.1,h.2.2.2.1,λb o y u=>h.2.2.2.2.1 b o y,h.2.2.2.2.2⟩) (Exists.imp λe=>Exists.imp λob=>Exists.imp λcls h=>⟨congrArg outcomeOf h.1,h.2.1,h.2.2.1,h.2.2.2.1,h.2.2.2.2.1,λb o y u=>h.2.2.2.2.2 b o y⟩)
end
section
open PySem.SeqAt
noncomputable def pY{α:Type}(f:Nat→Nat→Bool):KasT α→α
 |.ret a=>a
 |.ask i j k=>pY f (k (f i j))
noncomputable def qW{α:Type}(n:Nat):KasT α→Bool
 |.ret _=>true
 |.ask i j k=>k9 i n&&k9 j n&&qW n (k true)&&qW n (k false)
theorem TU{α:Type}{n:Nat}{f:Nat→Nat→Bool}{s:aw}{cmp:Nat→Nat→(Bool→aw→Prop)→aw→Prop}(hc:∀i j,i<n→j<n→∀C:Bool→aw→Prop,C (f i j) s→cmp i j C s):
  ∀(t:KasT α) {Q:α→aw→Prop},qW n t=true→Q (pY f t) s→t.kasWp cmp Q s
 |.ret a,Q,_,q=>q
 |.ask i j k,Q,h,q=>by
  refine xa (cK.1 h) λh h4=>xa (cK.1 h) λh h3=>xa (cK.1 h) λh1 h2=>?_;refine hc i j (cG h1) (cG h2) _ ?_;refine TU hc _ ?_ q
  cases f i j
  ·exact h4
  ·exact h3
theorem afW:qW 2 (qy 2)=true:=by decide+kernel
theorem afX:qW 3 (qy 3)=true:=by decide+kernel
theorem afY:qW 4 (qy 4)=true:=by decide+kernel
noncomputable def uw(n:Nat):Nat→List (List Nat)
 |0=>[[]]
 |k+1=>(uw n k).flatMap λl=>(cS n).map λi=>i::l
noncomputable def zu(l:List Nat)(i j:Nat):Bool:=k9 (l.getD i 0) (l.getD j 0)
noncomputable def I5(f:Nat→Nat→Bool):List Nat→Bool
 |[]=>true
 |x::xs=>xs.all (λy=>!f y x)&&I5 f xs
noncomputable def zv(n:Nat)(l:List Nat):Bool:=(pY (zu l) (qy n)).toList.isPerm (cS n)&&I5 (zu l) (pY (zu l) (qy n)).toList
theorem good2:(uw 2 2).all (zv 2)=true:=by decide+kernel
theorem good3:(uw 3 3).all (zv 3)=true:=by decide+kernel
theorem afZ:(uw 4 4).all (zv 4)=true:=by decide+kernel
theorem TV(n:Nat):∀(k:Nat) (l:List Nat),l.length=k→(∀x∈l,x<n)→l∈uw n k
 |0,l,hl,_=>by rw[List.length_eq_zero_iff.mp hl];exact .head _
 |k+1,[],hl,_=>by exact rT hl
 |k+1,x::l,hl,h=>by
  unfold uw;rw[EV]
  exact⟨l,TV n k l (by simpa using hl) (λy hy=>h y (.tail _ hy)),List.mem_map.mpr ⟨x,List.mem_range.mpr (h x (.head _)),rfl⟩⟩
theorem TX{f:Nat→Nat→Bool}:∀{l:List Nat},I5 f l=true→l.Pairwise (λi j=>f j i=false)
 |[],_=>.nil
 |x::xs,h=>by
  exact xa (cK.1 h) λh1 h2=>.cons (λy hy=>mK _▸iy.1 h1 y hy) (TX h2)
theorem TY{α:Type}{n:Nat}{f g:Nat→Nat→Bool}(hh:∀i j,i<n→j<n→f i j=g i j):∀(t:KasT α),qW n t=true→pY f t=pY g t
 |.ret a,_=>rfl
 |.ask i j k,ho=>by
  refine xa (cK.1 ho) λh h4=>xa (cK.1 h) λh h3=>xa (cK.1 h) λh1 h2=>?_;have e:=hh i j (cG h1) (cG h2);show pY f (k (f i j))=pY g (k (g i j));rw[←e];refine TY hh _ ?_
  cases f i j
  ·exact h4
  ·exact h3
structure j2{κ:Type}(lt:κ→κ→Bool):Prop where
 ux:∀a,lt a a=false
 tr:∀a b c,lt a b=true→lt b c=true→lt a c=true
 neg:∀a b c,lt a c=true→lt a b=true∨lt b c=true
theorem filter_lt{α:Type}{p q:α→Bool}:∀{l:List α},(∀x∈l,p x=true→q x=true)→(∃x∈l,q x=true∧p x=false)→(l.filter p).length<(l.filter q).length
 |[],_,⟨x,hx,_⟩=>cA hx
 |y::l,h,⟨x,hx,hq,hp⟩=>by
  have hle:(l.filter p).length≤(l.filter q).length:=by
   clear hx;have h':∀x∈l,p x=true→q x=true:=λx hx=>h x (.tail _ hx);clear h
   induction l with
   |nil=>exact cP _
   |cons z l ih=>
    rw[mM,mM];have:=ih λx hx=>h' x (.tail _ hx)
    by_cases hz:p z=true
    ·rw[if_pos hz,if_pos (h' z (.head _) hz)];simpa using this
    ·rw[if_neg hz];split<;>simp<;>(first |exact rG this |exact this)
  rw[mM,mM]
  rcases List.mem_cons.mp hx with rfl |hx
  ·rw[if_pos hq,if_neg (by rw[hp];decide)];simp;exact qn hle
  ·have:=filter_lt (λx hx=>h x (.tail _ hx)) ⟨x,hx,hq,hp⟩
   by_cases hz:p y=true
   ·rw[if_pos hz,if_pos (h y (.head _) hz)];simpa using this
   ·rw[if_neg hz];split<;>simp<;>(first |exact xJ this |exact this)
theorem filter_le{α:Type}{p q:α→Bool}{l:List α}(h:∀x∈l,p x=true→q x=true):(l.filter p).length≤(l.filter q).length:=by
 induction l with
 |nil=>exact cP _
 |cons z l ih=>
  rw[mM,mM];have:=ih λx hx=>h x (.tail _ hx)
  by_cases hz:p z=true
  ·rw[if_pos hz,if_pos (h z (.head _) hz)];simpa using this
  ·rw[if_neg hz];split<;>simp<;>(first |exact rG this |exact this)
theorem af0{κ:Type}{lt:κ→κ→Bool}(O:j2 lt)(ks:List κ)(d:κ)(h2:2≤ks.length)(h4:ks.length≤4):
  qW ks.length (qy ks.length)=true∧(pY (λi j=>lt (ks.getD i d) (ks.getD j d)) (qy ks.length)).toList.Perm (cS ks.length)∧
   (pY (λi j=>lt (ks.getD i d) (ks.getD j d)) (qy ks.length)).toList.Pairwise (λi j=>lt (ks.getD j d) (ks.getD i d)=false):=by
 have bw:qW ks.length (qy ks.length)=true∧(uw ks.length ks.length).all (zv ks.length)=true:=by
  have:ks.length=2∨ks.length=3∨ks.length=4:=Mo h2 h4
  rcases this with e |e |e<;>rw[e]
  ·exact⟨afW,good2⟩
  ·exact⟨afX,good3⟩
  ·exact⟨afY,afZ⟩
 refine⟨bw.1,?_⟩
 let rk:Nat→Nat:=λi=>((cS ks.length).filter λk=>lt (ks.getD k d) (ks.getD i d)).length
 have I6:∀i,i<ks.length→rk i<ks.length:=λi hi=>by
  have:=filter_lt (l:=cS ks.length) (p:=λk=>lt (ks.getD k d) (ks.getD i d)) (q:=λz=>true) (λz z z=>rfl) ⟨i,List.mem_range.mpr hi,rfl,O.ux _⟩
  have e:(List.filter (λz=>true) (cS ks.length)).length=ks.length:=by rw[List.filter_eq_self.mpr λz z=>rfl];simp
  rw[e]at this;exact this
 have hr:∀i j,i<ks.length→j<ks.length→lt (ks.getD i d) (ks.getD j d)=zu ((cS ks.length).map rk) i j:=λi j hi hj=>by
  have e1:((cS ks.length).map rk).getD i 0=rk i:=by rw[dG,dM,YS hi];rfl
  have e2:((cS ks.length).map rk).getD j 0=rk j:=by rw[dG,dM,YS hj];rfl
  unfold zu;rw[e1,e2]
  cases ck:lt (ks.getD i d) (ks.getD j d)with
  |true=>
   have:rk i<rk j:=filter_lt (λk z hk=>O.tr _ _ _ hk ck) ⟨i,List.mem_range.mpr hi,ck,O.ux _⟩
   exact(Nat.ble_eq.mpr this).symm
  |false=>
   have:rk j≤rk i:=filter_le λk z hk=>by
    rcases O.neg _ (ks.getD i d) _ hk with h |h
    ·exact h
    ·rw[ck]at h;exact eP h
   have:¬rk i<rk j:=by exact Zc this
   cases hb:k9 (rk i) (rk j)with
   |false=>rfl
   |true=>exact absurd (cG hb) this
 have hm:=List.all_eq_true.mp bw.2 _ (TV ks.length ks.length ((cS ks.length).map rk) (by simp) λx hx=>by
  refine a9 (List.mem_map.mp hx) λi hi aq=>?_;subst aq
  exact I6 i (List.mem_range.mp hi))
 unfold zv at hm;rw[rI]at hm;have ec:=TY (n:=ks.length) hr (qy ks.length) bw.1;rw[ec];have hp:=List.isPerm_iff.mp hm.1;refine⟨hp,(TX hm.2).imp_of_mem λhi hj h=>?_⟩;have ff:=List.mem_range.mp (hp.mem_iff.mp hi);have wA:=List.mem_range.mp (hp.mem_iff.mp hj);rw[hr _ _ wA ff];exact h
section
variable{prog:dv}{w:cM}{A:bj}{E:ak→aw→Prop}{s:aw}
theorem af1(vs:List ak):Array.map (λx=>x.2) (vs.toArray.zip vs.toArray)=vs.toArray:=by
 apply Array.ext';simp[List.map_snd_zip]
theorem map_getD{α:Type}(vs:List α)(d:α):(cS vs.length).map (λi=>vs.getD i d)=vs:=by
 apply List.ext_getElem
 ·simp
 ·intro i h1 h2
  simp[h2]
theorem af2{κ:Type}{lt:κ→κ→Bool}(O:j2 lt){n:Nat}{K:SortKind}(ks:List κ)(d:κ){P:PySem.Fin→aw→Prop}(ho:s.heap.get? a=some (jO "list" vs.toArray n))(hl:ks.length=vs.length)(h4:vs.length≤4)
  (hk:2≤vs.length→∀h',(∀b o,b≠a→s.heap.get? b=some o→h'.get? b=some o)→∀Q:SortKind→aw→Prop,Q K {s with heap:=h'}→aM (model prog w) A (keyKind' vs.toArray) Q E {s with heap:=h'})
  (hc:∀h',(∀b o,b≠a→s.heap.get? b=some o→h'.get? b=some o)→∀i j,i<vs.length→j<vs.length→∀C:Bool→aw→Prop,C (lt (ks.getD i d) (ks.getD j d)) {s with heap:=h'}→aM (model prog w) A (keyLt' K (vs.getD i kj) (vs.getD j kj)) C (λz z=>False) {s with heap:=h'})
  (h:∀p:List Nat,p.Perm (cS vs.length)→p.Pairwise (λi j=>lt (ks.getD j d) (ks.getD i d)=false)→∀h' c,(∀b o,b≠a→s.heap.get? b=some o→h'.get? b=some o)→h'.get? a=some (listOf (p.map λi=>vs.getD i kj).toArray c)→P (.done (.ret .none)) {s with heap:=h'}):
  aM (model prog w) A (Builtin.«list.sort» ⟨[.ref a],[]⟩) P E s:=by
 have ha:a<s.heap.objs.size:=mP ho;have s1:=mJ s.heap a (ju λz=>(#[]:Array ak));obtain⟨e1,TZ⟩:∃e1,(s.heap.update a (ju λz=>(#[]:Array ak))).get? a=some (jO "list" #[] e1):=⟨_,get?_update_seq ho λz=>#[]⟩
 have keep:∀b o,b≠a→s.heap.get? b=some o→(((s.heap.update a (ju λz=>(#[]:Array ak))).push (jO "tuple" vs.toArray 0)).push (jO "list" #[] 0)).get? b=some o:=λb o hb e=>
  dY _ (dY _ (s1.extBut b o hb e))
 have na:(((s.heap.update a (ju λz=>(#[]:Array ak))).push (jO "tuple" vs.toArray 0)).push (jO "list" #[] 0)).get? a=some (jO "list" #[] e1):=dY _ (dY _ TZ)
 have fin:∀p:List Nat,p.Perm (cS vs.length)→p.Pairwise (λi j=>lt (ks.getD j d) (ks.getD i d)=false)→∀h':Heap,(∀b o,b≠a→s.heap.get? b=some o→h'.get? b=some o)→h'.get? a=some (jO "list" #[] e1)→
   P (.done (.ret .none)) {s with heap:=h'.update a (ju λz=>(p.map λi=>vs.getD i kj).toArray)}:=λp hp hs h' c4 hg=>by
  have s2:=mJ h' a (ju λz=>(p.map λi=>vs.getD i kj).toArray);obtain⟨c2,C0⟩:∃c2,(h'.update a (ju λz=>(p.map λi=>vs.getD i kj).toArray)).get? a=some (jO "list" (p.map λi=>vs.getD i kj).toArray c2):=⟨_,get?_update_seq hg λz=>_⟩;exact h p hp hs _ c2 (λb o hb e=>s2.extBut b o hb (c4 b o hb e)) C0
 have szl:∀p:List Nat,p.Perm (cS vs.length)→p.length=vs.length:=λp hp=>by rw[hp.length_eq];simp
 rw[list_sort_plain];refine aC (listItems_at ho rfl ?_)
 refine aC (listUpdate_at ho rfl ?_ (by rw[xK,A1];exact cB h4 rfl) (dE _))
 refine aC (seqEpoch_at TZ rfl ?_)
 refine aC (wpAny_newTuple ?_ (by show vs.length≤_;rw[A1];exact cB h4 rfl))
 refine aC (wpAny_newList ?_ (dE _));refine jf ?_
 show aM (model prog w) A _ P E {s with heap:=((s.heap.update a (ju λz=>(#[]:Array ak))).push (jO "tuple" vs.toArray 0)).push (jO "list" #[] 0)}
 dsimp only
 by_cases h2:vs.toArray.size<2
 ·rw[if_pos h2,if_pos h2]
  refine aC (aO ?_);rw[StateT.run_pure];refine aC (aO ?_);dsimp only;refine aC (seqEpoch_at na rfl ?_)
  have zw:vs.length<2:=by simpa using h2
  have e:(Array.map (λx=>x.2) (vs.toArray.zip vs.toArray))=(List.map (λi=>vs.getD i kj) (cS vs.length)).toArray:=by rw[af1,map_getD]
  refine aC (listUpdate_at na rfl ?_ (dE _) (by
   refine aR (rN ?_) (rG (dQ (aR h4 (by decide))))
   show(Array.map (λx=>x.2) (vs.toArray.zip vs.toArray)).size=vs.length
   rw[e];simp))
  simp only[bne_self_eq_false,pd,if_false];refine aO ?_
  have:=fin (cS vs.length) (List.Perm.refl _) (by
   have:vs.length=0∨vs.length=1:=zo (AD zw)
   rcases this with e |e<;>rw[e]
   ·exact .nil
   ·exact .cons (λz h=>cA h) .nil) _ keep na
  rw[←e]at this
  exact this
 ·rw[if_neg h2,if_neg h2]
  have zw:2≤vs.length:=by simpa using h2
  refine aC (hk zw _ keep _ ?_)
  have I7:SortSt.mk' K (vs.toArray.zip vs.toArray) #[] 7 none=kas_st K (pairsOf vs) (Ml (cS vs.length)):=by
   have e:=kas_range (pairsOf vs);rw[pairsOf_size]at e;show SortSt.mk' K (pairsOf vs) #[] 7 none=SortSt.mk' K ((Ml (cS vs.length)).map (kas_item (pairsOf vs))) #[] 7 none;rw[e]
  refine pj (af0 O ks d (aR zw (er hl)) (aR (el hl) h4)) λt1 t2 t3=>?_;rw[hl]at t1 t2 t3
  have ask:(qy vs.length).kasWp (kas_cmp prog w A K (pairsOf vs)) (λp s'=>(p.toList.Perm (cS vs.length)∧p.toList.Pairwise (λi j=>lt (ks.getD j d) (ks.getD i d)=false))∧s'={s with heap:=((s.heap.update a (ju λz=>(#[]:Array ak))).push (jO "tuple" vs.toArray 0)).push (jO "list" #[] 0)})
    {s with heap:=((s.heap.update a (ju λz=>(#[]:Array ak))).push (jO "tuple" vs.toArray 0)).push (jO "list" #[] 0)}:=by
   rw[←kas_ask_eq];exact TU (n:=vs.length) (f:=λi j=>lt (ks.getD i d) (ks.getD j d)) (λi j hi hj C hC=>hc _ keep i j hi hj C hC) _ t1 ⟨⟨t2,t3⟩,rfl⟩
  have run:=kas_runs (E:=E) (Q:=λz zx s'=>∃p:Array Nat,p.size=vs.length∧arrOf zx=p.map (kas_item (pairsOf vs))∧failedOf zx=none∧((p.toList.Perm (cS vs.length)∧p.toList.Pairwise (λi j=>lt (ks.getD j d) (ks.getD i d)=false))∧s'={s with heap:=((s.heap.update a (ju λz=>(#[]:Array ak))).push (jO "tuple" vs.toArray 0)).push (jO "list" #[] 0)}))
   zw (l1 h4 (by simp+arith only)) (λp' zx s' a1 a2 a3 a4=>⟨p',a1,a2,a3,a4⟩) ask
  rw[←I7]at run;refine aC (b0 run ?_ λz z e=>e);rintro⟨⟨⟩,zx⟩ s' ⟨p,hp,har,hf,⟨q1,q2⟩,rfl⟩;dsimp only
  have HT:(arrOf zx).map (λx=>x.2)=Ml (p.toList.map λi=>vs.getD i kj):=by
   apply Array.toList_inj.mp;rw[har,Array.map_map,Zd]
   exact pb λi z=>by show(kas_item (pairsOf vs) i).2=_;rw[kas_item_eq]
  rw[HT];refine aC (seqEpoch_at na rfl ?_)
  refine aC (listUpdate_at na rfl ?_ (dE _) (by rw[xK,aZ,szl p.toList q1];exact rG (dQ (aR h4 (by decide)))))
  rw[hf];simp only[bne_self_eq_false,pd,if_false];exact aO (fin p.toList q1 q2 _ keep na)
end
end
section
open PySem.SeqAt
open PySem.Builtin in
theorem af3(b c:Array UInt8)(t u:Tok):Gives («bytes.__lt__» ⟨[.bytes b t,.bytes c u],[]⟩) (.val (.bool (i5 b.toList c.toList))):=by
 refine .of_wp λM A E s Q hq=>?_;show aM M A (isInstance (.bytes c u) (.type "bytes") >>= λr=>_) _ E s;refine aC (AI (fZ s c u) F.sub_bytes_bytes ?_);exact aO ⟨_,rfl,hq⟩
section
variable{prog:dv}{w:cM}{A:bj}{E:ak→aw→Prop}{s:aw}{b c:Array UInt8}{t u:Tok}
theorem af4{Q:ak→aw→Prop}(h:Q (.bool (i5 b.toList c.toList)) s):aM (model prog w) A (compareOp .Lt (.bytes b t) (.bytes c u)) Q E s:=
 compareOp_gives (op:=.Lt) (fZ s b t) (fZ s c u) IK Sm (Sn _ _) (af3 b c t u) (λe=>nomatch e) h
theorem af5{Q:ak→aw→Prop}(h:Q (.bool (i5 b.toList c.toList)) s):aM (model prog w) A (call (.builtin "bytes.__lt__") [.bytes b t,.bytes c u]) Q E s:=by
 refine rH IK (fZ s b t) Sm ?_ (Sn _ _);show aM _ _ (isInstance (.bytes c u) (.type "bytes") >>= λr=>_) _ _ s;refine aC (AI (fZ s c u) PySem.F.sub_bytes_bytes ?_);exact aO ⟨_,rfl,h⟩
theorem af6{Q:Bool→aw→Prop}(h:Q (i5 b.toList c.toList) s):aM (model prog w) A (oneLt' true (.bytes b t) (.bytes c u)) Q E s:=by
 rw[oneLt'_eq];simp only[if_true];refine aC (wpAny_cRoomFor_byValue rfl ?_);refine aC (wpAny_callSpecialIfBound?_slot (fZ s b t) IK (af5 ?_));exact AE h
end
theorem af7{a b:List UInt8}:EK a b=.lt↔a<b:=by
 induction a generalizing b with
 |nil=>cases b<;>simp[EK]
 |cons x xs ih=>
  induction b with
  |nil=>simp[EK]
  |cons y ys=>
   unfold EK;rw[List.cons_lt_cons_iff]
   by_cases h1:x<y
   ·simp[h1]
   ·by_cases h2:x>y
    ·have:x≠y:=λe=>by subst e;exact absurd h2 (UInt8.lt_irrefl _)
     simp[h1,h2,this]
    ·have:x=y:=UInt8.le_antisymm (UInt8.not_lt.mp h2) (UInt8.not_lt.mp h1)
     subst this;simp[h1,ih]
theorem qX{a b:List UInt8}:i5 a b=true↔a<b:=by
 unfold i5;rw[beq_iff_eq];exact af7
theorem j2.bytes:j2 i5 where
 ux a:=by cases h:i5 a a with |false=>rfl |true=>exact absurd (qX.mp h) (List.lt_irrefl a)
 tr a b c h k:=qX.mpr (List.lt_trans (qX.mp h) (qX.mp k))
 neg a b c h:=by
  cases k:i5 a b with
  |true=>exact .inl rfl
  |false=>
   right
   have:¬a<b:=λz=>by rw[qX.mpr z]at k;exact iR k
   exact qX.mpr (List.lt_of_le_of_lt (List.not_lt.mp this) (qX.mp h))
theorem T8{a b:List UInt8}(h:i5 a b=false)(k:i5 b a=false):a=b:=by
 have h':¬a<b:=λz=>by rw[qX.mpr z]at h;exact iR h
 have k':¬b<a:=λz=>by rw[qX.mpr z]at k;exact iR k
 exact List.le_antisymm (List.not_lt.mp k') (List.not_lt.mp h')
noncomputable def uy(a b:Int):Bool:=decide (a<b)
theorem j2.ints:j2 uy where
 ux a:=by simp[uy]
 tr a b c h k:=by simp only[uy,decide_eq_true_eq]at*;exact pg h k
 neg a b c h:=by simp only[uy,decide_eq_true_eq]at*;exact Zv h
theorem j2.lC:j2 oH where
 ux a:=by simp[oH,j2.bytes.ux]
 tr a b c h k:=by
  simp only[oH,L6,rI,decide_eq_true_eq]at*
  rcases h with h |⟨h,h'⟩<;>rcases k with k |⟨k,k'⟩
  ·left;exact pg h k
  ·left;rw[←k];exact h
  ·left;rw[h];exact k
  ·right;exact⟨by exact h.trans k,j2.bytes.tr _ _ _ h' k'⟩
 neg a b c h:=by
  simp only[oH,L6,rI,decide_eq_true_eq]at*
  rcases h with h |⟨h,h'⟩
  ·rcases Y3 a.1 b.1 with k |k |k
   ·exact .inl (.inl k)
   ·right;left;rw[←k];exact h
   ·right;left;exact pg k h
  ·rcases Y3 a.1 b.1 with k |k |k
   ·exact .inl (.inl k)
   ·rcases j2.bytes.neg _ b.2 _ h' with z |z
    ·exact .inl (.inr ⟨k,z⟩)
    ·exact .inr (.inr ⟨by exact k.symm.trans h,z⟩)
   ·right;left;rw[←h];exact k
theorem af8{a b:Int×List UInt8}(h:oH a b=false)(k:oH b a=false):a=b:=by
 simp only[oH,YM,Bool.and_eq_false_iff,decide_eq_false_iff_not]at*;have e:a.1=b.1:=Int.le_antisymm (nZ.1 k.1) (nZ.1 h.1);have:a.2=b.2:=T8 (h.2.resolve_left λz=>z e) (k.2.resolve_left λz=>z e.symm);exact Prod.ext e this
section
variable{prog:dv}{w:cM}{A:bj}{E:ak→aw→Prop}{s:aw}
theorem af9{T:String}(hT:(k8 T==k8 "tuple")=false):∀{pZ p7:ak} {vs:List ak},(∀v∈pZ::p7::vs,firstOfTuple' v=pure none∧typeOf v=pure (k8 T))→keyKind' (pZ::p7::vs).toArray=pure oneType':=by
 intro pZ p7 vs hS
 have m1:∀l:List ak,(∀v∈l,firstOfTuple' v=pure none∧typeOf v=pure (k8 T))→l.mapM firstOfTuple'=pure (l.map λz=>none)∧l.mapM typeOf=pure (l.map λz=>k8 T):=by
  intro l hl
  induction l with
  |nil=>simp
  |cons x l ih=>
   refine xa (ih λv hv=>hl v (.tail _ hv)) λi1 i2=>?_;refine xa (hl x (.head _)) λh1 h2=>?_;rw[List.mapM_cons,List.mapM_cons,h1,h2,i1,i2];simp
 refine xa (m1 _ hS) λk1 k2=>?_;rw[keyKind'_eq,List.mapM_toArray,k1];simp only[map_pure,A6]
 rw[if_neg (by simp),if_neg (by simp)]
 rw[oneTypeOnly'_eq,List.mapM_toArray,k2];simp only[map_pure,A6]
 have sL:((List.map (λz=>k8 T) (pZ::p7::vs)).toArray.all λx=>x==k8 T)=true:=by
  simp only[List.all_toArray,List.all_map,iy];intro _ _;simp
 have h0:(List.map (λz=>k8 T) (pZ::p7::vs)).toArray[0]?=some (k8 T):=by simp
 rw[h0];simp only[sL,if_true,A6,YV]
end
structure oI(c:Cx)(κ:Type)(mk:κ→CV)(lt:κ→κ→Bool)(K:SortKind):Prop where
 ord:j2 lt
 kind:∀{A:bj} {s:aw} {ks:List κ} {vs:List ak} {Q:SortKind→aw→Prop} {E:ak→aw→Prop},aN s.heap (ks.map mk) vs→2≤vs.length→Q K s→aM c.M A (keyKind' vs.toArray) Q E s
 cmp:∀{A:bj} {s:aw} {a b:κ} {v w:ak} {C:Bool→aw→Prop},aV s.heap (mk a) v→aV s.heap (mk b) w→C (lt a b) s→aM c.M A (keyLt' K v w) C (λz z=>False) s
theorem T9(h:2≤vs.length):∃pZ p7 r,vs=pZ::p7::r:=by
 match vs,h with
 |pZ::p7::r,_=>exact⟨_,_,_,rfl⟩
theorem oI.ints{c:Cx}:oI c Int .int uy oneType' where
 ord:=j2.ints
 kind:=λr h q=>by
  have:=r.CL;refine Fp (T9 h) λpZ p7 vs aq=>?_;subst aq;rw[keyKind_ints this];exact aO q
 cmp:=λr1 r2 q=>by cases r1;cases r2;exact oneLt_int q
theorem oI.bytes{c:Cx}:oI c (List UInt8) .bytes i5 oneType' where
 ord:=j2.bytes
 kind:=λr h q=>by
  refine Fp (T9 h) λpZ p7 vs aq=>?_;subst aq
  rw[af9 (T:="bytes") (by decide) λv hv=>by refine gF ((aN.any (k:=[]) aV.Ql r).2 v hv) λi t aq=>?_;subst aq;exact⟨rfl,rfl⟩]
  exact aO q
 cmp:=λr1 r2 q=>by cases r1;cases r2;exact af6 (by simpa using q)
theorem Ua{h:Heap}:∀{ks:List (Int×List UInt8)} {vs:List ak},aN h (ks.map mn) vs→∃fs,KatTups h vs fs∧fs.length=vs.length∧∀f∈fs,∃i t,f=Value.int i t
 |[],[],_=>⟨[],.nil,rfl,λz h=>cA h⟩
 |[],_::_,r=>by cases r
 |_::_,[],r=>by cases r
 |k::ks,v::vs,.cons e r=>by
  refine bF (Ua r) λfs g1 g2 g3=>?_
  cases e with
  |@tup _ a items n hg rs=>
   obtain⟨l⟩:=items;obtain _ |⟨r1,_ |⟨r2,_ |_⟩⟩:=rs;cases r1
   exact⟨_::fs,.cons hg rfl rfl rfl g1,by simp[g2],λf hf=>by
    rcases List.mem_cons.mp hf with rfl |hf
    ·exact⟨_,_,rfl⟩
    ·exact g3 f hf⟩
theorem aV.Ub{h:Heap}{a:Int×List UInt8}(r:aV h (mn a) v):∃x n t u,v=.ref x∧h.get? x=some (d7 #[.int a.1 t,.bytes a.2.toArray u] n):=by
 refine f7 r.jl λx i n zq e s=>?_;subst zq;refine jg s.iT λv1 w1 z1 q1 s=>?_;refine jg s.iT λv2 w2 z2 q2 s=>?_;rw[s.jU]at z2;refine xe q1.bZ λt g1=>?_;refine xe q2.fP λu g2=>?_;refine⟨x,n,t,u,rfl,e.trans ?_⟩;rw[g1,z2,g2]at z1;rw[←Array.toList_inj.1 (show i.toList=#[Value.int a.1 t,.bytes a.2.toArray u].toList from z1)]
theorem oI.lC{c:Cx}:oI c (Int×List UInt8) mn oH (tuples' true) where
 ord:=j2.lC
 kind:=λ{A s ks vs Q E} r h q=>by
  have hf:=Ua r;refine bF hf λfs g1 g2 g3=>?_
  exact kat_kind (T:=.type "int") g1 (iQ (ey h (er g2))) (λf hf=>by refine gF (g3 f hf) λi t aq=>?_;subst aq;exact .now) (by decide) q
 cmp:=λ{A s a b v w C} r1 r2 q=>by
  refine ML r1.Ub λx n1 t1 u1 zq h1=>?_;subst zq;refine ML r2.Ub λy n2 t2 u2 zq h2=>?_;subst zq;refine kat_lt h1 rfl h2 rfl ?_;refine kat_cons (ES ?_);unfold oH at q
  refine kat_go (λhe=>kat_yes ?_) (λhe=>kat_no (oneLt_int ?_))
  ·have e:a.1=b.1:=by simpa using he
   refine kat_cons (eqBool_bytes ?_)
   refine kat_go (λqO=>kat_yes (kat_nil ?_)) (λqO=>kat_no (kat_one _ _ (af4 ?_)))
   ·have e2:a.2=b.2:=by simpa using qO
    rw[e,e2,j2.bytes.ux]at q
    simpa using q
   ·rw[e]at q
    have:i5 a.2.toArray.toList b.2.toArray.toList=i5 a.2 b.2:=by simp
    rw[this];show PySem.W.BoolBack C (.bool (i5 a.2 b.2)) s
    simpa[PySem.W.BoolBack]using q
  ·have e:a.1≠b.1:=by simpa using he
   simpa[e]using q
end
section
open PySem.SeqAt
theorem I8{h:Heap}(r:aN h xs vs)(hi:i<vs.length){d:CV}{e:ak}:aV h (xs.getD i d) (vs.getD i e):=by
 have hx:i<xs.length:=by rw[r.length];exact hi
 refine a9 (r.get (bS hx)) λv h1 h2=>?_;rw[dG,dG,h1,bS hx];exact h2
theorem aN.pick{h:Heap}(r:aN h xs vs){d:CV}{e:ak}:∀p:List Nat,(∀i∈p,i<vs.length)→aN h (p.map λi=>xs.getD i d) (p.map λi=>vs.getD i e)
 |[],_=>.nil
 |i::p,hp=>.cons (I8 r (hp i (.head _))) (aN.pick r p λj hj=>hp j (.tail _ hj))
theorem getD_map{α β:Type}(f:α→β)(l:List α)(d:α)(i:Nat):(l.map f).getD i (f d)=f (l.getD i d):=by
 rw[dG,dG,dM];cases l[i]?<;>rfl
section
variable{c:Cx}{A:bj}{σ:St}{s:aw}
theorem aga{x:CO}{dr:Drawn}(R:Rel c σ s.heap)(keep:∀b o,s.heap.get? b=some o→h'.get? b=some o)(hn:s.heap.get? a=none)(r:c.H0.get? a=none→eK c h' a x)(q:σ.new x Q):cC c σ s Q (.ref a) {s with heap:=h',toks:=tk,drawn:=dr}:=
 ⟨_,_,.loc a,⟨(R.kept keep).new (r (R.out hn)),(Ext.kept keep).new hn (R.fresh hn),rfl,rfl⟩,q a (R.fresh hn)⟩
theorem C1{κ:Type}{mk:κ→CV}{lt:κ→κ→Bool}{K:SortKind}(S:oI c κ mk lt K)(d:κ){r:ak}{PK:List κ→Prop}(R:Rel c σ s.heap)
  (agb:∀R':List ak→aw→Prop,(∀h' tk d acc (ks:List κ),(∀b o,s.heap.get? b=some o→h'.get? b=some o)→aN h' (ks.map mk) acc→ks.length≤4→PK ks→R' acc {s with heap:=h',toks:=tk,drawn:=d})→aM c.M A.in1 (collect r) R' No s)
  (q:∀ks,PK ks→∀ws:List κ,ws.Perm ks→ws.Pairwise (λx y=>lt y x=false)→σ.new (.list (ws.map mk)) Q):aM c.M A (call (.builtin "sorted") [r]) (cC c σ s Q) No s:=by
 refine Calls.call_function_entry kind_sorted plain_sorted entry_sorted (args_sorted1 _) ?_;unfold Builtin.«sorted»;refine aC (m:=checkCount "sorted" 1 1 _) (aO ?_);refine aC (agb _ λh' tk d' vs ks keep rs h4 pk=>?_)
 have hl:ks.length=vs.length:=by have:=rs.length;rwa[aZ]at this
 refine aC (yU (s:={s with heap:=h',toks:=tk,drawn:=d'}) ?_ (dQ (Zi hl h4 rfl)))
 have Uc:(h'.push {cls:=.type "list",data:=.seq vs.toArray}).get? h'.objs.size=some (jO "list" vs.toArray 0):=fW _ rfl
 have hn:s.heap.get? h'.objs.size=none:=by
  cases q0:s.heap.get? h'.objs.size with
  |none=>rfl
  |some o=>have:=keep _ _ q0;rw[kH]at this;exact bo this
 have I9:∀h2:Heap,(∀b o,b≠h'.objs.size→(h'.push {cls:=.type "list",data:=.seq vs.toArray}).get? b=some o→h2.get? b=some o)→aN h2 (ks.map mk) vs:=λh2 k2=>
  rs.bQ λb items n e=>k2 b _ (λz=>by rw[z,kH]at e;exact bo e) (dY _ e)
 refine aC (jf (rH slot_list_sort ⟨_,Uc,rfl⟩ entry_list_sort (af2 S.ord ks d Uc hl (aR (er hl) h4) (λh2 h3 k3 Q' q'=>S.kind (I9 h3 k3) h2 q') (λh3 k3 i j hi hj C hC=>?_) λp hp hs h3 c3 k3 hg=>⟨_,rfl,?_⟩) (args_list_sort _)))
 ·have:=I9 h3 k3
  refine S.cmp ?_ ?_ hC
  ·have z:=I8 this hi (d:=mk d) (e:=kj);rwa[getD_map mk ks d i]at z
  ·have z:=I8 this hj (d:=mk d) (e:=kj);rwa[getD_map mk ks d j]at z
 ·refine aO ⟨_,rfl,?_⟩
  have hpm:∀i∈p,i<vs.length:=λi hi=>List.mem_range.mp (hp.mem_iff.mp hi)
  have zi:∀b o,s.heap.get? b=some o→h3.get? b=some o:=λb o e=>k3 b o (λz=>by rw[z,hn]at e;exact bo e) (dY _ (keep b o e))
  refine aga (tk:=tk) (dr:=d') (x:=.list ((p.map λi=>ks.getD i d).map mk)) R zi hn (λz=>⟨z,_,_,hg,?_⟩) (q ks pk _ ?_ ?_)
  ·have:=(I9 h3 k3).pick (d:=mk d) (e:=kj) p hpm
   rw[dp]
   have e:(λi=>(ks.map mk).getD i (mk d))=mk∘λi=>ks.getD i d:=by funext i;exact getD_map mk ks d i
   rw[e]at this
   simpa using this
  ·have:=hp.map λi=>ks.getD i d
   rw[←hl,map_getD]at this
   exact this
  ·rw[Y0];exact hs
theorem agc{κ:Type}[DecidableEq κ]{knd:KeyKind c.prog c.w κ}{mk:κ→CV}(Ja:∀h k v,knd.is k v=true→aV h (mk k) v){h:Heap}{kvs:List (κ×ak)}:∀(acc:List ak),(∀(j:Nat) (v:ak),acc[j]?=some v→∃k x,kvs[j]?=some (k,x)∧knd.is k v=true)→acc.length=kvs.length→aN h ((kvs.map (λx=>x.1)).map mk) acc:=by
 induction kvs with
 |nil=>intro acc _ hl;rw[List.length_eq_zero_iff.mp hl];exact .nil
 |cons kv kvs ih=>
  intro acc hv hl
  cases acc with
  |nil=>exact rT hl
  |cons v acc=>
   refine gH (hv 0 v rfl) λk x h1 h2=>?_;simp only[List.getElem?_cons_zero,Option.some.injEq]at h1;subst h1
   exact .cons (Ja _ _ _ h2) (ih acc (λj v e=>hv (j+1) v e) (by simpa using hl))
theorem Ud{κ:Type}[DecidableEq κ]{knd:KeyKind c.prog c.w κ}{mk:κ→CV}(Ja:∀h k v,knd.is k v=true→aV h (mk k) v){kvs:List (κ×ak)}(hh:A.handled=none)(lo:(a==vC)=false)(hd:s.heap.DictOf knd a kvs)(h4:kvs.length≤4)
  (R':List ak→aw→Prop)(h:∀h' tk d acc (ks:List κ),(∀b o,s.heap.get? b=some o→h'.get? b=some o)→aN h' (ks.map mk) acc→ks.length≤4→ks=kvs.map (λx=>x.1)→R' acc {s with heap:=h',toks:=tk,drawn:=d}):aM c.M A.in1 (collect (.ref a)) R' No s:=by
 refine xe hd.dictAt λep mq=>?_;refine kdu_collect (A:=A.in1) (kdl_dict (knd:=knd) (kvs:=kvs) (ep:=ep) lo) hh mq (dQ (cB h4 rfl)) λh' tk acc hk mr=>?_
 refine h h' tk s.drawn acc.toList (kvs.map (λx=>x.1)) hk ?_ (by simpa using h4) rfl
 exact agc Ja _ (λj v e=>mr.2 j v (by simpa using e)) (by simpa using mr.1)
theorem agd(h:Heap)(k:Int)(v:ak)(e:(intKind c.prog c.w).is k v=true):aV h (.int k) v:=by
 cases v<;>simp[intKind,xS]at e;subst e;exact .int _ _
theorem age(h:Heap)(k:List UInt8)(v:ak)(e:(fL c.prog c.w).is k v=true):aV h (.bytes k) v:=by
 cases v<;>simp[fL,tK]at e;subst e;exact .bytes _ _
theorem agf{ws:List Int}(h:ws.Pairwise (λx y=>uy y x=false)):ws.Pairwise (·≤·):=h.imp λ{a b} z=>by simp only[uy,decide_eq_false_iff_not]at z;exact nZ.1 z
end
end
section
variable{prog:dv}{w:cM}{A:bj}{E:ak→aw→Prop}{s:aw}
theorem wp_choose{M:fy}{src:Source}{n:Nat}{Q:Nat→aw→Prop}(hn:n≠0)(h:∀i,i<n→Q i {s with drawn:=s.drawn.bump src}):aM M A (choose src n) Q E s:=
 λΓ p _=>⟨hn,h _ (Fi _ (Nat.pos_of_ne_zero hn))⟩
theorem Jb{α:Type}:∀{l:List α} {i:Nat} (h:i<l.length),(l[i]::l.eraseIdx i).Perm l
 |x::l,0,h=>.refl _
 |x::l,i+1,h=>(List.Perm.swap _ _ _).trans ((Jb (l:=l) (i:=i) (by simpa using h)).cons x)
theorem Ue{α:Type}:∀(n:Nat) (xs:List α) {s:aw} {Q:List α→aw→Prop},xs.length=n→(∀ys d,ys.Perm xs→Q ys {s with drawn:=d})→aM (model prog w) A (drawOrder n xs) Q E s
 |0,xs,s,Q,hl,q=>by
  rw[List.length_eq_zero_iff.mp hl]at q;unfold drawOrder
  exact aO (q [] s.drawn (.refl _))
 |n+1,[],s,Q,hl,q=>by exact rT hl
 |n+1,x::xs,s,Q,hl,q=>by
  unfold drawOrder
  refine aC (wp_choose (by simp) λi hi=>?_)
  rw[bS hi];dsimp only
  refine aC (Ue n _ (by rw[YO,if_pos hi];simp at hl ⊢;exact hl) λys d hp=>aO (q _ _ ?_))
  exact(hp.cons _).trans (Jb hi)
theorem C6{M:fy}{Q:Bool→aw→Prop}(h:Q (M.w.params.followText "set-order") s):aM M A setsByText Q E s:=by
 unfold setsByText;exact aC (Ze (aO h))
theorem oJ:Slot "set_iterator" "__next__" "set_iterator.__next__":=
 .of (owner:="set_iterator") (n:="__next__") (by rw[iO,iM];kernel_rfl) (by decide+kernel) (by decide+kernel) (by decide+kernel)
  (by first |exact .inl (by decide+kernel) |exact .inr (by decide+kernel)) (by rw[lS];kernel_rfl)
theorem C7:jw table "set_iterator.__next__"=some Builtin.«set_iterator.__next__»:=by first |exact qo (by kernel_rfl) |exact qp (by kernel_rfl)
theorem Ug:Manifest.owners.lookup (String.ofList ['r','o','t','a','r','e','t','i','_','t','e','s'].reverse)=some Manifest.sig_set_iterator:=by kernel_rfl
theorem C8(a:ak):gk "set_iterator.__next__" ⟨[a],[]⟩:=by
 unfold gk;rw[pf (id:="set_iterator.__next__") (n:=['_','_','t','x','e','n','_','_']) (o:=['r','o','t','a','r','e','t','i','_','t','e','s']) (by kernel_rfl) Ug];kernel_rfl
theorem agg:jw table "set.__iter__"=some Builtin.«frozenset.__iter__»:=
 entryFor_alias (id':="frozenset.__iter__") (by kernel_rfl) rfl (by decide+kernel) (by kernel_rfl)
noncomputable def kM(h:Heap)(it:Addr)(f:ak)(i:Nat)(a:ak)(n ep:Nat):Prop:=∃o,h.get? it=some o∧o.cls=.type "set_iterator"∧o.data=.fields #[f,.int i 0,a,.int n 0,.int ep 0]
theorem kM.typeIs{s:aw}{a:ak}{n:Nat}(x:kM s.heap it f i a n ep):s.TypeIs (.ref it) "set_iterator":=let⟨o,ho,hc,_⟩:=x;⟨o,ho,hc⟩
theorem kM.at{h:Heap}{a:ak}{n:Nat}(x:kM h it f i a n ep)(e:∀o,h.get? it=some o→h'.get? it=some o):kM h' it f i a n ep:=let⟨o,ho,r⟩:=x;⟨o,e _ ho,r⟩
structure gT(h:Heap)(a:Addr)(es:Array (Int×ak))(ep:Nat)(t:fM):Prop where
 ex:∃o,h.get? a=some o∧o.ExactSet∧o.data=.set es ep t
 ft:t.fits es.size=true
theorem gT.at{h:Heap}{t:fM}(x:gT h a es ep t)(e:∀o,h.get? a=some o→h'.get? a=some o):gT h' a es ep t:=
 let⟨o,ho,r⟩:=x.ex;⟨⟨o,e _ ho,r⟩,x.ft⟩
theorem Uh{M:fy}{P:Addr}{m:Nat}{Q:Option (Array ak)→aw→Prop}(hP:s.heap.get? P=some {cls:=.type "tuple",data:=.seq c0 m})(h:Q (some c0) s):aM M A (xT (.ref P)) Q E s:=by
 unfold xT;refine aC (tE hP ?_);exact aO h
theorem agh{P:Addr}{n:Nat}{t:fM}{m p:Nat}{tk:Tok}{x:Int×ak}{Q:Option ak→aw→Prop}
  (hit:kM s.heap it (.ref P) i (.ref a) n ep)(hs:gT s.heap a es ep t)(hn:es.size=n)(hP:s.heap.get? P=some {cls:=.type "tuple",data:=.seq c0 m})(hi:c0[i]?=some (.int (p:Nat) tk))(hp:es[p]?=some x)
  (h:∀h',kM h' it (.ref P) (i+1) (.ref a) n ep→jt it s.heap h'→Q (some x.2) {s with heap:=h'}):aM (model prog w) A (mV (.ref it)) Q E s:=by
 obtain⟨o,ho,hc,hd⟩:=id hit;refine bF hs.ex λso jq sM jr=>?_;unfold mV;refine aC (AV (Av (name:=fK "__next__") hit.typeIs oJ (rH oJ hit.typeIs C7 ?_ (C8 _))));unfold Builtin.«set_iterator.__next__» slotArgs;refine aC (aO ?_);refine aC (L8 ho hd ?_);dsimp only;refine aC (EL jq jr hs.ft ?_)
 rw[if_neg (by rw[hn];simp)]
 refine aC (Uh hP ?_);dsimp only;rw[pe,hi];dsimp only;unfold setNextDrawn;refine aC (aC (AH jq jr hs.ft ?_));dsimp only
 rw[if_neg (by simp),pe]
 refine aC (aO ?_);rw[hp];refine aO ?_
 refine aC (AO ho hd (by simp) ?_)
 exact aO ⟨_,rfl,aO (h _ ⟨_,rD _ ho (Ln (vr hd _)),(Y4 ..).trans hc,by rw[vr hd];simp[mW]⟩ (mJ ..))⟩
theorem Ui{Q:Option ak→aw→Prop}{R:PySem.Fin→aw→Prop}(hh:A.handled=none)(hQ:∀h',(∀b o,s.heap.get? b=some o→h'.get? b=some o)→Q none {s with heap:=h'}):
  aM (model prog w) A.in1 (do let x ←newExc (.type "StopIteration") [];raiseNew x) R (λe s'=>aM (model prog w) A (do let b ←isInstance e (.type "StopIteration");if b=true then pure none else throw e) Q E s') s:=by
 refine aC ?_;unfold newExc newTuple
 refine aC (rF ?_ (by size_fits))
 refine aC (m:=firstArgMember _ _) (eF (a:=kj) (by first |rfl |(simp only[firstArgMember];rfl)) ?_)
 refine rF ?_ (by size_fits)
 unfold raiseNew;refine aC (wpAny_handled ?_);rw[show A.in1.handled=none from hh];refine aC (aO (wpAny_throw ?_));refine aC (AI (T:="StopIteration") (b:=true) ⟨_,fW _ rfl,rfl⟩ isSubtype_stop ?_);exact aO (hQ _ λb o e=>dY _ (dY _ e))
theorem agi{P:Addr}{n:Nat}{t:fM}{m:Nat}{Q:Option ak→aw→Prop}(hh:A.handled=none)
  (hit:kM s.heap it (.ref P) i (.ref a) n ep)(hs:gT s.heap a es ep t)(hn:es.size=n)(hP:s.heap.get? P=some {cls:=.type "tuple",data:=.seq c0 m})(hi:c0[i]?=none)
  (h:∀h',A0 it s.heap h'→Q none {s with heap:=h'}):aM (model prog w) A (mV (.ref it)) Q E s:=by
 obtain⟨o,ho,hc,hd⟩:=id hit;refine bF hs.ex λso jq sM jr=>?_;unfold mV;refine aC (AV (Av (name:=fK "__next__") hit.typeIs oJ (rH oJ hit.typeIs C7 ?_ (C8 _))));unfold Builtin.«set_iterator.__next__» slotArgs;refine aC (aO ?_);refine aC (L8 ho hd ?_);dsimp only;refine aC (EL jq jr hs.ft ?_)
 rw[if_neg (by rw[hn];simp)]
 refine aC (Uh hP ?_);dsimp only;rw[pe,hi];dsimp only
 refine aC (AO ho hd (by simp) ?_)
 have iZ:=rD (tA (·.setIfInBounds 0 (mW 0))) ho (Ln (vr hd _));have s1:=mJ s.heap it (tA (·.setIfInBounds 0 (mW 0)))
 refine aC (AO iZ (vr hd _) (by simp) ?_)
 have s2:=mJ (s.heap.update it (tA (·.setIfInBounds 0 (mW 0)))) it (tA (·.setIfInBounds 2 kj));refine Ui hh λh' k=>h _ λb o hb e=>k _ _ (s2.extBut b o hb (s1.extBut b o hb e))
noncomputable def C9(prog:dv)(w:cM)(A:bj)(a:Addr)(slot i ep:Nat)(s:aw)(r:Option (ak×Nat)):Prop:=
 ∀(E:ak→aw→Prop) (R:Option (ak×Nat)→aw→Prop),R r s→aM (model prog w) A (setNext a slot i ep) R E s
theorem Uj{t:fM}(hT:w.params.followText "set-order"=true)(hs:gT s.heap a es ep t):
  C9 prog w A a slot i ep s (((xU (w.params.setOrder a ep) es)[i]?).map λe=>(e.2,slot)):=λE R h=>by
 refine bF hs.ex λso jq sM jr=>?_;unfold setNext;refine aC (AH jq jr hs.ft ?_);dsimp only;refine aC (C6 ?_)
 show aM _ _ (if w.params.followText "set-order"=true then _ else _) _ _ _
 rw[if_pos hT,if_neg (by simp)]
 refine aC ?_;unfold setWalk;refine aC (AH jq jr hs.ft ?_);dsimp only;refine aC (C6 ?_)
 show aM _ _ (if w.params.followText "set-order"=true then _ else _) _ _ _
 rw[if_pos hT];exact aC (Ze (aO (aO h)))
theorem Uk{t:fM}(hT:w.params.followText "set-order"=false)(hl:t.led=true)(h1:es.size≤1)(hs:gT s.heap a es ep t):
  C9 prog w A a slot i ep s (match es[AP t.place slot]?,t.place[AP t.place slot]? with |some (_,x),some j=>some (x,j+1) |_,_=>none):=λE R h=>by
 refine bF hs.ex λso jq sM jr=>?_;unfold setNext;refine aC (AH jq jr hs.ft ?_);dsimp only;refine aC (C6 ?_)
 show aM _ _ (if w.params.followText "set-order"=true then _ else _) _ _ _
 rw[if_neg (by rw[hT];decide)]
 refine EZ (λkN=>?_) (λz=>?_)
 ·have:(!t.plain&&decide (es.size>1))=true:=kN
  simp at this
  exact absurd this.2 (Zc h1)
 ·refine aC ?_
  show aM _ _ (if(!t.led&&!es.isEmpty)=true then _ else _) _ _ _
  rw[if_neg (by rw[hl];simp)]
  exact aO (aO h)
theorem Ul{n nx:Nat}{t:fM}{x:ak}{Q:Option ak→aw→Prop}
  (hit:kM s.heap it (.int (slot:Nat) 0) i (.ref a) n ep)(hs:gT s.heap a es ep t)(hn:es.size=n)(hx:C9 prog w A.in1 a slot i ep s (some (x,nx)))
  (h:∀h',kM h' it (.int (nx:Nat) 0) (i+1) (.ref a) n ep→jt it s.heap h'→Q (some x) {s with heap:=h'}):aM (model prog w) A (mV (.ref it)) Q E s:=by
 obtain⟨o,ho,hc,hd⟩:=id hit;refine bF hs.ex λso jq sM jr=>?_;unfold mV;refine aC (AV (Av (name:=fK "__next__") hit.typeIs oJ (rH oJ hit.typeIs C7 ?_ (C8 _))));unfold Builtin.«set_iterator.__next__» slotArgs;refine aC (aO ?_);refine aC (L8 ho hd ?_);dsimp only;refine aC (EL jq jr hs.ft ?_)
 rw[if_neg (by rw[hn];simp)]
 simp only[pe];refine aC (hx _ _ ?_);dsimp only
 refine aC (AO ho hd (by simp) ?_)
 have iZ:=rD (tA (·.setIfInBounds 0 (mW nx))) ho (Ln (vr hd _));have s1:=mJ s.heap it (tA (·.setIfInBounds 0 (mW nx)));have hd2:=vr hd (·.setIfInBounds 0 (mW nx))
 refine aC (AO iZ hd2 (by simp) ?_)
 have s2:=mJ (s.heap.update it (tA (·.setIfInBounds 0 (mW nx)))) it (tA (·.setIfInBounds 1 (mW ((i:Int)+1))))
 exact aO ⟨_,rfl,aO (h _ ⟨_,rD _ iZ (Ln (vr hd2 _)),(Y4 ..).trans ((Y4 ..).trans hc),by rw[vr hd2];simp[mW]⟩ (s1.trans s2))⟩
theorem Um{n:Nat}{t:fM}{Q:Option ak→aw→Prop}(hh:A.handled=none)
  (hit:kM s.heap it (.int (slot:Nat) 0) i (.ref a) n ep)(hs:gT s.heap a es ep t)(hn:es.size=n)(hx:C9 prog w A.in1 a slot i ep s none)
  (h:∀h',A0 it s.heap h'→Q none {s with heap:=h'}):aM (model prog w) A (mV (.ref it)) Q E s:=by
 obtain⟨o,ho,hc,hd⟩:=id hit;refine bF hs.ex λso jq sM jr=>?_;unfold mV;refine aC (AV (Av (name:=fK "__next__") hit.typeIs oJ (rH oJ hit.typeIs C7 ?_ (C8 _))));unfold Builtin.«set_iterator.__next__» slotArgs;refine aC (aO ?_);refine aC (L8 ho hd ?_);dsimp only;refine aC (EL jq jr hs.ft ?_)
 rw[if_neg (by rw[hn];simp)]
 simp only[pe];refine aC (hx _ _ ?_);dsimp only
 refine aC (AO ho hd (by simp) ?_)
 have s1:=mJ s.heap it (tA (·.setIfInBounds 2 kj));refine Ui hh λh' k=>h _ λb o hb e=>k _ _ (s1.extBut b o hb e)
theorem Un:Slot "set_iterator" "__iter__" "set_iterator.__iter__":=
 .of (owner:="set_iterator") (n:="__iter__") (by rw[iO,iM];kernel_rfl) (by decide+kernel) (by decide+kernel) (by decide+kernel)
  (by first |exact .inl (by decide+kernel) |exact .inr (by decide+kernel)) (by rw[lS];kernel_rfl)
theorem agj:jw table "set_iterator.__iter__"=some Builtin.«dict_keyiterator.__iter__»:=
 entryFor_alias (id':="dict_keyiterator.__iter__") (by kernel_rfl) rfl (by decide+kernel) (by kernel_rfl)
theorem agk(a:ak):gk "set_iterator.__iter__" ⟨[a],[]⟩:=by
 unfold gk;rw[pf (id:="set_iterator.__iter__") (n:=['_','_','r','e','t','i','_','_']) (o:=['r','o','t','a','r','e','t','i','_','t','e','s']) (by kernel_rfl) Ug];kernel_rfl
theorem Jc{n:Nat}{Q:ak→aw→Prop}(hit:kM s.heap it f i (.ref a) n ep)(h:Q (.ref it) s):aM (model prog w) A (pyIter (.ref it)) Q E s:=by
 refine wpAny_pyIter_slot hit.typeIs Un (rH Un hit.typeIs agj ?_ (agk _));show aM _ _ (ret (.ref it)) _ _ s;exact aO ⟨_,rfl,"set_iterator",_,hit.typeIs,oJ.lookup,h⟩
theorem Uo{α:Type}{next:Nat→Nat}:∀(fuel k:Nat) (left:List α) (out:Array α),left.length=fuel→(pickOrder.go next fuel k left out).toList.Perm (out.toList++left)
 |0,k,left,out,hl=>by rw[List.length_eq_zero_iff.mp hl,fj];exact .refl _
 |fuel+1,k,left,out,hl=>by
  have hm:next k%left.length<left.length:=Fi _ (je (dE _) (er hl))
  show(match left[next k%left.length]? with |some x=>pickOrder.go next fuel (k+1) (left.eraseIdx (next k%left.length)) (out.push x) |none=>out).toList.Perm _
  rw[bS hm]
  refine(Uo fuel (k+1) _ _ (by rw[YO,if_pos hm];rw[hl];rfl)).trans ?_
  rw[ER,fJ];exact List.Perm.append_left _ (Jb hm)
theorem Jd{α:Type}(next:Nat→Nat)(xs:Array α):(xU next xs).toList.Perm xs.toList:=by
 have:=Uo (next:=next) xs.size 0 xs.toList #[] (by simp)
 exact this
theorem agl{t:fM}(hh:A.handled=none)(hT:w.params.followText "set-order"=true)(ne:a≠I):
  Walks prog w A I [I,a] [I] es.size (λi v=>((xU (w.params.setOrder a ep) es)[i]?).map (λx=>x.2)=some v) (λi h=>kM h I (.int (0:Nat) 0) i (.ref a) es.size ep∧gT h a es ep t) where
 sub:=λb hb=>by simp at hb;simp[hb]
 frame:=λz z z st hk=>⟨st.1.at λo e=>hk I (by simp) o e,st.2.at λo e=>hk a (by simp) o e⟩
 item:=λi s Q E hi st hQ=>by
  have dK:(xU (w.params.setOrder a ep) es).size=es.size:=by rw[←mI,(Jd _ _).length_eq];simp
  have hx:=Uj (prog:=prog) (A:=A.in1) (slot:=0) (i:=i) hT st.2
  obtain⟨x,Up⟩:∃x,(xU (w.params.setOrder a ep) es)[i]?=some x:=⟨_,o9 (by rw[dK];exact hi)⟩
  rw[Up]at hx
  refine Ul st.1 st.2 rfl hx λh' pU cH=>hQ _ h' s.toks (by rw[Up];rfl) ⟨pU,st.2.at λo e=>cH.extBut a o ne e⟩ λb o hb e=>cH.extBut b o (λh=>hb (by simp[h])) e
 done:=λs Q E st hQ=>by
  have dK:(xU (w.params.setOrder a ep) es).size=es.size:=by rw[←mI,(Jd _ _).length_eq];simp
  have hx:=Uj (prog:=prog) (A:=A.in1) (slot:=0) (i:=es.size) hT st.2;rw[alB ((el dK))]at hx
  exact Um hh st.1 st.2 rfl hx λh' he=>hQ h' s.toks λb o hb e=>he b o (λh=>hb (by simp[h])) e
 self:=λz z z z st hQ=>Jc st.1 hQ
theorem agm{P:Addr}{m:Nat}{t:fM}(hh:A.handled=none)(hp:ps.Perm (cS es.size))(ne:a≠I)(nP:P≠I):
  Walks prog w A I [I,a,P] [I] es.size (λi v=>(ps[i]?.bind λp=>es[p]?).map (λx=>x.2)=some v) (λi h=>(kM h I (.ref P) i (.ref a) es.size ep∧gT h a es ep t)∧h.get? P=some {cls:=.type "tuple",data:=.seq (ps.map λ(i:Nat)=>mW i).toArray m}) where
 sub:=λb hb=>by simp at hb;simp[hb]
 frame:=λz z z st hk=>⟨⟨st.1.1.at λo e=>hk I (by simp) o e,st.1.2.at λo e=>hk a (by simp) o e⟩,hk P (by simp) _ st.2⟩
 item:=λi s Q E hi st hQ=>by
  have hl:i<ps.length:=by rw[hp.length_eq];simpa using hi
  have Uq:ps[i]<es.size:=List.mem_range.mp (hp.mem_iff.mp (vv hl))
  refine agh (p:=ps[i]) (x:=es[ps[i]]) (tk:=0) st.1.1 st.1.2 rfl st.2 (by simp[hl,mW]) (by simp[Uq]) λh' pU cH=>hQ _ h' s.toks (by simp[hl,Uq]) ⟨⟨pU,st.1.2.at λo e=>cH.extBut a o ne e⟩,cH.extBut P _ nP st.2⟩ λb o hb e=>cH.extBut b o (λh=>hb (by simp[h])) e
 done:=λs Q E st hQ=>by
  have hl:ps.length=es.size:=by rw[hp.length_eq];simp
  exact agi hh st.1.1 st.1.2 rfl st.2 (by simp[hl]) λh' he=>hQ h' s.toks λb o hb e=>he b o (λh=>hb (by simp[h])) e
 self:=λz z z z st hQ=>Jc st.1.1 hQ
theorem Ur{xs:Array Nat}(h:xs.size=1):AP xs j=if xs.getD 0 j<j then 1 else 0:=by
 unfold AP;rw[h];simp[SetTable.below.go]
theorem agn{t:fM}(hh:A.handled=none)(hT:w.params.followText "set-order"=false)(hl:t.led=true)(h1:es.size≤1)(ne:a≠I):
  Walks prog w A I [I,a] [I] es.size (λi v=>es[i]?.map (λx=>x.2)=some v) (λi h=>∃k:Nat,(i=0→k=0)∧(i=1→k=t.place.getD 0 0+1)∧kM h I (.int k 0) i (.ref a) es.size ep∧gT h a es ep t) where
 sub:=λb hb=>by simp at hb;simp[hb]
 frame:=λ_ _ _ ⟨k,z1,z2,st⟩ hk=>⟨k,z1,z2,st.1.at λo e=>hk I (by simp) o e,st.2.at λo e=>hk a (by simp) o e⟩
 item:=λi s Q E hi ⟨k,z1,z2,st⟩ hQ=>by
  have hi0:i=0:=Nat.lt_one_iff.1 (ey hi h1);subst hi0
  have zy:es.size=1:=by exact qq h1 hi
  have hp:t.place.size=1:=by have:=st.2.ft;simp[SetTable.fits]at this;exact this.1.trans (qq h1 hi)
  have hk:=z1 rfl;subst hk;have hx:=Uk (prog:=prog) (A:=A.in1) (slot:=0) (i:=0) hT hl h1 st.2
  have hb:AP t.place 0=0:=by rw[Ur hp];simp
  rw[hb,o9 (hi),o9 ((er hp))]at hx;dsimp only at hx
  refine Ul st.1 st.2 rfl hx λh' pU cH=>hQ _ h' s.toks (by simp[zy]) ⟨_,(λh=>by exact A7 h),(λy=>by simp[La,hp]),pU,st.2.at λo e=>cH.extBut a o ne e⟩ λb o hb e=>cH.extBut b o (λh=>hb (by simp[h])) e
 done:=λs Q E ⟨k,z1,z2,st⟩ hQ=>by
  have hp:t.place.size=es.size:=by have:=st.2.ft;simp[SetTable.fits]at this;exact this.1
  have hx:=Uk (prog:=prog) (A:=A.in1) (slot:=k) (i:=es.size) hT hl h1 st.2
  have hge:es.size≤AP t.place k:=by
   have:es.size=0∨es.size=1:=zo h1
   rcases this with z |z
   ·exact cB (el z) rfl
   ·have hk:=z2 z
    rw[Ur (hp.trans z),if_pos]
    ·exact h1
    ·rw[La,o9 (aR (er z) (er hp))]
     rw[La,o9 (aR (er z) (er hp))]at hk;simp only[Y9]at hk ⊢;exact(er hk)
  rw[alB hge]at hx
  exact Um hh st.1 st.2 rfl hx λh' he=>hQ h' s.toks λb o hb e=>he b o (λh=>hb (by simp[h])) e
 self:=λ_ _ _ _ ⟨_,_,_,st⟩ hQ=>Jc st.1 hQ
end
section
variable{prog:dv}{w:cM}{A:bj}{E:ak→aw→Prop}{s:aw}
noncomputable abbrev Led(w:cM)(t:fM)(n:Nat):Prop:=w.params.followText "set-order"=false→t.led=true∧(2≤n→t.plain=false)
theorem gT.typeIs{t:fM}(x:gT s.heap a es ep t):s.TypeIs (.ref a) "set":=let⟨o,ho,hc,_⟩:=x.ex;⟨o,ho,hc.1⟩
theorem gT.lt{h:Heap}{t:fM}(x:gT h a es ep t):a<h.objs.size:=let⟨o,ho,_⟩:=x.ex;mP ho
structure SGo(prog:dv)(w:cM)(A:bj)(s:aw)(a:Addr)(es:Array (Int×ak))(I:Addr)(h':Heap)(fp:List Addr)(P:Nat→ak→Prop)(St:Nat→Heap→Prop)(xs:Array ak):Prop where
 walks:Walks prog w A I fp [I] es.size P St
 st:St 0 h'
 keep:∀b o,s.heap.get? b=some o→h'.get? b=some o
 fresh:s.heap.objs.size≤I
 Dc:∀b∈fp,b=a∨s.heap.objs.size≤b
 perm:xs.toList.Perm (es.toList.map (λx=>x.2))
 items:∀i v,P i v→xs[i]?=some v
theorem ago{A':bj}{t:fM}{Q:ak→aw→Prop}(hh:A'.handled=none)(hs:gT s.heap a es ep t)(hl:Led w t es.size)(hz:es.size≤mT)
  (h:∀I h' d fp P St xs,SGo prog w A' s a es I h' fp P St xs→Q (.ref I) {s with heap:=h',drawn:=d}):aM (model prog w) A (pyIter (.ref a)) Q E s:=by
 refine bF hs.ex λso jq sM jr=>?_;have ck:=hs.lt;refine wpAny_pyIter_slot hs.typeIs PySem.F.slot_set_iter (rH PySem.F.slot_set_iter hs.typeIs agg ?_ (PySem.F.args_set_iter_1 _));unfold Builtin.«frozenset.__iter__» Builtin.Frozenset.slot0 slotArgs Builtin.Frozenset.addrOf Builtin.Frozenset.sizeOf;refine aC (aC (aO (aO ?_)));refine aC (aC (EL jq jr hs.ft (aO ?_)));dsimp only;refine aC ?_;unfold setDrawn;refine aC (AH jq jr hs.ft ?_);dsimp only;refine aC (C6 (aO ?_))
 refine EZ (λhd=>?_) (λhd=>?_)
 ·have fQ:(!w.params.followText "set-order"&&(!t.plain&&decide (es.size>1)))=true:=hd
  refine aC (Ue _ _ (by simp) λps d hp=>?_)
  refine aC (wpAny_newTuple ?_ (by simp[hp.length_eq];exact hz))
  refine aC (wpAny_setEpoch_of (dY _ jq) jr hs.ft ?_);refine aC (rF (aO ⟨_,rfl,"set_iterator",_,⟨_,fW _ rfl,rfl⟩,oJ.lookup,?_⟩))
  have e1:s.heap.objs.size≠(s.heap.push {cls:=.type "tuple",data:=.seq (ps.map λ(i:Nat)=>mW i).toArray}).objs.size:=by simp[tz]
  refine h _ _ d _ _ _ ((ps.filterMap λp=>es[p]?).map (λx=>x.2)).toArray ⟨agm (m:=0) (ps:=ps) (ep:=ep) (t:=t) hh hp (by rw[tz];exact iP (xJ ck)) e1,⟨⟨⟨_,fW _ rfl,rfl,rfl⟩,hs.at λo e=>dY _ (dY _ e)⟩,dY _ (fW _ rfl)⟩,λb o e=>dY _ (dY _ e),by simp[tz],λb hb=>?_,?_,λi v hv=>?_⟩
  ·simp at hb
   rcases hb with rfl |rfl |rfl
   ·right;simp[tz]
   ·left;rfl
   ·right;exact cP _
  ·have:=(hp.filterMap λp=>es[p]?).map (λx=>x.2)
   rw[filterMap_getElem?_range]at this
   simpa using this
  ·have sL:∀p∈ps,∃x,es[p]?=some x:=λp p9=>⟨_,o9 (List.mem_range.mp (hp.mem_iff.mp p9))⟩
   clear hp;simp only[List.getElem?_toArray,dM];rw[←hv]
   congr 1
   clear hv h e1
   induction ps generalizing i with
   |nil=>simp
   |cons p ps ih=>
    refine xe (sL p (.head _)) λx hx=>?_;rw[List.filterMap_cons_some hx]
    induction i with
    |zero=>simp[hx]
    |succ i=>simpa using ih i λq hq=>sL q (.tail _ hq)
 ·have fQ:¬(!w.params.followText "set-order"&&(!t.plain&&decide (es.size>1)))=true:=hd
  refine aC (aO ?_);refine aC (wpAny_setEpoch_of jq jr hs.ft ?_);refine aC (rF (aO ⟨_,rfl,"set_iterator",_,⟨_,fW _ rfl,rfl⟩,oJ.lookup,?_⟩))
  have Dc:∀b∈[s.heap.objs.size,a],b=a∨s.heap.objs.size≤b:=λb hb=>by
   simp at hb
   rcases hb with rfl |rfl
   ·right;exact cP _
   ·left;rfl
  cases hT:w.params.followText "set-order" with
  |true=>
   exact h _ _ s.drawn _ _ _ ((xU (w.params.setOrder a ep) es).map (λx=>x.2)) ⟨agl (ep:=ep) (t:=t) hh hT (iP ck),⟨⟨_,fW _ rfl,rfl,rfl⟩,hs.at λo e=>dY _ e⟩,λb o e=>dY _ e,cP _,Dc,by
    rw[Zd];exact(Jd _ _).map _,λi v hv=>by rw[Array.getElem?_map];exact hv⟩
  |false=>
   refine xa (hl hT) λl1 l2=>?_
   have h1:es.size≤1:=by
    refine EW λUs=>fQ ?_;rw[hT,l2 Us];simp;exact Us
   exact h _ _ s.drawn _ _ _ (es.map (λx=>x.2)) ⟨agn (ep:=ep) (t:=t) hh hT l1 h1 (iP ck),⟨0,λz=>rfl,(λh=>by exact rT h),⟨_,fW _ rfl,rfl,rfl⟩,hs.at λo e=>dY _ e⟩,λb o e=>dY _ e,cP _,Dc,by
    rw[Zd],λi v hv=>by rw[Array.getElem?_map];exact hv⟩
theorem agp{Q:Bool→aw→Prop}(hT:s.TypeIs (.ref a) "set")(h:Q false s):aM (model prog w) A (ala (.ref a)) Q E s:=by
 unfold ala;refine aC (vx hT PySem.F.slot_set_len.lookup ?_);generalize Ut:("set.__len__":String)=id0
 wp_delta
 rw[show splitId id0=some ("set","__len__")from by subst Ut;decide+kernel]
 subst Ut
 refine aC (AI (T:="set") (b:=true) hT (by rw[lS];kernel_rfl) ?_)
 refine EZ (λkN=>absurd kN (by decide)) (λz=>?_)
 refine EZ (λz=>?_) (λkN=>absurd (by decide+kernel) kN)
 refine aC (xR hT ?_);exact aO h
theorem agq{R:lg→aw→Prop}{t:fM}(hh:A.handled=none)(hs:gT s.heap a es ep t)(hl:Led w t es.size)(hn:es.size≤mT)(S:Addr)(Uu:S≠a)(res:ak)(c₀:Nat)
  (hS:s.heap.get? S=some {cls:=.type "list",data:=.seq #[] c₀})
  (hR:∀h' tk d kO c',(∀b o,b≠S→s.heap.get? b=some o→h'.get? b=some o)→h'.get? S=some {cls:=.type "list",dict:=none,data:=.seq kO c',slots:=#[]}→kO.toList.Perm (es.toList.map (λx=>x.2))→R (.ok (.ret res)) {s with heap:=h',toks:=tk,drawn:=d}):
  aM (model prog w) A.in1 (YA (.ref S) (.ref a) res)
   (λfin s'=>match fin with |.done f=>R (.ok f) s' |.again c'=>c'.quiet=true∧rS (model prog w) A c' R s') (λe s'=>R (.error e) s') s:=by
 have Dd:=mP hS;unfold YA;refine aC (xR (T:="set") hs.typeIs ?_)
 have h1:alq (.ref S) (.ref a)=false:=by simp[alq,Uu]
 have h2:(k8 "set"==k8 "list")=false:=by decide
 have h3:(k8 "set"==k8 "tuple")=false:=by decide
 refine wpAny_ite_false (by rw[h1,h2,h3];rfl) ?_
 refine aC (ago (A':=A.in1) hh hs hl hn λI h0 d fp P St xs G=>?_);have hSI:S≠I:=iP (ey Dd G.fresh)
 have zA:S∉fp:=λhm=>by
  rcases G.Dc S hm with z |z
  ·exact Uu z
  ·exact AS _ (ey Dd z)
 have key:∀(h:Heap) (c₁ tk:Nat),St 0 h→(∀b o,b≠S→s.heap.get? b=some o→h.get? b=some o)→
   h.get? S=some {cls:=.type "list",data:=.seq #[] c₁}→rS (model prog w) A (.builtin "list.extend.loop" ⟨[.ref S,.ref I,res],[]⟩) R {s with heap:=h,toks:=tk,drawn:=d}:=by
  intro h c₁ tk zB hk uz;refine codeAny_extend_loopS G.walks.toS hn S zA res es.size 0 _ #[] c₁ rfl (dE _) zB uz (ItemsOf.nil _) λs' kO c' hm gr mr=>?_;rw[Moved.eq_with hm]
  have hx:kO=xs:=by
   have wN:xs.size=es.size:=by rw[←mI,G.perm.length_eq];simp
   apply Array.ext
   ·rw[wN];exact mr.1
   ·intro j hj1 hj2
    have:=G.items j _ (mr.2 j kO[j] (o9 hj1));rw[o9 hj2]at this;exact(bt this).symm
  refine hR s'.heap s'.toks d kO c' (λb o hb e=>hm.heap b o (λJe=>?_) (hk b o hb e)) gr (hx▸G.perm)
  rcases List.mem_cons.mp Je with e' |Je
  ·exact hb e'
  ·have:=mP e
   rw[List.mem_singleton.mp Je]at this;exact AS _ (ey this G.fresh)
 have uz:=G.keep _ _ hS;have zy:=hs.at λo e=>G.keep _ _ e;refine aC (jf (agp zy.typeIs ?_));refine EZ (λy=>?_) (λy=>aO ⟨xQ ali _,key _ c₀ _ G.st (λb o y e=>G.keep b o e) uz⟩);refine aC (rP ?_);refine aC ?_;show aM _ _ (updateSeq S (·.push .none) >>= λy=>updateSeq S (λx=>x.pop)) _ _ _;refine aC (wpAny_updateSeq uz rfl ?_);have Uv:=rD (ju (·.push kj)) uz rfl
 refine wpAny_updateSeq (hz:=by seq_fits) Uv rfl ?_
 have agr:=rD (ju (λx=>x.pop)) Uv rfl
 refine aO ⟨xQ ali _,key _ _ _ ?_ (λb o hb e=>?_) agr⟩
 ·refine G.walks.frame 0 _ _ G.st λb hb o e=>?_
  have Uw:b≠S:=λh=>zA (h▸hb)
  exact(Lm _ _ (Ne.symm Uw)).trans ((Lm _ _ (Ne.symm Uw)).trans e)
 ·exact(Lm _ _ (Ne.symm hb)).trans ((Lm _ _ (Ne.symm hb)).trans (G.keep _ _ e))
theorem ags{R:List ak→aw→Prop}{t:fM}(hh:A.handled=none)(hs:gT s.heap a es ep t)(hl:Led w t es.size)(hn:es.size≤mT)
  (h:∀(h':Heap) (tk:Nat) (d:Drawn) (acc:List ak),(∀b o,s.heap.get? b=some o→h'.get? b=some o)→acc.Perm (es.toList.map (λx=>x.2))→R acc {s with heap:=h',toks:=tk,drawn:=d}):
  aM (model prog w) A (collect (.ref a)) R E s:=by
 have ck:=hs.lt;unfold collect;refine aC (wpAny_runValue (AL entry_proto_collect' ?_));rw[xG PySem.F.plain_proto_collect _];show aM _ A.in1 (newList [] >>= λl=>again (.builtin "list.__iadd__" ⟨[l,.ref a],[]⟩)) _ _ s;refine aC (rF ?_);refine aO ⟨xQ alw _,AL entry_list_iadd' ?_⟩;rw[xG alw _];have uz:(s.heap.push {cls:=.type "list",data:=.seq ([]:List ak).toArray}).get? s.heap.objs.size=some {cls:=.type "list",data:=.seq #[]}:=fW _ rfl;show aM _ A.in1 (YA (.ref s.heap.objs.size) (.ref a) (.ref s.heap.objs.size)) _ _ _
 have key:=agq (prog:=prog) (A:=A) (s:={s with heap:=s.heap.push {cls:=.type "list",data:=.seq ([]:List ak).toArray}})
  (R:=λ(q:lg) (s':aw)=>∃(h':Heap) (tk:Nat) (d:Drawn) (kO:Array ak) (c':Nat),q=.ok (.ret (.ref s.heap.objs.size))∧s'={s with heap:=h',toks:=tk,drawn:=d}∧
   (∀b o,s.heap.get? b=some o→h'.get? b=some o)∧h'.get? s.heap.objs.size=some {cls:=.type "list",dict:=none,data:=.seq kO c',slots:=#[]}∧kO.toList.Perm (es.toList.map (λx=>x.2)))
  hh (hs.at λo e=>dY _ e) hl hn s.heap.objs.size (vA ck) (.ref s.heap.objs.size) 0 uz
  (λh' tk d kO c' hk gr mr=>⟨h',tk,d,kO,c',rfl,rfl,λb o e=>hk b o (iP (mP e)) (dY _ e),gr,mr⟩)
 refine b0 key (λfin s' x=>?_) λe s' x=>?_
 ·induction fin with
  |done f=>
   refine MJ x λh' tk d kO c' e aq hk gr mr=>?_;clear x;subst aq;obtain rfl:=Except.ok.inj e;show aM _ A (load s.heap.objs.size >>= _) _ _ _;refine aC (tE gr ?_)
   exact aO (h h' tk d kO.toList hk mr)
  |again c₁=>
   refine⟨x.1,AY x.2 λq bg y=>?_⟩;refine MJ y λh' tk d kO c' aq qN hk gr mr=>?_;clear y;subst aq;subst qN;show aM _ A (load s.heap.objs.size >>= _) _ _ _;refine aC (tE gr ?_)
   exact aO (h h' tk d kO.toList hk mr)
 ·obtain⟨_,_,_,_,_,e',_⟩:=x
  cases e'
end
set_option tactic.hygienic true
section
variable{prog:dv}{w:cM}{A:bj}{E:ak→aw→Prop}{s:aw}
theorem agt(t:fM)(es:Array (Int×ak))(h:Int)(x:ak):(layNew t es h x).2.1.led=t.led:=by
 unfold layNew
 split
 ·dsimp only
  unfold SetTable.orStandIn
  split
  ·rfl
  ·rfl
 ·rfl
theorem agu(t:fM)(es:Array (Int×ak))(n:Nat):(xV t es n).2.1.led=t.led∧(t.plain=false→(xV t es n).2.1.plain=false):=by
 unfold xV
 split
 ·rename_i t' order he
  have hz:t'.led=t.led∧t'.plain=t.plain:=by
   unfold SetTable.relaid SetTable.laid at he;simp only[bind,vm,pure,Option.some.injEq,Prod.mk.injEq]at he;refine bF he λow h1 h2 h3=>?_;rw[←h2];exact⟨rfl,rfl⟩
  dsimp only
  split
  ·exact⟨hz.1,λh=>hz.2.trans h⟩
  ·exact⟨rfl,λz=>rfl⟩
 ·exact⟨rfl,λz=>rfl⟩
structure SL(prog:dv)(w:cM)(h:Heap)(a:Addr)(ks:List (List UInt8))(es:Array (Int×ak))(ep:Nat)(t:fM):Prop where
 ob:gT h a es ep t
 el:ElemsOf (fL prog w) es.toList
 mem:∀k,k∈ks↔∃e∈es.toList,(fL prog w).is k e.2=true
 sz:es.size=ks.length
 lt:es.size<tH
 led:w.params.followText "set-order"=false→t.led=true∧(1≤es.size→t.plain=false)
theorem Ux{h:Heap}{t:fM}(x:gT h a es ep t){iG:Array (Int×ak)}{t':fM}(hf:t'.fits iG.size=true):gT (h.update a (Obj.putSet iG t')) a iG (ep+1) t':=by
 refine bF x.ex λo ho hex hd=>?_
 have hg:(h.update a (Obj.putSet iG t')).get? a=some {o with data:=.set iG (ep+1) t'}:=by
  have:=rD (Obj.putSet iG t') ho (by rw[putSet_of iG t' hd];rfl)
  rw[putSet_of iG t' hd]at this;exact this
 exact⟨⟨_,hg,hex,rfl⟩,hf⟩
theorem add_sl{ks:List (List UInt8)}{t:fM}{k:List UInt8}{tk:Tok}{Q:Bool→aw→Prop}(S:SL prog w s.heap a ks es ep t)(ml:ks.length+1<tH)
  (h:∀h' iG Cb t' b,jt a s.heap h'→SL prog w h' a (if k∈ks then ks else ks++[k]) iG Cb t'→Q b {s with heap:=h'}):
  aM (model prog w) A (setAddHashed a (.bytes k.toArray tk) ((fL prog w).hash k)) Q E s:=by
 refine bF S.ob.ex λo ho hex hd=>?_
 have Jf:(fL prog w).is k (.bytes k.toArray tk)=true:=by simp[fL,tK]
 have oG:(Fd k.toArray tk).scannable=true:=rfl;unfold setAddHashed setAddHashedIn;refine jf (aC (AH ho hd S.ob.ft ?_));dsimp only;rw[byScan_of oG S.lt S.el];simp only[↓reduceIte];unfold setAddByScan;refine aC ?_;refine aC (rP ?_);refine aC (wpAny_setScan_of Jf ho hd S.ob.ft S.el ?_)
 cases hr:List.findIdx? (λe=>(fL prog w).is k e.2) es.toList with
 |some j=>
  dsimp only;obtain⟨hj,hpj,_⟩:=List.findIdx?_eq_some_iff_getElem.mp hr;have hk:k∈ks:=(S.mem k).mpr ⟨es.toList[j],vv hj,hpj⟩;refine aO (aO ?_)
  have:=h s.heap es ep t false (Heap.SameBut.refl a s.heap) (by rw[if_pos hk];exact S)
  exact this
 |none=>
  dsimp only
  have hk:k∉ks:=λhk=>by
   refine a9 ((S.mem k).mp hk) λe he hp=>?_;have:=List.findIdx?_eq_none_iff.mp hr e he;rw[hp]at this;exact Bool.noConfusion this
  rw[if_neg hk]at h
  have hgw:∀(b:Bool) {bq:aw} {Q':Unit→aw→Prop},Q' () bq→aM (model prog w) A (match b with |true=>rule "set.scan.the-table-gave-way" |false=>pure ()) Q' E bq:=
   λb bq Q' hq=>by cases b<;>first |exact aO hq |exact rP hq
  have sN:=layNew_perm t es ((fL prog w).hash k) (.bytes k.toArray tk);have De:=layNew_fits t es ((fL prog w).hash k) (.bytes k.toArray tk);have qb:=agt t es ((fL prog w).hash k) (.bytes k.toArray tk);generalize layNew t es ((fL prog w).hash k) (.bytes k.toArray tk)=L at sN De qb ⊢;obtain⟨gu,t1,agv,alL⟩:=L;dsimp only at sN De qb ⊢;rw[ER]at sN;have Uy:ElemsOf (fL prog w) gu.toList:=(S.el.push Jf oG).perm sN
  have Jg:gu.size=(ks++[k]).length:=by rw[←mI,sN.length_eq,bW,mI,S.sz];simp
  have Df:gu.size<tH:=by rw[Jg];simpa using ml
  have Uz:∀k',k'∈ks++[k]↔∃e∈gu.toList,(fL prog w).is k' e.2=true:=λk'=>by
   have:=mem_push_iff (knd:=fL prog w) (S:=λk'=>decide (k'∈ks)) (k:=k) Jf (λk'=>by simpa using S.mem k') sN k'
   rw[←this];simp
  have tail:∀t2:fM,t2.fits gu.size=true→t2.led=t1.led→t2.plain=false→∀{g:Bool→Sem Unit},(∀(b:Bool) {bq:aw} {Q':Unit→aw→Prop},Q' () bq→aM (model prog w) A (g b) Q' E bq)→aM (model prog w) A (do
    storeSet a gu t2
    if(!agv&&t2.tooFull)=true then do
      g (xV t2 gu (xO gu.size)).2.2
      storeSet a (xV t2 gu (xO gu.size)).1 (xV t2 gu (xO gu.size)).2.1
      pure (some true)
     else pure (some true)) (λr s'=>aM (model prog w) A (match r with |some added=>pure added |none=>setAddHashedIn a (.bytes k.toArray tk) ((fL prog w).hash k) 99999) Q E s') E s:=by
   intro t2 sO lG uA g hg;refine aC (wpAny_storeSet_of ho hd ?_ (fits_of_scanBound Df));have o1:=Ux S.ob sO;have UA:=mJ s.heap a (Obj.putSet gu t2)
   split
   ·have hp:=relayAll_perm t2 gu (xO gu.size)
    have zl:=relayAll_fits t2 gu (xO gu.size);have gh:=agu t2 gu (xO gu.size);generalize xV t2 gu (xO gu.size)=Rl at hp zl gh ⊢;obtain⟨yY,t3,alM⟩:=Rl;dsimp only at hp zl gh ⊢
    have dK:yY.size=gu.size:=by rw[←mI,hp.length_eq,mI]
    refine aC (hg _ ?_);refine bF o1.ex λo' c7 alN fQ=>?_;refine aC (wpAny_storeSet_of c7 fQ ?_ (fits_of_scanBound (je (el dK) Df)));have o2:=Ux o1 zl
    refine aO (aO (h _ yY _ t3 true (UA.trans (mJ _ a _)) ⟨o2,Uy.perm hp,λk'=>(Uz k').trans ⟨λ⟨e,he,q⟩=>⟨e,hp.mem_iff.mpr he,q⟩,λ⟨e,he,q⟩=>⟨e,hp.mem_iff.mp he,q⟩⟩,dK.trans Jg,by exact je (el dK) Df,λhT=>⟨by rw[gh.1,lG,qb];exact(S.led hT).1,λz=>gh.2 uA⟩⟩))
   ·exact aO (aO (h _ gu _ t2 true UA ⟨o1,Uy,Uz,Jg,Df,λhT=>⟨by rw[lG,qb];exact(S.led hT).1,λz=>uA⟩⟩))
  refine aC (hgw _ ?_)
  split
  ·refine aC ?_
   rw[hashByValue_scannable 8 oG];refine aO ?_;rw[show plainKind (Fd k.toArray tk)=false from rfl];simp only[pd,if_false]
   exact tail {t1 with plain:=false} (SetTable.fits_plain_off De) rfl rfl (λb z z hq=>by cases b<;>first |exact aO hq |exact rP hq)
  ·refine aC (aO ?_)
   simp only[↓reduceIte]
   exact tail t1 De rfl (by simpa using‹¬t1.plain=true›) (λb z z hq=>by cases b<;>first |exact aO hq |exact rP hq)
theorem SL.at{h:Heap}{ks:List (List UInt8)}{t:fM}(S:SL prog w h a ks es ep t)(e:∀o,h.get? a=some o→h'.get? a=some o):SL prog w h' a ks es ep t:=
 ⟨S.ob.at e,S.el,S.mem,S.sz,S.lt,S.led⟩
noncomputable def zC(acc:List (List UInt8))(x:List UInt8):List (List UInt8):=if x∈acc then acc else acc++[x]
noncomputable def lH(l:List (List UInt8)):List (List UInt8):=l.foldl zC []
theorem agw(l acc:List (List UInt8)):(l.foldl zC acc).length≤acc.length+l.length:=by
 induction l generalizing acc with
 |nil=>exact cP _
 |cons x l ih=>
  rw[kh];refine aR (ih _) ?_;unfold zC
  split<;>simp<;>exact(by simp+arith only)
theorem agx{l:List (List UInt8)}(h:l[i]?=some b):lH (l.take (i+1))=if b∈lH (l.take i)then lH (l.take i)else lH (l.take i)++[b]:=by
 unfold lH;rw[Lv,h,Option.toList_some,Y5]
 rfl
theorem agy{R:lg→aw→Prop}{wr:List Addr}{G:Array GenState→Array GenState→Prop}{n:Nat}{P:Nat→ak→Prop}{St:Nat→aw→Prop}(W:WalksS prog w A.in1 I fp wr G n P St)(S:Addr)(zA:S∉fp)
  (bs:List (List UInt8))(hn:bs.length=n)(agz:∀i v,P i v→∃b t,bs[i]?=some b∧v=.bytes b.toArray t)(hb:n+1<tH):
  ∀(k i:Nat) (s:aw) (es:Array (Int×ak)) (ep:Nat) (t:fM),n- i=k→i≤n→St i s→SL prog w s.heap S (lH (bs.take i)) es ep t→
   (∀s' es ep t,Moved (S::wr) G s s'→SL prog w s'.heap S (lH bs) es ep t→R (.ok (.ret .none)) s')→
   rS (model prog w) A (.builtin "set.update.loop" ⟨[.ref S,.ref I],[]⟩) R s:=by
 have UB:S∉wr:=λh=>zA (W.sub _ h);have zp:∀b∈wr,b∈S::wr:=λb hb=>List.mem_cons_of_mem _ hb;intro k
 induction k with
 |zero=>
  intro i s es ep t hk hi zB hS hR;have I2:i=n:=qq hi (YJ hk);subst I2;refine AL ak2 ?_;rw[xG Yy _];show aM _ A.in1 (mV (.ref I) >>= _) _ _ s;refine aC (W.done s _ _ zB λs' hm=>?_);show aM _ A.in1 (ret kj) _ _ s';rw[vo ((el hn))]at hS
  exact aO (hR s' es ep t (hm.mono zp) (hS.at λo e=>hm.heap S o UB e))
 |succ k ih=>
  intro i s es ep t hk hi zB hS hR;have ck:i<n:=YK hk;refine AL ak2 ?_;rw[xG Yy _];show aM _ A.in1 (mV (.ref I) >>= _) _ _ s;refine aC (W.item i s _ _ ck zB λv s' hP agA hm=>?_);refine gH (agz i v hP) λb tk UC aq=>?_;subst aq;have gr:=hS.at λo e=>hm.heap S o UB e;show aM _ A.in1 (holding [Fd b.toArray tk] (setAdd S (.bytes b.toArray tk)) >>= _) _ _ s';refine aC (jf ?_);unfold setAdd;refine jf ?_
  refine aC ((fL prog w).pyHash (k:=b) (by simp[fL,tK]) ?_)
  have ml:(lH (bs.take i)).length+1<tH:=by
   have:=agw (bs.take i) [];unfold lH;rw[Ly]at this;simp only[tv]at this;exact je (qn (aR this Zw)) (je (qn (iQ ck)) hb)
  refine add_sl (s:={s' with toks:=s'.toks+1}) gr ml λh' yY QJ t2 bb UD UE=>?_
  rw[←agx UC]at UE
  refine aO ⟨xQ Yy _,ih (i+1) _ yY QJ t2 (Mu hk) ck (W.frame _ s' _ _ agA (nW _) λb hb o e=>?_) UE λj0 es3 ep3 t3 agB agC=>?_⟩
  ·rw[UD.2 b (λh:b=S=>zA (by rw[←h];exact hb))];exact e
  ·refine hR j0 es3 ep3 t3 (Moved.trans W.gtrans ((hm.mono zp).then_heap (nW _) λb o hb e=>?_) agB) agC
   rw[UD.2 b (λh:b=S=>hb (by rw[h];exact List.mem_cons_self))];exact e
theorem agD(a:ak){Q₁:ak→aw→Prop}
  (h:∀led:Bool,led=!w.params.followText "set-order"→Q₁ (.ref s.heap.objs.size) {s with heap:=s.heap.push {cls:=.type "set",dict:=none,data:=.set #[] 0 (.fresh 0 0 led)}}):
  rS (model prog w) A (.call (.builtin "set.__new__") ⟨[.type "set",a],[]⟩) (wants Q₁ E) s:=by
 refine codeAny_of_tree ?_
 show aM _ A.in1 (do EU "set.__new__" ⟨[.type "set",a],[]⟩;again (.builtin "set.__new__" ⟨[.type "set",a],[]⟩)) _ _ s
 refine aC (eF (PySem.F.newCall_set_1 a) (aO ⟨xQ PySem.F.plain_set_new _,AL PySem.F.entry_set_new ?_⟩));rw[xG PySem.F.plain_set_new _];unfold Builtin.«set.__new__» Builtin.Frozenset.newClass;have zp:=sub_set_self;obtain⟨hp,g,d,tk,os⟩:=s;dsimp only;wp_walk;refine Ze (aO ?_);dsimp only;simp only[newObj];refine aC (wpAny_alloc (aO ?_));exact aO (h _ rfl)
set_option maxHeartbeats 3200000 in
theorem agE{S:Addr}{bs:List (List UInt8)}{led:Bool}{R:lg→aw→Prop}(hh:A.handled=none)
  (hS:s.heap.get? S=some {cls:=.type "set",dict:=none,data:=.set #[] 0 (.fresh 0 0 led)})(qb:led=(!w.params.followText "set-order"))(hl:s.heap.IsList l items)(hlS:S≠l)(hn:bs.length=items.size)(hi:∀(i:Nat) (v:ak),items[i]?=some v→∃b t,bs[i]?=some b∧v=.bytes b.toArray t)(hb:items.size+1<tH)
  (q:∀(h':Heap) (tk:Nat) es ep t,SL prog w h' S (lH bs) es ep t→(∀b o,b≠S→s.heap.get? b=some o→h'.get? b=some o)→R (.ok (.ret .none)) {s with heap:=h',toks:=tk}):
  aM (model prog w) A.in1.in1 (Builtin.«set.__init__» ⟨[.ref S,.ref l],[]⟩) (λfin s'=>match fin with |.done f=>R (.ok f) s' |.again c'=>c'.quiet=true∧rS (model prog w) A.in1 c' R s') (λe s'=>R (.error e) s') s:=by
 have hT:s.TypeIs (.ref S) "set":=⟨_,hS,rfl⟩;have j3:=hl;obtain⟨ol,rZ,g8,nl,lj⟩:=hl;obtain⟨alO,alP,alQ,alR⟩:=ol;simp only at g8 lj;subst g8;subst lj;have alS:=PySem.F.sub_list_set;have alT:=PySem.F.sub_list_frozenset
 have jF:(k8 "list"==k8 "dict")=false:=by decide
 unfold Builtin.«set.__init__» noKeywords Builtin.Frozenset.updateFrom;generalize hPI:pyIter=PI;wp_walk;subst hPI;refine Y2 j3 ?_;refine aC (wpAny_runValue ?_);have Dd:=iP (mP hS)
 refine agy ((Walks.list (show A.in1.in1.in1.handled=none by simp[hh]) _ l (iP (mP rZ)) items).toS) S (λz=>(eO.1 z).elim Dd λz=>hlS (cL.1 z)) bs hn hi hb (items.size- 0) 0 _ #[] 0 (.fresh 0 0 led) rfl (dE _)
  ⟨⟨_,fW _ rfl,rfl,rfl⟩,(j3.push _)⟩ ?hS0 ?hR
 case hS0=>
  exact⟨⟨⟨_,dY _ hS,⟨rfl,rfl,rfl⟩,rfl⟩,rfl⟩,λe he=>by simp at he,λk=>by simp[lH],rfl,by unfold tH;simp,λhT=>⟨by rw[show(SetTable.fresh 0 0 led).led=led from rfl,qb,hT];rfl,λh=>by simp at h⟩⟩
 case hR=>
  intro s' es ep t hm gr;obtain⟨h',g',d',HM,os'⟩:=s';have eg:g'=s.gens:=hm.gens;have ed:d'=s.drawn:=hm.drawn;have eo:os'=s.os:=hm.os;subst eg;subst ed;subst eo;refine aO ?_;refine aO (q h' HM es ep t gr λb o e z=>?_);exact hm.heap b o (λx=>(eO.1 x).elim e λx=>iP (mP z) (cL.1 x)) (dY _ z)
theorem agF{bs:List (List UInt8)}{Q:ak→aw→Prop}
  (hh:A.handled=none)(hl:s.heap.IsList l items)(hn:bs.length=items.size)(hi:∀(i:Nat) (v:ak),items[i]?=some v→∃b t,bs[i]?=some b∧v=.bytes b.toArray t)(hb:items.size+1<tH)
  (h:∀(h':Heap) (tk:Nat) es ep t,SL prog w h' s.heap.objs.size (lH bs) es ep t→(∀b o,s.heap.get? b=some o→h'.get? b=some o)→Q (.ref s.heap.objs.size) {s with heap:=h',toks:=tk}):
  aM (model prog w) A (call (.type "set") [.ref l]) Q E s:=by
 refine gF PySem.F.called_set.mro λc tl TO=>?_;have TP:=PySem.F.called_set.made;have zp:=PySem.F.called_set.sub;refine wpAny_call (codeAny_of_tree ?_);show aM _ _ (callAny (.type "set") _) _ _ _
 refine aO ⟨Code.quiet_builtin _ (by decide+kernel),AL PySem.F.entry_type_call ?_⟩
 rw[Around.under_plain (weight_type_call_type "set" [.ref l] []) rfl];have h1:=PySem.F.called_set.notType;have h2:=PySem.F.called_set.canCreate;have hct:=PySem.F.typeCall_set_1 (.ref l)
 repeat (any_goals (first |assumption |wp_step))
 refine AY (agD (.ref l) (E:=E) (Q₁:=λobj bq=>∃led:Bool,led=(!w.params.followText "set-order")∧obj=.ref s.heap.objs.size∧bq={s with heap:=s.heap.push {cls:=.type "set",dict:=none,data:=.set #[] 0 (.fresh 0 0 led)}}) λled qb=>⟨led,qb,rfl,rfl⟩) λr bq hr=>?_
 cases r with
 |error e=>exact hr
 |ok fl=>
  cases fl with
  |ret obj=>
   refine bF hr λled qb aq qN=>?_;clear hr;subst aq;subst qN;have hS:(s.heap.push {cls:=.type "set",dict:=none,data:=.set #[] 0 (.fresh 0 0 led)}).get? s.heap.objs.size=some {cls:=.type "set",dict:=none,data:=.set #[] 0 (.fresh 0 0 led)}:=fW _ rfl
   have hT:Shared.TypeIs {s with heap:=s.heap.push {cls:=.type "set",dict:=none,data:=.set #[] 0 (.fresh 0 0 led)}} (.ref s.heap.objs.size) "set":=⟨_,hS,rfl⟩
   have Mr:=PySem.F.called_set.init.lookup;have UC:=PySem.F.called_set.init.bind (.ref s.heap.objs.size)
   repeat (any_goals (first |assumption |wp_step))
   refine AY (codeAny_call_builtin (R:=wants (λr bg=>r=.none∧∃h' tk es ep t,bg={s with heap:=h',toks:=tk}∧SL prog w h' s.heap.objs.size (lH bs) es ep t∧
     (∀b o,s.heap.get? b=some o→h'.get? b=some o)) E) PySem.F.called_set.init.plain PySem.F.entry_set_init (check_set_init_1 hT ?_)) λagG bg Jh=>?_
   ·exact agE hh hS qb (hl.push _) (λz=>by refine a9 hl λo ho zz=>?_;exact vA (mP ho) z) hn hi hb λh' tk es ep t gr hk=>⟨rfl,h',tk,es,ep,t,rfl,gr,λb o e=>hk b o (iP (mP e)) (dY _ e)⟩
   ·cases agG with
    |error e=>exact Jh
    |ok agH=>
     cases agH with
     |ret r=>
      obtain⟨rfl,h',tk,es,ep,t,rfl,gr,c4⟩:=Jh
      repeat (any_goals (first |assumption |wp_step))
      exact h _ _ _ _ _ gr c4
     |_=>exact Jh.elim
  |_=>exact hr.elim
end
section
open PySem.SeqAt
section
variable{c:Cx}{A:bj}{σ:St}{s:aw}
theorem UG(R:Rel c σ s.heap)(e:σ a=some o)(hi:o.fc=false):(a==vC)=false:=by
 refine xe c.sys λo' h'=>?_;have:=eK.out (R.objs a o e) hi
 cases h:a==vC with
 |false=>rfl
 |true=>rw[beq_iff_eq.mp h,h']at this;exact jP this
theorem aN.agI{h:Heap}{acc:List ak}(p:acc.Perm vs):∀{ks:List (List UInt8)},aN h (ks.map .bytes) vs→∃UH:List (List UInt8),UH.Perm ks∧aN h (UH.map .bytes) acc:=by
 induction p with
 |nil=>intro ks r;exact⟨ks,.refl _,r⟩
 |cons v p ih=>
  intro ks r
  induction ks with
  |nil=>cases r
  |cons k ks=>
   cases r with
   |cons e r=>
    refine a9 (ih r) λk2 h1 h2=>?_
    exact⟨k::k2,h1.cons k,.cons e h2⟩
 |swap a b l=>
  intro ks r
  cases ks with
  |nil=>cases r
  |cons k ks=>
   cases r with
   |cons e r=>
    induction ks with
    |nil=>cases r
    |cons k' ks=>
     cases r with
     |cons e' r=>exact⟨k'::k::ks,.swap _ _ _,.cons e' (.cons e r)⟩
 |trans p1 p2 ih1 ih2=>
  intro ks r;refine a9 (ih2 r) λk2 h1 h2=>?_;refine a9 (ih1 h2) λk3 h3 h4=>?_;exact⟨k3,h3.trans h1,h4⟩
theorem UI:∀{l m:List (List UInt8)},l.Nodup→(∀x∈l,x∈m)→l.length=m.length→m.Perm l
 |[],m,_,_,hl=>by rw[List.length_eq_zero_iff.mp hl.symm]
 |x::l,m,hn,hs,hl=>by
  rw[mN]at hn;have hx:=hs x (.head _)
  have h1:=UI (l:=l) (m:=m.erase x) hn.2 (λy hy=>(List.mem_erase_of_ne (λe=>hn.1 (by rw[←e];exact hy))).2 (hs y (.tail _ hy))) (by rw[YE hx];simp at hl;exact Nat.eq_sub_of_add_eq hl)
  exact(List.perm_cons_erase hx).trans (h1.cons x)
theorem agJ(l:List (List UInt8)):(lH l).Nodup:=by
 have key:∀(l acc:List (List UInt8)),acc.Nodup→(l.foldl zC acc).Nodup:=by
  intro l
  induction l with
  |nil=>intro acc h;exact h
  |cons y l ih=>
   intro acc h;refine ih _ ?_;unfold zC
   split
   ·exact h
   ·rename_i hy
    rw[nT]
    exact⟨h,by simp,λx hx z hz e=>hy (by simp at hz;rw[←hz,←e];exact hx)⟩
 exact key l [] .nil
theorem keysOf{h:Heap}:∀{l:List (Int×ak)},ElemsOf (fL prog w) l→∃ks:List (List UInt8),aN h (ks.map .bytes) (l.map (λx=>x.2))∧∀k,(∃e∈l,(fL prog w).is k e.2=true)→k∈ks
 |[],_=>⟨[],.nil,λk ⟨e,he,_⟩=>cA he⟩
 |e::l,wO=>by
  refine a9 (keysOf (h:=h) wO.tail) λks h1 h2=>?_;obtain⟨⟨k,hk,_⟩,_⟩:=wO.head
  refine⟨k::ks,?_,λk' ⟨e',zd,c4⟩=>?_⟩
  ·refine .cons ?_ h1
   obtain⟨hh,v⟩:=e;cases v<;>simp[fL,tK]at hk;subst hk
   exact .bytes _ _
  ·rcases List.mem_cons.mp zd with rfl |zd
   ·have:=(fL prog w).inj e'.2 k' k c4 hk
    rw[this];exact .head _
   ·exact .tail _ (h2 k' ⟨e',zd,c4⟩)
theorem aU.set:aU c 1 (.type "set") S6:=aU.a1 λ{A σ s a v Q} hr R e q=>by
 refine bF q λbs h hl q=>?_;subst e;refine R.li h λitems m hg dK rs=>?_;rw[aZ]at dK
 refine agF hr.h (dJ hg) dK (λi v hv=>?_) (by unfold tH;exact l2 hl (er dK) (by simp+arith only)) λh' tk es ep t S keep=>?_
 ·have hi:i<bs.length:=dK▸(Array.getElem?_eq_some_iff.mp hv).1
  have hb:(bs.map CV.bytes)[i]?=some (.bytes bs[i]):=by rw[dM,bS hi];rfl
  refine a9 (rs.get hb) λv' h1 h2=>?_;rw[vq,hv]at h1;obtain rfl:=bt h1;obtain⟨t,rfl⟩:=h2.fP
  exact⟨_,_,bS hi,rfl⟩
 ·refine bF S.ob.ex λo ho hex hd=>?_
  refine a9 (keysOf (h:=h') S.el) λks h1 h2=>?_
  have qY:ks.length=es.size:=by rw[←mI,←aZ (f:=CV.bytes),h1.length,aZ]
  refine II (tk:=tk) (x:=.set (wL bs)) R keep (kH _) (λz=>⟨z,o,es,ep,t,ks,ho,hex,hd,S.ob.ft,?_,h1,λhT=>⟨(S.led hT).1,λh=>(S.led hT).2 (ey (nU 1) h)⟩⟩) q
  exact UI (agJ bs) (λk hk=>h2 k ((S.mem k).mp hk)) (by rw[qY,S.sz];rfl)
theorem aU.sorted:aU c 1 (.builtin "sorted") uq:=aU.or (aU.a1 λ{A σ s a v Q} hr R e q=>by
  refine bF q λes h h4 q=>?_;subst e
  exact R.di h λkvs hd hl kr=>C1 oI.ints 0 (PK:=λks=>ks=kvs.map (λx=>x.1)) R (λR' uB=>Ud agd hr.h (UG R h rfl) hd (hl▸h4) R' uB) λks pk ws hp hs=>q ws (by rw[kr.keys,←pk];exact hp) (agf hs)) (aU.or (aU.a1 λ{A σ s a v Q} hr R e q=>by
  refine bF q λes h h4 q=>?_;subst e
  exact R.db h λkvs hd hl kr=>C1 oI.bytes [] (PK:=λks=>ks=kvs.map (λx=>x.1)) R (λR' uB=>Ud age hr.h (UG R h rfl) hd (hl▸h4) R' uB) λks pk ws hp hs=>q ws (by rw[kr.keys,←pk];exact hp) hs) (aU.or (aU.a1 λ{A σ s a v Q} hr R e q=>by
  refine bF q λbs h h4 q=>?_;subst e;obtain⟨z,o,es,ep,t,ks,ho,hex,hd,hf,hp,yX,hl⟩:=R.objs _ _ h;rw[←hp.length_eq]at h4
  have dK:es.size=ks.length:=by rw[←mI,←aZ (f:=CV.bytes),yX.length,aZ]
  refine C1 oI.bytes [] (PK:=λks=>ks.Perm bs) R (λR' uB=>ags (A:=A.in1) hr.h ⟨⟨o,ho,hex,hd⟩,hf⟩ hl (dK▸dQ (aR h4 (by decide))) λh' tk d acc keep sN=>?_) λks pk ws hp hs=>q ws (hp.trans pk) hs
  refine a9 (aN.agI sN yX) λk2 g1 g2=>?_
  exact uB h' tk d acc k2 keep (g2.bQ λb y y eb=>keep b _ eb) (g1.length_eq▸h4) (g1.trans hp)) (aU.a1 λ{A σ s a v Q} hr R e q=>by
  refine bF q λps h h4 q=>?_;subst e;refine R.li h λitems m hg dK rs=>?_;rw[aZ]at dK
  exact C1 oI.lC (0,[]) (PK:=λks=>ks=ps) R (λR' uB=>wpAny_collect_seq _ (.inl rfl) hg rfl rfl (λh' keep=>uB h' s.toks s.drawn items.toList ps keep (rs.bQ λb y y eb=>keep b _ eb) h4 rfl) (dK▸dQ (aR h4 (by decide)))) λks pk ws hp hs=>q ws (pk▸hp) hs)))
end
end
set_option tactic.hygienic false
noncomputable def M4{M:Type}(d:M)(f:List Stmt→M)(k:List Stmt→M):Stmt→M
 |.FunctionDef _ _ b _ _ _ _ _ _ _=>f b
 |.ClassDef _ _ _ b _ _ _ _ _ _ _=>k b
 |_=>d
noncomputable def fbs(l:List Stmt):List (List Stmt):=l.flatMap (M4 [] (λb=>[b]) λz=>[])
noncomputable def bds:List (List Stmt):=ot.main.body.flatMap (M4 [] (λb=>[b]) fbs)
noncomputable def bd(i:Nat):List Stmt:=bds.getD i []
noncomputable def rows:List (Nat×Nat×Ks×List Nat):=[(71,2,[av 84,av 181,av 160,a8 207,a8 101],[84]),(78,3,[av 161,av 110,av 118,a8 209],[161]),(83,4,[e7 160,e7 61,a8 101,a8 124],[160,61]),(98,5,[av 78,av 81],[78,81]),(105,6,[av 78,av 161,av 175,a8 101,a8 18,a8 229],[78,161]),(194,16,[av 161,av 128,av 79,a8 101],[161,128]),(201,17,[av 161,av 128,av 79],[161,128]),(208,18,[av 161,av 128,av 9,a8 18],[161,128]),(222,19,[av 78,av 66,av 105,av 91,av 93],[78,66,105,91,93]),(229,20,[av 78,a8 222,a8 29],[78]),(250,21,[av 78,av 63,av 66,av 21],[78,63,66,21]),(257,22,[av 78,a8 5],[78]),(292,26,[av 66,a8 276],[66]),(306,27,[av 78,av 176],[78,176]),(320,29,[av 78,av 66,av 106],[78,66]),(334,30,[av 87,av 110,av 112,av 97,av 106,av 20,a8 246,a8 282,a8 271],[87]),(341,31,[av 87,av 110,a8 244,a8 18,a8 207],[87]),(353,33,[av 179],[179]),(360,34,[av 179,av 76,av 4,av 130,a8 242,a8 18],[179]),(374,35,[av 78,av 87,av 185,av 144,av 219,av 107,av 179],[78,87,185,144,219,107,179]),(348,32,[av 16,av 135],[16,135]),(381,36,[av 78,av 121,av 21,av 16,av 135,a8 222,a8 154,a8 277],[78]),(388,37,[av 78,a8 273],[78]),(402,38,[av 55,av 175,a8 222,a8 29,a8 18],[55,175]),(416,39,[av 78,av 153],[78,153]),(423,40,[av 78,av 55,av 175,av 132,av 21,a8 265],[78,55,175,132]),(430,41,[av 78,av 55,av 175,a8 34,a8 207,a8 101],[78,55,175]),(444,43,[av 78,av 146,a8 137],[78,146]),(479,48,[av 78,av 21,a8 258],[78,21]),(500,51,[av 78,av 21,av 55,av 85,av 132,a8 207,a8 154],[78,21,55]),(507,52,[av 78,av 21,a8 34],[78,21]),(514,53,[av 78,av 21,a8 38],[78,21]),(521,54,[av 78,av 21,a8 137],[78,21]),(557,57,[av 78],[78]),(564,58,[av 78,a8 18],[78]),(571,59,[av 78,av 74,av 90,av 4,av 96,a8 18],[78,74,90]),(585,61,[av 78,av 4,av 61,av 113,av 100,a8 18],[78]),(578,60,[av 78,av 108,av 56],[78]),(606,62,[av 78,av 185,av 87,av 45],[78,185,87,45]),(620,63,[av 14,av 112,av 110,av 21],[14]),(627,64,[av 109,av 111],[109,111]),(634,65,[av 109,av 111,a8 139],[109,111]),(650,66,M5,vF),(657,67,[av 78,av 21,av 146,av 185,a8 58,a8 247],[78,21]),(664,68,[av 78,av 21,a8 58],[78,21]),(671,69,[av 78,av 21],[78,21]),(678,70,[av 78,av 21],[78,21]),(683,71,[e7 78,av 21,av 191,av 51,av 185,av 57,a8 19],[78,21]),(690,72,[av 78,av 99,av 164,av 109,av 119,av 123,av 21,av 116,av 111,av 163,a8 211,a8 220],[78,99,164]),(775,81,[av 78,av 170,av 155,av 251,av 21,av 99,av 119,av 109,av 110,a8 254,a8 255,a8 142],[78,170,155,251]),(782,82,[av 78,av 21,av 251,av 185],[78,21,251]),(789,83,[av 78,av 170,av 126,av 251,av 123,av 77,av 110,av 21,av 163,a8 211,a8 245],[78,170,126,251]),(815,87,M6,vG),(915,99,[av 78,av 87,av 72,av 63,av 21,av 66,av 106,a8 5],[78,87,72]),(119,7,[av 89,av 146,av 72,av 85,a8 5,a8 6],[89,146,72]),(126,8,[av 131,av 89,av 146,av 72,av 71,av 42,a8 252],[131,89,146,72,71]),(141,9,[av 78,av 50,av 144,av 171,av 186,av 159],[78,50,144,171,186,159]),(148,10,[av 78,av 146],[78,146]),(155,11,[av 78,av 91,av 108,av 56],[78,91]),(160,12,[av 78,e7 131,e7 89,av 21,av 146,av 185,e7 72,e7 71,e7 61,av 69,a8 18,a8 275,a8 7],[78,131,89,21]),(176,13,M7,pB),(181,14,[av 174,e7 59,av 146,a8 168],[174]),(186,15,[av 174,av 76,a8 204,a8 168],[174]),(965,105,[av 167,av 44,av 102,av 117],[167]),(972,106,[av 46,av 100,av 151,av 44],[46,100]),(979,107,[av 46,av 82,a8 215,a8 18],[46,82]),(986,108,[av 46,av 65,av 76,av 1,av 57,av 27,av 88,a8 124,a8 215,a8 58,a8 216,a8 18],[46,65]),(991,109,[e7 46,av 61,av 32,a8 215,a8 124],[46,61]),(998,110,[av 76,av 110,av 1,av 27,av 82,av 0,av 2,a8 220,a8 168],[76]),(1017,112,[av 76,av 133,av 126,av 170,av 191,av 112,av 110,av 1,e7 51,av 0],[76,133,126,170]),(1024,113,[av 46,av 32,av 133,av 203,av 110,a8 216,a8 215],[46,32,133,203]),(1029,114,[av 92,av 1,av 76,av 133,e7 147,av 85,av 68,av 66,av 60,av 108,av 56,av 62,av 162,a8 18],[92,1,76,133,147,85]),(1034,115,[e7 131,e7 14,av 27,e7 85,av 132,av 8,e7 66,av 147,a8 168,a8 28,a8 204,a8 278],[131,14,27,85]),(285,25,M8,M9),(271,24,Na,Nb),(313,28,Nc,Nd),(437,42,Nf,Ng),(1012,111,Nh,Ni),(1039,116,Nj,Nk)]
noncomputable def Nl(K:Frag)(n:String)(a:Addr):Option {p:Array ak×Nat // K.lookup a=some {cls:=.type n,data:=.seq p.1 p.2}}:=
 match K.lookup a with
 |some ⟨.type m,none,.seq items k,⟨[]⟩⟩=>if h:m=n then some ⟨(items,k),h▸rfl⟩else none
 |_=>none
section
variable(K:Frag)
noncomputable abbrev FC(v:ak):={x:CV // ∀h,K.In h→aV h x v}
noncomputable def FD(f:(v:ak)→Option (FC K v)):(l:List ak)→Option {xs:List CV // ∀h,K.In h→aN h xs l}
 |[]=>some ⟨[],λz z=>.nil⟩
 |v::l=>(f v).bind λx=>(FD f l).map λxs=>⟨x.1::xs.1,λh X=>.cons (x.2 h X) (xs.2 h X)⟩
noncomputable def cv:Nat→(v:ak)→Option (FC K v)
 |0=>λz=>none
 |n+1=>λv=>match v with
  |.none=>some ⟨.none,λz z=>.none⟩
  |.bool b=>some ⟨.bool b,λz z=>.bool b⟩
  |.int i t=>some ⟨.int i,λz z=>.int i t⟩
  |.str s t=>some ⟨.str s,λz z=>.str s t⟩
  |.bytes b t=>some ⟨.bytes b.toList,λz z=>.bytes b.toList t⟩
  |.type n=>some ⟨.ty n,λz z=>.ty n⟩
  |.builtin n=>some ⟨.bi n,λz z=>.bi n⟩
  |.ref a=>((Nl K "tuple" a).bind λp=>(FD K (cv n) p.1.1.toList).map λxs=>(⟨.tup xs.1,λh X=>.tup (X _ _ p.2) (xs.2 h X)⟩:FC K (.ref a))).or (some ⟨.loc a,λz z=>.loc a⟩)
  |_=>none
noncomputable def FE(l:List ak):Option (List CV):=(FD K (cv K 3) l).map (λx=>x.1)
noncomputable def FF(i:Nat):Option CV:=(nsIn K nV (nm i)).bind λo=>(match o with
 |some v=>some v
 |none=>if nm i="__name__" then none else Mk (nm i):Option ak).bind λv=>(cv K 3 v).map (λx=>x.1)
noncomputable def FG(a:Nat):Option (List CV):=(FH K (fdOf K a).defaults).bind λl=>FE K l.toList
noncomputable def pD(a:Nat):Option (List CV):=(Nl K "list" a).bind λp=>FE K p.1.1.toList
end
noncomputable def x8:List (Nat×List CV):=[(650,[.tup []]),(815,[.tup [],.str (ax "date"),.bool false,.none,.none]),(176,[.tup [],.str (ax "date"),.none,.none])]
noncomputable def tS(c:Cx):Prop:=(∀r∈rows,Bh c.K r.1 r.2.2.1 r.2.2.2=true∧x9 c.K r.1=bd r.2.1)∧∀d∈x8,FG c.K d.1=some d.2
noncomputable def pOk(k:Ks)(p:List Nat):Bool:=p.all (λi=>fN (k.lookup i))&&decide p.Nodup
theorem aay:(rows.all λr=>(r.2.2.1.all λp=>k9 p.1 nN&&p.2!=.free)&&pOk r.2.2.1 r.2.2.2)=true:=by kernel_rfl
theorem vH{a i:Nat}{k:Ks}{p:List Nat}(h:rows[j]?=some (a,i,k,p)):(∀q∈k,q.1<nN∧q.2≠.free)∧(∀i∈p,fN (k.lookup i)=true)∧p.Nodup:=by
 refine xa (cK.1 (iy.1 aay _ (tj h))) λu v=>?_;refine xa (cK.1 v) λv w=>?_;exact⟨λq hq=>xa (cK.1 (iy.1 u q hq)) λx y=>⟨cG x,bne_iff_ne.1 y⟩,iy.1 v,of_decide_eq_true w⟩
theorem vI{c:Cx}(hK:tS c)(j:Nat){a i:Nat}{k:Ks}{p:List Nat}(h:rows[j]?=some (a,i,k,p)):vJ c a (fdOf c.K a) (bd i) k∧qz (fdOf c.K a).params=true∧(fdOf c.K a).params.args.map (λx=>x.arg)=p.map nm∧vK c.K (fdOf c.K a).defaults=true∧keepIn c.K (.ref a)=true:=by
 have hm:=tj h;have:=aaz (hK.1 _ hm).1 (λq hq=>((vH h).1 q hq).1) λq hq=>((vH h).1 q hq).2;rw[(hK.1 _ hm).2]at this;exact this
theorem kf{c:Cx}(a:Nat)(hK:tS c)(h:autoParam ((rows.find? λr=>rQ r.1 a).isSome=true) aA):dw c (.ref a):=by
 obtain⟨r,hr⟩:=Lf.1 h;have e:=Nat.eq_of_beq_eq_true (List.find?_some (p:=λr:Nat×Nat×Ks×List Nat=>rQ r.1 a) hr);refine xe (YL (alh hr)) λj hj=>?_;subst e;exact dw.fn (vI hK j hj).2.2.2.2
theorem kc{c:Cx}(C:Nat){f:Nat}(h:ya C f=true):dw c (.ref C):=dw.fn (c.FJ _ _ (Nn h)).2.2.2
theorem Bj{c:Cx}{n:Nat}{xs:List Stmt}{m:SM}(r:{m:SM // eQ c n ks xs m})(e:r.1=m):eQ c n ks xs m:=e▸r.2
theorem aaA{c:Cx}{n a i:Nat}{k:Ks}{p:List Nat}{m:SM}(hK:tS c)(j:Nat)(h:rows[j]?=some (a,i,k,p))(s:eQ c n k (bd i) m):bE c (n+1) (.ref a) (bD p m):=
 have⟨h1,h2,h3,h4,_⟩:=vI hK j h
 bE.def h1 s p (vH h).2.1 (vH h).2.2 h2 h3 h4
noncomputable def t0{c:Cx}(G:x5 c):Tb c where
 G:=G
 fs:=[⟨(18,_,_,_,_),G _ _ rfl,rfl,dw.bi _,aU.len⟩,⟨(24,_,_,_,_),G _ _ rfl,rfl,dw.bi _,aU.ord⟩,⟨(15,_,_,_,_),G _ _ rfl,rfl,dw.ty _,aU.int⟩,⟨(58,_,_,_,_),G _ _ rfl,rfl,dw.ty _,aU.list⟩,
  ⟨(134,_,_,_,_),G _ _ rfl,rfl,dw.ty _,aU.tuple⟩,⟨(101,_,_,_,_),G _ _ rfl,rfl,dw.ty _,aU.bytes⟩,⟨(29,_,_,_,_),G _ _ rfl,rfl,dw.ty _,aU.str⟩,⟨(19,_,_,_,_),G _ _ rfl,rfl,dw.bi _,aU.max⟩,
  ⟨(7,_,_,_,_),G _ _ rfl,rfl,dw.bi _,aU.all⟩,⟨(168,_,_,_,_),G _ _ rfl,rfl,dw.bi _,aU.sorted⟩,⟨(28,_,_,_,_),G _ _ rfl,rfl,dw.ty _,aU.set⟩]
 ms:=[]
 bs:=[⟨(_,_,_,_,_),FK,aU.append⟩,⟨(_,_,_,_,_),aaB,aU.or aU.aaC aU.FL⟩,⟨(_,_,_,_,_),aaD,aU.reverse⟩,⟨(_,_,_,_,_),aaE,aU.extend⟩,⟨(_,_,_,_,_),aaF,aU.get⟩,⟨(_,_,_,_,_),aaG,aU.aaH⟩,
  ⟨(_,_,_,_,_),aaI,aU.find⟩,⟨(_,_,_,_,_),aaJ,aU.split⟩,⟨(_,_,_,_,_),aaK,aU.join⟩,⟨(_,_,_,_,_),aaL,aU.lower⟩,⟨(_,_,_,_,_),aaM,aU.count⟩]
 dk:=0
@[elab_as_elim] theorem aN.c {h:Heap} {P:List ak→Prop} (r:aN h (x::xs) vs) (k:∀v ws,aV h x v→aN h xs ws→P (v::ws)):P vs:=by
 refine jg r.iT λv ws aq a b=>?_;subst aq;exact k v ws a b
@[elab_as_elim] theorem aN.n {h:Heap} {P:List ak→Prop} (r:aN h [] vs) (k:P []):P vs:=r.jU▸k
@[elab_as_elim] theorem gZ.n {h:Heap} {vs:List (Str×ak)} {P:List (Str×ak)→Prop} (r:gZ h [] vs) (k:P []):P vs:=r.jU▸k
@[elab_as_elim] theorem gZ.c {h:Heap} {i:Nat} {xs:KV} {vs:List (Str×ak)} {P:List (Str×ak)→Prop} (r:gZ h ((i,x)::xs) vs) (k:∀v ws,aV h x v→gZ h xs ws→P ((nm i,v)::ws)):P vs:=by
 cases r with |cons _ e r=>exact k _ _ e r
theorem Np{K:Frag}{l:List ak}{h:Heap}(e:FE K l=some xs)(X:K.In h):aN h xs l:=by
 refine a9 (tg.1 e) λx zz aq=>?_;subst aq;exact x.2 h X
theorem dfltAt{c:Cx}(hK:tS c)(R:Rel c σ s.heap){a:Nat}(h:(a,xs)∈x8):
  ∃T o items m,(fdOf c.K a).defaults=.ref T∧s.heap.get? T=some o∧aN s.heap xs items∧o.data=.seq (Ml items) m:=by
 have X:=c.jV.keeps R.base;refine a9 (vm.1 (hK.2 _ h)) λl e h=>?_;refine f7 (Nq e) λT o n e q d=>?_;exact⟨T,o,_,_,e,X _ _ q,Np h X,d⟩
noncomputable abbrev GK(c:Cx):Prop:=x5 c∧tS c
theorem gD{c:Cx}{n a i:Nat}{k:Ks}{p:List Nat}{m:SM}(Z:GK c)(j:Nat)(T:Tb c)(h:autoParam (rows[j]?=some (a,i,k,p)) aA)(e:((lX T n 40).s k (bd i)).1=m:=by kernel_rfl):bE c (n+2) (.ref a) (bD p m):=aaA Z.2 j h (Bj _ e)
section
variable{c:Cx}(Z:GK c)(T:Tb c)(i a:Nat)
noncomputable def d5{k:Nat}{F:FM}(h:bE c k (.ref a) F)(e:autoParam (tP.lookup i=some (.loc a)) aA)(r:autoParam ((rows.find? λr=>rQ r.1 a).isSome=true) aA):Tb c:={T with fs:=(⟨(i,.loc a,.ref a,k,F),Z.1 _ _ e,rfl,kf a Z.2 r,h.toF⟩:Fe c)::T.fs}
noncomputable def pE{k f:Nat}{F:FM}(h:bE c k (.ref f) F)(e:autoParam (tP.lookup i=some (.loc a)) aA)(r:autoParam (ya a f=true) aA):Tb c:={T with fs:=(⟨(i,.loc a,.ref a,k+1,eV a F),Z.1 _ _ e,rfl,kc a r,aU.make r h⟩:Fe c)::T.fs}
noncomputable def d6{k f:Nat}{F:FM}(h:bE c k (.ref f) F)(e:autoParam (rV a i f=true) aA):Tb c:={T with ms:=(⟨(i,a,f,k,F),e,h.toF⟩:Me c)::T.ms}
end
section
variable{c:Cx}(Z:GK c)
include Z
theorem aaN:bE c 2 (.ref 71) qA:=gD Z 0 (t0 Z.1)
noncomputable def FN:Tb c:=d5 Z (t0 Z.1) 222 71 (aaN Z)
theorem aaO:bE c 2 (.ref 78) vL:=gD Z 1 ({FN Z with bs:=(⟨(_,_,_,_,_),aaP,aU.FO⟩:Be c)::(FN Z).bs})
noncomputable def Nr:Tb c:=d5 Z (FN Z) 154 78 (aaO Z)
theorem aaQ:bE c 2 (.ref 83) Bk:=gD Z 2 (Nr Z)
noncomputable def Nt:Tb c:=d5 Z (Nr Z) 229 83 (aaQ Z)
theorem aaR:bE c 2 (.ref 98) Bl:=gD Z 3 (Nt Z)
noncomputable def Nu:Tb c:=pE Z (Nt Z) 267 108 (aaR Z)
theorem aaS:bE c 3 (.ref 105) FP:=gD Z 4 (Nu Z)
noncomputable def Nv:Tb c:=d6 (Nu Z) 148 108 (aaS Z)
theorem aaT:bE c 2 (.ref 194) FQ:=gD Z 5 (Nv Z)
noncomputable def Nw:Tb c:=d5 Z (Nv Z) 276 194 (aaT Z)
theorem aaU:bE c 2 (.ref 201) FR:=gD Z 6 (Nw Z)
noncomputable def Ny:Tb c:=d5 Z (Nw Z) 271 201 (aaU Z)
theorem aaV:bE c 2 (.ref 208) FT:=gD Z 7 (Ny Z)
noncomputable def Nz:Tb c:=d5 Z (Ny Z) 272 208 (aaV Z)
theorem aaW:bE c 2 (.ref 222) tT:=gD Z 8 (Nz Z)
noncomputable def NB:Tb c:=pE Z (Nz Z) 141 232 (aaW Z)
theorem aaX:bE c 3 (.ref 229) Bm:=gD Z 9 (NB Z)
noncomputable def ND:Tb c:=d6 (NB Z) 161 232 (aaX Z)
theorem aaY:bE c 2 (.ref 250) Bn:=gD Z 10 (ND Z)
noncomputable def NF:Tb c:=pE Z (ND Z) 94 274 (aaY Z)
theorem aaZ:bE c 2 (.ref 257) Bo:=gD Z 11 (NF Z)
noncomputable def NG:Tb c:=d6 (NF Z) 205 274 (aaZ Z)
theorem aa0:bE c 3 (.ref 292) FU:=gD Z 12 (NG Z)
noncomputable def NH:Tb c:=d5 Z (NG Z) 282 292 (aa0 Z)
theorem aa1:bE c 2 (.ref 306) yb:=gD Z 13 (NH Z)
noncomputable def FV:Tb c:=pE Z (NH Z) 39 323 (aa1 Z)
theorem aa2:bE c 2 (.ref 320) FW:=gD Z 14 (FV Z)
theorem aa3:bE c 4 (.ref 334) FX:=gD Z 15 (FV Z)
noncomputable def NI:Tb c:=d5 Z (FV Z) 244 334 (aa3 Z)
theorem aa4:bE c 5 (.ref 341) FY:=gD Z 16 (NI Z)
noncomputable def NJ:Tb c:=d5 Z (NI Z) 230 341 (aa4 Z)
theorem aa5:bE c 3 (.ref 353) FZ:=gD Z 17 (NJ Z)
noncomputable def NK:Tb c:=d5 Z (NJ Z) 242 353 (aa5 Z)
theorem aa6:bE c 4 (.ref 360) F0:=gD Z 18 (NK Z)
noncomputable def NL:Tb c:=d5 Z (NK Z) 273 360 (aa6 Z)
theorem aa7:bE c 2 (.ref 374) yc:=gD Z 19 (NL Z)
noncomputable def NM:Tb c:=pE Z (NL Z) 138 391 (aa7 Z)
theorem aa8:bE c 2 (.ref 348) NN:=gD Z 20 (NM Z)
noncomputable def NO:Tb c:=d5 Z (NM Z) 277 348 (aa8 Z)
theorem aa9:bE c 4 (.ref 381) F2:=gD Z 21 (NO Z)
noncomputable def NP:Tb c:=d6 (NO Z) 161 391 (aa9 Z)
theorem aba:bE c 5 (.ref 388) yd:=gD Z 22 (NP Z)
noncomputable def NQ:Tb c:=d6 (NP Z) 190 391 (aba Z)
theorem abb:bE c 3 (.ref 402) F4:=gD Z 23 (NQ Z)
noncomputable def NR:Tb c:=d5 Z (NQ Z) 265 402 (abb Z)
theorem abc:bE c 2 (.ref 416) Bp:=gD Z 24 (NR Z)
noncomputable def NT:Tb c:=pE Z (NR Z) 236 539 (abc Z)
theorem F5:bE c 4 (.ref 423) rX:=gD Z 25 (NT Z)
noncomputable def NU:Tb c:=d6 (NT Z) 53 539 (F5 Z)
theorem abd:bE c 5 (.ref 430) Bq:=gD Z 26 (NU Z)
noncomputable def NV:Tb c:=d6 (NU Z) 136 539 (abd Z)
theorem abe:bE c 5 (.ref 444) Br:=gD Z 27 (NV Z)
noncomputable def NW:Tb c:=d6 (NV Z) 257 539 (abe Z)
theorem abf:bE c 2 (.ref 479) F6:=gD Z 28 (NW Z)
noncomputable def NX:Tb c:=d6 (NW Z) 166 539 (abf Z)
theorem abg:bE c 3 (.ref 500) ye:=gD Z 29 (NX Z)
noncomputable def NY:Tb c:=d6 (NX Z) 183 539 (abg Z)
theorem abh:bE c 4 (.ref 507) F7:=gD Z 30 (NY Z)
noncomputable def NZ:Tb c:=d6 (NY Z) 42 539 (abh Z)
theorem abi:bE c 4 (.ref 514) F8:=gD Z 31 (NZ Z)
noncomputable def N0:Tb c:=d6 (NZ Z) 87 539 (abi Z)
theorem abj:bE c 4 (.ref 521) yf:=gD Z 32 (N0 Z)
noncomputable def N1:Tb c:=d6 (N0 Z) 146 539 (abj Z)
theorem abk:bE c 2 (.ref 557) yg:=gD Z 33 (N1 Z)
noncomputable def N5:Tb c:=pE Z (N1 Z) 211 588 (abk Z)
theorem abl:bE c 2 (.ref 564) yh:=gD Z 34 (N5 Z)
noncomputable def N6:Tb c:=d6 (N5 Z) 61 588 (abl Z)
theorem abm:bE c 2 (.ref 571) qB:=gD Z 35 (N6 Z)
noncomputable def N7:Tb c:=d6 (N6 Z) 26 588 (abm Z)
theorem abn:bE c 2 (.ref 585) F9:=gD Z 36 (N7 Z)
noncomputable def N8:Tb c:=d6 (N7 Z) 80 588 (abn Z)
theorem abo:bE c 3 (.ref 578) yi:=gD Z 37 (N8 Z)
noncomputable def N9:Tb c:=d6 (N8 Z) 83 588 (abo Z)
theorem abp:bE c 2 (.ref 606) Ga:=gD Z 38 (N9 Z)
noncomputable def Oa:Tb c:=pE Z (N9 Z) 247 609 (abp Z)
theorem abq:bE c 2 (.ref 620) Gb:=gD Z 39 (Oa Z)
noncomputable def Ob:Tb c:=d5 Z (Oa Z) 245 620 (abq Z)
theorem Oc:bE c 2 (.ref 627) Bs:=gD Z 40 (Ob Z)
noncomputable def Od:Tb c:=d5 Z (Ob Z) 255 627 (Oc Z)
theorem abr:bE c 2 (.ref 634) abt:=gD Z 41 (Od Z)
noncomputable def Oe:Tb c:=d5 Z (Od Z) 254 634 (abr Z)
theorem abu:eQ c 1 M5 (bd 66) Gc:=Bj ((lX (Oe Z) 0 40).s _ _) (by kernel_rfl)
theorem abv:bE c 2 (.ref 650) Gd:=λA σ s xs vs kx kv Q hr R r rk q=>by
 refine xY (vI Z.2 42 (a:=650) rfl) λh1 h2 h3 zz=>?_;refine tM (dfltAt Z.2 R (.head _)) λT o items m i1 i2 i4 i3=>?_;obtain⟨x,y,rfl,rfl,q⟩:=q;revert i3
 exact r.c λv1 z r1 r=>r.c λv2 z r2 r=>r.n<|rk.n<|i4.c λd0 z e0 i4=>i4.n λi3=>yj h1 (abu Z) (ps:=vF) (by decide) hr R (abw h2 i1 i2 h3 i3) (.cons r1 (.cons r2 (.cons e0 .nil))) rfl q
noncomputable def Of:Tb c:=pE Z (Oe Z) 40 958 (abv Z)
theorem abx:bE c 5 (.ref 657) rY:=gD Z 43 (Of Z)
noncomputable def Og:Tb c:=d6 (Of Z) 169 958 (abx Z)
theorem aby:bE c 6 (.ref 664) Ge:=gD Z 44 (Og Z)
noncomputable def Oh:Tb c:=d6 (Og Z) 185 958 (aby Z)
theorem abz:bE c 6 (.ref 671) yk:=gD Z 45 (Oh Z)
noncomputable def Oi:Tb c:=d6 (Oh Z) 45 958 (abz Z)
theorem abA:bE c 6 (.ref 683) yl:=gD Z 47 (Oi Z)
noncomputable def Oj:Tb c:=d6 (Oi Z) 114 958 (abA Z)
theorem abB:bE c 7 (.ref 690) Gf:=gD Z 48 (d5 Z (Oj Z) 255 627 (Oc Z) rfl rfl)
noncomputable def Ol:Tb c:=d6 (Oj Z) 184 958 (abB Z)
theorem abC:bE c 8 (.ref 775) Gg:=gD Z 49 (Ol Z)
noncomputable def Om:Tb c:=d6 (Ol Z) 126 958 (abC Z)
theorem abD:bE c 6 (.ref 782) Gh:=gD Z 50 (Om Z)
noncomputable def Oo:Tb c:=d6 (Om Z) 202 958 (abD Z)
theorem abE:bE c 7 (.ref 789) Gi:=gD Z 51 (Oo Z)
noncomputable def Oq:Tb c:=d6 (Oo Z) 172 958 (abE Z)
theorem abF:eQ c 8 M6 (bd 87) Gj:=Bj ((lX ({Oq Z with fs:=[]}) 7 40).s _ _) (by kernel_rfl)
theorem abG:bE c 9 (.ref 815) Gk:=λA σ s xs vs kx kv Q hr R r rk q=>by
 refine xY (vI Z.2 52 (a:=815) rfl) λh1 h2 h3 zz=>?_;refine tM (dfltAt Z.2 R (.tail _ (.head _))) λT o items m i1 i2 i4 i3=>?_;obtain⟨x,y,z,w,rfl,rfl,q⟩:=q;revert i3
 exact r.c λv1 u r1 r=>r.c λv2 u r2 r=>r.c λv3 u r3 r=>r.c λv4 u r4 r=>r.n<|rk.n<|i4.c λd0 u e0 i4=>i4.c λd1 u e1 i4=>i4.c λd2 u e2 i4=>i4.c λd3 u e3 i4=>i4.c λd4 u e4 i4=>i4.n λi3=>yj h1 (abF Z) (ps:=vG) (by decide) hr R (abH h2 i1 i2 h3 i3) (.cons r1 (.cons r2 (.cons r3 (.cons r4 (.cons e2 (.cons e3 (.cons e4 .nil))))))) rfl q
noncomputable def Ot:Tb c:=d6 (Oq Z) 174 958 (abG Z)
theorem abI:bE c 5 (.ref 915) Gl:=gD Z 53 (d6 (Ot Z) 47 323 (aa2 Z) rfl)
noncomputable def Ou:Tb c:=d6 (Ot Z) 201 958 (abI Z)
theorem abJ:bE c 6 (.ref 678) Gm:=gD Z 46 (Ou Z)
noncomputable def Ov:Tb c:=d6 (Ou Z) 87 958 (abJ Z)
theorem abK:bE c 7 (.ref 119) Gn:=gD Z 54 (Ov Z)
noncomputable def Ow:Tb c:=d5 Z (Ov Z) 252 119 (abK Z)
theorem abL:bE c 8 (.ref 126) ym:=gD Z 55 (Ow Z)
noncomputable def Ox:Tb c:=d5 Z (Ow Z) 275 126 (abL Z)
theorem abM:bE c 2 (.ref 141) Gp:=gD Z 56 (Ox Z)
noncomputable def Oy:Tb c:=pE Z (Ox Z) 210 163 (abM Z)
theorem abN:bE c 2 (.ref 148) Gq:=gD Z 57 (Oy Z)
noncomputable def Oz:Tb c:=d6 (Oy Z) 232 163 (abN Z)
theorem abO:bE c 2 (.ref 155) Gr:=gD Z 58 (Oz Z)
noncomputable def OA:Tb c:=d6 (Oz Z) 221 163 (abO Z)
theorem abP:bE c 9 (.ref 160) Bt:=gD Z 59 (OA Z)
noncomputable def OB:Tb c:=d6 (OA Z) 48 163 (abP Z)
theorem OC:eQ c 9 M7 (bd 13) Bu:=Bj ((lX (OB Z) 8 40).s _ _) (by kernel_rfl)
theorem abQ:bE c 10 (.ref 176) Gs:=λA σ s xs vs kx kv Q hr R r rk q=>by
 refine xY (vI Z.2 60 (a:=176) rfl) λh1 h2 h3 zz=>?_;refine tM (dfltAt Z.2 R (.tail _ (.tail _ (.head _)))) λT o items m i1 i2 i4 i3=>?_;obtain⟨x,y,z,w,u,v,rfl,z,q⟩:=q
 rcases z with⟨rfl,rfl⟩ |rfl
 ·revert i3
  exact r.c λv1 g r1 r=>r.c λv2 g r2 r=>r.c λv3 g r3 r=>r.c λv4 g r4 r=>r.n<|rk.c λg g ru rk=>rk.n<|i4.c λd0 g e0 i4=>i4.c λd1 g e1 i4=>i4.c λd2 g e2 i4=>i4.c λd3 g e3 i4=>i4.n λi3=>yj h1 (OC Z) (ps:=pB) (by decide) hr R (abR h2 i1 i2 h3 i3) (.cons r1 (.cons r2 (.cons r3 (.cons r4 (.cons e1 (.cons ru (.cons e3 .nil))))))) rfl q
 ·revert i3
  exact r.c λv1 g r1 r=>r.c λv2 g r2 r=>r.c λv3 g r3 r=>r.c λv4 g r4 r=>r.n<|rk.c λg g ru rk=>rk.c λg g rv rk=>rk.n<|i4.c λd0 g e0 i4=>i4.c λd1 g e1 i4=>i4.c λd2 g e2 i4=>i4.c λd3 g e3 i4=>i4.n λi3=>yj h1 (OC Z) (ps:=pB) (by decide) hr R (abS h2 i1 i2 h3 i3) (.cons r1 (.cons r2 (.cons r3 (.cons r4 (.cons e1 (.cons ru (.cons rv .nil))))))) rfl q
noncomputable def OD:Tb c:=d5 Z (OB Z) 158 176 (abQ Z)
theorem abT:bE c 6 (.ref 181) Bv:=gD Z 61 (OD Z)
noncomputable def OE:Tb c:=d5 Z (OD Z) 204 181 (abT Z)
theorem abU:bE c 7 (.ref 186) Gu:=gD Z 62 (OE Z)
noncomputable def OF:Tb c:=d5 Z (OE Z) 278 186 (abU Z)
theorem abV:bE c 2 (.ref 965) Gv:=gD Z 63 (OF Z)
noncomputable def OG:Tb c:=d5 Z (OF Z) 214 965 (abV Z)
theorem abW:bE c 2 (.ref 972) jz:=gD Z 64 (OG Z)
noncomputable def OH:Tb c:=d5 Z (OG Z) 215 972 (abW Z)
theorem abX:bE c 3 (.ref 979) pF:=gD Z 65 (OH Z)
noncomputable def OI:Tb c:=d5 Z (OH Z) 216 979 (abX Z)
theorem abY:bE c 4 (.ref 986) Gx:=gD Z 66 (OI Z)
noncomputable def OJ:Tb c:=d5 Z (OI Z) 274 986 (abY Z)
theorem abZ:bE c 3 (.ref 991) Gy:=gD Z 67 (OJ Z)
noncomputable def OK:Tb c:=d5 Z (OJ Z) 227 991 (abZ Z)
theorem ab0:bE c 2 (.ref 998) Gz:=gD Z 68 (OK Z)
noncomputable def OL:Tb c:=d5 Z (OK Z) 249 998 (ab0 Z)
theorem ab1:bE c 2 (.ref 1017) GA:=gD Z 69 ({OL Z with dk:=1})
noncomputable def OM:Tb c:=d5 Z (OL Z) 248 1017 (ab1 Z)
theorem ab2:bE c 4 (.ref 1024) GB:=gD Z 70 ({OM Z with dk:=2})
noncomputable def ON:Tb c:=d5 Z (OM Z) 217 1024 (ab2 Z)
theorem ab3:bE c 2 (.ref 1029) GC:=gD Z 71 (ON Z)
noncomputable def OO:Tb c:=d5 Z (ON Z) 268 1029 (ab3 Z)
theorem ab4:bE c 8 (.ref 1034) GD:=gD Z 72 (OO Z)
noncomputable def GF:Tb c:=d5 Z (OO Z) 279 1034 (ab4 Z)
end
section
open PySem.SeqAt
noncomputable def gJ(c:Cx)(n:Nat)(ks:Ks)(x:Expr)(m:EM):Prop:=
 ∀⦃A:bj⦄ ⦃env:Env⦄ ⦃e:aL⦄ ⦃σ:St⦄ ⦃s:aw⦄ ⦃Q:CV→St→Prop⦄,cO c n A env ks e σ s→m e σ Q→bx c.M A (eval x env) (cC c σ s Q) s
noncomputable def pG(c:Cx)(n:Nat)(ks:Ks)(xs:List Expr)(m:cV):Prop:=
 ∀⦃A:bj⦄ ⦃env:Env⦄ ⦃e:aL⦄ ⦃σ:St⦄ ⦃s:aw⦄ ⦃Q:List CV→St→Prop⦄ (pos:Pos),cO c n A env ks e σ s→m e σ Q→bx c.M A (spliced (dZ pos (cU xs env))) (yS c σ s Q) s
noncomputable def jk(c:Cx)(n:Nat)(ks:Ks)(x:Stmt)(m:SM):Prop:=
 ∀⦃A:bj⦄ ⦃env:Env⦄ ⦃e:aL⦄ ⦃σ:St⦄ ⦃s:aw⦄ ⦃Q:dy→aL→St→Prop⦄,cO c n A env ks e σ s→m e σ Q→bx c.M A (exec x env) (hM c env ks σ s Q) s
noncomputable def g6(c:Cx)(n:Nat)(ks:Ks)(x:List Stmt)(m:SM):Prop:=
 ∀⦃A:bj⦄ ⦃env:Env⦄ ⦃e:aL⦄ ⦃σ:St⦄ ⦃s:aw⦄ ⦃Q:dy→aL→St→Prop⦄,cO c n A env ks e σ s→m e σ Q→bx c.M A (execs x env) (hM c env ks σ s Q) s
noncomputable def ku(c:Cx)(n:Nat)(f:ak)(F:FM):Prop:=
 ∀⦃A:bj⦄ ⦃σ:St⦄ ⦃s:aw⦄ ⦃xs:List CV⦄ ⦃vs:List ak⦄ ⦃kx:KV⦄ ⦃kv:List (bA×ak)⦄ ⦃Q:CV→St→Prop⦄,fe n A→Rel c σ s.heap→aN s.heap xs vs→gZ s.heap kx kv→F xs kx σ Q→
  bx c.M A (call f vs kv) (cC c σ s Q) s
noncomputable def lY(c:Cx)(n:Nat)(f:ak)(F:FM):Prop:=
 ∀⦃A:bj⦄ ⦃σ:St⦄ ⦃s:aw⦄ ⦃xs:List CV⦄ ⦃vs:List ak⦄ ⦃kx:KV⦄ ⦃kv:List (bA×ak)⦄ ⦃Q:CV→St→Prop⦄,fe n A→Rel c σ s.heap→aN s.heap xs vs→gZ s.heap kx kv→F xs kx σ Q→
  gg c.M A (.call f ⟨vs,kv⟩) (Cu c σ s Q) s
section
variable{c:Cx}{n:Nat}{ks:Ks}{A:bj}{env:Env}{e:aL}{σ:St}{s:aw}
theorem aH.g{x:Expr}{m:EM}(h:aH c n ks x m):gJ c n ks x m:=λA env e σ s Q N q=>gG (h N q)
theorem gY.g{x:List Expr}{m:cV}(h:gY c n ks x m):pG c n ks x m:=λA env e σ s Q p N q=>gG (h p N q)
theorem cF.g{x:Stmt}{m:SM}(h:cF c n ks x m):jk c n ks x m:=λA env e σ s Q N q=>gG (h N q)
theorem eQ.g{x:List Stmt}{m:SM}(h:eQ c n ks x m):g6 c n ks x m:=λA env e σ s Q N q=>gG (h N q)
theorem aU.g{f:ak}{F:FM}(h:aU c n f F):ku c n f F:=λA σ s xs vs kx kv Q a b d e q=>gG (h a b d e q)
theorem lY.toF{F:FM}(h:lY c n f F):ku c n f F:=λA σ s xs vs kx kv Q hr R r rk q=>CU (ae8 (h hr R r rk q) λr s' z=>by
 induction r with
 |error e=>exact z.elim
 |ok f=>cases f<;>first |exact z |exact z.elim)
theorem qS{t:Sem ak}{Q1:CV→St→Prop}{R:ak→aw→Prop}(h:bx c.M A t (cC c σ s Q1) s)
  (k:∀x v ae s',aV s'.heap x v→bK c σ s ae s'→Q1 x ae→R v s'):bx c.M A t R s:=
 fB h (λv s' ⟨x,ae,r,w,q⟩=>k x v ae s' r w q)
theorem Ts{t:Sem (List ak)}{Q1:List CV→St→Prop}{R:List ak→aw→Prop}(h:bx c.M A t (yS c σ s Q1) s)
  (k:∀x v ae s',aN s'.heap x v→bK c σ s ae s'→Q1 x ae→R v s'):bx c.M A t R s:=
 fB h (λv s' ⟨x,ae,r,w,q⟩=>k x v ae s' r w q)
theorem afs{t:Sem Flow}{Q1:dy→aL→St→Prop}{R:Flow→aw→Prop}(h:bx c.M A t (hM c env ks σ s Q1) s)
  (k:∀fl f e' ae s',ub s'.heap fl f→c8 c (eU env ks) σ s ae s'→eY c env ks e' ae s'.heap→Q1 fl e' ae→R f s'):bx c.M A t R s:=
 fB h (λv s' ⟨fl,e',ae,r,w,f,q⟩=>k fl v e' ae s' r w f q)
theorem zm{t:Sem ak}(w:bK c σ s bT bg)(h:bx c.M A t (cC c bT bg Q) bg):bx c.M A t (cC c σ s Q) bg:=fB h (cC.after w)
theorem aft{t:Sem Flow}{Q:dy→aL→St→Prop}(w:c8 c (eU env ks) σ s bT bg)(h:bx c.M A t (hM c env ks bT bg Q) bg):bx c.M A t (hM c env ks σ s Q) bg:=fB h (hM.after w)
theorem pG.cons{x:Expr}{r:List Expr}{m:EM}{ms:cV}(h1:gJ c n ks x m)(h2:pG c n ks r ms)
  (he:autoParam (∀env,cU (x::r) env=(false,eval x env)::cU r env) aI):pG c n ks (x::r) (ag m ms):=λA wx e σ s Q pos N q=>by
 rw[he]
 exact afo (qS (h1 N q) λx v ao s1 r1 w1 q1=>Ts (h2 pos (N.bu w1) q1) λxs vs ay s2 r2 w2 q2=>
  ⟨x::xs,ay,.cons (r1.bu w1.rel w2) r2,w1.trans w2,q2⟩)
theorem gJ.bin{op:jv}{l r:Expr}{pos:Pos}{m1 m2:EM}(h1:gJ c n ks l m1)(h2:aH c n ks r m2):gJ c n ks (.BinOp l op r pos) (be op m1 m2):=λA env e σ s Q N q=>
 afa (qS (h1 N q) λx v ao s1 r1 w1 q1=>qS (gG (h2 (N.bu w1) q1)) λy w ay s2 r2 w2 q2=>
  zm (w1.trans w2) (gG (Qc w2.rel (r1.bu w1.rel w2) r2 q2)))
theorem IX{pos:Pos}{fx:List CV}{F:FM}{m:Nat}(hk:dw c f)(hF:ku c m f F)(hm:m≤n)(h:pG c n ks args ms)(N:cO c n A env ks e σ s)(rf:aN s.heap fx first)
  (q:ms e σ λxs ae=>F (fx++xs) [] ae Q)(hp:∀env,(dZ pos (cU args env)).any (λx=>x.1)=false):bx c.M A (lV pos f first (dZ pos (cU args env)) []) (cC c σ s Q) s:=
 afq (P:=c.K.In) (hp env) hk (afp (hp env) (Ts (h pos N q) λxs vs ae s' r w q'=>
  ⟨c.jV.keeps w.rel.base,zm w (hF (N.room.le hm) w.rel ((rf.bu N.rel w).append r) .nil q')⟩))
theorem gJ.call{fx:Expr}{args:List Expr}{pos:Pos}{x:CV}{f:ak}{F:FM}{m:Nat}{ms:cV}(hf:aH c n ks fx (au x))(hx:tN x=some f)(hk:dw c f)(hF:ku c m f F)(hm:m≤n)(h:pG c n ks args ms)
  (he:autoParam (∀env,eval (.Call fx args [] pos) env=(do lV pos (←eval fx env) [] (dZ pos (cU args env)) (lW pos (lT [] env)))) aI)
  (hp:autoParam (∀env,(dZ pos (cU args env)).any (λx=>x.1)=false) aI):gJ c n ks (.Call fx args [] pos) (aY F ms):=λA env e σ s Q N q=>by
 rw[he];refine bG (qS (gG (hf (Q:=λy ae=>y=x∧ae=σ) N ⟨rfl,rfl⟩)) λy v ao s1 r1 w1 q1=>?_);obtain⟨rfl,rfl⟩:=q1;rw[Cr r1 hx];exact zm w1 (IX hk hF hm h (N.bu w1) .nil q hp)
theorem gJ.jy{o:Expr}{name:bA}{args:List Expr}{apos pos:Pos}{F:FM}{m C i f:Nat}{mo:EM}{ms:cV}{pl:Env→Sem Bool}(hx:nm i=name)(ho:aH c n ks o mo)(ht:rV C i f=true)(hF:ku c m (.ref f) F)(hm:m≤n)(h:pG c n ks args ms)
  (he:autoParam (∀env,eval (.Call (.Attribute o name apos) args [] pos) env=(do
   let ov ←eval o env
   oe apos.atName
   let(f,first) ←holding [ov] (tF ov name (pl env))
   lV pos f first (dZ pos (cU args env)) (lW pos (lT [] env)))) aI)
  (hp:autoParam (∀env,(dZ pos (cU args env)).any (λx=>x.1)=false) aI):gJ c n ks (.Call (.Attribute o name apos) args [] pos) (bN C i F mo ms):=λA env e σ s Q N q=>by
 subst hx;rw[he];refine bG (qS (gG (ho N q)) λx v ao s1 r1 w1 q1=>bG (gG (kZ (bG (gG (jf (Q7 ht w1.rel r1 q1.1 ?_)))))));obtain⟨_,_,_,_,k4⟩:=c.BB _ _ _ (Ig ht);exact zm w1 (IX (dw.fn k4) hF hm h (N.bu w1) (.cons r1 .nil) q1.2 hp)
theorem gJ.pw{o:Expr}{name:bA}{args:List Expr}{apos pos:Pos}{F:FM}{m:Nat}{mo:EM}{ms:cV}{recv:CV→St→Prop}{id:String}{pl:Env→Sem Bool}(ho:aH c n ks o mo)(hb:c5 c name id recv)(hF:ku c m (.builtin id) F)(hm:m≤n)(h:pG c n ks args ms)
  (he:autoParam (∀env,eval (.Call (.Attribute o name apos) args [] pos) env=(do
   let ov ←eval o env
   oe apos.atName
   let(f,first) ←holding [ov] (tF ov name (pl env))
   lV pos f first (dZ pos (cU args env)) (lW pos (lT [] env)))) aI)
  (hp:autoParam (∀env,(dZ pos (cU args env)).any (λx=>x.1)=false) aI):gJ c n ks (.Call (.Attribute o name apos) args [] pos) (bJ recv F mo ms):=λA env e σ s Q N q=>by
 rw[he]
 exact bG (qS (gG (ho N q)) λx v ao s1 r1 w1 q1=>bG (gG (kZ (bG (gG (jf (hb w1.rel r1 q1.1
  (zm w1 (IX (dw.bi id) hF hm h (N.bu w1) (.cons r1 .nil) q1.2 hp)))))))))
theorem g6.cons{x:Stmt}{xs:List Stmt}{m1 m2:SM}(h1:jk c n ks x m1)(h2:g6 c n ks xs m2):g6 c n ks (x::xs) (ah m1 m2):=λA env e σ s Q N q=>by
 refine afc (afs (h1 N q) λfl f e' ae s' r w F q'=>?_)
 induction r with
 |next=>exact aft w (h2 (N.moved F w.rel) q')
 |brk=>exact⟨_,_,_,.brk,w,F,q'⟩
 |cont=>exact⟨_,_,_,.cont,w,F,q'⟩
 |ret r=>exact⟨_,_,_,.ret r,w,F,q'⟩
theorem jk.assign{t x:Expr}{pos:Pos}{m:EM}{a:AM}(h:gJ c n ks x m)(ha:eG c n ks (pq ks) t a)
  (hs:∀env,jj c env ks→swapsWithSole [t] x pos.line env=pure false)(hw:∀env,jj c env ks→qt [t] x env=pure none)(he:autoParam (∀env,qw [t] env=[(false,AX t env)]) aI):jk c n ks (.Assign [t] x pos) (aP m a):=λA env e σ s Q N q=>by
 rw[exec_Assign,hs _ N.ok];refine bG (gG (kZ (bG (dC ?_))))
 rw[if_neg (by decide)]
 refine bG (qS (h N q) λy v ao s1 r w q1=>?_);rw[hw _ N.ok];refine bG (dC ?_)
 show bx c.M A (do assignAll v ((qw [t] env).map (λx=>x.2));pure Flow.next) _ _
 rw[he];exact gG (aC (wB (ha (N.bu w) r q1) λe' ae s' w' f' q'=>aO ⟨_,_,_,.next,(w.dA _).trans w',f',q'⟩))
theorem jk.expr{x:Expr}{pos:Pos}{m:EM}(h:gJ c n ks x m)(hs:autoParam (∀env,mS x none pos.line env=pure false) aI):jk c n ks (.Expr x pos) (cw m):=λA wx e σ s Q N q=>
 afe (qS (h N q) λy v ao s1 r w q1=>⟨_,_,_,.next,w.dA _,(N.bu w).fr,q1⟩) (QK N.ok) (hs _)
theorem jk.ret{x:Expr}{pos:Pos}{m:EM}(h:gJ c n ks x m):jk c n ks (.Return (some x) pos) (bh m):=λA env e σ s Q N q=>
 afd (qS (h N q) λy v ao s1 r w q1=>⟨_,_,_,.ret r,w.dA _,(N.bu w).fr,q1⟩)
theorem jk.while{x:Expr}{b:List Stmt}{pos:Pos}{t:TM}{mb:SM}(h:gI c n ks x t)(hb:g6 c n ks b mb):jk c n ks (.While x b [] pos) (jC t mb):=λA env e σ s Q N q=>by
 obtain⟨I,k,h0,step⟩:=q;refine afg (afh (λk s'=>∃e' ae,c8 c (eU env ks) σ s ae s'∧eY c env ks e' ae s'.heap∧I k e' ae) (λk s' hI=>?_) k ⟨e,σ,(bK.refl N.rel).dA _,N.fr,h0⟩);refine jg hI λe' ae w f hI=>?_;refine fB (Q:=mf c ae s' _) (gG (h _ rfl (N.moved f w.rel) (step k e' ae hI))) (λv s2 q2=>?_);obtain⟨ay,w2,q2⟩:=q2;have N2:=(N.moved f w.rel).bu w2;have nh:=w.trans (w2.dA (eU env ks))
 induction v with
 |false=>
  simp only[pd,if_false]at q2 ⊢
  exact gG (EX ⟨_,_,_,.next,nh,N2.fr,q2⟩)
 |true=>
  simp only[if_true]at q2 ⊢;refine fB (Q:=hM c env ks ay s2 _) (hb N2 q2) (λfl s3 q3=>?_);obtain⟨H8,e3,aQ,r3,w3,f3,q3⟩:=q3;have iI:=nh.trans w3
  induction r3 with
  |next=>obtain⟨m,hm,q3⟩:=q3;exact⟨m,hm,e3,aQ,iI,f3,q3⟩
  |cont=>obtain⟨m,hm,q3⟩:=q3;exact⟨m,hm,e3,aQ,iI,f3,q3⟩
  |brk=>exact⟨_,_,_,.next,iI,f3,q3⟩
  |ret r=>exact⟨_,_,_,.ret r,iI,f3,q3⟩
theorem jk.for{t x:Expr}{b:List Stmt}{pos:Pos}{it:IM}{a:AM}{mb:SM}(hi:jR c n ks t x it)(ha:eG c n ks (pq ks) t a)(hb:g6 c n ks b mb)
  (hs:autoParam (∀env v,xI x env v=pure v) aJ):jk c n ks (.For t x b [] pos) (cY it a mb):=λA env e σ s Q N q=>by
 refine afi (b0 (hi N q) (λxv bq d8=>b0 d8 (λit bg dP=>?_) λu u z=>z) λu u z=>z) (hs _);obtain⟨I,fp,items,ok,S,ae,rfl,W,hS,mh,w,q⟩:=dP;have H9:Apart s ae fp:=⟨λb hb=>(mh b hb).1,λb hb=>(mh b hb).2⟩;obtain⟨Inv,jD⟩:∃Inv:Nat→aw→Prop,∀k s',Inv k s'↔∃i e' ae,k=items.length- i∧i≤items.length∧S i s'.heap∧c8 c (eU env ks) σ s ae s'∧eY c env ks e' ae s'.heap∧Apart s ae fp∧f9 ok a mb Q (items.drop i) e' ae:=⟨_,λu u=>Iff.rfl⟩;refine afj Inv (λk s' hI=>cps λG g=>?_) items.length ((jD _ _).2 ⟨0,e,ae,rfl,dE _,hS,w.dA _,(N.bu w).fr,H9,q⟩);refine A8 ((jD _ _).1 hI) λi e' ae aq ff hS w f ap q=>?_;subst aq;refine g ?_;clear g hI;have base:=ap.base (σ₀:=σ) N.rel
 have nt:∀b∈fp,∀items n,s'.heap.get? b≠some (d7 items n):=λb hb items n z=>by refine a9 (W.here hS b hb) λo ho hn=>?_;rw[ho]at z;exact hn _ _ (bt z)
 cases hx:items[i]? with
 |none=>
  have jE:i=items.length:=qq ff (YC.1 hx);subst jE;rw[Lz]at q;refine W.done N.room.h w.rel q.1 hS λh' tk k=>?_;have R':=w.rel.moved k nt λb hb=>⟨ap.out b hb,base b hb⟩
  exact gG (EX ⟨_,_,_,.next,w.moved R' k ap.new,eY.Co N ap f k nt,q.2⟩)
 |some y=>
  obtain⟨ck,rfl⟩:=List.getElem?_eq_some_iff.mp hx;rw[Lc ck]at q;obtain⟨q0,q⟩:=q
  refine W.next N.room.h w.rel q0 hx hS λv h1 tk go=>go λh' rv gr k=>?_
  ·have R':=w.rel.moved k nt λb hb=>⟨ap.out b hb,base b hb⟩
   have w':=w.moved (t:=tk) R' k ap.new;have f':=eY.Co N ap f k nt
   have N':cO c n A env ks e' ae {s' with heap:=h',toks:=tk}:=N.moved f' R'
   refine b0 (Q:=kJ c (eU env ks) env ks ae _ _) (E:=No) (ha N' rv q) (λu s2 q2=>cps λG g=>?_) λu u z=>z.elim;obtain⟨e2,ay,w2,f2,q2⟩:=q2;refine g ?_;clear g;refine fB (Q:=hM c env ks ay s2 _) (hb (N'.moved f2 w2.rel) q2) (λfl s3 q3=>cps λG g=>?_);obtain⟨H8,e3,aQ,r3,w3,f3,q3⟩:=q3;refine g ?_;clear g;have qM:=w2.trans w3;have iI:=w'.trans qM;have tu:=bK.yZ N' qM;have nf:=ap.frame N
   have keep:∀b∈fp,∀o,h'.get? b=some o→s3.heap.get? b=some o:=λb hb o eo=>qM.ext.keep b o (nf b hb).2 eo λz hz=>by exact bo ((ap.out b hb).symm.trans hz)
   have S3:S (i+1) s3.heap:=W.move gr keep tu
   have Ia:Apart s aQ fp:=⟨ap.new,λb hb=>by
     refine a9 (W.here gr b hb) λo ho zz=>?_
     exact qM.ext.gc b o (nf b hb).2 ho (ap.out b hb)⟩
   have again:f9 ok a mb Q (items.drop (i+1)) e3 aQ→∃m,m<items.length- i∧Inv m s3:=
    λq=>⟨items.length- (i+1),Lq ck (kX i),(jD _ _).2 ⟨i+1,e3,aQ,rfl,ck,S3,iI,f3,Ia,q⟩⟩
   induction r3 with
   |next=>exact again q3
   |cont=>exact again q3
   |brk=>exact⟨_,_,_,.next,iI,f3,q3⟩
   |ret r=>exact⟨_,_,_,.ret r,iI,f3,q3⟩
end
end
noncomputable abbrev RE(c:Cx)(n:Nat)(ks:Ks)(x:Expr):={m:EM // gJ c n ks x m∧A9 x}×Fo (∀line env,mS x none line env=pure false)
noncomputable abbrev RLG(c:Cx)(n:Nat)(ks:Ks)(xs:List Expr):={m:cV // pG c n ks xs m∧∀pos env,(dZ pos (cU xs env)).any (λx=>x.1)=false}
noncomputable abbrev Fg(c:Cx):={d:Nat×CV×ak×Nat×FM // x4 c d.1 d.2.1∧tN d.2.1=some d.2.2.1∧dw c d.2.2.1∧ku c d.2.2.2.1 d.2.2.1 d.2.2.2.2}
noncomputable abbrev Mg(c:Cx):={d:Nat×Nat×Nat×Nat×FM // rV d.2.1 d.1 d.2.2.1=true∧ku c d.2.2.2.1 (.ref d.2.2.1) d.2.2.2.2}
noncomputable abbrev Bg(c:Cx):={d:Str×String×(CV→St→Prop)×Nat×FM // c5 c d.1 d.2.1 d.2.2.1∧ku c d.2.2.2.1 (.builtin d.2.1) d.2.2.2.2}
section
variable{c:Cx}{n:Nat}(T:Tb c)(gf:List (Fg c))(gm:List (Mg c))(gb:List (Bg c))(r:Rc c (n+1))(ks:Ks)
section
variable(g:(x:Expr)→Option (RE c (n+1) ks x))
theorem RE.h{x:Expr}(a:RE c n ks x):gJ c n ks x a.1.1:=a.1.2.1
noncomputable def gL:(xs:List Expr)→Option (RLG c (n+1) ks xs)
 |[]=>some ⟨ar,@gY.g _ _ _ _ _ (@gY.nil _ _ _),λz z=>rfl⟩
 |x::xs=>(g x).bind λa=>(gL xs).map λb=>⟨ag a.1.1 b.1,@pG.cons _ _ _ _ _ _ _ (@RE.h _ _ _ _ a) (@f6 _ _ b.2) (a.1.2.2 xs),λpos env=>by rw[a.1.2.2];exact b.2.2 pos env⟩
noncomputable def gCa(f:Expr)(a:List Expr)(p:Pos):Option {m:EM // gJ c (n+1) ks (.Call f a [] p) m}:=Bb (M:=λf=>Option {m:EM // gJ c (n+1) ks (.Call f a [] p) m}) (λz=>none)
 (λid q=>(ko id).bind λi=>(gf.find? λe=>rQ e.1.1 i.1).bind λe=>(gL ks g a).bind λms=>
  if h:nm e.1.1=id∧ks.lookup e.1.1=some .globalImplicit∧e.1.1≠rW∧e.1.2.2.2.1≤n+1 then some ⟨_,@gJ.call _ _ _ _ _ _ _ _ _ _ _ (@aH.glob _ _ _ _ _ _ e.1.1 h.1 h.2.1 h.2.2.1 e.2.1) e.2.2.1 e.2.2.2.1 (@vD _ _ e.2.2.2) h.2.2.2 (@f6 _ _ ms.2) (λz=>rfl) (ms.2.2 p)⟩else none)
 (λo x q=>(r.e ks o).bind λmo=>mo.ba.bind λhb=>(gL ks g a).bind λms=>(ko x).bind λi=>
  if h:(q.endLine==p.line)=true∧k9 a.length 30=true then
   ((gm.find? λe=>rQ e.1.1 i.1).bind λe=>if k:nm e.1.1=x∧e.1.2.2.2.1≤n+1 then some ⟨_,@gJ.jy _ _ _ _ _ _ _ _ _ _ _ _ _ _ _ _ k.1 (@RX.h _ _ _ _ mo) e.2.1 (@vD _ _ e.2) k.2 (@f6 _ _ ms.2) (Ba hb.down ms.2.2 h.1 h.2) (ms.2.2 p)⟩else none).or
   ((gb.find? λe=>e.1.1==x).bind λe=>if k:e.1.1=x∧e.1.2.2.2.1≤n+1 then some ⟨_,@gJ.pw _ _ _ _ _ _ _ _ _ _ _ _ _ _ _ (@RX.h _ _ _ _ mo) (@c5.to _ _ _ _ _ k.1 (@f6 _ _ e.2)) (@vD _ _ e.2) k.2 (@f6 _ _ ms.2) (Ba hb.down ms.2.2 h.1 h.2) (ms.2.2 p)⟩else none)
  else none)
 (λz z z=>none) f
noncomputable def gE1:(x:Expr)→Option (RE c (n+1) ks x):=mY (λz=>none) (λz z z=>none)
 (λl o y p=>(g l).bind λa=>(r.e ks y).map λb=>⟨⟨_,@gJ.bin _ _ _ _ _ _ _ _ _ (@RE.h _ _ _ _ a) (@RX.h _ _ _ _ b),λz z=>rfl⟩,none⟩)
 (λz z z=>none) (λz z z z=>none) (λz z z=>none) (λz z z z=>none) (λz z z z=>none)
 (λf a k p=>match k with
  |[]=>(gCa gf gm gb r ks g f a p).map λm=>⟨⟨m.1,@eZ _ _ m,λz z=>rfl⟩,some ⟨λz z=>rfl⟩⟩
  |_=>none)
 (λz z z=>none) (λz z z=>none) (λz z z=>none) (λz z=>none) (λz z=>none) (λz z z=>none) (λz z z z=>none)
end
noncomputable def gE:Nat→(x:Expr)→Option (RE c (n+1) ks x)
 |0=>λz=>none
 |k+1=>λx=>((r.e ks x).map λa=>(⟨⟨a.m,@aH.g _ _ _ _ _ (@RX.h _ _ _ _ a),a.st⟩,a.2.2.2⟩:RE c (n+1) ks x)).or (gE1 gf gm gb r ks (gE k) x)
noncomputable abbrev OP(c:Cx)(n:Nat)(ks:Ks)(x:Stmt):={m:SM // jk c n ks x m}
section
variable(gs:(xs:List Stmt)→{m:SM // g6 c (n+1) ks xs m})
noncomputable def gS1:(x:Stmt)→Option (OP c (n+1) ks x):=MZ (λx=>none)
 (λo p=>match o with
  |none=>none
  |some x=>(gE gf gm gb r ks 9 x).map λa=>⟨_,@jk.ret _ _ _ _ _ _ (@RE.h _ _ _ _ a)⟩)
 (λt x p=>((M0 T r ks t x p).or (M1 r ks t x p)).elim ((gE gf gm gb r ks 9 x).bind λa=>(pureOf (mS x (some t) p.line (m4 ks))).bind λb=>(pureOf (qt [t] x (m4 ks))).bind λw=>if h:b.1=false∧w.1=none then
   (kA r ks (X:=pq ks) (Bd ks) (λz z h=>h) t).map λm=>(⟨_,@jk.assign _ _ _ _ _ _ _ _ (@RE.h _ _ _ _ a) (@f6 _ _ m.2) (λenv N=>(sw_eq N _ _ _).1.trans (h.1▸b.2)) (λenv N=>(FA N _ _).trans (h.2▸w.2)) (m.2.2 [])⟩:OP c (n+1) ks (.Assign [t] x p))else none) λm=>some ⟨m.1,@cF.g _ _ _ _ _ (@eZ _ _ m)⟩)
 (λz z z z=>none)
 (λt x b p=>(kI T r ks t x).bind λi=>(kA r ks (X:=pq ks) (Bd ks) (λz z h=>h) t).map λa=>⟨_,@jk.for _ _ _ _ _ _ _ _ _ _ (@f6 _ _ i.2) (@f6 _ _ a.2) (@eZ _ _ (gs b)) i.2.2⟩)
 (λx b p=>(r.b ks x).map λt=>⟨_,@jk.while _ _ _ _ _ _ _ _ (@eZ _ _ t) (@eZ _ _ (gs b))⟩)
 (λz z z z=>none)
 (λx p=>(gE gf gm gb r ks 9 x).bind λa=>a.2.map λh=>⟨_,@jk.expr _ _ _ _ _ _ (@RE.h _ _ _ _ a) (h.down p.line)⟩)
 (λp=>none) (λp=>none)
noncomputable def OQ:(xs:List Stmt)→{m:SM // g6 c (n+1) ks xs m}
 |[]=>⟨_,@eQ.g _ _ _ _ _ (@eQ.nil _ _ _)⟩
 |x::xs=>⟨_,@g6.cons _ _ _ _ _ _ _ (@eZ _ _ ((gS1 T gf gm gb r ks gs x).getD ⟨_,@cF.g _ _ _ _ _ (@eZ _ _ (M2 T r ks x))⟩)) (@eZ _ _ (OQ xs))⟩
end
noncomputable def gS:Nat→(xs:List Stmt)→{m:SM // g6 c (n+1) ks xs m}
 |0=>λxs=>⟨_,@eQ.g _ _ _ _ _ (@eZ _ _ (r.s ks xs))⟩
 |k+1=>OQ T gf gm gb r ks (gS k)
end
section
open PySem.SeqAt
section
variable{c:Cx}{n:Nat}{A:bj}{σ:St}{s:aw}
theorem afu{f:Addr}{m:SM}(ok:vJ c f fd body ks)(hm:g6 c n ks body m){ze:List ak}
  (dR:∀i∈ps,fN (ks.lookup i)=true)(ml:fe (n+1) A)(R:Rel c σ s.heap)(hb:rR s fd ⟨ze,kv⟩ ((ps.map nm).zip vs))(r:aN s.heap xs vs)(hl:xs.length=ps.length)(q:ui m (eW ps xs λz=>none) σ Q):
  gg c.M A (.call (.ref f) ⟨ze,kv⟩) (Cu c σ s Q) s:=by
 refine a9 ok.at_ λo ho hd=>?_;have X:=c.jV.keeps R.base
 have nj:∀i∈ps,i<nN:=λi hi=>by
  rcases oF (dR i hi)with h |h<;>exact ok.small _ (lookup_mem h)
 have zf:∀{i:Nat},i<nN→fd.scope.names.lookup (nm i)=ks.lookup i:=λ{i} hi=>by rw[ok.names];exact yQ ok.small hi
 refine afl ml.depth (X _ _ ho) hd ok.co ok.gen ok.body (codeRec_of X ok.code) (hb _ _ _ _ ?_);rw[ok.Rg,ok.glob,ok.blt]
 refine alc ok.kind (λx hx=>?_) λenv he s' ic=>?_
 ·have Ii:=(List.of_mem_zip (show(x.1,x.2)∈_ from hx)).1
  refine a9 (List.mem_map.mp Ii) λi hi Ij=>?_;rw[←Ij,zf (nj i hi)]
  rcases oF (dR i hi)with h |h
  ·exact .inl h
  ·refine .inr ⟨h,uh _ _ _ _ (.inl ?_)⟩
   rw[ok.names];exact List.mem_map.mpr ⟨(i,.cell),lookup_mem h,rfl⟩
 ·have oG:env.scope=fd.scope:=by rw[he];rfl
  have jm:∀{i:Nat},i<nN→env.kindOf (nm i)=ks.lookup i:=λ{i} hi=>by unfold Env.kindOf;rw[oG];exact zf hi
  have hL:env.locals=s.heap.objs.size:=by rw[he];rfl
  have keep:=ic.toInCall.keep;have new:∀b,s.heap.objs.size≤b→s.heap.get? b=none:=λb hb=>EF hb
  have nu:s.heap.get? env.locals=none:=new _ (by rw[hL];exact cP _)
  have uj:∀{x a},env.cells.lookup x=some a→s.heap.get? a=none:=λ{x a} h=>new _ (by
   have:=ic.above _ _ (mem_of_lookup h);rw[hL]at this;exact iQ this)
  have R':Rel c σ s'.heap:=R.kept keep
  have e1:∃h' tk,s'={s with heap:=h',toks:=tk}:=ic.toInCall.same
  refine gF e1 λh' tk aq=>?_;clear e1;subst aq
  have B:Bound h' env _ _ (eW ps xs λz=>none):=Bound.go (m:=λz=>none) (cm:=λz=>none) nj hl (r.bQ λb items n e=>keep b _ e) λi v z hv=>by exact bo hv
  have ap:∀i j a,i<nN→j<nN→env.cells.lookup (nm i)=some a→env.cells.lookup (nm j)=some a→i=j:=λi j a hi hj h1 h2=>
   oE hi hj (name_of_addr ic.apart (mem_of_lookup h1) (mem_of_lookup h2))
  have uk:jj c env ks:=⟨by rw[oG];exact ok.names,ok.small,by rw[oG];exact ok.kind,by rw[he];rfl,by rw[he];rfl,ap⟩
  have fr:eY c env ks (eW ps xs λz=>none) σ h':=by
   refine⟨⟨_,ic.toInCall.ns,λi v hi hv=>?_⟩,R.fresh nu,R.out nu,λi hi=>?_⟩
   ·have ff:=uk.lt hi
    exact(B i v ff hv).1 (by rw[jm ff];exact hi)
   ·have um:ks.lookup i=some .cell:=by
     rcases hi with h |h
     ·exact h
     ·exact absurd rfl (ok.free _ (lookup_mem h))
    have ff:=uk.lt um
    have:(env.cells.lookup (nm i)).isSome=true:=by
     rw[he];refine uh _ _ _ _ (.inl ?_);rw[ok.names];exact List.mem_map.mpr ⟨(i,.cell),lookup_mem um,rfl⟩
    obtain⟨a,ha⟩:=Option.isSome_iff_exists.mp this;refine⟨a,_,ha,ic.cell _ _ ha,R.fresh (uj ha),R.out (uj ha),λv hv=>?_⟩
    exact(B i v ff hv).2 (by rw[jm ff,um];simp)
  have N:cO c n (A.deeper env) env ks (eW ps xs λz=>none) σ {s with heap:=h',toks:=tk}:=⟨ml.deeper,uk,fr,R'⟩
  refine⟨c.GI.keeps R'.base,afk ?_⟩;refine fB (hm N q) (λf j0 hq=>?_);obtain⟨fl,e',ae,rf,w,_,q'⟩:=hq
  have ext:Ext σ s.heap ae j0.heap:=lF.ext (Ext.kept keep) w.ext λb hb=>by
   rcases hb with rfl |⟨i,_,hc⟩
   ·exact nu
   ·exact uj hc
  have W:bK c σ s ae j0:=⟨w.rel,ext,w.gens,w.os⟩
  induction rf with
  |next=>exact⟨_,_,.none,W,q'⟩
  |brk=>exact q'.elim
  |cont=>exact q'.elim
  |ret r=>exact⟨_,_,r,W,q'⟩
theorem lY.def{f:Addr}{m:SM}(ok:vJ c f fd body ks)(hm:g6 c n ks body m)(ps:List Nat)(dR:∀i∈ps,fN (ks.lookup i)=true)(hn:ps.Nodup)
  (hp:qz fd.params=true)(ha:fd.params.args.map (λx=>x.arg)=ps.map nm)(hd:vK c.K fd.defaults=true):lY c (n+1) (.ref f) (bD ps m):=λA σ s xs vs kx kv Q hr R r rk q=>by
 obtain⟨hl,rfl,q⟩:=q;cases rk
 have nj:∀i∈ps,i<nN:=λi hi=>by
  rcases oF (dR i hi)with h |h<;>exact ok.small _ (lookup_mem h)
 exact afu ok hm dR hr R (Rf hp ha nj hn (by rw[←r.length,hl]) (Ri hd R)) r hl q
end
end
section
open PySem.SeqAt
theorem Tt:mroOf (.type "bytearray")=pure [.type "bytearray",.type "object"]:=by rw[mroOf_type];kernel_rfl
theorem afv:tD (.type "bytearray") "__new__"=pure (some (.builtin "bytearray.__new__")):=by rw[iO,iM];kernel_rfl
theorem CY:TypeCalled "bytearray" "bytearray.__new__" "bytearray.__init__":=
 ⟨by decide+kernel,by decide+kernel,⟨_,_,Tt⟩,madeBy_type Tt afv (by decide+kernel),by decide+kernel,by rw[lS];kernel_rfl,CM⟩
theorem afw:checkTypeCall "bytearray" ⟨[],[]⟩=pure ():=by kernel_rfl
theorem afx:EU "bytearray.__new__" ⟨[.type "bytearray"],[]⟩=pure ():=by kernel_rfl
theorem afy:jw table "bytearray.__new__"=some Builtin.«list.__new__»:=entryFor_alias (id':="list.__new__") (by kernel_rfl) rfl (by decide+kernel) (by kernel_rfl)
theorem afz:("bytearray.__new__".splitOn ".__new__").headD ""="bytearray":=by simp+decide [String.splitOn,String.splitOnAux]
theorem IY:isSubtype (.type "bytearray") (.type "bytearray")=pure true:=by rw[lS];kernel_rfl
section
variable{prog:dv}{w:cM}{A:bj}{E:ak→aw→Prop}{s:aw}
theorem afA{Q₁:ak→aw→Prop}(h:Q₁ (.ref s.heap.objs.size) {s with heap:=s.heap.push {cls:=.type "bytearray",data:=.bytearray #[]}}):
  rS (model prog w) A (.call (.builtin "bytearray.__new__") ⟨[.type "bytearray"],[]⟩) (wants Q₁ E) s:=by
 refine codeAny_of_tree ?_
 show aM _ A.in1 (do EU "bytearray.__new__" ⟨[.type "bytearray"],[]⟩;again (.builtin "bytearray.__new__" ⟨[.type "bytearray"],[]⟩)) _ _ s
 refine aC (eF afx (aO ⟨xQ (by decide+kernel) _,codeAny_builtin_stack afy rfl λp st=>?_⟩))
 rw[xG (by decide+kernel) _]
 have zp:=IY;have afB:=afz;obtain⟨hp,g,d,tk,os⟩:=s;dsimp only;rw[afB];wp_walk;exact h
theorem afC{P:String→Prop}(h:∀i∈To,P i){id:String}(hb:wM id=false):P id:=h id (vp.1 (rE _▸hb))
theorem Tu{M:fy}{self:ak}{Q:Bool→aw→Prop}(h:Q false s):bx M A (alA self) Q s:=λΓ p eD n=>by
 unfold alA;show Q (((Γ.code,p)::Γ.below).any _) s
 rw[List.any_eq_false.mpr]
 ·exact h
 ·rintro⟨c,q⟩ hx
  refine Bool.eq_false_iff.1 ?_
  have hb:j1 c=false:=by
   rcases List.mem_cons.mp hx with e |hx
   ·cases e;exact n.code
   ·exact n.below _ hx
  induction c with
  |builtin id a=>
   obtain⟨vs,kw⟩:=a
   rcases afC (P:=λid=>id="claim.caller"∨id="bytearray.append"∨id="type.__call__"∨id="bytearray.__init__") (by decide) hb with rfl |rfl |rfl |rfl
   all_goals
    induction vs with
    |nil=>kernel_rfl
    |cons v vs=>exact Eq.trans (b:=Builtin.Bytes.sameRef v self&&false) (by kernel_rfl) (Bool.and_false _)
  |_=>rfl
theorem Tv{b:Array UInt8}{o:Obj}{Q:Nat→aw→Prop}{M:fy}(ho:s.heap.get? a=some o)(hd:o.data=.bytearray b 0)(h:Q 0 s):aM M A (alu (.ref a)) Q E s:=by
 unfold alu;refine aC (tE ho ?_);rw[hd];exact aO h
theorem IZ{b:Array UInt8}{f:Array UInt8→Array UInt8}{Q:Unit→aw→Prop}{M:fy}(ho:s.heap.get? a=some {cls:=.type "bytearray",data:=.bytearray b})
  (hz:(f b).size≤mT)(h:∀h',h'.get? a=some {cls:=.type "bytearray",data:=.bytearray (f b)}→jt a s.heap h'→Q () {s with heap:=h'}):aM M A (Builtin.Bytes.write (.ref a) f) Q E s:=by
 unfold Builtin.Bytes.write updateBytearray;refine aC (tE ho ?_);refine aC (wpAny_update ho ?_);have hg:(s.heap.update a (Obj.mapBytearray f)).get? a=some {cls:=.type "bytearray",data:=.bytearray (f b)}:=rD _ ho rfl;refine wpAny_lookBehind hg ?_ (h _ hg (mJ ..));unfold Data.pastItsLine;simp;exact hz
end
theorem afD:tD (.type "bytearray") "__bytes__"=pure none:=by rw[iO,iM];kernel_rfl
theorem afE:tD (.type "bytearray") "__index__"=pure none:=by rw[iO,iM];kernel_rfl
theorem I0:tD (.type "bytearray") "__buffer__"=pure (some (.builtin "bytearray.__buffer__")):=by rw[iO,iM];kernel_rfl
theorem afF:tD (.type "bytearray") "__release_buffer__"=pure (some (.builtin "bytearray.__release_buffer__")):=by rw[iO,iM];kernel_rfl
section
variable{prog:dv}{w:cM}{A:bj}{E:ak→aw→Prop}{s:aw}
theorem Tw{b:Array UInt8}{name id:String}{Q:Bool→aw→Prop}(hg:s.heap.get? a=some {cls:=.type "bytearray",data:=.bytearray b})(hl:tD (.type "bytearray") (name:Str)=pure (some (.builtin id)))
  (he:id.endsWith ("."++name)=true)(hd:id.dropRight (name.length+1)="bytearray")(q:Q true s):aM (model prog w) A (alv (.ref a) name) Q E s:=by
 have hT:s.TypeIs (.ref a) "bytearray":=⟨_,hg,rfl⟩;unfold alv;refine aC (vx hT hl ?_);dsimp only
 rw[if_neg (by rw[he];decide)]
 rw[hd];exact AI hT IY q
theorem Tx{b:Array UInt8}{Q:Bool→aw→Prop}(hg:s.heap.get? a=some {cls:=.type "bytearray",data:=.bytearray b})(q:Q false s):aM (model prog w) A (alp (.ref a)) Q E s:=by
 unfold alp
 exact aC (Tw hg afF (by decide+kernel) (by decide+kernel) (aO q))
theorem Tz{b:Array UInt8}{Q:Array UInt8→aw→Prop}{M:fy}(hg:s.heap.get? a=some {cls:=.type "bytearray",data:=.bytearray b})(q:Q b s):aM M A (Builtin.Bytes.payload (.ref a)) Q E s:=by
 unfold Builtin.Bytes.payload Builtin.Bytes.payload?;exact aC (aC (tE hg (aO (aO q))))
theorem afG{b:Array UInt8}{id:String}{f:Bool}{Q:Option (Array UInt8)→aw→Prop}(hg:s.heap.get? a=some {cls:=.type "bytearray",data:=.bytearray b})(q:Q (some b) s):aM (model prog w) A (Ax id (.ref a) f) Q E s:=by
 have hT:s.TypeIs (.ref a) "bytearray":=⟨_,hg,rfl⟩;unfold Ax;refine aC (vx hT I0 ?_)
 refine aC (Tw hg I0 (by decide+kernel) (by decide+kernel) ?_)
 refine qP rfl ?_;refine aC (vx hT I0 ?_);dsimp only;refine aC (Tx hg ?_);refine qP rfl ?_;exact aC (Tz hg (aO q))
theorem afH(a:Addr)(b:Array UInt8)(hz:b.size≤mT):Meets (Builtin.«bytes.__new__» ⟨[.type "bytes",.ref a],[]⟩) (λz R s=>s.heap.get? a=some {cls:=.type "bytearray",data:=.bytearray b}∧∀t k,R (.ok (.ret (.bytes b t))) {s with toks:=k}):=by
 refine .of_wp λprog w A R s ⟨hg,h⟩=>?_;have hT:s.TypeIs (.ref a) "bytearray":=⟨_,hg,rfl⟩;unfold Builtin.«bytes.__new__»;refine aC (eF (a:=true) rfl ?_);refine qP rfl ?_;refine aC (eF F.bm_sub ?_);refine qP rfl ?_;refine aC (eF (F.bm_bind _) ?_);refine aC (eF (a:=()) rfl ?_);refine aC (eF (a:=()) rfl ?_);refine qP rfl ?_;refine aC (vx hT afD ?_);refine aC (aC ?_);show aM _ _ (load a >>= _) _ _ _;refine aC (tE hg ?_);refine aO (aO ?_);refine qP rfl ?_;refine aC (vx hT afE ?_)
 rw[if_pos (by rfl)]
 first
  |show aM _ _ (Ax "bytes.__new__" (.ref a) true >>= _) _ _ _
  |(refine aC ?_;show aM _ _ (Ax "bytes.__new__" (.ref a) true >>= _) _ _ _)
 refine aC (afG hg ?_);dsimp only;refine aC (rP (aC (Mi ?_ hz)))
 first
  |exact aO ⟨_,rfl,h _ _⟩
  |exact aO (aO ⟨_,rfl,h _ _⟩)
end
theorem afI(a:Args):j1 (.builtin "bytearray.append" a)=false:=by
 show wM "bytearray.append"=false
 decide+kernel
section
variable{c:Cx}{n:Nat}{A:bj}{σ:St}{s:aw}
theorem TK{id:String}{args:Args}{B:Builtin}{R:lg→aw→Prop}(hp:plainId id=true)(hb:j1 (.builtin id args)=false)(entry:jw table id=some B)
  (h:aM c.M A.in1 (EU id args) (λo bq=>bx c.M A.in1 (B args) (λfin s'=>match fin with |.done f=>R (.ok f) s' |.again c'=>c'.quiet=true∧j1 c'=false∧gg c.M A c' R s') bq) (λo o=>False) s):
  gg c.M A (.call (.builtin id) args) R s:=by
 refine sI ?_
 show bx _ A.in1 (do EU id args;again (.builtin id args)) _ s
 refine bG (gG (b0 h (λo bq d8=>dC ⟨xQ hp _,hb,sI ?_⟩) λo o z=>z));rw[xG hp _]
 show bx _ _ (match jw table id with |some b=>b args |none=>unsupported ((withoutEnding? id "#data").getD id)) _ bq
 rw[entry];exact d8
theorem sJ(R:Rel c σ s.heap)(h:σ a=some (.ba b)):s.heap.get? a=some {cls:=.type "bytearray",data:=.bytearray b.toArray}:=(R.objs _ _ h).2
theorem TL{b':List UInt8}(R:Rel c σ s.heap)(h:σ a=some (.ba b))(hg:h'.get? a=some {cls:=.type "bytearray",data:=.bytearray b'.toArray})(hs:jt a s.heap h')(q:Q .none (upd σ a (.ba b'))):cC c σ s Q .none {s with heap:=h'}:=
 ⟨.none,_,.none,⟨R.set (y:=.ba b') h rfl hs λz=>⟨(R.objs _ _ h).1,hg⟩,Ext.set h rfl hs ⟨_,hg⟩,rfl,rfl⟩,q⟩
noncomputable abbrev TN(c:Cx)(f:ak):CW:=λA s σ vs kv Q=>bx c.M A (call f vs kv) (cC c σ s Q) s
theorem afJ{x:UInt8}(h:b.length≤1000):(b.toArray.push x).size≤mT:=by
 rw[Array.size_push];exact aR (qn h) (by rw[A1];decide)
theorem ku.acb:ku c 1 (.builtin "bytearray.append") S7:=@hZ.a2 c 1 .L .I (TN c _) _ λ{A σ s a i v w Q} hr R e e2 q=>by
 refine rU q λb h1 h2 h3 h4 q=>?_;subst e;refine xe e2 λt aq=>?_;clear e2;subst aq;have hg:=sJ R h1
 refine CU (TK (B:=Builtin.«bytearray.append») (by decide+kernel) (afI _) aey (So.check _ _ _ _ _ _ _ _ ⟨_,hg,rfl⟩ (aez _ _) ?_))
 unfold Builtin.«bytearray.append»;refine bG (gG (eF (a:=(A5 a,Value.int i t)) rfl ?_));dsimp only;refine bG (gG ?_);unfold Builtin.Bytes.byteValue;refine aC (eF (a:=i) rfl ?_)
 rw[if_neg (by rw[decide_eq_false (nZ.2 h2),decide_eq_false (Int.not_le.2 h3)];exact gX)]
 refine aO (bG ?_);unfold Builtin.Bytes.checkResize
 exact bG (bG (Tu (gG (aC (Tv (b:=b.toArray) hg rfl (aO (dC (bG (gG (IZ (b:=b.toArray) hg (afJ h4) λh' qT hs=>dC (TL R h1 (by rw[←List.push_toArray];exact qT) hs q)))))))))))
theorem aU.ab8:aU c 1 (.builtin "bytearray.reverse") Ta:=aU.a1 λ{A σ s a v Q} hr R e q=>by
 refine bF q λb h1 h4 q=>?_;subst e;have hg:=sJ R h1
 refine mR Sp ⟨_,hg,rfl⟩ aeA (aeB _) (S:=λz R s=>s.heap.get? a=some {cls:=.type "bytearray",data:=.bytearray b.toArray}∧∀h',h'.get? a=some {cls:=.type "bytearray",data:=.bytearray b.toArray.reverse}→jt a s.heap h'→R (.ok (.ret .none)) {s with heap:=h'}) (.of_wp λprog w A R s ⟨h1,h2⟩=>?_) ⟨hg,λh' qT hs=>TL R h1 (by rw[←List.reverse_toArray];exact qT) hs q⟩
 unfold Builtin.«bytearray.reverse»
 exact aC (eF (a:=A5 a) rfl (aC (IZ h1 (by rw[Array.size_reverse];exact dQ h4) λh' qT hs=>aO ⟨_,rfl,h2 h' qT hs⟩)))
theorem aU.ab6:aU c 1 (.type "bytes") IT:=aU.a1 λhr R e q=>by
 refine bF q λb h1 h4 q=>?_;subst e
 exact callType_new F.bm_called (by decide) (F.bm_typeCall _) (F.bm_newCall _) (λobj=>F.args_object_init_2 obj _) F.bm_entry (afH _ _ (dQ h4)) ⟨sJ R h1,λt k=>⟨fZ _ _ _,dq R (.bytes _ _) q⟩⟩
theorem aU.ab5:aU c 1 (.builtin "len") IS:=aU.a1 λ{A σ s a v Q} hr R e q=>by
 refine bF q λb h1 h4 q=>?_;subst e;have hg:=sJ R h1
 refine call_len_slot (n:=b.length) ⟨_,hg,rfl⟩ Sq (λQ' q'=>mR Sq ⟨_,hg,rfl⟩ aeC (aeD _) (S:=λz R s=>s.heap.get? a=some {cls:=.type "bytearray",data:=.bytearray b.toArray}∧R (.ok (.ret (.int b.length s.toks))) {s with toks:=s.toks+1}) (.of_wp λprog w A R s ⟨h1,h2⟩=>?_) ⟨hg,q'⟩) (nZ.2 (fX _)) (Int.not_le.2 (B6 h4)) (dq (t:=s.toks+1+1) R (.int _ _) q)
 unfold Builtin.«bytearray.__len__»;refine aC (eF (a:=(A5 a,[])) rfl ?_);dsimp only;exact aC (Tz h1 (aC (Ff (aO ⟨_,rfl,h2⟩))))
theorem aca:c5 c "append" "bytearray.append" CR:=c5.of Sg So (by kernel_rfl) λR r h=>by
 obtain⟨a,b,rfl,h⟩:=h;obtain rfl:=r.dj;exact⟨⟨_,sJ R h,rfl⟩,λb e=>Value.ref.inj e▸⟨_,sJ R h,rfl⟩⟩
theorem ab7:c5 c "reverse" "bytearray.reverse" CR:=c5.of Sg Sp (by kernel_rfl) λR r h=>by
 obtain⟨a,b,rfl,h⟩:=h;obtain rfl:=r.dj;exact⟨⟨_,sJ R h,rfl⟩,λb e=>Value.ref.inj e▸⟨_,sJ R h,rfl⟩⟩
end
end
section
open PySem.SeqAt
theorem afK(a:Args):j1 (.builtin "type.__call__" a)=false:=by
 show wM "type.__call__"=false
 decide+kernel
theorem afL(a:Args):j1 (.builtin "bytearray.__init__" a)=false:=by
 show wM "bytearray.__init__"=false
 decide+kernel
theorem uv{α:Type}{M:fy}{A:bj}{s:aw}{b:Bool}{x y:Sem α}{Q:α→aw→Prop}(hb:b=false)(h:bx M A y Q s):bx M A (if b=true then x else y) Q s:=by
 rw[if_neg (by rw[hb];decide)];exact h
theorem afM:ald "bytearray.__init__" "bytearray" ["source","encoding","errors"] [] []=pure [none,none,none]:=by kernel_rfl
section
variable{c:Cx}{n:Nat}{A:bj}{σ:St}{s:aw}
theorem afN{id:String}{args:Args}{B:Builtin}{R:lg→aw→Prop}(entry:jw table id=some B)
  (h:bx c.M (A.under (.builtin id args)) (B args) (λfin s'=>match fin with |.done f=>R (.ok f) s' |.again c'=>c'.quiet=true∧j1 c'=false∧gg c.M A c' R s') s):gg c.M A (.builtin id args) R s:=by
 refine sI ?_
 show bx _ _ (match jw table id with |some b=>b args |none=>unsupported ((withoutEnding? id "#data").getD id)) _ s
 rw[entry];exact h
theorem afO{R:lg→aw→Prop}(hg:s.heap.get? a=some {cls:=.type "bytearray",data:=.bytearray #[]})(h:∀h',h'.get? a=some {cls:=.type "bytearray",data:=.bytearray #[]}→jt a s.heap h'→R (.ok (.ret .none)) {s with heap:=h'}):
  gg c.M A (.call (.builtin "bytearray.__init__") ⟨[.ref a],[]⟩) R s:=by
 have hT:s.TypeIs (.ref a) "bytearray":=⟨_,hg,rfl⟩
 refine TK (B:=Builtin.«bytearray.__init__») (by decide+kernel) (afL _) aeE (CM.check _ _ _ _ _ _ _ _ hT (aeF _) ?_)
 unfold Builtin.«bytearray.__init__»;dsimp only;refine bG (gG (Tx hg ?_));refine uv rfl ?_;refine bG (gG (eF afM ?_));dsimp only;refine bG (gG (eF (a:=()) rfl ?_));refine bG (gG (eF (a:=()) rfl ?_));refine bG ?_;refine bG (Tu ?_);refine gG (aC (Tv (b:=#[]) hg rfl (aO ?_)));refine uv rfl ?_;refine bG (gG (IZ hg (dE _) λh' qT hs=>?_));refine bG (dC ?_);exact dC (h h' qT hs)
theorem ku.ba:ku c 1 (.type "bytearray") Hk:=@hZ.of c 1 (TN c _) _ λ{A σ s xs vs kx Q} hr R r q=>by
 obtain⟨rfl,rfl,q⟩:=q;refine⟨rfl,?_⟩;obtain rfl:=r.jU;refine gF CY.mro λcc tl TO=>?_;have TP:=CY.made;refine CU (sI ?_);show bx _ _ (callAny (.type "bytearray") _) _ _
 refine dC ⟨Code.quiet_builtin _ (by decide+kernel),afK _,afN F.entry_type_call ?_⟩
 rw[Around.under_plain (weight_type_call_type "bytearray" [] []) (units_type_call_type "bytearray" [] [])];unfold Builtin.«type.__call__»;refine uv CY.notType ?_;have h2:=CY.canCreate;dsimp only at h2 ⊢;refine uv h2 ?_;refine bG (gG (eF afw ?_));refine bG (gG (eF TO ?_));refine uv rfl ?_;refine bG (gG (eF TP ?_));dsimp only;refine bG (dC ?_)
 refine bG (gG (jf (wpAny_call (AY (afA (E:=No) (Q₁:=λobj bq=>obj=.ref s.heap.objs.size∧bq={s with heap:=s.heap.push {cls:=.type "bytearray",data:=.bytearray #[]}}) ⟨rfl,rfl⟩) λr bq hr=>?_))))
 induction r with
 |error e=>exact hr.elim
 |ok fl=>
  induction fl with
  |ret obj=>
   refine xa hr λaq qN=>?_;clear hr;subst aq;subst qN;have hg:(s.heap.push {cls:=.type "bytearray",data:=.bytearray #[]}).get? s.heap.objs.size=some {cls:=.type "bytearray",data:=.bytearray #[]}:=fW _ rfl
   have hT:Shared.TypeIs {s with heap:=s.heap.push {cls:=.type "bytearray",data:=.bytearray #[]}} (.ref s.heap.objs.size) "bytearray":=⟨_,hg,rfl⟩
   dsimp only;refine bG (gG (AI hT IY ?_));refine uv rfl ?_;refine bG (uu ?_);unfold callSpecial?;refine bG (gG (vx hT CM.lookup ?_));dsimp only;refine uu ?_;refine bG (gG (eF (CM.bind _) ?_));dsimp only;refine bG (CU (afO (a:=s.heap.objs.size) hg λh' qT hs=>?_));refine dC ?_;dsimp only;refine uv rfl ?_;refine dC ?_;have hn:=kH s.heap;have R1:=R.push {cls:=.type "bytearray",data:=.bytearray #[]}
   have keep:∀b o,s.heap.get? b=some o→h'.get? b=some o:=λb o e=>(hs.2 b λz=>by rw[z,hn]at e;exact bo e).trans (dY _ e)
   exact II (tk:=s.toks) (x:=.ba []) R keep hn (λz=>⟨z,qT⟩) q
  |_=>exact hr.elim
end
end
theorem vM{c:Cx}{n:Nat}{xs:List Stmt}{m:SM}(r:{m:SM // g6 c n ks xs m})(e:autoParam (r.1=m) gD._auto_1):g6 c n ks xs m:=e▸r.2
theorem vN{c:Cx}{n a:Nat}{k:Ks}{p:List Nat}{m:SM}(hK:tS c)(j:Nat)(h:rows[j]?=some (a,i,k,p))(s:g6 c n k (bd i) m):lY c (n+1) (.ref a) (bD p m):=
 have⟨h1,h2,h3,h4,_⟩:=vI hK j h
 lY.def h1 s p (vH h).2.1 (vH h).2.2 h2 h3 h4
noncomputable def OR{c:Cx}(Z:GK c):Tb c:={t0 Z.1 with fs:=[⟨(18,_,_,_,_),Z.1 _ _ rfl,rfl,dw.bi _,aU.ab5⟩,⟨(101,_,_,_,_),Z.1 _ _ rfl,rfl,dw.ty _,aU.ab6⟩],bs:=[⟨(_,_,_,_,_),ab7,aU.ab8⟩]}
theorem ab9{c:Cx}(Z:GK c):g6 c 1 M8 (bd 25) OS:=vM (gS (OR Z) [⟨(218,_,_,_,_),Z.1 _ _ rfl,rfl,dw.ty _,ku.ba⟩] [] [⟨(_,_,_,_,_),aca,ku.acb⟩] (lX (OR Z) 0 40) _ 4 _)
theorem acd{c:Cx}(Z:GK c):lY c 2 (.ref 285) Bw:=vN Z.2 73 rfl (ab9 Z)
noncomputable def OT{c:Cx}(Z:GK c):Tb c:=t0 Z.1
theorem ace{c:Cx}(Z:GK c):g6 c 2 Na (bd 24) OU:=vM (gS (OT Z) [(⟨(281,.loc 285,.ref 285,2,Bw),Z.1 _ _ rfl,rfl,kf 285 Z.2,(acd Z).toF⟩:Fg c)] [] [] (lX (OT Z) 1 40) _ 4 _)
theorem acf{c:Cx}(Z:GK c):lY c 3 (.ref 271) Bx:=vN Z.2 74 rfl (ace Z)
noncomputable def OV{c:Cx}(Z:GK c):Tb c:=t0 Z.1
theorem acg{c:Cx}(Z:GK c):g6 c 3 Nc (bd 28) OX:=vM (gS (OV Z) [] [(⟨(161,274,271,3,Bx),rfl,(acf Z).toF⟩:Mg c)] [(⟨(_,_,_,_,_),FK,aU.g aU.append⟩:Bg c)] (lX (OV Z) 2 40) _ 4 _)
theorem ach{c:Cx}(Z:GK c):lY c 4 (.ref 313) By:=vN Z.2 75 rfl (acg Z)
noncomputable def OY{c:Cx}(Z:GK c):Tb c:={GF Z with ms:=[(⟨(53,539,423,4,rX),rfl,(F5 Z).toF⟩:Me c)]}
theorem aci{c:Cx}(Z:GK c):g6 c 5 Nf (bd 42) OZ:=vM (gS (OY Z) [] [(⟨(161,323,313,4,By),rfl,(ach Z).toF⟩:Mg c),(⟨(53,539,423,4,rX),rfl,(F5 Z).toF.g⟩:Mg c)] [] (lX (OY Z) 4 40) _ 4 _)
theorem acj{c:Cx}(Z:GK c):lY c 6 (.ref 437) yn:=vN Z.2 76 rfl (aci Z)
noncomputable def O0{c:Cx}(Z:GK c):Tb c:=GF Z
theorem ack{c:Cx}(Z:GK c):g6 c 6 Nh (bd 111) O1:=vM (gS (O0 Z) [] [(⟨(235,539,437,6,yn),rfl,(acj Z).toF⟩:Mg c)] [(⟨(_,_,_,_,_),FK,aU.g aU.append⟩:Bg c)] (lX (O0 Z) 5 40) _ 4 _)
theorem acm{c:Cx}(Z:GK c):lY c 7 (.ref 1012) Bz:=vN Z.2 77 rfl (ack Z)
noncomputable def O2{c:Cx}(Z:GK c):Tb c:=GF Z
theorem acn{c:Cx}(Z:GK c):g6 c 10 Nj (bd 116) O5:=vM (gS (O2 Z) [(⟨(228,.loc 1012,.ref 1012,7,Bz),Z.1 _ _ rfl,rfl,kf 1012 Z.2,(acm Z).toF⟩:Fg c)] [] [] (lX (O2 Z) 9 40) _ 4 _)
theorem aco{c:Cx}(Z:GK c):lY c 11 (.ref 1039) O6:=vN Z.2 78 rfl (acn Z)
theorem gK{σ:St}{a b:Addr}(ha:σ a=none)(hb:σ b=some o):b≠a:=λe=>by subst e;exact bo (ha.symm.trans hb)
theorem GU{σ:St}{a b:Addr}{x:CO}(hb:σ b=some x)(n:b≠a):upd σ a o b=some x:=by rw[iU n];exact hb
noncomputable def aF(X:Addr→Prop)(σ ae:St):Prop:=∀a o,σ a=some o→¬X a→ae a=some o
theorem aF.refl(X:Addr→Prop)(σ:St):aF X σ σ:=λz z h z=>h
theorem aF.trans{X:Addr→Prop}(h:aF X b7 bT)(k:aF X bT fC):aF X b7 fC:=λa o e n=>k a o (h a o e n) n
theorem aF.mono{X:Addr→Prop}(h:aF X b7 bT)(k:∀a,X a→Y a):aF Y b7 bT:=λa o e n=>h a o e λz=>n (k a z)
theorem aF.new{X:Addr→Prop}{σ:St}{a:Addr}(h:σ a=none):aF X σ (upd σ a o):=λb x e y=>by
 rw[iU λz=>by subst z;rw[h]at e;cases e];exact e
theorem aF.upd{X:Addr→Prop}{σ:St}{a:Addr}(h:X a):aF X σ (upd σ a o):=λb x e n=>by
 rw[iU λz=>by subst z;exact n h];exact e
noncomputable abbrev one(a:Addr):Addr→Prop:=λb=>b=a
noncomputable abbrev two(a b:Addr):Addr→Prop:=λx=>x=a∨x=b
noncomputable abbrev aS:Addr→Prop:=λz=>False
theorem aF.at{X:Addr→Prop}{σ:St}(p:aF X σ ae){a:Addr}(h:σ a=some o)(n:autoParam (¬X a) aX):ae a=some o:=p a o h n
theorem aF.nx{X:Addr→Prop}(h:aF X b7 bT)(k:aF aS bT fC):aF X b7 fC:=λa o e n=>k a o (h a o e n) id
theorem aF.pn{X:Addr→Prop}(h:aF aS b7 bT)(k:aF X bT fC):aF X b7 fC:=λa o e n=>k a o (h a o e id) n
theorem aF.seq{X:Addr→Prop}(h:aF X b7 bT)(k:aF Y bT fC)(z:∀a,Y a→X a∨b7 a=none):aF X b7 fC:=λa o e n=>k a o (h a o e n) λy=>by
 rcases z a y with z |z
 ·exact n z
 ·exact jP (e.symm.trans z)
theorem aF.sn{X:Addr→Prop}{a:Addr}(h:aF X b7 bT)(k:aF (one a) bT fC)(z:b7 a=none):aF X b7 fC:=h.seq k λo y=>.inr (y▸z)
theorem aF.no{X:Addr→Prop}{a:Addr}(h:aF X b7 bT)(z:bT a=none)(n:autoParam (¬X a) aX):b7 a=none:=by
 cases e:b7 a with
 |none=>rfl
 |some o=>exact jP ((h.at e n).symm.trans z)
structure bI(p:Prop):Prop where
 out:p
noncomputable def Ev(m:EM)(e:aL)(σ:St)(v:CV):Prop:=∀Q:CV→St→Prop,Q v σ→m e σ Q
noncomputable def gp(m:cV)(e:aL)(σ:St)(v:List CV):Prop:=∀Q:List CV→St→Prop,Q v σ→m e σ Q
noncomputable def bM(m:TM)(e:aL)(σ:St)(b:Bool):Prop:=∀Q:Bool→St→Prop,Q b σ→m e σ Q
noncomputable def Vm(F:VM)(σ:St)(v:CV):Prop:=∀Q:CV→St→Prop,Q v σ→F σ Q
noncomputable abbrev It(x y:CV):St→CV→Prop:=Vm (vQ x y)
noncomputable abbrev At(i:Nat)(x:CV):St→CV→Prop:=Vm (vR i x)
noncomputable abbrev Bi(op:jv)(x y:CV):St→CV→Prop:=Vm (tV op x y)
noncomputable abbrev Fn(F:FM)(xs:List CV):St→CV→Prop:=Vm (F xs [])
noncomputable def cx(l:List Nat)(e0 e:aL):Prop:=∀j,l.contains j=false→e j=e0 j
theorem cx.refl{l:List Nat}{e:aL}:cx l e e:=λz z=>rfl
theorem aD(h:True:=by first |assumption |exact .set):True:=h
theorem cx.set{l:List Nat}{e:aL}{i:Nat}{v:CV}(h:autoParam (cx l e0 e) aD._auto_1)(hi:autoParam (l.contains i=true) aA):cx l e0 (bz e i v):=λj hj=>by
 rw[ox λe=>by subst e;rw[hi]at hj;cases hj];exact h j hj
theorem cx.tr{l l':List Nat}{e1 e2:aL}(h:cx l e0 e1)(k:cx l' e1 e2)(hs:autoParam (l'.all (λj=>l.contains j)=true) aA):cx l e0 e2:=λj hj=>by
 rw[k j (by
  cases g:l'.contains j with
  |false=>rfl
  |true=>rw[iy.1 hs j (vp.1 g)]at hj;exact iR hj)]
 exact h j hj
theorem cx.rd{l:List Nat}{e:aL}{j:Nat}{v:CV}(h:autoParam (cx l e0 e) aD._auto_1)(hv:autoParam (e0 j=some v) aB._auto_1)(hj:autoParam (l.contains j=false) aA):e j=some v:=by rw[h j hj];exact hv
noncomputable def bP(σ:St)(a C d:Addr)(fs:List (Nat×CV)):Prop:=σ a=some (.inst C d)∧σ d=some (.iV fs)
section
variable{e:aL}{σ:St}{v x y z:CV}{m m1 m2 m3:EM}{t t1 t2:TM}{b:Bool}{ms:cV}{vs:List CV}{op:jv}{cp:CmpOp}{i:Nat}{F:FM}{a:Addr}{n k:Int}
theorem aE(h:True:=by first |rfl |assumption |exact cx.rd):True:=h
theorem Ev.var(h:autoParam (e i=some v) aE._auto_1):Ev (af i) e σ v:=λQ q=>BG h q
theorem Ev.val:Ev (au x) e σ x:=λQ q=>q
theorem Ev.glob:Ev (fm x) e σ x:=λQ q=>q
theorem Ev.item(h1:Ev m1 e σ x)(h2:Ev m2 e σ y)(h:It x y σ v):Ev (bc m1 m2) e σ v:=λQ q=>h1 _ (h2 _ (h _ q))
theorem Ev.attr(h1:Ev m1 e σ x)(h:At i x σ v):Ev (bf i m1) e σ v:=λQ q=>h1 _ (h _ q)
theorem Ev.bin(h1:Ev m1 e σ x)(h2:Ev m2 e σ y)(h:Bi op x y σ v):Ev (be op m1 m2) e σ v:=λQ q=>h1 _ (h2 _ (h _ q))
theorem Ev.cmp(h1:Ev m1 e σ x)(h2:Ev m2 e σ y)(h:Cm cp x y σ b):Ev (gM cp m1 m2) e σ (.bool b):=λQ q=>h1 _ (h2 _ ⟨_,h,q⟩)
theorem Ev.neg(h1:Ev m1 e σ (.int n)):Ev (qD m1) e σ (.int (-n)):=λQ q=>h1 _ ⟨_,rfl,q⟩
theorem Ev.yu(h:bM t e σ true)(h1:Ev m1 e σ v):Ev (eH t m1 m2) e σ v:=λQ q=>h _ (h1 _ q)
theorem Ev.iff(h:bM t e σ false)(h1:Ev m2 e σ v):Ev (eH t m1 m2) e σ v:=λQ q=>h _ (h1 _ q)
theorem Ev.ite(h:bM t e σ b)(h1:b=true→Ev m1 e σ x)(h2:b=false→Ev m2 e σ y):Ev (eH t m1 m2) e σ (cond b x y):=by
 induction b with
 |true=>exact .yu h (h1 rfl)
 |false=>exact .iff h (h2 rfl)
theorem Ev.and{b1 b2:Bool}(h1:Ev m1 e σ (.bool b1))(h2:b1=true→Ev m2 e σ (.bool b2)):Ev (GV m1 m2) e σ (.bool (b1&&b2)):=λQ q=>h1 _ ⟨b1,rfl,by
 induction b1 with
 |true=>exact h2 rfl _ q
 |false=>exact q⟩
theorem Ev.or{b1 b2:Bool}(h1:Ev m1 e σ (.bool b1))(h2:b1=false→Ev m2 e σ (.bool b2)):Ev (yv m1 m2) e σ (.bool (b1||b2)):=λQ q=>h1 _ ⟨b1,rfl,by
 induction b1 with
 |true=>exact q
 |false=>exact h2 rfl _ q⟩
theorem Ev.call(h:gp ms e σ vs)(h1:Fn F vs σ v):Ev (aY F ms) e σ v:=λQ q=>h _ (h1 _ q)
theorem Ev.jy{C:Nat}(h1:Ev m1 e σ x)(hi:r9 C i x σ)(h:gp ms e σ vs)(hf:Fn F (x::vs) σ v):Ev (bN C i F m1 ms) e σ v:=λQ q=>h1 _ ⟨hi,h _ (hf _ q)⟩
theorem Ev.pw{R:CV→St→Prop}(h1:Ev m1 e σ x)(hr:R x σ)(h:gp ms e σ vs)(hf:Fn F (x::vs) σ v):Ev (bJ R F m1 ms) e σ v:=λQ q=>h1 _ ⟨hr,h _ (hf _ q)⟩
theorem Ev.tup(h:gp ms e σ vs)(hl:autoParam (vs.length≤1000) aG._auto_1):Ev (b8 ms) e σ (.tup vs):=λQ q=>h _ ⟨hl,q⟩
theorem Ev.upB{b:List UInt8}{k:Nat}(h1:Ev m e σ (.bytes b))(h2:Ev m1 e σ (.int k))(hl:b.length≤1000):Ev (jW m m1) e σ (.bytes (b.take k)):=λQ q=>h1 _ (h2 _ ⟨k,rfl,.kz (aR hl (by decide)) q⟩)
theorem gp.nil:gp ar e σ []:=λQ q=>q
theorem gp.cons(h1:Ev m e σ v)(h2:gp ms e σ vs):gp (ag m ms) e σ (v::vs):=λQ q=>h1 _ (h2 _ q)
theorem gp.one(h1:Ev m e σ v):gp (ag m ar) e σ [v]:=λQ q=>h1 _ q
theorem gp.two(h1:Ev m e σ v)(h2:Ev m1 e σ x):gp (ag m (ag m1 ar)) e σ [v,x]:=λQ q=>h1 _ (h2 _ q)
theorem gp.three(h1:Ev m e σ v)(h2:Ev m1 e σ x)(h3:Ev m2 e σ y):gp (ag m (ag m1 (ag m2 ar))) e σ [v,x,y]:=λQ q=>h1 _ (h2 _ (h3 _ q))
theorem bM.cmp(h1:Ev m1 e σ x)(h2:Ev m2 e σ y)(h:Cm cp x y σ b):bM (aT cp m1 m2) e σ b:=λQ q=>h1 _ (h2 _ ⟨_,h,q⟩)
theorem bM.val(h1:Ev m1 e σ (.bool b)):bM (jh m1) e σ b:=λQ q=>h1 _ ⟨_,rfl,q⟩
theorem bM.not(h1:bM t e σ b):bM (vS t) e σ (!b):=λQ q=>h1 _ q
theorem bM.GW:bM de e σ true:=λQ q=>q
theorem bM.pH(h1:bM t1 e σ true)(h2:bM t2 e σ b):bM (bR t1 t2) e σ b:=λQ q=>h1 _ (h2 _ q)
theorem bM.lZ(h1:bM t1 e σ false):bM (bR t1 t2) e σ false:=λQ q=>h1 _ q
theorem bM.lp(h1:bM t1 e σ b):bM (bR t1 (cQ true)) e σ b:=λQ q=>h1 _ (by cases b<;>exact q)
theorem bM.and{b1 b2:Bool}(h1:bM t1 e σ b1)(h2:b1=true→bM t2 e σ b2):bM (bR t1 t2) e σ (b1&&b2):=by
 induction b1 with
 |true=>exact .pH h1 (h2 rfl)
 |false=>exact .lZ h1
theorem bM.GX(h1:bM t1 e σ true):bM (hG t1 t2) e σ true:=λQ q=>h1 _ q
theorem bM.Pm(h1:bM t1 e σ false)(h2:bM t2 e σ b):bM (hG t1 t2) e σ b:=λQ q=>h1 _ (h2 _ q)
theorem bM.BH(h1:bM t1 e σ b):bM (hG t1 (cQ false)) e σ b:=λQ q=>h1 _ (by cases b<;>exact q)
theorem bM.or{b1 b2:Bool}(h1:bM t1 e σ b1)(h2:b1=false→bM t2 e σ b2):bM (hG t1 t2) e σ (b1||b2):=by
 induction b1 with
 |true=>exact .GX h1
 |false=>exact .Pm h1 (h2 rfl)
theorem bM.to{b':Bool}(h:bM t e σ b)(g:b=b'):bM t e σ b':=g▸h
theorem Ev.to(h:Ev m e σ v)(g:v=x):Ev m e σ x:=g▸h
theorem acP{α:Type}{vs:List α}{i:Nat}{v:α}(hv:vs[i]?=some v)(hl:vs.length≤1000):iW vs (i:Int)=some v:=by
 unfold iW;have:=(iL.1 hv).1
 rw[if_pos ⟨by exact fX _,by exact dN.2 (jQ this hl rfl)⟩,if_pos (fX _)]
 exact hv
theorem It.tup(h:autoParam (iW vs n=some v) aA):It (.tup vs) (.int n) σ v:=λQ q=>.tup h q
theorem It.li{i:Nat}(hv:vs[i]?=some v)(hl:vs.length≤1000)(h:autoParam (σ a=some (.list vs)) aB._auto_1):It (.loc a) (.int i) σ v:=λQ q=>.li (.inl h) (acP hv hl) q
theorem It.kz{b:List UInt8}{i:Nat}(hi:i<b.length)(hl:b.length≤1000):It (.bytes b) (.int i) σ (.int (b.getD i 0).toNat):=λQ q=>
 .kz (aR hl (by decide)) (by rw[dG,bS hi];rfl) q
theorem It.pi(hv:iW vs n=some v)(h:autoParam (σ a=some (.list vs)) aB._auto_1):It (.loc a) (.int n) σ v:=λQ q=>.li (.inl h) hv q
theorem It.dS{k:Str}{es:List (Str×CV)}(h:autoParam (σ a=some (.dS es)) aB._auto_1)(hv:autoParam (bB es k=some v) aB._auto_1):It (.loc a) (.str k) σ v:=λQ q=>.dS h hv q
theorem It.dB{k:List UInt8}{es:List (List UInt8×CV)}(h:autoParam (σ a=some (.dB es)) aB._auto_1)(hv:autoParam (bB es k=some v) aB._auto_1):It (.loc a) (.bytes k) σ v:=λQ q=>.dB h hv q
theorem It.str{x:Str}{v:Nat}(h:iW x.cps.toList n=some v):It (.str x) (.int n) σ (.str ⟨#[v]⟩):=λQ q=>.str h q
theorem At.of{C d:Addr}{fs:List (Nat×CV)}(h1:σ a=some (.inst C d))(h2:σ d=some (.iV fs))(hf:isField C i=true)(hv:iz fs i=some v):At i (.loc a) σ v:=λQ q=>⟨a,C,d,fs,v,rfl,h1,h2,hf,hv,q⟩
theorem At.ins{C d:Addr}{fs:List (Nat×CV)}(h:autoParam (bP σ a C d fs) aB._auto_1)(hv:autoParam (iz fs i=some v) aA)(hf:autoParam (isField C i=true) aA):At i (.loc a) σ v:=.of h.1 h.2 hf hv
theorem bP.fi{C d:Addr}{fs:List (Nat×CV)}(h:bP σ a C d fs)(hn:autoParam (iz fs i=none) aA):r9 C i (.loc a) σ:=⟨a,d,fs,rfl,h.1,h.2,hn⟩
theorem Bi.add:Bi .Add (.int n) (.int k) σ (.int (n+k)):=λQ q=>.add q
theorem Bi.sub:Bi .Sub (.int n) (.int k) σ (.int (n- k)):=λQ q=>.sub q
theorem Bi.lq{a b:List UInt8}(h:a.length+b.length≤16777216):Bi .Add (.bytes a) (.bytes b) σ (.bytes (a++b)):=λQ q=>.lq h q
theorem Bi.BI{a b:List CV}(ha:a≠[])(hb:b≠[])(h:a.length+b.length≤1000):Bi .Add (.tup a) (.tup b) σ (.tup (a++b)):=λQ q=>.BI ha hb h q
theorem Bi.mul(h1:-(2^64)<n)(h2:n<2^64):Bi .Mult (.int n) (.int k) σ (.int (n*k)):=λQ q=>.mul h1 h2 q
theorem Bi.BJ{a:List UInt8}(h:a≠[])(hl:a.length≤16)(h0:0≤n)(h1:n≤1000):Bi .Mult (.bytes a) (.int n) σ (.bytes (qr n.toNat a).flatten):=λQ q=>.BJ h hl h0 h1 q
theorem Bi.fdiv(h1:k≠0)(h2:k.natAbs<1073741824):Bi .FloorDiv (.int n) (.int k) σ (.int (n.fdiv k)):=λQ q=>.fdiv h1 h2 q
theorem Bi.mod(h1:k≠0):Bi .Mod (.int n) (.int k) σ (.int (n.fmod k)):=λQ q=>.mod h1 q
theorem Bi.shr(h1:0≤k):Bi .RShift (.int n) (.int k) σ (.int (n.fdiv (2^k.toNat))):=λQ q=>.shr h1 q
theorem Bi.and:Bi .BitAnd (.int n) (.int k) σ (.int (vz n k)):=λQ q=>.and q
theorem Bi.or:Bi .BitOr (.int n) (.int k) σ (.int (Mb n k)):=λQ q=>.or q
theorem Cm.ib{a b:List UInt8}:Cm .In (.bytes a) (.bytes b) σ (vT a b):=.mem .bb
theorem Cm.BK{a b:List UInt8}:Cm .NotIn (.bytes a) (.bytes b) σ (!vT a b):=.oy .bb
theorem Cm.iS{k:Str}{es:List (Str×CV)}(h:autoParam (σ a=some (.dS es)) aB._auto_1):Cm .In (.str k) (.loc a) σ (bB es k).isSome:=.mem (.dS h)
theorem Cm.iB{k:List UInt8}{es:List (List UInt8×CV)}(h:autoParam (σ a=some (.dB es)) aB._auto_1):Cm .In (.bytes k) (.loc a) σ (bB es k).isSome:=.mem (.dB h)
theorem Cm.GY{k:List UInt8}{es:List (List UInt8×CV)}(h:autoParam (σ a=some (.dB es)) aB._auto_1):Cm .NotIn (.bytes k) (.loc a) σ (!(bB es k).isSome):=.oy (.dB h)
theorem Cm.iTB{k:List UInt8}{is:List (List UInt8)}:Cm .In (.bytes k) (.tup (is.map .bytes)) σ (decide (k∈is)):=.mem .tB
theorem Cm.iTI{is:List Int}:Cm .In (.int n) (.tup (is.map .int)) σ (decide (n∈is)):=.mem .tI
theorem Cm.acQ{is:List Int}:Cm .NotIn (.int n) (.tup (is.map .int)) σ (!decide (n∈is)):=.oy .tI
theorem Cm.iIB{k:UInt8}{b:List UInt8}:Cm .In (.int k.toNat) (.bytes b) σ (b.contains k):=.mem .iB
theorem Cm.acR{k:UInt8}{b:List UInt8}:Cm .NotIn (.int k.toNat) (.bytes b) σ (!b.contains k):=.oy .iB
theorem Fn.len{a:Addr}(hl:vs.length≤1000)(h:autoParam (σ a=some (.list vs)) aB._auto_1):Fn eI [.loc a] σ (.int vs.length):=λQ q=>.inl (a1 (k:=.L) ⟨vs,.inl h,hl,q⟩)
theorem Fn.acS{es:List (List UInt8×CV)}(hl:es.length≤1000)(h:autoParam (σ a=some (.dB es)) aB._auto_1):Fn eI [.loc a] σ (.int es.length):=λQ q=>.inr (.inl (a1 (k:=.L) ⟨es,h,hl,q⟩))
theorem Fn.Pn{b:List UInt8}(hl:b.length≤1000000):Fn eI [.bytes b] σ (.int b.length):=λQ q=>.inr (.inr (a1 (k:=.B) ⟨aR hl (by decide),q⟩))
theorem Fn.ord{k:Nat}:Fn GZ [.str ⟨#[k]⟩] σ (.int k):=λQ q=>a1 (k:=.S) ⟨k,rfl,q⟩
theorem Fn.int:Fn G6 [.int n] σ (.int n):=λQ q=>a1 (k:=.I) q
theorem Fn.kz{b:List UInt8}:Fn sf [.bytes b] σ (.bytes b):=λQ q=>.inr (a1 (k:=.B) q)
theorem Fn.G7{ks:List Nat}(hb:∀k∈ks,k<256)(hl:ks.length≤1000)(h:autoParam (σ a=some (.list (ks.map λ(k:Nat)=>.int k))) aB._auto_1):Fn sf [.loc a] σ (.bytes (ks.map λk=>k.toUInt8)):=λQ q=>
 .inl (a1 (k:=.L) ⟨ks.map λ(k:Nat)=>(k:Int),by rw[h,dp];rfl,λi hi=>by refine a9 (dD.1 hi) λk hk aq=>?_;subst aq;exact⟨fX k,dN.2 (hb k hk)⟩,by rw[aZ];exact hl,by rw[dp];exact q⟩)
theorem Fn.join{s:List UInt8}{ys:List (List UInt8)}(hl:(oz s ys).length≤16777216)(h:autoParam (σ a=some (.list (ys.map .bytes))) aB._auto_1):Fn tW [.bytes s,.loc a] σ (.bytes (oz s ys)):=λQ q=>a2 (k:=.B) (l:=.L) ⟨ys,h,hl,q⟩
theorem Fn.FO{s:Str}{ys:List Str}(hl:(ys.map (λx=>x.length)).sum+ys.length*s.length≤16777216)(h:autoParam (σ a=some (.list (ys.map .str))) aB._auto_1):Fn G8 [.str s,.loc a] σ (.str (Txt.join s ys)):=λQ q=>a2 (k:=.S) (l:=.L) ⟨ys,h,hl,q⟩
theorem Fn.lower{b:List UInt8}(hl:b.length≤1000):Fn Ha [.bytes b] σ (.bytes (Hb b)):=λQ q=>a1 (k:=.B) ⟨hl,q⟩
theorem Fn.find{b d:List UInt8}:Fn Hc [.bytes b,.bytes d] σ (.int (pI b d)):=λQ q=>a2 (k:=.B) (l:=.B) q
theorem Fn.count{b d:List UInt8}(h:d≠[]):Fn Hd [.bytes b,.bytes d] σ (.int (yw b d)):=λQ q=>a2 (k:=.B) (l:=.B) ⟨h,q⟩
theorem Fn.all{bs:List Bool}(h:autoParam (σ a=some (.list (bs.map .bool))) aB._auto_1):Fn BL [.loc a] σ (.bool (bs.all id)):=λQ q=>a1 (k:=.L) ⟨bs,h,q⟩
theorem Fn.tup:Fn vU [.tup vs] σ (.tup vs):=λQ q=>.inr (a1 (k:=.V) ⟨vs,rfl,q⟩)
theorem Fn.Po(hl:vs.length≤1000)(h:autoParam (σ a=some (.list vs)) aB._auto_1):Fn vU [.loc a] σ (.tup vs):=λQ q=>.inl (a1 (k:=.L) ⟨vs,.inl h,hl,q⟩)
theorem Fn.get{k:Str}{es:List (Str×CV)}(h:autoParam (σ a=some (.dS es)) aB._auto_1):Fn si [.loc a,.str k] σ ((bB es k).getD .none):=λQ q=>a2 (k:=.L) (l:=.S) ⟨es,h,q⟩
end
noncomputable def sq(m2:SM)(Q:dy→aL→St→Prop):dy→aL→St→Prop:=λfl e' ae=>match fl with
 |.next=>m2 e' ae Q
 |f=>Q f e' ae
noncomputable def bk(Q:CV→St→Prop):dy→aL→St→Prop:=λfl z ae=>match fl with
 |.ret v=>Q v ae
 |.next=>Q .none ae
 |_=>False
section
variable{e:aL}{σ:St}{v x y z:CV}{m m1 m2:EM}{t:TM}{b:Bool}{ms:cV}{vs:List CV}{s1 s2 r:SM}{Q:dy→aL→St→Prop}{R:CV→St→Prop}{i j l:Nat}{F:FM}{a C d:Addr}{fs:List (Nat×CV)}{op:jv}
theorem df{m:SM}(h:m (eW ps xs λz=>none) σ (bk R))(hl:autoParam (xs.length=ps.length) aA):bD ps m xs [] σ R:=⟨hl,rfl,h⟩
theorem yx{e:aL}{i j:Nat}{v w:CV}(n:j≠i)(h:e j=some w):bz e i v j=some w:=by rw[ox n];exact h
theorem qE{m:SM}(k:∀e,e i=some x→m e σ (bk R)):bD [i] m [x] [] σ R:=⟨rfl,rfl,k (bz (λz=>none) i x) (hH ..)⟩
theorem yy{m:SM}(k:∀e,e i=some x→e j=some y→m e σ (bk R))(h:autoParam (i≠j) aK):bD [i,j] m [x,y] [] σ R:=⟨rfl,rfl,k (bz (bz (λz=>none) i x) j y) (yx h (hH ..)) (hH ..)⟩
theorem Pp{m:SM}{w:CV}{n:Nat}(k:∀e,e i=some x→e j=some y→e n=some w→m e σ (bk R))(h:autoParam (i≠j) aK)(h2:autoParam (i≠n) aK)(h3:autoParam (j≠n) aK):bD [i,j,n] m [x,y,w] [] σ R:=
 ⟨rfl,rfl,k (bz (bz (bz (λz=>none) i x) j y) n w) (yx h2 (yx h (hH ..))) (yx h3 (hH ..)) (hH ..)⟩
theorem gN(h:Ev m e σ v)(k:r (bz e i v) σ Q):ah (aP m (aName i)) r e σ Q:=h _ k
theorem cy(k:m e σ λv ao=>r (bz e i v) ao Q):ah (aP m (aName i)) r e σ Q:=k
theorem lu(h:Ev m e σ v)(h1:Ev m1 e σ x)(h2:Ev m2 e σ y)(k:lx x y v σ λae=>r e ae Q):ah (aP m (dg m1 m2)) r e σ Q:=h _ (h1 _ (h2 _ k))
theorem vV(k:m e σ λv ao=>m1 e ao λx ay=>m2 e ay λy aQ=>lx x y v aQ λae=>r e ae Q):ah (aP m (dg m1 m2)) r e σ Q:=k
theorem vW(k:m e σ λv ao=>m1 e ao λx ay=>yz i x v ay λae=>r e ae Q):ah (aP m (dx i m1)) r e σ Q:=k
theorem He(h:Ev m e σ (.tup vs))(k:r (eW is.reverse vs.reverse e) σ Q)(hl:autoParam (vs.length=is.length) aA):ah (gO is m) r e σ Q:=h _ ⟨vs,rfl,hl,k⟩
theorem BM(k:m e σ λv ao=>∃vs,v=.tup vs∧vs.length=is.length∧r (eW is.reverse vs.reverse e) ao Q):ah (gO is m) r e σ Q:=k
theorem Pq{a1 a2:AM}(h:Ev m e σ (.tup [x,y]))(k:a1 x e σ λe' ae=>a2 y e' ae λkD l0=>r kD l0 Q):ah (aP m (eB [a1,a2])) r e σ Q:=h _ ⟨_,rfl,rfl,k⟩
theorem BN{P:aL→St→Prop}(h1:Ev m1 e σ x)(h2:Ev m2 e σ y)(k:lx x y v σ λae=>P e ae):dg m1 m2 v e σ P:=h1 _ (h2 _ k)
theorem BO(h:Ev m e σ (.tup [x,y]))(k:r (bz (bz e i x) j y) σ Q):ah (aP m (eB [aName i,aName j])) r e σ Q:=h _ ⟨_,rfl,rfl,k⟩
theorem acT(k:m e σ λv ao=>∃vs,v=.tup vs∧vs.length=2∧vX [aName i,aName j] vs e ao λe' ae=>r e' ae Q):ah (aP m (eB [aName i,aName j])) r e σ Q:=k
theorem BP{n:Nat}{P:List CV→Prop}{vs:List CV}(h:vs.length=n)(hn:n≤1000):(vs.length≤1000∧∃us,CV.tup vs=.tup us∧us.length=n∧P us)=P vs:=
 propext ⟨λ⟨_,us,e,_,p⟩=>by cases e;exact p,λp=>⟨h▸hn,vs,rfl,h,p⟩⟩
theorem vY(k:m1 e σ λx ao=>m2 e ao λy ay=>r (bz (bz e j y) i x) ay Q):ah (gO [i,j] (b8 (ag m1 (ag m2 ar)))) r e σ Q:=by
 have h:(λx ao=>m2 e ao λy ay=>[x,y].length≤1000∧∃us,CV.tup [x,y]=.tup us∧us.length=2∧r (eW [i,j].reverse us.reverse e) ay Q)=λx ao=>m2 e ao λy ay=>r (bz (bz e j y) i x) ay Q:=by
  funext x ao
  refine congrArg (m2 e ao) ?_
  funext y ay
  exact BP rfl (by decide)
 exact Eq.mpr (congrArg (m1 e σ) h) k
theorem acU(k:m1 e σ λx ao=>m2 e ao λy ay=>r (bz (bz e i x) j y) ay Q):ah (aP (b8 (ag m1 (ag m2 ar))) (eB [aName i,aName j])) r e σ Q:=by
 have h:(λx ao=>m2 e ao λy ay=>[x,y].length≤1000∧∃us,CV.tup [x,y]=.tup us∧us.length=2∧vX [aName i,aName j] us e ay λe' ae=>r e' ae Q)=λx ao=>m2 e ao λy ay=>r (bz (bz e i x) j y) ay Q:=by
  funext x ao
  refine congrArg (m2 e ao) ?_
  funext y ay
  exact BP rfl (by decide)
 exact Eq.mpr (congrArg (m1 e σ) h) k
theorem Pr{m3:EM}(k:m1 e σ λx ao=>m2 e ao λy ay=>m3 e ay λz aQ=>r (bz (bz (bz e i x) j y) l z) aQ Q):ah (aP (b8 (ag m1 (ag m2 (ag m3 ar)))) (eB [aName i,aName j,aName l])) r e σ Q:=by
 have h:(λx ao=>m2 e ao λy ay=>m3 e ay λz aQ=>[x,y,z].length≤1000∧∃us,CV.tup [x,y,z]=.tup us∧us.length=3∧vX [aName i,aName j,aName l] us e aQ λe' ae=>r e' ae Q)=λx ao=>m2 e ao λy ay=>m3 e ay λz aQ=>r (bz (bz (bz e i x) j y) l z) aQ Q:=by
  funext x ao
  refine congrArg (m2 e ao) ?_
  funext y ay
  refine congrArg (m3 e ay) ?_
  funext z aQ
  exact BP rfl (by decide)
 exact Eq.mpr (congrArg (m1 e σ) h) k
theorem Hf{m3:EM}(k:m1 e σ λx ao=>m2 e ao λy ay=>m3 e ay λz aQ=>r (bz (bz (bz e l z) j y) i x) aQ Q):ah (gO [i,j,l] (b8 (ag m1 (ag m2 (ag m3 ar))))) r e σ Q:=by
 have h:(λx ao=>m2 e ao λy ay=>m3 e ay λz aQ=>[x,y,z].length≤1000∧∃us,CV.tup [x,y,z]=.tup us∧us.length=3∧r (eW [i,j,l].reverse us.reverse e) aQ Q)=λx ao=>m2 e ao λy ay=>m3 e ay λz aQ=>r (bz (bz (bz e l z) j y) i x) aQ Q:=by
  funext x ao
  refine congrArg (m2 e ao) ?_
  funext y ay
  refine congrArg (m3 e ay) ?_
  funext z aQ
  exact BP rfl (by decide)
 exact Eq.mpr (congrArg (m1 e σ) h) k
theorem bX(h:Ev m e σ v)(k:Q (.ret v) e σ):ah (bh m) r e σ Q:=h _ k
theorem fD(k:m e σ λv ao=>Q (.ret v) e ao):ah (bh m) r e σ Q:=k
theorem iA(k:m e σ λz ao=>r e ao Q):ah (cw m) r e σ Q:=k
theorem Pt{k:Int}(h:Ev m e σ x)(h1:Ev m1 e σ (.int k))(q:yA x k σ R):jW m m1 e σ R:=h _ (h1 _ ⟨k,rfl,q⟩)
theorem upL{k:Nat}(h:σ a=some (.list vs))(hl:vs.length≤1000)(q:∀l ae,σ l=none→ae l=some (.list (vs.take k))→aF aS σ ae→R (.loc l) ae):yA (.loc a) k σ R:=.li (.inl h) hl λl hn=>q l _ hn (eJ ..) (.new hn)
theorem upR{k:Nat}(h:σ a=some (.ro vs))(hl:vs.length≤1000)(q:∀l ae,σ l=none→ae l=some (.list (vs.take k))→aF aS σ ae→R (.loc l) ae):yA (.loc a) k σ R:=.li (.inr h) hl λl hn=>q l _ hn (eJ ..) (.new hn)
theorem ftX{m3:EM}{j k:Nat}(h:Ev m e σ (.loc a))(h1:Ev m1 e σ (.int j))(h2:Ev m3 e σ (.int k))(hv:σ a=some (.list vs))(yB:j≤k)(hk:k≤vs.length)(hl:vs.length≤1000)(q:∀l ae,σ l=none→ae l=some (.list ((vs.drop j).take (k- j)))→aF aS σ ae→R (.loc l) ae):Hg m m1 m3 e σ R:=
 h _ (h1 _ (h2 _ ⟨j,k,rfl,rfl,a,vs,rfl,hv,yB,hk,hl,λl hn=>q l _ hn (eJ ..) (.new hn)⟩))
theorem Hh(h:Ev m e σ (.loc a))(hv:σ a=some (.list vs))(hl:vs.length≤1000)(q:∀l ae,σ l=none→ae l=some (.list vs.reverse)→aF aS σ ae→R (.loc l) ae):yC m e σ R:=h _ ⟨a,vs,rfl,hv,hl,λl hn=>q l _ hn (eJ ..) (.new hn)⟩
theorem d3X{a b d:Str}{m3:EM}(k:m1 e σ λx ao=>m2 e ao λy ay=>m3 e ay λz aQ=>aQ.new (.dS (bY (bY (bY [] a x) b y) d z)) R):x7 a b d m1 m2 m3 e σ R:=k
theorem mlK{n:Nat}(h1:Ev m1 e σ (.int n))(hv:σ a=some (.list [v]))(hl:n≤1000)(q:∀l ae,σ l=none→ae l=some (.list (qr n v))→aF aS σ ae→R (.loc l) ae):m1 e σ λy ay=>Hi (.loc a) y ay R:=
 h1 _ ⟨a,_,rfl,rfl,n,v,rfl,hv,hl,λl hn=>q l _ hn (eJ ..) (.new hn)⟩
theorem bp(k:Q .next e σ):az e σ Q:=k
theorem oA(k:Q .next e σ):az e σ (sq az Q):=k
theorem acV(k:Q .brk e σ):ah BQ r e σ Q:=k
theorem Hj(k:Q .cont e σ):ah yD r e σ Q:=k
theorem Pu(k:Q (.ret .none) e σ):ah BR r e σ Q:=k
theorem oB(h:bM t e σ true)(k:s1 e σ (sq r Q)):ah (bC t s1 s2) r e σ Q:=h _ k
theorem e8(h:bM t e σ false)(k:s2 e σ (sq r Q)):ah (bC t s1 s2) r e σ Q:=h _ k
theorem fO(h:bM t e σ b)(k1:b=true→s1 e σ (sq r Q))(k2:b=false→s2 e σ (sq r Q)):ah (bC t s1 s2) r e σ Q:=by
 induction b with
 |true=>exact oB h (k1 rfl)
 |false=>exact e8 h (k2 rfl)
theorem BS{A B:St→Prop}:(λ(v:Bool) (ao:St)=>if v=true then A ao else B ao)=λv ao=>match v with |true=>A ao |false=>B ao:=by
 funext v ao;cases v<;>rfl
theorem vZ(k:t e σ λv ao=>match v with |true=>s1 e ao (sq r Q) |false=>s2 e ao (sq r Q)):ah (bC t s1 s2) r e σ Q:=by
 have h:t e σ (λv ao=>if v=true then s1 e ao (sq r Q)else s2 e ao (sq r Q)):=by rw[BS];exact k
 exact h
theorem Pw{old v':CV}(h1:Ev m e σ v)(k:r (bz e i v') σ Q)(h:autoParam (e i=some old) aE._auto_1)(h2:v5 op old v v'):ah (v7 i op m) r e σ Q:=⟨old,h,h1 _ ⟨v',h2,k⟩⟩
theorem yE{s:SM}(P:aL→St→Prop)(h1:∀e' ae,P e' ae→r e' ae Q)(h2:∀K:dy→aL→St→Prop,(∀{e' ae},P e' ae→K .next e' ae)→(∀{v e' ae},Q (.ret v) e' ae→K (.ret v) e' ae)→s e σ K):ah s r e σ Q:=h2 _ (λp=>h1 _ _ p) (λq=>q)
theorem tR(h:bM t e σ b)(k1:b=true→s1 e σ Q)(k2:b=false→s2 e σ Q):bC t s1 s2 e σ Q:=by
 induction b with
 |true=>exact h _ (k1 rfl)
 |false=>exact h _ (k2 rfl)
theorem ifX(k:t e σ λv ao=>match v with |true=>s1 e ao Q |false=>s2 e ao Q):bC t s1 s2 e σ Q:=by
 have h:t e σ (λv ao=>if v=true then s1 e ao Q else s2 e ao Q):=by rw[BS];exact k
 exact h
theorem bV(h:Ev m e σ v)(k:R v σ):m e σ R:=h _ k
theorem ly(k:m1 e σ λx ao=>m2 e ao λy ay=>tV op x y ay R):be op m1 m2 e σ R:=k
theorem pJ(h:Ev m1 e σ x)(k:m2 e σ λy ay=>tV op x y ay R):be op m1 m2 e σ R:=h _ k
theorem BU(h:bM t e σ true)(k:m1 e σ R):eH t m1 m2 e σ R:=h _ k
theorem yF(h:bM t e σ false)(k:m2 e σ R):eH t m1 m2 e σ R:=h _ k
theorem toF{t1 t2:TM}{B:Bool→St→Prop}(h:bM t1 e σ false)(k:t2 e σ B):hG t1 t2 e σ B:=h _ k
theorem Px{t1 t2:TM}{B:Bool→St→Prop}(h:bM t1 e σ true)(k:t2 e σ B):bR t1 t2 e σ B:=h _ k
theorem Py{B:Bool→St→Prop}(k:t e σ B):hG t (cQ false) e σ B:=by
 have h:(λ(b:Bool) (ao:St)=>if b=true then B true ao else cQ false e ao B)=B:=by
  funext b ao;cases b<;>rfl
 exact Eq.mpr (congrArg (t e σ) h) k
theorem Pz{B:Bool→St→Prop}(k:t e σ B):bR t (cQ true) e σ B:=by
 have h:(λ(b:Bool) (ao:St)=>if b=true then cQ true e ao B else B false ao)=B:=by
  funext b ao;cases b<;>rfl
 exact Eq.mpr (congrArg (t e σ) h) k
theorem v8(k:m e σ λx ao=>vR i x ao R):bf i m e σ R:=k
theorem gP(h:Bi op x y σ v)(k:R v σ):tV op x y σ R:=h _ k
theorem itK(h:It x y σ v)(k:R v σ):vQ x y σ R:=h _ k
theorem atK(h:At i x σ v)(k:R v σ):vR i x σ R:=h _ k
theorem BV(h:Fn F vs σ v)(k:R v σ):F vs [] σ R:=h _ k
theorem v9{op:CmpOp}{B:Bool→St→Prop}(k:m1 e σ λx ao=>m2 e ao λy ay=>wb op x y ay λb=>B b ay):aT op m1 m2 e σ B:=k
theorem we{op:CmpOp}{B:Bool→Prop}(h:Cm op x y σ b)(k:B b):wb op x y σ B:=⟨_,h,k⟩
theorem BW{B:Bool→St→Prop}(k:m e σ λx ao=>∃b,x=.bool b∧B b ao):jh m e σ B:=k
theorem dH{K:List CV→St→Prop}(k:m e σ λx ao=>K [x] ao):ag m ar e σ K:=k
theorem jX{K:List CV→St→Prop}(h:Ev m e σ x)(k:ms e σ λxs ao=>K (x::xs) ao):ag m ms e σ K:=h _ k
theorem jA{K:List CV→St→Prop}(k:m e σ λx ao=>ms e ao λxs ay=>K (x::xs) ay):ag m ms e σ K:=k
theorem elK{K:List CV→St→Prop}(h:gp ms e σ vs)(k:K vs σ):ms e σ K:=h _ k
theorem tbK{B:Bool→St→Prop}(h:bM t e σ b)(k:B b σ):t e σ B:=h _ k
theorem baN{σ:St}{R:CV→St→Prop}(h:∀a ae,σ a=none→ae a=some (.ba [])→aF aS σ ae→R (.loc a) ae):Hk [] [] σ R:=⟨rfl,rfl,λa ha=>h a _ ha (eJ ..) (.new ha)⟩
theorem cu(h:gp ms e σ vs)(k:F vs [] σ R):aY F ms e σ R:=h _ k
theorem jY(k:ms e σ λxs ae=>F xs [] ae R):aY F ms e σ R:=k
theorem eX{C:Nat}(h:Ev m e σ x)(hi:r9 C i x σ)(h1:gp ms e σ vs)(k:F (x::vs) [] σ R):bN C i F m ms e σ R:=h _ ⟨hi,h1 _ k⟩
theorem sj{C:Nat}(h:Ev m e σ x)(hi:r9 C i x σ)(k:ms e σ λxs ae=>F (x::xs) [] ae R):bN C i F m ms e σ R:=h _ ⟨hi,k⟩
theorem pK{P:CV→St→Prop}(h:Ev m e σ x)(hi:P x σ)(h1:gp ms e σ vs)(k:F (x::vs) [] σ R):bJ P F m ms e σ R:=h _ ⟨hi,h1 _ k⟩
theorem yG{P:CV→St→Prop}(h:Ev m e σ x)(hi:P x σ)(k:ms e σ λxs ae=>F (x::xs) [] ae R):bJ P F m ms e σ R:=h _ ⟨hi,k⟩
theorem ceT(h:Ev m1 e σ x)(k:m2 e σ λy ay=>vQ x y ay R):bc m1 m2 e σ R:=h _ k
theorem cX{σ:St}{Q:CV→St→Prop}(h:∀a ae,σ a=none→ae a=some o→aF aS σ ae→Q (.loc a) ae):σ.new o Q:=λa ha=>h a _ ha (eJ ..) (.new ha)
theorem dh(h:gp ms e σ vs)(k:∀a ae,σ a=none→ae a=some (.list vs)→aF aS σ ae→R (.loc a) ae)(hl:autoParam (vs.length≤1000) aG._auto_1):eList ms e σ R:=h _ ⟨hl,cX k⟩
theorem PF{a:Addr}{k:Str}{es:List (Str×CV)}{P:St→Prop}(h:σ a=some (.dS es))(hl:es.length≤1000)(q:∀ae,ae a=some (.dS (bY es k v))→aF (one a) σ ae→P ae):lx (.loc a) (.str k) v σ P:=.dS h hl (q _ (eJ ..) (.upd rfl))
theorem BX{a:Addr}{k:List UInt8}{es:List (List UInt8×CV)}{P:St→Prop}(h:σ a=some (.dB es))(hl:es.length≤1000)(q:∀ae,ae a=some (.dB (bY es k v))→aF (one a) σ ae→P ae):lx (.loc a) (.bytes k) v σ P:=.dB h hl (q _ (eJ ..) (.upd rfl))
theorem fsI{a:Addr}{k:Int}{es:List (Int×CV)}{P:St→Prop}(h:σ a=some (.dI es))(hl:es.length≤1000)(q:∀ae,ae a=some (.dI (bY es k v))→aF (one a) σ ae→P ae):lx (.loc a) (.int k) v σ P:=.dI h hl (q _ (eJ ..) (.upd rfl))
theorem fsL{a:Addr}{k:Nat}{P:St→Prop}(h:σ a=some (.list vs))(hk:k<vs.length)(hl:vs.length≤1000)(q:∀ae,ae a=some (.list (vs.set k v))→aF (one a) σ ae→P ae):lx (.loc a) (.int k) v σ P:=.li h hk hl (q _ (eJ ..) (.upd rfl))
theorem bP.a7{X:Addr→Prop}{σ:St}{a C d:Addr}{fs:List (Nat×CV)}(h:bP σ a C d fs)(p:aF X σ ae)(na:autoParam (¬X a) aX)(nd:autoParam (¬X d) aX):bP ae a C d fs:=⟨p.at h.1 na,p.at h.2 nd⟩
theorem bP.ne(h:bP σ a C d fs):a≠d:=λe=>by have:=h.1;rw[e,h.2]at this;cases this
theorem sk{P:St→Prop}(h:bP σ a C d fs)(q:∀ae,bP ae a C d (l7 fs i v)→aF (one d) σ ae→P ae)(hf:autoParam (isField C i=true) aA)(hb:autoParam (v.tX=false) aA)(hl:autoParam (fs.length≤20) aG._auto_1):yz i (.loc a) v σ P:=
 ⟨a,C,d,fs,rfl,h.1,h.2,hf,hb,hl,q _ ⟨GU h.1 h.ne,eJ ..⟩ (.upd rfl)⟩
theorem fE(h:Ev m e σ v)(h1:e j=some (.loc a))(hi:bP σ a C d fs)(q:∀ae,bP ae a C d (l7 fs i v)→aF (one d) σ ae→r e ae Q)(hf:autoParam (isField C i=true) aA)(hb:autoParam (v.tX=false) aA)(hl:autoParam (fs.length≤20) aG._auto_1):ah (aP m (dx i (af j))) r e σ Q:=
 h _ (BG h1 (sk hi q hf hb hl))
theorem BY{n:CV}(h:σ a=some (.list (vs++[n])))(hl:vs.length+1≤1000)(q:∀ae,ae a=some (.list vs)→aF (one a) σ ae→R n ae):sr [.loc a] [] σ R:=.inl (a1 (k:=.L) ⟨vs,n,h,hl,q _ (eJ ..) (.upd rfl)⟩)
theorem FL{n:CV}{k:Nat}(h:σ a=some (.list vs))(hv:vs[k]?=some n)(hl:vs.length≤1000)(q:∀ae,ae a=some (.list (vs.eraseIdx k))→aF (one a) σ ae→R n ae):sr [.loc a,.int k] [] σ R:=.inr (a2 (k:=.L) (l:=.I) ⟨k,vs,n,rfl,h,hv,hl,q _ (eJ ..) (.upd rfl)⟩)
theorem wg(h:σ a=some (.list vs))(hl:vs.length≤1000)(q:∀ae,ae a=some (.list (vs++[v]))→aF (one a) σ ae→R .none ae):cN [.loc a,v] [] σ R:=a2 (k:=.L) (l:=.V) ⟨vs,h,hl,q _ (eJ ..) (.upd rfl)⟩
theorem yH(h:Ev m e σ (.loc a))(h1:Ev m1 e σ v)(ha:σ a=some (.list vs))(hl:vs.length≤1000)(q:∀ae,ae a=some (.list (vs++[v]))→aF (one a) σ ae→r e ae Q):ah (cw (bJ cD cN m (ag m1 ar))) r e σ Q:=h _ ⟨⟨_,_,rfl,ha⟩,h1 (λx ao=>cN [.loc a,x] [] ao λz ao=>r e ao Q) (wg ha hl q)⟩
theorem PH{a b:List UInt8}{l:List (List UInt8)}(hs:lA a b=l)(hb:b≠[])(hp:∀p∈l,p.length≤1000)(hl:l.length≤1000)(q:∀x ae,σ x=none→ae x=some (.list (l.map .bytes))→aF aS σ ae→R (.loc x) ae):yI [.bytes a,.bytes b] [] σ R:=by
 subst hs;exact a2 (k:=.B) (l:=.B) ⟨hb,hp,hl,cX q⟩
theorem mxK{is:List Int}(h:σ a=some (.list (is.map .int)))(h0:0<is.length)(k:∀m,m∈is→(∀i∈is,i≤m)→R (.int m) σ):Hl [.loc a] [] σ R:=a1 (k:=.L) ⟨is,h,h0,k⟩
theorem exK{b:Addr}(h1:σ a=some (.list vs))(h2:σ b=some (.list ws))(hl:vs.length+ws.length≤1000)(q:∀ae,ae a=some (.list (vs++ws))→aF (one a) σ ae→R .none ae):Hm [.loc a,.loc b] [] σ R:=a2 (k:=.L) (l:=.L) ⟨vs,ws,h1,h2,hl,q _ (eJ ..) (.upd rfl)⟩
theorem PJ{b:Addr}(h1:σ a=some (.list vs))(h2:σ b=some (.list ws))(hl:vs.length+ws.length≤1000)(q:∀l ae,σ l=none→ae l=some (.list (vs++ws))→aF aS σ ae→R (.loc l) ae):tV .Add (.loc a) (.loc b) σ R:=.PM h1 h2 hl (cX q)
theorem tY{α:Type}{f:α→CV}{xs:List α}{u:α}(h:σ a=some (.list (xs.map f)))(hl:xs.length≤1000)(q:∀ae,ae a=some (.list ((xs++[u]).map f))→aF (one a) σ ae→R .none ae):cN [.loc a,f u] [] σ R:=
 wg h (by rw[aZ];exact hl) λae g p=>q ae (by rw[cR];exact g) p
theorem su{α:Type}{xs:List α}(f:α→CV)(u:α)(h:Ev m e σ (.loc a))(h1:Ev m1 e σ (f u))(ha:σ a=some (.list (xs.map f)))(hl:xs.length≤1000)(q:∀ae,ae a=some (.list ((xs++[u]).map f))→aF (one a) σ ae→r e ae Q):ah (cw (bJ cD cN m (ag m1 ar))) r e σ Q:=
 yH h h1 ha (by rw[aZ];exact hl) λae g p=>q ae (by rw[cR];exact g) p
theorem sv(h:Ev m e σ (.loc a))(ha:σ a=some (.list vs))(k:m1 e σ λv ao=>cN [.loc a,v] [] ao R):bJ cD cN m (ag m1 ar) e σ R:=h _ ⟨⟨_,_,rfl,ha⟩,k⟩
theorem pL(h:∀a d ao,σ a=none→σ d=none→bP ao a C d []→aF aS σ ao→F (.loc a::xs) [] ao λv ae=>v=.none∧R (.loc a) ae):eV C F xs [] σ R:=λa d n ha hd=>
 h a d _ ha hd ⟨eJ ..,GU (eJ ..) (Ne.symm n)⟩ λb o e z=>by
  have h1:b≠a:=gK ha e;have h2:b≠d:=gK hd e;rw[iU h1,iU h2];exact e
theorem Hn{x:Addr}{B:Bool→St→Prop}(hx:σ x=some (.list vs))(h:∀ae,aF aS σ ae→B (decide (vs≠[])) ae):σ.new (.list []) (λy ay=>wb .NotEq (.loc x) y ay λb=>B b ay):=λa ha=>by
 have p:aF aS σ (upd σ a (.list [])):=.new ha
 have e:(!vs.isEmpty)=decide (vs≠[]):=by cases vs<;>simp
 exact⟨_,.tL (p.at hx) (eJ ..),by rw[e];exact h _ p⟩
theorem BZ{l:Addr}(h:Ev m e σ (.loc l))(hx:σ l=some (.list vs))(k1:vs≠[]→∀ae,aF aS σ ae→s1 e ae (sq r Q))(k2:vs=[]→∀ae,aF aS σ ae→s2 e ae (sq r Q)):
  ah (bC (aT .NotEq m (eList ar)) s1 s2) r e σ Q:=h _ ⟨dE _,Hn hx λae p=>by
 by_cases g:vs=[]
 ·rw[decide_eq_false (λz=>z g)];exact k2 g ae p
 ·rw[decide_eq_true g];exact k1 g ae p⟩
end
section
variable{e:aL}{σ:St}{m m1 m2:EM}{R:CV→St→Prop}{vs:List CV}
theorem acW{l:Addr}(h:Ev m e σ (.loc l))(hx:σ l=some (.list vs))(k1:vs≠[]→∀ae,aF aS σ ae→m1 e ae R)(k2:vs=[]→∀ae,aF aS σ ae→m2 e ae R):eH (aT .NotEq m (eList ar)) m1 m2 e σ R:=h _ ⟨dE _,Hn hx λae p=>by
 by_cases g:vs=[]
 ·rw[decide_eq_false (λz=>z g)];exact k2 g ae p
 ·rw[decide_eq_true g];exact k1 g ae p⟩
end
section
variable{e:aL}{σ:St}{v x y z:CV}{m m1 m2:EM}{t:TM}{b r:SM}{vs:List CV}{Q:dy→aL→St→Prop}{R:CV→St→Prop}{i j:Nat}{a:Addr}{A:AM}{ok:St→Prop}
theorem yJ(o:ok σ)(k:Q .next e σ):f9 ok A b Q [] e σ:=⟨o,k⟩
theorem jB(h:Ev m e σ (.loc a))(ha:σ a=some (.list vs))(k:∀ok:St→Prop,(∀ae,ae a=some (.list vs)→ok ae)→f9 ok A b (sq r Q) vs e σ):ah (cY (bO m) A b) r e σ Q:=h _ (.li (.inl ha) (k _ λz=>.inl))
theorem PN(h:Ev m e σ (.loc a))(ha:σ a=some (.list vs))(k:∀ok:St→Prop,(∀ae,ae a=some (.list vs)→ok ae)→f9 ok A b (sq r Q) (qx 0 vs) e σ):ah (cY (tQ m) A b) r e σ Q:=h _ ⟨a,vs,rfl,.inl ha,k _ λz=>.inl⟩
theorem Ho(h:Ev m e σ (.tup vs))(k:f9 pM A b (sq r Q) vs e σ):ah (cY (bO m) A b) r e σ Q:=h _ (.tu k)
theorem Hp{bs:List UInt8}(h:Ev m e σ (.bytes bs))(k:f9 pM A b (sq r Q) (yK bs) e σ):ah (cY (bO m) A b) r e σ Q:=h _ (.by k)
theorem wj(k:m e σ λx ao=>B0 x ao λitems ok ay=>f9 ok A b (sq r Q) items e ay):ah (cY (bO m) A b) r e σ Q:=k
theorem iX{P:List CV→(St→Prop)→St→Prop}(ha:σ a=some (.list vs))(k:∀ok:St→Prop,(∀ae,ae a=some (.list vs)→ok ae)→P vs ok σ):B0 (.loc a) σ P:=.li (.inl ha) (k _ λz=>.inl)
structure yL(L:List Nat)(e:aL)(J:aL→St→Prop)(Q K:dy→aL→St→Prop):Prop where
 nx:∀{e' ae},J e' ae→autoParam (cx L e e') aD._auto_1→K .next e' ae
 ct:∀{e' ae},J e' ae→autoParam (cx L e e') aD._auto_1→K .cont e' ae
 br:∀{e σ},Q .next e σ→K .brk e σ
 rt:∀{v e σ},Q (.ret v) e σ→K (.ret v) e σ
theorem yM{α:Type}(L:List Nat)(f:α→CV)(I:List α→aL→St→Prop)(hs:∀x xs e' ae,cx L e e'→I (x::xs) e' ae→ok ae∧∀K,yL L e (I xs) Q K→A (f x) e' ae λe1 ao=>b e1 ao K)(he:∀e' ae,cx L e e'→I [] e' ae→ok ae∧Q .next e' ae):
  ∀{xs:List α} {e':aL} {σ:St},cx L e e'→I xs e' σ→f9 ok A b Q (xs.map f) e' σ
 |[],_,_,s,h=>he _ _ s h
 |x::xs,_,_,s,h=>⟨(hs x xs _ _ s h).1,(hs x xs _ _ s h).2 _ ⟨λz s=>yM L f I hs he s z,λz s=>yM L f I hs he s z,λz=>z,λz=>z⟩⟩
theorem qF{α:Type}{xs:List α}(L:List Nat)(f:α→CV)(I:List α→aL→St→Prop)(h0:I xs e σ)(hs:∀x xs e' ae,cx L e (bz e' i (f x))→I (x::xs) e' ae→ok ae∧∀K,yL L e (I xs) Q K→b (bz e' i (f x)) ae K)(he:∀e' ae,cx L e e'→I [] e' ae→ok ae∧Q .next e' ae)(hi:autoParam (L.contains i=true) aA):f9 ok (aName i) b Q (xs.map f) e σ:=
 yM L f I (λx xs e' ae s h=>hs x xs e' ae (s.set hi) h) he .refl h0
theorem pN{α:Type}{xs:List α}(L:List Nat)(f:α→CV)(I:List α→St→Prop)(h0:I xs σ)(hs:∀x xs e' ae,cx L e e'→e' i=some (f x)→I (x::xs) ae→ok ae∧∀K,yL L e (λz=>I xs) Q K→b e' ae K)(he:∀e' ae,cx L e e'→I [] ae→ok ae∧Q .next e' ae)(hi:autoParam (L.contains i=true) aA):f9 ok (aName i) b Q (xs.map f) e σ:=
 yM L f (λxs z=>I xs) (λx xs e' ae s h=>hs x xs _ ae (s.set hi) (hH ..) h) he .refl h0
theorem acX{α:Type}{xs:List α}(L:List Nat)(f g:α→CV)(I:List α→St→Prop)(h0:I xs σ)(hs:∀x xs e' ae,cx L e e'→e' i=some (f x)→e' j=some (g x)→I (x::xs) ae→ok ae∧∀K,yL L e (λo=>I xs) Q K→b e' ae K)(he:∀e' ae,cx L e e'→I [] ae→ok ae∧Q .next e' ae)(yN:autoParam (i≠j) aK)(hi:autoParam (L.contains i=true) aA)(hj:autoParam (L.contains j=true) aA):f9 ok (eB [aName i,aName j]) b Q (xs.map λx=>.tup [f x,g x]) e σ:=
 yM L (λx=>.tup [f x,g x]) (λxs o=>I xs) (λx xs e' ae s h=>
  have z:=hs x xs _ ae ((s.set hi).set hj) (by rw[ox yN];exact hH ..) (hH ..) h
  ⟨z.1,λK k=>⟨_,rfl,rfl,z.2 K k⟩⟩) he .refl h0
theorem Hr{vs:List CV}(L:List Nat)(I:Nat→aL→St→Prop)(h0:I 0 e σ)
  (hs:∀(k:Nat) v e' ae,vs[k]?=some v→cx L e (bz (bz e' i (.int k)) j v)→I k e' ae→ok ae∧∀K,yL L e (I (k+1)) Q K→b (bz (bz e' i (.int k)) j v) ae K)
  (he:∀e' ae,cx L e e'→I vs.length e' ae→ok ae∧Q .next e' ae)(hi:autoParam (L.contains i=true) aA)(hj:autoParam (L.contains j=true) aA):f9 ok (eB [aName i,aName j]) b Q (qx 0 vs) e σ:=by
 have key:∀(rest done:List CV),vs=done++rest→∀e' σ,cx L e e'→I done.length e' σ→f9 ok (eB [aName i,aName j]) b Q (qx done.length rest) e' σ:=by
  intro rest
  induction rest with
  |nil=>intro done hd e' σ s hI;rw[fj]at hd;subst hd;exact he e' σ s hI
  |cons v rest ih=>
   intro done hd e' σ s hI
   refine xa (hs done.length v e' σ (by rw[hd,Ez (cP _),Nat.sub_self];rfl) ((s.set hi).set hj) hI) λh1 h2=>?_
   have ih:=ih (done++[v]) (by rw[hd,fJ];rfl)
   rw[bW,mH]at ih;exact⟨h1,_,rfl,rfl,h2 _ ⟨λz s=>ih _ _ s z,λz s=>ih _ _ s z,λz=>z,λz=>z⟩⟩
 exact key vs [] rfl e σ .refl h0
theorem PO(k:m e σ λx ao=>∃i,x=.int i∧-(2^62)≤i∧i<2^62∧f9 pM A b (sq r Q) (m8 i) e ao):ah (cY (oh m) A b) r e σ Q:=k
theorem acY(k:m e σ λx ao=>∃a vs,x=.loc a∧(ao a=some (.list vs)∨ao a=some (.ro vs))∧f9 (pO a vs) A b (sq r Q) (qx 0 vs) e ao):ah (cY (tQ m) A b) r e σ Q:=k
noncomputable def nI(i:Nat):CV:=.int i
theorem B1(n:Nat):m8 (n:Int)=(mQ 0 n).map nI:=by
 unfold m8;rw[pe,List.range_eq_range'];rfl
theorem PQ{n:Nat}(hn:n≤1000)(k:f9 pM A b Q ((mQ 0 n).map nI) e σ):∃i,CV.int n=.int i∧-(2^62)≤i∧i<2^62∧f9 pM A b Q (m8 i) e σ:=
 ⟨n,rfl,by exact fX _,by exact ki.2 (lz hn rfl),by rw[B1];exact k⟩
noncomputable def wl(W:aL→St→Prop)(Q:dy→aL→St→Prop):dy→aL→St→Prop:=λfl e' ae=>match fl with
 |.next |.cont=>W e' ae
 |.brk=>Q .next e' ae
 |.ret x=>Q (.ret x) e' ae
noncomputable def tZ(t:TM)(b:SM)(Q:dy→aL→St→Prop)(W:aL→St→Prop)(e:aL)(σ:St):Prop:=t e σ λv ao=>if v=true then b e ao (wl W Q)else Q .next e ao
noncomputable def oD(t:TM)(b:SM)(Q:dy→aL→St→Prop):Nat→aL→St→Prop
 |0=>λz z=>False
 |n+1=>λe σ=>oD t b Q n e σ∨tZ t b Q (oD t b Q n) e σ
theorem B2:∀{n:Nat} {e:aL} {σ:St},oD t b Q n e σ↔∃m,m<n∧tZ t b Q (oD t b Q m) e σ
 |0,_,_=>⟨False.elim,λ⟨_,h,_⟩=>(xN _ h).elim⟩
 |n+1,e,σ=>by
  refine Iff.trans (or_congr_left B2) ⟨?_,?_⟩
  ·rintro(⟨m,h,k⟩ |k)
   ·exact⟨m,xJ h,k⟩
   ·exact⟨n,kX n,k⟩
  ·rintro⟨m,h,k⟩
   rcases Nat.lt_succ_iff_lt_or_eq.1 h with h |rfl
   ·exact .inl ⟨m,h,k⟩
   ·exact .inr k
theorem whU{n:Nat}(h:oD t b Q n e σ):jC t b e σ Q:=by
 refine a9 (B2.1 h) λm zz h=>?_;refine⟨λm=>tZ t b Q (oD t b Q m),m,h,λk e σ h=>?_⟩
 have eq:(λ(fl:dy) (e':aL) (ae:St)=>match fl with |.next |.cont=>∃m,m<k∧tZ t b Q (oD t b Q m) e' ae |.brk=>Q .next e' ae |.ret x=>Q (.ret x) e' ae)=wl (oD t b Q k) Q:=by
  funext fl e' ae
  induction fl with
  |next=>exact propext B2.symm
  |cont=>exact propext B2.symm
  |brk=>rfl
  |ret x=>rfl
 exact Eq.mpr (congrArg (λF:dy→aL→St→Prop=>t e σ λv ao=>if v=true then b e ao F else Q .next e ao) eq) h
theorem acZ{n m:Nat}(h:n≤m)(k:oD t b Q n e σ):oD t b Q m e σ:=by
 induction h with
 |refl=>exact k
 |step _ ih=>exact .inl ih
theorem qG(L:List Nat)(I:Nat→aL→St→Prop){n:Nat}(h0:I n e σ)(hs:∀n e' ae,cx L e e'→I n e' ae→∀W:aL→St→Prop,(∀{m kD l0},m<n→I m kD l0→autoParam (cx L e kD) aD._auto_1→W kD l0)→tZ t b Q W e' ae):jC t b e σ Q:=by
 have key:∀n e' ae,cx L e e'→I n e' ae→oD t b Q (n+1) e' ae:=λn=>by
  induction n using Nat.strongRecOn with
  |ind n ih=>exact λe' ae s h=>.inr (hs n e' ae s h _ λ{m kD l0} hm h s=>acZ hm (ih m hm kD l0 s h))
 exact whU (key _ _ _ .refl h0)
theorem pP(k:jC t b e σ (sq r Q)):ah (jC t b) r e σ Q:=k
theorem sA{W:aL→St→Prop}{b1:Bool}(h:bM t e σ b1)(k1:b1=true→b e σ (wl W Q))(k2:b1=false→Q .next e σ):tZ t b Q W e σ:=by
 induction b1 with
 |true=>exact h _ (k1 rfl)
 |false=>exact h _ (k2 rfl)
theorem PR{W:aL→St→Prop}{l:Addr}(h:Ev m e σ (.loc l))(hx:σ l=some (.list vs))(k1:vs≠[]→∀ae,aF aS σ ae→b e ae (wl W Q))(k2:vs=[]→∀ae,aF aS σ ae→Q .next e ae):
  tZ (aT .NotEq m (eList ar)) b Q W e σ:=h _ ⟨dE _,Hn hx λae p=>by
 by_cases g:vs=[]
 ·rw[decide_eq_false (λz=>z g)];exact k2 g ae p
 ·rw[decide_eq_true g];exact k1 g ae p⟩
end
noncomputable def Src(it:IM)(e:aL)(σ:St)(vs:List CV):Prop:=∀Q:List CV→(St→Prop)→St→Prop,(∀ok:St→Prop,ok σ→Q vs ok σ)→it e σ Q
noncomputable def iC(raw:Ks):List Nat:=(raw.filter λp=>fN (some p.2)).map (λx=>x.1)
theorem B3(raw:Ks)(e:aL):cx (iC raw) e (lB raw e):=λj hj=>by
 unfold lB;refine if_neg λh=>?_
 cases q:raw.lookup j with
 |none=>rw[q]at h;exact eP h
 |some k=>
  rw[q]at h;have:j∈iC raw:=dD.2 ⟨(j,k),rK.2 ⟨lookup_mem q,h⟩,rfl⟩;rw[←vp,hj]at this;exact eP this
section
variable{e:aL}{σ:St}{m el:EM}{t:TM}{vs:List CV}{R:CV→St→Prop}{i j:Nat}{a:Addr}{it:IM}{raw:Ks}{α:Type}
theorem Src.li(h:Ev m e σ (.loc a))(ha:autoParam (σ a=some (.list vs)) aB._auto_1):Src (bO m) e σ vs:=λQ q=>h _ (.li (.inl ha) (q _ (.inl ha)))
theorem Src.tu(h:Ev m e σ (.tup vs)):Src (bO m) e σ vs:=λQ q=>h _ (.tu (q _ trivial))
theorem Src.st{x:Str}(h:Ev m e σ (.str x))(ha:x.cps.all (·<128)=true):Src (bO m) e σ (yO x):=λQ q=>h _ (.st ha (q _ trivial))
theorem Src.rg{n:Nat}(h:Ev m e σ (.int n))(hn:n≤1000):Src (oh m) e σ ((mQ 0 n).map nI):=λQ q=>h _ ⟨n,rfl,by exact fX _,by exact ki.2 (lz hn rfl),by rw[B1];exact q _ trivial⟩
theorem yP{ok:St→Prop}{Q:List CV→St→Prop}{A:AM}{l:List Nat}(f:α→CV)(p:α→Bool)(g:α→CV)(S:α→aL→Prop)(o:ok σ)(hA:∀x ce (T:aL→St→Prop),cx l e ce→(∀mc,cx l e mc→S x mc→T mc σ)→A (f x) ce σ T)
  :∀(xs:List α),(∀x∈xs,∀ce,cx l e ce→S x ce→bM t ce σ (p x)∧(p x=true→Ev el ce σ (g x)))→∀(ce:aL) (acc:List CV),cx l e ce→acc.length+xs.length≤1000→Q (acc++(xs.filter p).map g) σ→hJ ok A t el Q (xs.map f) ce acc σ
 |[],_,ce,acc,s,hl,q=>⟨o,by rw[List.filter_nil,E8,fj]at q;exact q⟩
 |x::xs,hb,ce,acc,s,hl,q=>⟨o,aR (mL _ _) hl,hA x ce _ s λmc s' sx=>by
  refine xa (hb x (.head _) mc s' sx) λh1 h2=>?_;rw[kY]at hl;refine h1 _ ?_
  cases g0:p x with
  |true=>
   rw[mM,if_pos g0,gB]at q
   exact h2 g0 _ (yP f p g S o hA xs (λy hy=>hb y (.tail _ hy)) mc _ s' (by rw[bW];show _+1+_≤_;exact l1 hl (by simp+arith only)) (by rw[fJ];exact q))
  |false=>
   rw[mM,if_neg (by rw[g0];exact gX)]at q
   exact yP f p g S o hA xs (λy hy=>hb y (.tail _ hy)) mc _ s' (iQ hl) q⟩
theorem Hs{ok:St→Prop}{xs:List α}(f:α→CV)(p:α→Bool)(g:α→CV)(o:ok σ)(hl:xs.length≤1000)
  (hb:∀x∈xs,∀ce,cx (iC raw) e ce→ce i=some (f x)→bM t ce σ (p x)∧(p x=true→Ev el ce σ (g x)))
  (k:∀l ae,σ l=none→ae l=some (.list ((xs.filter p).map g))→aF aS σ ae→R (.loc l) ae)(hi:autoParam ((iC raw).contains i=true) aA):hJ ok (aName i) t el (λacc aQ=>aQ.new (.list acc) R) (xs.map f) (lB raw e) [] σ:=
 yP f p g (λx ce=>ce i=some (f x)) o (λx ce T s h=>h _ (s.set hi) (hH ..)) xs hb _ [] (B3 raw e) (by rw[tv,mO];exact hl) (cX k)
theorem wm{ok:St→Prop}{xs:List α}(f:α→CV)(g:α→CV)(o:ok σ)(hl:xs.length≤1000)
  (hb:∀x∈xs,∀ce,cx (iC raw) e ce→ce i=some (f x)→Ev el ce σ (g x))
  (k:∀l ae,σ l=none→ae l=some (.list (xs.map g))→aF aS σ ae→R (.loc l) ae)(hi:autoParam ((iC raw).contains i=true) aA):hJ ok (aName i) de el (λacc aQ=>aQ.new (.list acc) R) (xs.map f) (lB raw e) [] σ:=
 Hs f (λz=>true) g o hl (λx hx ce s h=>⟨.GW,λz=>hb x hx ce s h⟩) (by rw[EH.2 λz z=>rfl];exact k) hi
theorem Ht{xs:List α}(f:α→CV)(p:α→Bool)(g:α→CV)(hs:Src it e σ (xs.map f))(hl:xs.length≤1000)
  (hb:∀x∈xs,∀ce,cx (iC raw) e ce→ce i=some (f x)→bM t ce σ (p x)∧(p x=true→Ev el ce σ (g x)))
  (k:∀l ae,σ l=none→ae l=some (.list ((xs.filter p).map g))→aF aS σ ae→R (.loc l) ae)(hi:autoParam ((iC raw).contains i=true) aA):cT raw it (aName i) t el e σ R:=
 hs _ λok o=>Hs f p g o hl hb k hi
theorem md{xs:List α}(f:α→CV)(g:α→CV)(hs:Src it e σ (xs.map f))(hl:xs.length≤1000)
  (hb:∀x∈xs,∀ce,cx (iC raw) e ce→ce i=some (f x)→Ev el ce σ (g x))
  (k:∀l ae,σ l=none→ae l=some (.list (xs.map g))→aF aS σ ae→R (.loc l) ae)(hi:autoParam ((iC raw).contains i=true) aA):cT raw it (aName i) de el e σ R:=
 hs _ λok o=>wm f g o hl hb k hi
theorem ac0{xs:List α}(f1 f2:α→CV)(g:α→CV)(hs:Src it e σ (xs.map λx=>.tup [f1 x,f2 x]))(hl:xs.length≤1000)
  (hb:∀x∈xs,∀ce,cx (iC raw) e ce→ce i=some (f1 x)→ce j=some (f2 x)→Ev el ce σ (g x))
  (k:∀l ae,σ l=none→ae l=some (.list (xs.map g))→aF aS σ ae→R (.loc l) ae)(yN:autoParam (i≠j) aK)(hi:autoParam ((iC raw).contains i=true) aA)(hj:autoParam ((iC raw).contains j=true) aA):cT raw it (eB [aName i,aName j]) de el e σ R:=
 hs _ λok o=>yP (λx=>.tup [f1 x,f2 x]) (λz=>true) g (λx ce=>ce i=some (f1 x)∧ce j=some (f2 x)) o (λx ce T s h=>⟨_,rfl,rfl,h _ ((s.set hi).set hj) ⟨by rw[ox yN];exact hH ..,hH ..⟩⟩) xs (λx hx ce s h=>⟨.GW,λz=>hb x hx ce s h.1 h.2⟩) _ [] (B3 raw e) (by rw[tv,mO];exact hl) (by rw[EH.2 λz z=>rfl];exact cX k)
theorem me{A:AM}(k:m e σ λx ao=>B0 x ao λitems ok ay=>hJ ok A t el (λacc aQ=>aQ.new (.list acc) R) items (lB raw e) [] ay):cT raw (bO m) A t el e σ R:=k
theorem coR{A:AM}{n:Nat}(h:Ev m e σ (.int n))(hn:n≤1000)(k:hJ pM A t el (λacc aQ=>aQ.new (.list acc) R) ((mQ 0 n).map nI) (lB raw e) [] σ):cT raw (oh m) A t el e σ R:=h _ ⟨n,rfl,by exact fX _,by exact ki.2 (lz hn rfl),by rw[B1];exact k⟩
theorem Hu{ok:St→Prop}{Q:List CV→St→Prop}{L:List Nat}(f:α→CV)(I:List α→List CV→St→Prop)
  (hb:∀x xs acc ae ce,I (x::xs) acc ae→acc.length+xs.length≤999→cx L e ce→ce i=some (f x)→ok ae∧∀(KY:CV→St→Prop) (KN:St→Prop),(∀v ay,I xs (acc++[v]) ay→KY v ay)→(∀ay,I xs acc ay→KN ay)→t ce ae λb ay=>match b with |true=>el ce ay KY |false=>KN ay)
  (he:∀acc ae,I [] acc ae→ok ae∧Q acc ae)(hi:L.contains i=true):∀(xs:List α) (ce:aL) (acc:List CV) (σ:St),cx L e ce→acc.length+xs.length≤1000→I xs acc σ→hJ ok (aName i) t el Q (xs.map f) ce acc σ
 |[],_,_,_,_,_,h=>he _ _ h
 |x::xs,ce,acc,σ,s,hl,h=>by
  rw[kY]at hl;have s':=s.set (v:=f x) hi;refine xa (hb x xs acc σ _ h (ED hl) s' (hH ..)) λh1 h2=>?_;refine⟨h1,aR (mL _ _) hl,?_⟩
  have h3:=h2 (λv ay=>hJ ok (aName i) t el Q (xs.map f) (bz ce i (f x)) (acc++[v]) ay) (λay=>hJ ok (aName i) t el Q (xs.map f) (bz ce i (f x)) acc ay)
   (λv ay z=>Hu f I hb he hi xs _ _ _ s' (by rw[bW];show _+1+_≤_;exact l1 hl (by simp+arith only)) z) (λay z=>Hu f I hb he hi xs _ _ _ s' (iQ hl) z)
  have e1:(λ(b:Bool) (ay:St)=>if b=true then el (bz ce i (f x)) ay λv aQ=>hJ ok (aName i) t el Q (xs.map f) (bz ce i (f x)) (acc++[v]) aQ else hJ ok (aName i) t el Q (xs.map f) (bz ce i (f x)) acc ay)=λb ay=>match b with |true=>el (bz ce i (f x)) ay λv aQ=>hJ ok (aName i) t el Q (xs.map f) (bz ce i (f x)) (acc++[v]) aQ |false=>hJ ok (aName i) t el Q (xs.map f) (bz ce i (f x)) acc ay:=BS
  exact Eq.mpr (congrArg (t (bz ce i (f x)) σ) e1) h3
theorem Hv{ok:St→Prop}{Q:List CV→St→Prop}{xs:List α}(f:α→CV)(I:List α→List CV→St→Prop)(h0:I xs [] σ)(hl:xs.length≤1000)
  (hb:∀x xs acc ae ce,I (x::xs) acc ae→acc.length+xs.length≤999→cx (iC raw) e ce→ce i=some (f x)→ok ae∧∀(KY:CV→St→Prop) (KN:St→Prop),(∀v ay,I xs (acc++[v]) ay→KY v ay)→(∀ay,I xs acc ay→KN ay)→t ce ae λb ay=>match b with |true=>el ce ay KY |false=>KN ay)
  (he:∀acc ae,I [] acc ae→ok ae∧Q acc ae)(hi:autoParam ((iC raw).contains i=true) aA):hJ ok (aName i) t el Q (xs.map f) (lB raw e) [] σ:=
 Hu f I hb he hi xs _ _ _ (B3 raw e) (by rw[tv,mO];exact hl) h0
theorem B4{ok:St→Prop}{Q:List CV→St→Prop}{xs:List α}(f:α→CV)(I:List α→List CV→St→Prop)(h0:I xs [] σ)(hl:xs.length≤1000)
  (hb:∀x xs acc ae ce,I (x::xs) acc ae→acc.length+xs.length≤999→cx (iC raw) e ce→ce i=some (f x)→ok ae∧∀KY:CV→St→Prop,(∀v ay,I xs (acc++[v]) ay→KY v ay)→el ce ae KY)
  (he:∀acc ae,I [] acc ae→ok ae∧Q acc ae)(hi:autoParam ((iC raw).contains i=true) aA):hJ ok (aName i) de el Q (xs.map f) (lB raw e) [] σ:=
 Hv f I h0 hl (λx xs acc ae ce h hl s hv=>⟨(hb x xs acc ae ce h hl s hv).1,λKY KN y z=>(hb x xs acc ae ce h hl s hv).2 KY y⟩) he hi
end
noncomputable abbrev agK:Str:=fK "cells"
noncomputable abbrev agL:Str:=fK "mixed"
noncomputable abbrev agM:Str:=fK "turn"
noncomputable def UJ(c:Addr)(m t:Int):List (Str×CV):=[(agK,.loc c),(agL,.int m),(agM,.int t)]
theorem wQ{a b:Int}(h:0<b):0≤a.fmod b∧a.fmod b<b:=by
 rw[ale _ (Int.le_of_lt h)];exact⟨Int.emod_nonneg _ (Mm h),Int.emod_lt_of_pos _ h⟩
structure zE(σ:St)(d c:Addr)(T:Int):Prop where
 ok:∃(cs:List Int) (m t:Int),σ d=some (.dS (UJ c m t))∧σ c=some (.list (cs.map .int))∧cs.length≤12∧0≤t∧t≤T
theorem zE.ne{c:Addr}{T:Int}(h:zE σ d c T):c≠d:=λe=>by
 refine f7 h.ok λcs m t hd hc zz=>?_;subst e;rw[hd]at hc;cases hc
theorem UK{f b:Int}{R:CV→St→Prop}(h1:e 151=some (.int f))(h2:e 100=some (.int b))(h0:0<b)(q:∀r,0≤r→r<b→R (.int r) σ):
  ah (aP (be .Mod (be .Mult (be .Mod (af 151) (au (.int 2147483629))) (au (.int 40692))) (au (.int 2147483647))) (aName 151)) (ah (aP (be .Mod (be .Add (be .Mult (af 151) (af 151)) (au (.int 5569))) (au (.int 2147483587))) (aName 151)) (ah (bh (be .Mod (be .FloorDiv (be .Mod (be .Mult (af 151) (au (.int 39373))) (au (.int 2147483579))) (au (.int 64))) (af 100))) az)) e σ (bk R):=by
 have r1:=wQ (a:=f) (b:=2147483629) (by decide)
 refine gN (.bin (.bin (.bin .var .val (.mod (by decide))) .val (.mul (tm (by decide) r1.1) (pg r1.2 (by decide)))) .val (.mod (by decide))) ?_
 have r2:=wQ (a:=f.fmod 2147483629*40692) (b:=2147483647) (by decide)
 generalize(f.fmod 2147483629*40692).fmod 2147483647=g at*
 refine gN (.bin (.bin (.bin .var .var (.mul (tm (by decide) r2.1) (pg r2.2 (by decide)))) .val .add) .val (.mod (by decide))) ?_
 have r3:=wQ (a:=g*g+5569) (b:=2147483587) (by decide)
 generalize(g*g+5569).fmod 2147483587=k at*;have r4:=wQ (a:=((k*39373).fmod 2147483579).fdiv 64) h0
 exact bX (.bin (.bin (.bin (.bin .var .val (.mul (tm (by decide) r3.1) (pg r3.2 (by decide)))) .val (.mod (by decide))) .val (.fdiv (by decide) (by decide))) .var (.mod (Mm h0))) (q _ r4.1 r4.2)
theorem agN{c:Addr}{T b:Int}(h:zE σ d c T)(hT:T≤1000000)(h0:0<b)(h1:b<1073741824)
  (q:bI (∀r ae,0≤r→r<b→zE ae d c (T+1)→aF (two d c) σ ae→Q (.int r) ae)):jz [.loc d,.int b] [] σ Q:=by
 have ne:=h.ne;refine Fq h.ok λcs m t hd hc hl Dg ht=>?_
 refine df (lu (.bin (.item .var .val .dS) .val .add) .var .val (PF hd (by decide:3≤1000) λao UL p1=>?_))
 have sP:=p1.at hc ne
 have t1:0≤t+1∧t+1≤T+1:=⟨Int.add_nonneg Dg (by decide),Ay ht 1⟩
 have m1:-(2^64:Int)<65563*(t+1)∧65563*(t+1)<2^64:=⟨tm (by decide) (Int.mul_nonneg (by decide) t1.1),Lr (Int.mul_le_mul_of_nonneg_left (rO t1.2 (Ay hT 1)) (by decide)) (by decide)⟩
 refine gN (.bin (.item .var .val .dS) (.bin (.bin .val (.item .var .val .dS) (.mul (by decide) (by decide))) (.item .var .val .dS) (.mul m1.1 m1.2)) .add) ?_
 generalize m+65563*(t+1)*(t+1)=f
 refine BZ (.item .var .val .dS) sP (λg ay p2=>?_) λg ay p2=>?_
 ·obtain⟨xs,x,rfl⟩:∃xs x,cs=xs++[x]:=⟨cs.dropLast,cs.getLast (λz=>g (by rw[z];rfl)),(vj _).symm⟩
  rw[bW]at hl;rw[cR]at sP;have hd2:=p2.at UL;have C0:=p2.at sP
  refine cy (pK (.item .var .val .dS) ⟨_,_,rfl,C0⟩ .nil (BY C0 (by rw[aZ];exact aR hl (by decide)) λaQ Ji p3=>?_))
  have UM:=p3.at hd2 ne.symm;have P3:aF (two d c) σ aQ:=((p1.mono λo=>.inl).trans (p2.mono λo=>False.elim)).trans (p3.mono λo=>.inr)
  refine fO (.cmp .var .val .ge) (λg=>?_) λg=>?_
  ·have r4:=wQ (a:=x) h0
   refine iA (pK (.item .var .val .dS) ⟨_,_,rfl,Ji⟩ (.one (.bin .var .var (.fdiv (Mm h0) (by lia)))) (wg Ji (by rw[aZ];lia) λbU IA p4=>?_))
   exact bX (.bin .var .var (.mod (Mm h0))) (q.out _ _ r4.1 r4.2 ⟨xs++[x.fdiv b],m,t+1,p4.at UM ne.symm,by rw[IA,cR];rfl,by rw[bW];exact hl,t1.1,Ay ht 1⟩ (P3.trans (p4.mono λo=>.inr)))
  ·refine bp (gN (.bin .var (.bin .var .val (.mod (by decide))) .add) (bp (UK rfl rfl h0 λr a b=>q.out _ _ a b ⟨xs,m,t+1,UM,Ji,by lia,t1.1,Ay ht 1⟩ P3)))
 ·refine bp (UK rfl rfl h0 λr a b=>q.out _ _ a b ⟨cs,m,t+1,p2.at UL,p2.at sP,hl,t1.1,Ay ht 1⟩ ((p1.mono λo=>.inl).trans (p2.mono λo=>False.elim)))
theorem agO{C:Nat}(h1:σ a=some (.inst C d))(h2:σ d=some (.iV fs))(h3:iz fs i=none):r9 C i (.loc a) σ:=⟨a,d,fs,rfl,h1,h2,h3⟩
noncomputable def signs(x:Str):List Nat:=x.cps.toList
noncomputable def wR(x:Str):List UInt8:=(signs x).map λk=>k.toUInt8
theorem UN{x:Str}(ha:x.cps.all (·<128)=true)(hl:(signs x).length≤1000)(q:bI (∀ae,aF aS σ ae→Q (.bytes (wR x)) ae)):qA [.str x] [] σ Q:=by
 have hs:∀k∈signs x,k<128:=λk hk=>by
  rw[←Zf]at ha;exact of_decide_eq_true (List.all_eq_true.mp ha k hk)
 refine df (cy (md (λy=>.str ⟨#[y]⟩) (λ(y:Nat)=>.int y) (.st .var ha) hl (λy z ce s h=>.call (.one .var) .ord) λa ao z c6 P=>jB .var c6 λok bw=>?_))
 refine qF [160] (λ(y:Nat)=>.int y) (λxs z ae=>ae=ao∧∀k∈xs,k<128) ⟨rfl,hs⟩ (λk ks e' ae s h=>?_) λe' ae s h=>?_
 ·obtain⟨rfl,h⟩:=h
  have hk:=h k (.head _)
  exact⟨bw _ c6,λK kk=>e8 (.to (.cmp .var .val .gt) (decide_eq_false (nZ.2 (ki.2 (cB (iQ hk) rfl))))) (bp (bp (kk.nx ⟨rfl,λk hk=>h k (.tail _ hk)⟩)))⟩
 ·obtain⟨rfl,_⟩:=h
  exact⟨bw _ c6,bX (.call (.one .var) (.G7 (λk hk=>jN (hs k hk) (by decide)) hl)) (q.out _ P)⟩
noncomputable def wU(n:Nat):Nat:=(signs (ax "0123456789abcdef")).getD n 0
noncomputable def oK(b:List UInt8):List Nat:=b.flatMap λo=>[wU (o.toNat/16),wU (o.toNat%16)]
noncomputable def sQ(n:Nat):Str:=⟨#[n]⟩
noncomputable def nC(b:List UInt8):List UInt8:=(oK b).map λk=>k.toUInt8
theorem UO:∀n,n<16→iW (ax "0123456789abcdef").cps.toList ((n:Nat):Int)=some (wU n):=by decide+kernel
theorem UP:∀n,n<16→wU n<128:=by decide+kernel
theorem agP:∀n,n<256→vz ((n:Nat):Int) 15=((n%16:Nat):Int):=by decide+kernel
theorem agQ:∀n,n<256→((n:Nat):Int).fdiv (2^(4:Int).toNat)=((n/16:Nat):Int):=by decide+kernel
theorem Dh(b:List UInt8):(oK b).length=2*b.length:=by
 unfold oK
 induction b with
 |nil=>rfl
 |cons x b ih=>rw[List.flatMap_cons,bW,ih];simp;exact tC ..
theorem agR:∀k∈oK b,k<128:=λk hk=>by
 unfold oK at hk;refine a9 (List.mem_flatMap.mp hk) λo ho h=>?_;have:o.toNat<256:=o.toNat_lt
 rcases List.mem_cons.mp h with rfl |h
 ·exact UP _ (Mp this)
 ·rw[List.mem_singleton.mp h];exact UP _ (Fi _ (cG rfl))
theorem UQ:∀l:List Nat,(l.map ((λx=>x.length)∘sQ)).sum=l.length
 |[]=>rfl
 |x::l=>by rw[gB,List.sum_cons,UQ l,kY];show 1+_=_;exact tC ..
theorem UR:∀(l:List Nat) (acc:Array Nat),((l.map sQ).foldl (λacc p=>acc++(ax "").cps++p.cps) acc).toList=acc.toList++l
 |[],acc=>by simp
 |x::l,acc=>by
  rw[gB,kh,UR l];have e:(ax "").cps=#[]:=rfl;rw[e];simp[sQ]
theorem join_ones(l:List Nat):signs (Txt.join (ax "") (l.map sQ))=l:=by
 induction l with
 |nil=>rfl
 |cons x l=>
  show((l.map sQ).foldl (λacc p=>acc++(ax "").cps++p.cps) (sQ x).cps).toList=x::l;rw[UR];rfl
theorem agS(l:List UInt8)(o:UInt8):oK (l++[o])=oK l++[wU (o.toNat/16),wU (o.toNat%16)]:=by unfold oK;rw[List.flatMap_append];rfl
theorem agT(hl:b.length≤100)(q:bI (∀x ae,signs x=oK b→aF aS σ ae→Q (.str x) ae)):vL [.bytes b] [] σ Q:=by
 refine df (cy (dh .nil λa ao ha c6 P=>Hp .var (qF [118] (λo:UInt8=>.int o.toNat) (λtl z ae=>∃done,b=done++tl∧ae a=some (.list (((oK done).map sQ).map .str))∧aF (one a) ao ae) ⟨[],rfl,c6,.refl _ _⟩ (λo tl e ae s h=>?_) λe ae s h=>?_)))
 ·refine bF h λdone hb hv P'=>?_
  have ho:o.toNat<256:=o.toNat_lt
  have lj:(oK done).length≤200:=by rw[Dh];rw[hb,bW]at hl;exact l1 (eN 2 hl) (by simp+arith only)
  refine⟨trivial,λK kk=>?_⟩
  refine yH .var (.item .glob (.bin .var .val (.shr (by decide))) (.str (by rw[agQ _ ho];exact UO _ (Mp ho)))) hv (by rw[aZ,aZ];exact cB lj rfl) λay hv2 p2=>?_
  refine yH .var (.item .glob (.bin .var .val .and) (.str (by rw[agP _ ho];exact UO _ (Fi _ (cG rfl))))) hv2 (by rw[bW,aZ,aZ,mH];exact lz lj rfl) λaQ US p3=>?_
  exact bp (kk.nx ⟨done++[o],by rw[hb,fJ];rfl,by rw[US,agS,cR,cR,fJ];rfl,(P'.trans p2).trans p3⟩)
 ·refine bF h λdone hb hv P'=>?_
  rw[fj]at hb;subst hb;refine⟨trivial,bX (.pw .val ⟨_,rfl⟩ (.one .var) (.FO ?_)) (q.out _ _ (join_ones _) (P.seq P' λb h=>.inr (h▸ha)))⟩;rw[dp,aZ];show List.sum (List.map ((λx=>x.length)∘sQ) _)+_*0≤_;rw[UQ,Dh];exact cB (eN _ hl) rfl
theorem be0:∀n,n<256→vz (((n:Nat):Int).fdiv (2^(24:Int).toNat)) 255=0:=by decide+kernel
theorem be1:∀n,n<256→vz (((n:Nat):Int).fdiv (2^(16:Int).toNat)) 255=0:=by decide+kernel
theorem be2:∀n,n<256→vz (((n:Nat):Int).fdiv (2^(8:Int).toNat)) 255=0:=by decide+kernel
theorem be3:∀n,n<256→vz (((n:Nat):Int).fdiv (2^(0:Int).toNat)) 255=(n:Int):=by decide+kernel
noncomputable def fR(n:Nat):List UInt8:=[0,0,0,n.toUInt8]
theorem UT{n m:Nat}(hn:n<256)(hm:m<256)(h:fR n=fR m):n=m:=by
 simp only[fR,L7,true_and,and_true]at h;have:=congrArg UInt8.toNat h;simpa[Lx hn,Lx hm]using this
theorem agU{n:Nat}(hn:n<256)(q:bI (∀ae,aF aS σ ae→Q (.bytes (fR n)) ae)):Bk [.int n,.int 4] [] σ Q:=by
 refine df (fD (jY ?_))
 refine md (xs:=mQ 0 4) nI (λk=>.int ([0,0,0,n].getD k 0)) (.rg (n:=4) .var (by decide)) (by decide) (λk hk ce s h=>?_) λa ao z c6 P=>?_
 ·have ev:∀j:Int,0≤8*(4- 1- (k:Int))→vz ((n:Int).fdiv (2^(8*(4- 1- (k:Int))).toNat)) 255=j→Ev (be .BitAnd (be .RShift (af 160) (be .Mult (au (.int 8)) (be .Sub (be .Sub (af 61) (au (.int 1))) (af 4)))) (au (.int 255))) ce σ (.int j):=λj h0 g=>g▸.bin (.bin .var (.bin .val (.bin (.bin .var .val .sub) .var .sub) (.mul (by decide) (by decide))) (.shr h0)) .val .and
  match k,hk with
  |0,_=>exact ev _ (by decide) (be0 n hn)
  |1,_=>exact ev _ (by decide) (be1 n hn)
  |2,_=>exact ev _ (by decide) (be2 n hn)
  |3,_=>exact ev _ (by decide) (be3 n hn)
  |k+4,hk=>exact absurd (Y6.1 hk).2 (Zc (Nat.le_add_left ..))
 ·exact Fn.G7 (ks:=[0,0,0,n]) (λk hk=>by
   simp only[eO,rJ,or_false]at hk
   exact Zx hn hk) (cG rfl) c6 _ (q.out _ P)
noncomputable def tabI(l:List (List UInt8)):List (List UInt8×CV):=l.zipIdx.map λp=>(p.1,.int ((p.2+1:Nat):Int))
theorem Jj(l:List (List UInt8)):(tabI l).length=l.length:=by simp[tabI]
noncomputable def pos{α:Type}[DecidableEq α](x:α):List α→Nat
 |[]=>0
 |y::l=>if y=x then 0 else pos x l+1
theorem Jk{α:Type}[DecidableEq α]{x:α}:∀{l:List α},x∈l→l[pos x l]?=some x
 |y::l,h=>by
  unfold pos
  by_cases e:y=x
  ·subst e;simp
  ·rw[if_neg e,alx]
   exact Jk ((List.mem_cons.mp h).resolve_left λz=>e z.symm)
theorem UU{α:Type}[DecidableEq α]{x:α}{l:List α}(h:x∈l):pos x l<l.length:=(List.getElem?_eq_some_iff.mp (Jk h)).1
theorem UW{α:Type}[DecidableEq α](f:Nat→CV)(x:α):∀(l:List α) (k:Nat),bB ((l.zipIdx k).map λp=>(p.1,f p.2)) x=if x∈l then some (f (k+pos x l))else none
 |[],k=>rfl
 |y::l,k=>by
  have ih:=UW f x l (k+1);unfold bB at ih ⊢;rw[ET,gB,rM]
  by_cases h:y=x
  ·subst h;simp[pos]
  ·have h':¬x=y:=λe=>h e.symm
   simp only[h,decide_false];rw[ih]
   by_cases hm:x∈l
   ·simp[hm,pos,h];congr 1;exact AW ..
   ·simp[hm,h']
theorem Di(l:List (List UInt8))(x:List UInt8):bB (tabI l) x=if x∈l then some (.int ((pos x l+1:Nat):Int))else none:=by
 unfold tabI;have:=UW (λi=>CV.int ((i+1:Nat):Int)) x l 0;simpa using this
theorem UX{κ:Type}[DecidableEq κ]{es:List (κ×CV)}{k:κ}(h:bB es k=none):bY es k x=es++[(k,x)]:=by
 unfold bY;rw[if_neg];intro ha;refine a9 (List.any_eq_true.mp ha) λkv h1 h2=>?_;unfold bB at h;rw[YH,Ls]at h;exact h kv h1 h2
theorem agV(l:List (List UInt8))(x:List UInt8):tabI (l++[x])=tabI l++[(x,.int ((l.length+1:Nat):Int))]:=by
 unfold tabI;rw[List.zipIdx_append];simp
noncomputable def uD(n:Nat):Str:=((toString (n:Int):String):Str)
noncomputable def jH(n:Nat):List UInt8:=wR (uD n)
theorem UY(n:Nat):signs (uD n)=((toString (n:Int)).toList).map Char.toNat:=signs_ofString _
theorem UZ(n:Nat):∀k∈signs (uD n),48≤k∧k≤57:=λk hk=>by
 rw[UY]at hk;refine a9 (List.mem_map.mp hk) λc hc aq=>?_;subst aq;rw[Int.toString_eq_repr,Int.repr_eq_if,if_pos (fX _),pe,Nat.toList_repr]at hc
 exact digit_range (Nat.isDigit_of_mem_toDigits (by decide) (by decide) hc)
theorem agW(n:Nat):(uD n).cps.all (·<128)=true:=by
 rw[←Zf,iy];intro k hk;have:=UZ n k hk
 simp;exact l1 this.2 (by simp+arith only)
theorem U0{n:Nat}(h:n<10^9):(signs (uD n)).length≤9:=by
 rw[UY,aZ,Int.toString_eq_repr,Int.repr_eq_if,if_pos (fX _),pe,Nat.toList_repr]
 exact(Nat.length_toDigits_le_iff (by decide) (by decide)).mpr (by simpa using h)
theorem U1(n:Nat):(0:UInt8)∉jH n:=λh=>by
 unfold jH wR at h;refine a9 (List.mem_map.mp h) λk hk e=>?_;have:=UZ n k hk;have e2:=congrArg UInt8.toNat e;simp at e2;exact Zy this e2
theorem Jl{n:Nat}(h:n<10^9):(jH n).length≤9:=by unfold jH wR;rw[aZ];exact U0 h
theorem Fn.num{n:Nat}(h:n<10^9):Fn CN [.int n] σ (.str (uD n)):=λQ q=>a1 (k:=.I) ⟨jN h (by decide),q⟩
noncomputable def dF(kind content:List UInt8):List UInt8:=kind++[32]++jH content.length++[0]++content
theorem U2{n:Nat}(h:n<10^9)(q:bI (∀ae,aF aS σ ae→Q (.bytes (jH n)) ae)):qA [.str (uD n)] [] σ Q:=
 UN (agW n) (aR (U0 h) (by decide)) q
theorem agX(hk:kind.length≤100)(hc:content.length≤100000)(q:bI (∀ae,aF aS σ ae→Q (.bytes (dF kind content)) ae)):F4 [.bytes kind,.bytes content] [] σ Q:=by
 have hn:content.length<10^9:=je hc (by decide)
 have nl:=Jl hn
 have l1:(kind++[32]).length≤101:=by rw[bW];exact iN hk 1
 have l2:(kind++[32]++jH content.length).length≤110:=by rw[bW];exact gj l1 nl
 have l3:(kind++[32]++jH content.length++[0]).length≤111:=by rw[bW];exact iN l2 1
 refine df (fD (ly (ly (pJ (.bin .var .val (.lq (aR (iN hk 1) (by decide)))) (cu (.one (.call (.one (.call (.one .var) (.Pn (aR hc (by decide))))) (.num hn))) (U2 hn ⟨λae P=>?_⟩))))))
 exact gP (.lq (cB (gj l1 nl) rfl)) (bV .val (gP (.lq (aR (iN l2 1) (by decide))) (bV .var (gP (.lq (cB (gj l3 hc) rfl)) (q.out _ P)))))
noncomputable def Jm(name ig:List UInt8)(jI:Nat)(zone:List UInt8):List (Nat×CV):=[(66,.bytes name),(105,.bytes ig),(91,.int jI),(93,.bytes zone)]
noncomputable def Dj(name ig:List UInt8)(jI:Nat)(zone:List UInt8):List UInt8:=name++[32,60]++ig++[62,32]++jH jI++[32]++zone
theorem agY{name ig zone:List UInt8}{jI:Nat}(h:bP σ a 232 d [])
  (q:bI (∀ae,bP ae a 232 d (Jm name ig jI zone)→aF (one d) σ ae→Q .none ae)):tT [.loc a,.bytes name,.bytes ig,.int jI,.bytes zone] [] σ Q:=
 df (fE .var rfl h λao h1 p1=>fE .var rfl h1 λay h2 p2=>fE .var rfl h2 λaQ h3 p3=>fE .var rfl h3 λbU h4 p4=>bp (q.out _ h4 (((p1.trans p2).trans p3).trans p4)))
theorem U3{name ig zone:List UInt8}{jI:Nat}(h:bP σ a 232 d (Jm name ig jI zone))(hw:jI<10^9)(hl:name.length≤100∧ig.length≤100∧zone.length≤100)
  (q:bI (∀ae,aF aS σ ae→Q (.bytes (Dj name ig jI zone)) ae)):Bm [.loc a] [] σ Q:=by
 refine pj hl λh1 h2 h3=>?_;have nl:=Jl hw
 have l1:(name++[32,60]).length≤102:=by rw[bW];exact iN h1 2
 have l2:(name++[32,60]++ig).length≤202:=by rw[bW];exact gj l1 h2
 have l3:(name++[32,60]++ig++[62,32]).length≤204:=by rw[bW];exact iN l2 2
 have l4:(name++[32,60]++ig++[62,32]++jH jI).length≤213:=by rw[bW];exact gj l3 nl
 have l5:(name++[32,60]++ig++[62,32]++jH jI++[32]).length≤214:=by rw[bW];exact iN l4 1
 have ad:∀{x y:List UInt8} {σ:St},x.length≤300→y.length≤300→Bi .Add (.bytes x) (.bytes y) σ (.bytes (x++y)):=λhx hy=>.lq (aR (gj hx hy) (by decide))
 refine df (fD (ly (ly (pJ (.bin (.bin (.bin (.attr .var .ins) .val (ad (cB h1 rfl) (by decide))) (.attr .var .ins) (ad (cB l1 rfl) (cB h2 rfl))) .val (ad (cB l2 rfl) (by decide))) (cu (.one (.call (.one (.attr .var .ins)) (.num hw))) (U2 hw ⟨λae P=>?_⟩))))))
 have h':=h.a7 P
 exact gP (ad (cB l3 rfl) (cB nl rfl)) (bV .val (gP (ad (cB l4 rfl) (by decide)) (bV (.attr .var .ins) (gP (ad (cB l5 rfl) (cB h3 rfl)) (q.out _ P)))))
noncomputable def Dl(kn:Addr):List (Nat×CV):=[(81,.int 4),(112,.loc kn)]
theorem agZ(h:bP σ a 108 d [])(q:bI (∀kn ae,σ kn=none→bP ae a 108 d (Dl kn)→ae kn=some (.dB [])→aF (one d) σ ae→Q .none ae)):Bl [.loc a,.int 4] [] σ Q:=
 df (fE .var rfl h λao h1 p1=>vW (cX λkn ay hk h2 P2=>bV .var (sk (h1.a7 P2) λaQ h3 p3=>bp (q.out kn aQ (p1.no hk λe=>by have:=h1.2;rw[←e,hk]at this;exact bo this) h3 (p3.at h2 λe=>gK hk h1.2 e.symm) ((p1.nx P2).trans p3)))))
noncomputable def mu(l:List (List UInt8))(x:List UInt8):List (List UInt8):=if x∈l then l else l++[x]
theorem Dm{α:Type}[DecidableEq α]{x:α}:∀{l:List α},x∉l→pos x (l++[x])=l.length
 |[],_=>by simp[pos]
 |y::l,h=>by
  have h1:y≠x:=λe=>h (e▸.head _);rw[xM,pos,if_neg h1,Dm λhm=>h (.tail _ hm)];rfl
theorem ag0{h hd kn:Addr}{l:List (List UInt8)}{x:List UInt8}(hi:bP σ h 108 hd (Dl kn))(hk:σ kn=some (.dB (tabI l)))(hl:l.length≤100)
  (q:bI (∀ae,ae kn=some (.dB (tabI (mu l x)))→aF (one kn) σ ae→Q (.bytes (fR (pos x (mu l x)+1))) ae)):FP [.loc h,.bytes x] [] σ Q:=by
 have jF:hd≠kn:=λe=>by have:=hi.2;rw[e,hk]at this;cases this
 have ag1:h≠kn:=λe=>by have:=hi.1;rw[e,hk]at this;cases this
 have fin:∀{l' ae e},x∈l'→l'.length≤101→ae kn=some (.dB (tabI l'))→aF (one kn) σ ae→l'=mu l x→e 78=some (.loc h)→e 175=some (.bytes x)→ah (bh (aY Bk (ag (bc (bf 112 (af 78)) (af 175)) (ag (bf 81 (af 78)) ar)))) az e ae (bk Q):=λ{l' ae e} hm qL c4 P g h78 alU=>by
  subst g;have ff:=hi.a7 P ag1 jF;have hp:=UU hm
  exact fD (cu (.two (.item (.attr .var .ins) .var (.dB c4 (by rw[Di,if_pos hm]))) (.attr .var .ins)) (agU (l2 qL hp (by simp+arith only)) ⟨λaQ P3=>q.out aQ (P3.at c4) (P.nx P3)⟩))
 refine df (gN (.call (.one .var) .kz) (fO (.cmp .var (.attr .var .ins) .GY) (λg=>?_) λg=>?_))
 ·have hm:x∉l:=λhm=>by rw[Di,if_pos hm]at g;exact eP g
  have hn:bB (tabI l) x=none:=by rw[Di,if_neg hm]
  refine lu (.bin (.call (.one (.attr .var .ins)) (.acS (by rw[Jj];exact cB hl rfl) hk)) .val .add) (.attr .var .ins) .var (BX hk (by rw[Jj];exact cB hl rfl) λao h1 p1=>bp ?_)
  rw[UX hn,Jj]at h1
  exact fin (l':=l++[x]) (kW _ (.head _)) (by rw[bW];exact iN hl 1) (by rw[agV];exact h1) p1 (by unfold mu;rw[if_neg hm]) rfl rfl
 ·have hm:x∈l:=by
   refine YD λhm=>?_;rw[Di,if_neg hm]at g;exact iR g
  exact bp (fin hm (rG hl) hk (.refl _ _) (by unfold mu;rw[if_pos hm]) rfl rfl)
theorem ag2(hl:b.length≤100)(q:bI (∀ae,aF aS σ ae→Q (.bytes (nC b)) ae)):vL [.bytes b] [] σ λx ao=>qA [x] [] ao Q:=
 agT hl ⟨λx ao hx P=>UN (by
   rw[←Zf,iy];intro k hk
   have:=agR (b:=b) k (by rw[←hx];exact hk)
   simpa using this) (by rw[hx,Dh];exact cB (eN _ hl) rfl) ⟨λae P'=>by
   have e:wR x=nC b:=by unfold wR nC;rw[hx]
   rw[e];exact q.out _ (P.trans P')⟩⟩
theorem wV(b:List UInt8):(nC b).length=2*b.length:=by unfold nC;rw[aZ,Dh]
noncomputable def qZ(tree:List UInt8)(pl al cl el:Addr)(msg:List UInt8):List (Nat×CV):=[(87,.bytes tree),(185,.loc pl),(144,.loc al),(219,.loc cl),(107,.loc el),(179,.bytes msg)]
theorem ag3{tree:List UInt8}{pl el:Addr}(h:bP σ a 391 d [])
  (q:bI (∀ae,bP ae a 391 d (qZ tree pl al cl el msg)→aF (one d) σ ae→Q .none ae)):yc [.loc a,.bytes tree,.loc pl,.loc al,.loc cl,.loc el,.bytes msg] [] σ Q:=
 df (fE .var rfl h λao h1 p1=>fE .var rfl h1 λay h2 p2=>fE .var rfl h2 λaQ h3 p3=>fE .var rfl h3 λbU h4 p4=>fE .var rfl h4 λfG h5 p5=>fE .var rfl h5 λfH h6 p6=>
  bp (q.out _ h6 (((((p1.trans p2).trans p3).trans p4).trans p5).trans p6)))
noncomputable def nD(p:List UInt8):List UInt8:=[112,97,114,101,110,116,32]++nC p++[10]
noncomputable def Jn(tree:List UInt8)(ps:List (List UInt8))(A C msg:List UInt8):List (List UInt8):=
 [[116,114,101,101,32]++nC tree++[10]]++ps.map nD++[[97,117,116,104,111,114,32]++A++[10]]++[[99,111,109,109,105,116,116,101,114,32]++C++[10]]++[[10]++msg]
noncomputable def mv(tree:List UInt8)(ps:List (List UInt8))(A C msg:List UInt8):List UInt8:=(Jn tree ps A C msg).flatten
theorem Dn:∀l:List (List UInt8),oz [] l=l.flatten
 |[]=>rfl
 |x::xs=>by
  show x++(xs.map (λy=>[]++y)).flatten=_;simp
theorem U4:∀{ps:List (List UInt8)},(∀p∈ps,p.length≤100)→(ps.map nD).flatten.length≤208*ps.length
 |[],_=>cP _
 |p::ps,h=>by
  have h1:=h p (.head _);have h2:=U4 λq hq=>h q (.tail _ hq)
  have h3:(nD p).length≤208:=by unfold nD;simp[wV];exact cB (eN _ h1) rfl
  rw[gB,AG,bW,kY];exact l2 h2 h3 (by simp+arith only)
theorem U5{tree A C:List UInt8}{ps:List (List UInt8)}(dR:ps.length≤100∧∀p∈ps,p.length≤100)(ht:tree.length≤100)(hA:A.length≤400)(hC:C.length≤400)(hm:msg.length≤1000):(mv tree ps A C msg).length≤30000:=by
 have h1:=U4 dR.2;have h2:=dR.1;unfold mv Jn;simp only[List.flatten_append,bW,AG,Zg,fj,kY,tv,wV]
 exact l6 (eN 2 ht) h1 (eN 208 dR.1) hA hC hm (by simp+arith only)
structure kP where
 name:List UInt8
 ig:List UInt8
 jI:Nat
 zone:List UInt8
noncomputable def kP.B(p:kP):List UInt8:=Dj p.name p.ig p.jI p.zone
structure kP.Ok(p:kP):Prop where
 w:p.jI<10^9
 l:p.name.length≤100∧p.ig.length≤100∧p.zone.length≤100
noncomputable def mw(σ:St)(a d:Addr)(p:kP):Prop:=bP σ a 232 d (Jm p.name p.ig p.jI p.zone)
theorem kP.Ok.len{p:kP}(h:p.Ok):p.B.length≤400:=by
 have:=Jl h.w;refine pj h.l λh1 h2 h3=>?_;unfold kP.B Dj
 simp;exact l4 this h1 h2 h3 (by simp+arith only)
theorem U6{m:EM}(h:Ev m e σ (.bytes b))(hl:b.length≤100)(q:∀ae,aF aS σ ae→Q (.bytes (nC b)) ae):aY qA (ag (aY vL (ag m ar)) ar) e σ Q:=h _ (ag2 hl ⟨q⟩)
theorem ag4{c pl el:Addr}{tree:List UInt8}{ps:List (List UInt8)}{pa pc:kP}(h:bP σ c 391 cd (qZ tree pl al cl el msg))(hp:σ pl=some (.list (ps.map .bytes)))(ha:mw σ al ad pa)(hc:mw σ cl iJ pc)(he:σ el=some (.list []))
  (oa:pa.Ok)(oc:pc.Ok)(ht:tree.length≤100)(dR:ps.length≤100∧∀p∈ps,p.length≤100)(hm:msg.length≤1000)
  (q:bI (∀ae,aF aS σ ae→Q (.bytes (mv tree ps pa.B pc.B msg)) ae)):F2 [.loc c] [] σ Q:=by
 have ad:∀{x y:List UInt8} {σ:St},x.length≤1000→y.length≤1000→Bi .Add (.bytes x) (.bytes y) σ (.bytes (x++y)):=λhx hy=>.lq (aR (gj hx hy) (by decide))
 have ap:∀{x y:List UInt8},x.length≤20→y.length≤400→(x++y).length≤1000:=λhx hy=>by rw[bW];exact aR (gj hx hy) (by decide)
 have xl:∀{x:List UInt8},x.length≤100→(nC x).length≤400:=λhx=>by rw[wV];exact cB (eN _ hx) rfl
 have u4:∀{n:Nat},n≤400→n≤1000:=λh=>aR h (by decide)
 have hd:=dR.1;refine df (cy (?_:eList (ag (be _ (be _ (au _) (aY _ _)) _) ar) _ _ _))
 refine ly (pJ .val (U6 (.attr .var .ins) ht λao P1=>gP (ad (by decide) (u4 (xl ht))) (bV .val (gP (ad (ap (by decide) (xl ht)) (by decide)) ⟨cG rfl,cX λa ay mx c6 P2=>?_⟩))))
 have P:=P1.trans P2;have Dp:=P1.no mx;have h':=h.a7 P
 refine jB (.attr .var .ins) (P.at hp) λok bw=>qF [21] .bytes (λtl u ae=>∃done,ps=done++tl∧ae a=some (.list (([[116,114,101,101,32]++nC tree++[10]]++done.map nD).map .bytes))∧aF aS σ ae) ⟨[],rfl,c6,P⟩ (λo tl e ae s z=>?_) λe ae s z=>?_
 ·refine bF z λdone hb hv P'=>?_
  have ho:o.length≤100:=dR.2 o (by rw[hb];exact kW _ (.head _))
  have hl:done.length≤100:=by rw[hb,bW]at hd;exact aR (mL ..) hd
  refine⟨bw _ (P'.at hp),λK kk=>iA (sv .var hv (ly (pJ .val (U6 .var ho λaQ P3=>gP (ad (by decide) (u4 (xl ho))) (bV .val (gP (ad (ap (by decide) (xl ho)) (by decide)) (tY (P3.at hv) ?_ λbU h4 P4=>bp (kk.nx ⟨done++[o],?_,?_,(P'.trans P3).sn P4 Dp⟩))))))))⟩
  ·rw[bW,aZ];exact aR (AB hl 1) (by decide)
  ·rw[hb,fJ];rfl
  ·rw[h4,cR (l₁:=done),fJ];rfl
 refine bF z λdone hb hv P'=>?_;rw[fj]at hb;subst hb;refine⟨bw _ (P'.at hp),?_⟩;have h1:=h.a7 P'
 have lm:([[116,114,101,101,32]++nC tree++[10]]++ps.map nD).length≤101:=by rw[bW,aZ];exact AB hd 1
 refine iA (sv .var hv (ly (pJ .val (eX (.attr .var .ins) (ha.a7 P').fi .nil (U3 (ha.a7 P') oa.w oa.l ⟨λaQ P3=>gP (ad (by decide) (u4 oa.len)) (bV .val (gP (ad (ap (by decide) oa.len) (by decide)) (tY (P3.at hv) (aR lm (by decide)) λbU h4 P4=>?_)))⟩)))))
 have P5:=(P'.trans P3).sn P4 Dp;have h2:=h.a7 P5
 refine iA (sv .var h4 (ly (pJ .val (eX (.attr .var .ins) (hc.a7 P5).fi .nil (U3 (hc.a7 P5) oc.w oc.l ⟨λfG P6=>gP (ad (by decide) (u4 oc.len)) (bV .val (gP (ad (ap (by decide) oc.len) (by decide)) (tY (P6.at h4) (by rw[bW];exact aR (iN lm 1) (by decide)) λfH h6 P7=>?_)))⟩)))))
 have P8:=(P5.trans P6).sn P7 Dp;have h3:=h.a7 P8;refine jB (.attr .var .ins) (P8.at he) λok bw=>yJ (bw _ (P8.at he)) ?_
 refine su .bytes _ .var (.bin .val (.attr .var .ins) (ad (by decide) hm)) h6 (by rw[bW,bW];exact aR (iN (iN lm 1) 1) (by decide)) λnE h7 P9=>?_
 exact bX (.pw .val ⟨_,rfl⟩ (.one .var) (.join (by rw[Dn];exact aR (U5 dR ht oa.len oc.len hm) (by decide)) h7)) (by rw[Dn];exact q.out _ (P8.sn P9 Dp))
structure gv where
 st:Addr
 sd:Addr
 h:Addr
 hd:Addr
 kn:Addr
 kp:Addr
noncomputable abbrev Objs:=List (List UInt8×List UInt8×CV)
noncomputable def Jo(h kp:Addr):List (Nat×CV):=[(153,.loc h),(54,.loc kp)]
noncomputable def qc(O:Objs):List (List UInt8×CV):=O.zipIdx.map λp=>(fR (p.2+1),.tup [.bytes p.1.2.1,p.1.2.2])
structure eE(σ:St)(A:gv)(O:Objs):Prop where
 s:bP σ A.st 539 A.sd (Jo A.h A.kp)
 h:bP σ A.h 108 A.hd (Dl A.kn)
 kn:σ A.kn=some (.dB (tabI (O.map (λx=>x.1))))
 kp:σ A.kp=some (.dB (qc O))
 len:O.length≤60
 nd:(O.map (λx=>x.1)).Nodup
 ne:A.kn≠A.kp
noncomputable def SX(A:gv):Addr→Prop:=two A.kn A.kp
theorem ag5(O:Objs):(qc O).length=O.length:=by simp[qc]
theorem U7:∀(O:Objs) (k i:Nat),i+k<250→O.length+k<250→bB ((O.zipIdx k).map λp=>(fR (p.2+1),CV.tup [.bytes p.1.2.1,p.1.2.2])) (fR (i+k+1))=(O[i]?).map λp=>CV.tup [.bytes p.2.1,p.2.2]
 |[],k,i,_,_=>by simp[bB]
 |x::O,k,0,h,h2=>by simp[bB,ET]
 |x::O,k,i+1,h,h2=>by
  have ih:=U7 O (k+1) i (l1 h (by simp+arith only)) (by simp at h2;exact l1 h2 (by simp+arith only))
  rw[alx,←ih];unfold bB;rw[ET,gB,rM]
  have jF:fR (k+1)≠fR (i+1+k+1):=λe=>by have:=UT (l1 h (by simp+arith only)) (l1 h (by simp+arith only)) e;exact Zz this
  simp only[jF,decide_false]
  rw[show i+1+k+1=i+(k+1)+1 by exact congrArg (·+1) (YY ..)]
theorem Dq{O:Objs}(h:i<200)(h2:O.length<200):bB (qc O) (fR (i+1))=(O[i]?).map λp=>CV.tup [.bytes p.2.1,p.2.2]:=by
 have:=U7 O 0 i (cB h rfl) (cB h2 rfl);simpa[qc]using this
theorem ag6(O:Objs)(x:List UInt8×List UInt8×CV):qc (O++[x])=qc O++[(fR (O.length+1),.tup [.bytes x.2.1,x.2.2])]:=by
 unfold qc;rw[List.zipIdx_append];simp
noncomputable def j4(O:Objs)(o kind:List UInt8)(cW:CV):Objs:=if o∈O.map (λx=>x.1)then O else O++[(o,kind,cW)]
theorem ag7(O:Objs)(o kind:List UInt8)(cW:CV):(j4 O o kind cW).map (λx=>x.1)=mu (O.map (λx=>x.1)) o:=by
 unfold j4 mu
 split<;>simp
theorem eE.a7{X:Addr→Prop}{A:gv}{O:Objs}(h:eE σ A O)(p:aF X σ ae)(n:∀a∈[A.st,A.sd,A.h,A.hd,A.kn,A.kp],¬X a):eE ae A O:=
 ⟨h.s.a7 p (n _ (by simp)) (n _ (by simp)),h.h.a7 p (n _ (by simp)) (n _ (by simp)),p.at h.kn (n _ (by simp)),p.at h.kp (n _ (by simp)),h.len,h.nd,h.ne⟩
theorem eE.p0{A:gv}{O:Objs}(h:eE σ A O)(p:aF aS σ ae):eE ae A O:=h.a7 p λz z h=>h
theorem eE.q5{A:gv}{O:Objs}(h:eE σ A O):(A.st≠A.kn∧A.sd≠A.kn∧A.h≠A.kn∧A.hd≠A.kn)∧(A.st≠A.kp∧A.sd≠A.kp∧A.h≠A.kp∧A.hd≠A.kp):=by
 have a1:=h.s.1;have a2:=h.s.2;have a3:=h.h.1;have a4:=h.h.2;have a5:=h.kn;have a6:=h.kp
 have k:∀{x y:Addr} {o p:CO},σ x=some o→σ y=some p→o≠p→x≠y:=λh1 h2 n e=>n (by rw[e,h2]at h1;exact(bt h1).symm)
 exact⟨⟨k a1 a5 CO.noConfusion,k a2 a5 CO.noConfusion,k a3 a5 CO.noConfusion,k a4 a5 CO.noConfusion⟩,k a1 a6 CO.noConfusion,k a2 a6 CO.noConfusion,k a3 a6 CO.noConfusion,k a4 a6 CO.noConfusion⟩
theorem U8{A:gv}{O:Objs}(S:eE σ A O)(hO:O.length≤59)(hk:kind.length≤100)(hc:content.length≤100000)
  (q:bI (∀ae,eE ae A (j4 O (dF kind content) kind cW)→aF (SX A) σ ae→Q (.bytes (fR (pos (dF kind content) ((j4 O (dF kind content) kind cW).map (λx=>x.1))+1))) ae)):
  rX [.loc A.st,.bytes kind,.bytes content,cW] [] σ Q:=by
 obtain⟨⟨n1,n2,n3,n4⟩,n5,n6,n7,n8⟩:=S.q5;have Ss:=S.s;refine df (cy (sj (.attr .var .ins) S.h.fi (cu (.two .var .var) (agX hk hc ⟨λao P1=>?_⟩))));have S1:=S.p0 P1
 refine ag0 (l:=O.map (λx=>x.1)) S1.h S1.kn (by rw[aZ];exact cB hO rfl) ⟨λay ij P2=>?_⟩
 have P:aF (SX A) σ ay:=P1.pn (P2.mono λa ha=>.inl ha);rw[ag7]at q;have s2:=S1.s.a7 P2 n1 n2;have h2:=S1.h.a7 P2 n3 n4;have U9:=P2.at S1.kp (λe=>S.ne e.symm);generalize hx:dF kind content=x at*
 refine fO (.cmp .var (.attr .var .ins) .GY) (λg=>?_) λg=>?_
 ·have hm:x∉O.map (λx=>x.1):=λhm=>by
   have hp:=UU hm
   rw[mu,if_pos hm,Dq (by rw[aZ]at hp;exact jQ hp hO rfl) (l1 hO (by simp+arith only)),bS (by rw[aZ]at hp;exact hp)]at g
   exact eP g
  have e1:mu (O.map (λx=>x.1)) x=O.map (λx=>x.1)++[x]:=by unfold mu;rw[if_neg hm]
  have e2:j4 O x kind cW=O++[(x,kind,cW)]:=by unfold j4;rw[if_neg hm]
  have ep:pos x (O.map (λx=>x.1)++[x])=O.length:=by rw[Dm hm,aZ]
  rw[e1,ep,e2]at q;rw[e1]at ij;rw[e1,ep]
  have hn:bB (qc O) (fR (O.length+1))=none:=by rw[Dq (l1 hO (by simp+arith only)) (l1 hO (by simp+arith only)),List.getElem?_eq_none (cP _)];rfl
  refine lu (.tup (.two .var .var)) (.attr .var .ins) .var (BX U9 (by rw[ag5];exact cB hO rfl) λaQ h3 p3=>bp (bX .var (q.out _ ⟨s2.a7 p3 n5 n6,h2.a7 p3 n7 n8,by rw[cR];exact p3.at ij S.ne,by rw[ag6,h3,UX hn],by rw[bW];exact iN hO 1,?_,S.ne⟩ (P.trans (p3.mono λz=>.inr)))))
  rw[cR,nT]
  exact⟨S.nd,mN.2 ⟨rJ,.nil⟩,λa ha b hb e=>hm (by rw[←show b=x from cL.1 hb,←e];exact ha)⟩
 ·have hm:x∈O.map (λx=>x.1):=YD λhm=>by
   rw[mu,if_neg hm,Dm hm,aZ,Dq (l1 hO (by simp+arith only)) (l1 hO (by simp+arith only)),List.getElem?_eq_none (cP _)]at g
   exact iR g
  have e1:mu (O.map (λx=>x.1)) x=O.map (λx=>x.1):=by unfold mu;rw[if_pos hm]
  have e2:j4 O x kind cW=O:=by unfold j4;rw[if_pos hm]
  rw[e1,e2]at q;rw[e1]at ij;rw[e1];exact bp (bX .var (q.out _ ⟨s2,h2,ij,U9,S.len,S.nd,S.ne⟩ P))
theorem ag8{A:gv}{O:Objs}(S:eE σ A O)(hO:O.length≤59)(hc:content.length≤100000)
  (q:bI (∀ae,eE ae A (j4 O (dF [98,108,111,98] content) [98,108,111,98] (.bytes content))→aF (SX A) σ ae→Q (.bytes (fR (pos (dF [98,108,111,98] content) ((j4 O (dF [98,108,111,98] content) [98,108,111,98] (.bytes content)).map (λx=>x.1))+1))) ae)):
  Bq [.loc A.st,.bytes [98,108,111,98],.bytes content] [] σ Q:=
 df (e8 (.cmp .var .glob .B9) (bp (fD (eX .var S.s.fi (.three .glob .var (.call (.one .var) .kz)) (U8 S hO (by decide) hc ⟨λae S' P=>q.out _ S' P⟩)))))
variable {O O':Objs}
inductive kQ(O:Objs)(x kind:List UInt8)(cW:CV):Objs→Nat→Prop
 |old {i k t} (h:O[i]?=some (x,k,t)):kQ O x kind cW O i
 |new (h:x∉O.map (λx=>x.1)):kQ O x kind cW (O++[(x,kind,cW)]) O.length
theorem Va(O:Objs)(x kind:List UInt8)(cW:CV):kQ O x kind cW (j4 O x kind cW) (pos x ((j4 O x kind cW).map (λx=>x.1))):=by
 by_cases h:x∈O.map (λx=>x.1)
 ·have e:j4 O x kind cW=O:=by unfold j4;rw[if_pos h]
  rw[e];have:=Jk h;rw[dM]at this
  cases g:O[pos x (O.map (λx=>x.1))]? with
  |none=>rw[g]at this;exact bo this
  |some p=>
   rw[g]at this;obtain⟨a,b,c⟩:=p;obtain rfl:=bt this
   exact .old g
 ·have e:j4 O x kind cW=O++[(x,kind,cW)]:=by unfold j4;rw[if_neg h]
  rw[e,cR,show([(x,kind,cW)]:Objs).map (λx=>x.1)=[x]from rfl,Dm h,aZ];exact .new h
theorem Vb{A:gv}(S:eE σ A O)(hO:O.length≤59)(hk:kind.length≤100)(hc:content.length≤100000)
  (q:bI (∀ae O' i,eE ae A O'→kQ O (dF kind content) kind cW O' i→aF (SX A) σ ae→Q (.bytes (fR (i+1))) ae)):
  rX [.loc A.st,.bytes kind,.bytes content,cW] [] σ Q:=
 U8 S hO hk hc ⟨λae S' P=>q.out _ _ _ S' (Va ..) P⟩
theorem ag9{A:gv}(S:eE σ A O)(hO:O.length≤59)(hc:content.length≤100000)
  (q:bI (∀ae O' i,eE ae A O'→kQ O (dF [98,108,111,98] content) [98,108,111,98] (.bytes content) O' i→aF (SX A) σ ae→Q (.bytes (fR (i+1))) ae)):
  Bq [.loc A.st,.bytes [98,108,111,98],.bytes content] [] σ Q:=
 ag8 S hO hc ⟨λae S' P=>q.out _ _ _ S' (Va ..) P⟩
theorem aha{h:Addr}(i:bP σ a 539 d [])
  (q:bI (∀kp ae,σ kp=none→bP ae a 539 d (Jo h kp)→ae kp=some (.dB [])→aF (one d) σ ae→Q .none ae)):Bp [.loc a,.loc h] [] σ Q:=
 df (fE .var rfl i λao h1 p1=>vW (cX λkn ay hk h2 P2=>bV .var (sk (h1.a7 P2) λaQ h3 p3=>bp (q.out kn aQ (p1.no hk λe=>by have:=h1.2;rw[←e,hk]at this;exact bo this) h3 (p3.at h2 λe=>gK hk h1.2 e.symm) ((p1.nx P2).trans p3)))))
noncomputable def oct:Nat→Nat→List UInt8→Option (List UInt8)
 |0,_,_=>none
 |k+1,n,bs=>if n=0∧bs≠[]then some bs else oct k (n/8) (bs++[(48+n%8).toUInt8])
noncomputable def wW:List UInt8:=[49,48,48,54,52,52]
theorem ahb:oct 7 33188 []=some wW.reverse:=by decide
theorem Fn.ahc(h:σ a=some (.ba b))(hl:b.length≤1000):Fn IS [.loc a] σ (.int b.length):=λQ q=>a1 (k:=.L) ⟨b,h,hl,q⟩
theorem Fn.ahd(h:σ a=some (.ba b))(hl:b.length≤1000):Fn IT [.loc a] σ (.bytes b):=λQ q=>a1 (k:=.L) ⟨b,h,hl,q⟩
theorem ahe(q:bI (∀ae,aF aS σ ae→Q (.bytes wW) ae)):Bw [.int 33188] [] σ Q:=by
 refine df (cy (cu .nil (baN λba ao hn hb P=>pP (qG [160] (λk e ae=>∃(n:Nat) (bs:List UInt8),bs.length+k=7∧oct k n bs=some wW.reverse∧e 160=some (.int n)∧ae ba=some (.ba bs)∧aF aS σ ae) (n:=7) ⟨33188,[],rfl,ahb,rfl,hb,P⟩ λj e ae s z W hW=>?_))));refine mX z λn bs hl ho alV jn P'=>?_
 cases j with
 |zero=>exact bo ho
 |succ j=>
  have l8:bs.length≤7:=by exact aR (mL ..) (el hl)
  refine sA (b1:=!decide (n=0∧bs≠[])) (.to (.or (.cmp .var .val .gt) λo=>.BH (.cmp (.call (.one .var) (.ahc jn (aR l8 (by decide)))) .val .eq)) ?_) (λg=>?_) λg=>?_
  ·cases n<;>cases bs<;>simp<;>exact ZA _
  ·have g:=of_decide_eq_false (mK _▸g)
   replace ho:=(if_neg g).symm.trans ho
   have f8:((n:Int).fmod 8)=((n%8:Nat):Int):=by rw[ale _ (by decide)];rfl
   have g0:(0:Int)≤48+(n:Int).fmod 8:=by rw[f8];exact fX _
   have g1:(48:Int)+(n:Int).fmod 8<256:=by rw[f8];exact ZC n
   refine iA (pK .var ⟨_,_,rfl,jn⟩ (.one (.bin .val (.bin .var .val (.mod (by decide))) .add)) (a2 (k:=.L) (l:=.I) ⟨bs,jn,g0,g1,aR l8 (by decide),?_⟩))
   refine gN (.bin .var .val (.fdiv (by decide) (by decide))) (bp (hW (kX j) ⟨n/8,bs++[(48+n%8).toUInt8],by rw[bW,←hl];show _+1+j=_;exact AW ..,ho,?_,?_,P'.sn (a:=ba) (.upd rfl) hn⟩))
   ·show some (CV.int ((n:Int).fdiv 8))=_
    rw[alf _ (by decide)];rfl
   ·rw[eJ,f8];rfl
  ·have g:=of_decide_eq_true (rE _▸g)
   replace ho:=(if_pos g).symm.trans ho
   obtain rfl:=bt ho
   refine iA (pK .var ⟨_,_,rfl,jn⟩ .nil (a1 (k:=.L) ⟨_,jn,aR l8 (by decide),?_⟩))
   refine bX (.call (.one .var) (.ahd (eJ ..) (by decide))) ?_
   exact q.out _ (P'.sn (a:=ba) (.upd rfl) hn)
noncomputable def uE(dT:List UInt8):List (Nat×CV):=[(63,.int 33188),(66,.bytes [102]),(21,.bytes dT)]
theorem ahf(h:bP σ a 274 d [])
  (q:bI (∀ae,bP ae a 274 d (uE dT)→aF (one d) σ ae→Q .none ae)):Bn [.loc a,.int 33188,.bytes [102],.bytes dT] [] σ Q:=
 df (fE .var rfl h λao h1 p1=>fE .var rfl h1 λay h2 p2=>fE .var rfl h2 λaQ h3 p3=>bp (q.out _ h3 ((p1.trans p2).trans p3)))
noncomputable def Jp(l:Addr):List (Nat×CV):=[(176,.loc l)]
theorem ahg(h:bP σ a 323 d [])
  (q:bI (∀ae,bP ae a 323 d (Jp l)→aF (one d) σ ae→Q .none ae)):yb [.loc a,.loc l] [] σ Q:=
 df (fE .var rfl h λao h1 p1=>bp (q.out _ h1 p1))
theorem ahh(h:bP σ a 274 d (uE dT))(q:Q (.bytes [102]) σ):Bo [.loc a] [] σ Q:=
 df (bX (.iff (.cmp (.attr .var .ins) .glob .eq) (.attr .var .ins)) q)
noncomputable def oL(dT:List UInt8):List UInt8:=wW++[32]++[102]++[0]++dT
theorem Vc(h:dT.length≤100):(oL dT).length≤200:=by
 unfold oL;rw[bW];exact aR (gj (show _≤9 by decide) h) (by decide)
theorem ahi(h:bP σ a 274 d (uE dT))(hl:dT.length≤100)(q:bI (∀ae,aF aS σ ae→Q (.bytes (oL dT)) ae)):Bx [.loc a] [] σ Q:=by
 refine df (fD (ly (ly (ly (ly (cu (.one (.attr .var .ins)) (ahe ⟨λao P=>?_⟩)))))));have h1:=h.a7 P
 exact bV .val (gP (.lq (by decide)) (bV (.attr .var .ins) (gP (.lq (by decide)) (bV .val (gP (.lq (by decide)) (bV (.attr .var .ins) (gP (.lq (aR (AB hl _) (by decide))) (q.out _ P))))))))
structure lI(σ:St)(t td l:Addr)(o:Option (List UInt8)):Prop where
 t:bP σ t 323 td (Jp l)
 l:match o with
  |none=>σ l=some (.list [])
  |some dT=>∃en ed,σ l=some (.list [.loc en])∧bP σ en 274 ed (uE dT)
theorem lI.a7{X:Addr→Prop}{t:Addr}{o:Option (List UInt8)}(h:lI σ t td l o)(p:aF X σ ae)(n:∀a,X a→∃o,σ a=some o∧(∀C d,o≠.inst C d)∧(∀f,o≠.iV f)∧(∀l,o≠.list l)):lI ae t td l o:=by
 have n1:∀{a C d},σ a=some (.inst C d)→¬X a:=λh x=>by refine bF (n _ x) λo g g1 zz=>?_;obtain rfl:=bt (h.symm.trans g);exact g1 _ _ rfl
 have n2:∀{a f},σ a=some (.iV f)→¬X a:=λh x=>by refine cz (n _ x) λo g zz g1 zz=>?_;obtain rfl:=bt (h.symm.trans g);exact g1 _ rfl
 have n3:∀{a f},σ a=some (.list f)→¬X a:=λh x=>by obtain⟨o,g,_,_,g1⟩:=n _ x;obtain rfl:=bt (h.symm.trans g);exact g1 _ rfl
 refine⟨h.t.a7 p (n1 h.t.1) (n2 h.t.2),?_⟩;have hl:=h.l
 induction o with
 |none=>exact p.at hl (n3 hl)
 |some dT=>
  obtain⟨en,ed,g1,g2⟩:=hl;exact⟨en,ed,p.at g1 (n3 g1),g2.a7 p (n1 g2.1) (n2 g2.2)⟩
theorem lI.p0{t:Addr}{o:Option (List UInt8)}(h:lI σ t td l o)(p:aF aS σ ae):lI ae t td l o:=h.a7 p λz x=>x.elim
noncomputable def oM:Option (List UInt8)→List UInt8
 |none=>[]
 |some dT=>oL dT
theorem ahj{t:Addr}{o:Option (List UInt8)}(h:lI σ t td l o)(ho:∀x,o=some x→x.length≤100)(q:bI (∀ae,aF aS σ ae→Q (.bytes (oM o)) ae)):By [.loc t] [] σ Q:=by
 refine df (cy (dh .nil λpa ao hn hp P=>?_));have h1:=h.p0 P;have ht:=h1.t
 have fin:∀{ay e} (ys:List (List UInt8)),e 121=some (.loc pa)→ay pa=some (.list (ys.map .bytes))→aF aS σ ay→ys.flatten=oM o→ys.flatten.length≤200→ah (bh (bJ jG tW (au (.bytes [])) (ag (af 121) ar))) az e ay (bk Q):=λ{ay e} ys he hy P2 g hl=>by
  refine bX (.pw .val ⟨_,rfl⟩ (.one .var) (.join (by rw[Dn];exact aR hl (by decide)) hy)) ?_
  rw[Dn,g];exact q.out _ P2
 induction o with
 |none=>
  have hl:ao l=some (.list []):=h1.l
  exact jB (.attr .var .ins) hl λok bw=>yJ (bw _ hl) (fin [] rfl hp P rfl (dE _))
 |some dT=>
  refine gH h1.l λen ed g1 g2=>?_;refine jB (.attr .var .ins) g1 λok bw=>⟨bw _ g1,iA (sv .var hp (eX .var g2.fi .nil (ahi g2 (ho _ rfl) ⟨λay P2=>tY (xs:=[]) (P2.at hp) (dE _) λaQ h3 P3=>?_⟩)))⟩
  exact bp ⟨bw _ (P3.at (P2.at g1) (λe=>(nomatch (bt (g1.symm.trans (e▸hp)):CO.list [CV.loc en]=.list [])))),fin [oL dT] rfl h3 ((P.trans P2).sn P3 hn) (fj _) (by show(oL dT++[]).length≤_;rw[fj];exact Vc (ho _ rfl))⟩
theorem ahk:pI [102] [47]=-1:=by decide
theorem ahl:pI [102] [0]=-1:=by decide
theorem ahm(q:bI (∀ae,aF aS σ ae→Q (.bool false) ae)):FQ [.bytes [102],.bytes [47,0]] [] σ Q:=by
 refine df (Hp .var (qF [79] (λo:UInt8=>.int o.toNat) (λxs u ae=>(∀x∈xs,pI [102] [x]=-1)∧aF aS σ ae) ⟨?_,.refl _ _⟩ (λx xs e ae s z=>⟨trivial,λK kk=>vZ (v9 (yG .var ⟨_,rfl⟩ (dH (jY (dH (dh (.one .var) λl ay hn hl P2=>?_))))))⟩) λe ae s z=>⟨trivial,bX .val (q.out _ z.2)⟩))
 ·intro x hx
  rcases eO.1 hx with rfl |hx
  ·exact ahk
  ·rw[cL.1 hx];exact ahl
 ·refine BV (Fn.G7 (ks:=[x.toNat]) (λk hk=>by rw[cL.1 hk];exact x.toNat_lt) (cG rfl) hl) (BV .find (bV .val (we .ge ?_)))
  rw[show[x.toNat].map (λk=>k.toUInt8)=[x] by rw[List.map_singleton,show x.toNat.toUInt8=x from UInt8.ofNat_toNat],z.1 x (.head _)]
  exact bp (bp (kk.nx ⟨λy hy=>z.1 y (.tail _ hy),z.2.trans P2⟩))
theorem ahn(q:bI (∀ae,aF aS σ ae→Q .none ae)):FU [.bytes [102]] [] σ Q:=by
 exact df<|e8 (.cmp .var .val .t7)<|bp<|e8 (.cmp .var (.tup (.two .val .val)) (Cm.iTB (is:=[[46],[46,46]])))<|bp<|e8 (.to (.cmp (.pw .var ⟨_,rfl⟩ .nil (.lower (by decide))) .val .t7) (by decide))<|bp<|
  vZ<|BW<|cu (.two .var .val)<|ahm ⟨λao P=>⟨_,rfl,bp<|bX .val (q.out _ P)⟩⟩
theorem aho{n:Nat}(h1:0<n)(h2:n<256)(q:Q (.bool false) σ):FR [.bytes (fR n),.bytes [0]] [] σ Q:=by
 refine df (Hp .var (qF [79] (λo:UInt8=>.int o.toNat) (λxs y ae=>n.toUInt8∈xs∧ae=σ) ⟨.tail _ (.tail _ (.tail _ (.head _))),rfl⟩ (λx xs e ae s z=>⟨trivial,λK kk=>fO (.cmp .var .var .acR) (λg=>bX .val (kk.rt (by rw[z.2];exact q))) λg=>bp (bp (kk.nx ⟨?_,z.2⟩))⟩) λe ae s z=>cA z.1))
 refine(eO.1 z.1).resolve_left λe=>?_
 have g:x=0:=by
  have:=rE _▸g;simpa using this
 have:=congrArg UInt8.toNat (e.trans g);rw[show n.toUInt8.toNat=n%256 from rfl,Lx h2]at this;exact absurd this (vA h1)
theorem ahp{t:Addr}{o:Option (List UInt8)}(h:lI σ t td l o)(ho:∀x,o=some x→∃n,0<n∧n<256∧x=fR n)(q:bI (∀fa ae,ae fa=some (.list [])→aF aS σ ae→Q (.loc fa) ae)):FX [.loc t] [] σ Q:=by
 refine df<|BM<|show b8 _ _ _ _ from jA<|dh .nil λfa ao hn hf P1=>jA<|cX λka ay Dr hk P2=>jA<|bV .val ⟨by exact cG rfl,_,rfl,rfl,?_⟩
 have P:=P1.trans P2;have sO:=P2.at hf;have h2:=h.p0 P;have ht:=h2.t;have hnk:=P1.no Dr;have nkf:fa≠ka:=gK Dr hf;clear P1 P2 Dr hf
 induction o with
 |none=>
  have hl:ay l=some (.list []):=h2.l
  exact jB (.attr .var .ins) hl λok bw=>yJ (bw _ hl)<|bX .var (q.out _ _ sO P)
 |some dT=>
  refine gH h2.l λen ed g1 g2=>?_;refine bF (ho _ rfl) λn n1 n2 aq=>?_;subst aq;refine jB (.attr .var .ins) g1 λok bw=>⟨bw _ g1,e8 (.cmp (.attr .var .ins) .glob (Cm.acQ (is:=[33188,33261,40960,16384,57344])))<|bp<|cy<|cu (.one (.attr .var .ins))<|ahn ⟨λaQ P3=>?_⟩⟩;have g2:=g2.a7 P3;have g1:=P3.at g1;have hk:=P3.at hk
  have k2:∀{x:Addr} {p:CO},aQ x=some p→p≠.dB []→x≠ka:=λh1 n e=>n (by rw[e,hk]at h1;exact(bt h1).symm)
  refine e8 (.cmp .var .val .iY)<|bp<|e8 (.cmp (.attr .var .ins) .var (.iB hk))<|e8 (.lZ (.cmp .var .val .iY))<|oA<|vZ<|BW<|cu (.two (.attr .var .ins) .val)<|aho n1 n2 ⟨_,rfl,bp<|
   lu .val .var (.attr .var .ins)<|BX hk (dE _) λbU hk4 u1=>?_⟩
  have g3:=g2.a7 u1 (k2 g2.1 CO.noConfusion) (k2 g2.2 CO.noConfusion);exact cy<|eX .var g3.fi .nil<|ahh g3<|bp ⟨bw _ (u1.at g1 (k2 g1 CO.noConfusion)),bX .var (q.out _ _ (u1.at (P3.at sO) nkf) ((P.trans P3).sn u1 hnk))⟩
theorem ahq{t:Addr}{o:Option (List UInt8)}(h:lI σ t td l o)(ho:∀x,o=some x→∃n,0<n∧n<256∧x=fR n)(q:bI (∀ae,aF aS σ ae→Q .none ae)):FY [.loc t] [] σ Q:=
 df<|cy<|cu (.one .var)<|ahp h ho ⟨λfa ae hf P=>e8 (.cmp (.call (.one .var) (.len (dE _) hf)) .val .gt)<|oA (q.out _ P)⟩
theorem ahr{o:Option (List UInt8)}(ho:∀x,o=some x→x.length≤100):(oM o).length≤200:=by
 induction o with
 |none=>exact dE _
 |some x=>exact Vc (ho _ rfl)
theorem ahs{A:gv}{t:Addr}{o:Option (List UInt8)}(S:eE σ A O)(hO:O.length≤59)(h:lI σ t td l o)(ho:∀x,o=some x→∃n,0<n∧n<256∧x=fR n)
  (q:bI (∀ae O' i,eE ae A O'→kQ O (dF [116,114,101,101] (oM o)) [116,114,101,101] (.loc t) O' i→aF (SX A) σ ae→Q (.bytes (fR (i+1))) ae)):
  yn [.loc A.st,.loc t] [] σ Q:=by
 have c7:∀x,o=some x→x.length≤100:=λx e=>by obtain⟨n,_,_,rfl⟩:=ho x e;exact show 4≤100 by decide
 refine df<|iA<|cu (.one .var)<|ahq h ho ⟨λao P1=>fD<|sj .var (S.p0 P1).s.fi<|jX .glob<|jA<|eX .var (h.p0 P1).t.fi .nil<|ahj (h.p0 P1) c7 ⟨λay P2=>bV .var<|
  Vb (S.p0 (P1.trans P2)) hO (by decide) (aR (ahr c7) (by decide)) ⟨λae O' i S' p P3=>q.out _ _ _ S' p ((P1.trans P2).pn P3)⟩⟩⟩
theorem aht{A:gv}{c pl el:Addr}{tree:List UInt8}{ps:List (List UInt8)}{pa pc:kP}(S:eE σ A O)(hO:O.length≤59)
  (h:bP σ c 391 cd (qZ tree pl al cl el msg))(hp:σ pl=some (.list (ps.map .bytes)))(ha:mw σ al ad pa)(hc:mw σ cl iJ pc)(he:σ el=some (.list []))
  (oa:pa.Ok)(oc:pc.Ok)(ht:tree.length≤100)(dR:ps.length≤100∧∀p∈ps,p.length≤100)(hm:msg.length≤1000)
  (q:bI (∀ae O' i,eE ae A O'→kQ O (dF [99,111,109,109,105,116] (mv tree ps pa.B pc.B msg)) [99,111,109,109,105,116] (.loc c) O' i→aF (SX A) σ ae→Q (.bytes (fR (i+1))) ae)):Br [.loc A.st,.loc c] [] σ Q:=
 df<|fD<|sj .var S.s.fi<|jX .glob<|jA<|eX .var h.fi .nil<|ag4 h hp ha hc he oa oc ht dR hm ⟨λao P=>bV .var<|
  Vb (S.p0 P) hO (by decide) (aR (U5 dR ht oa.len oc.len hm) (by decide)) ⟨λae O' i S' p P3=>q.out _ _ _ S' p (P.pn P3)⟩⟩
structure Dk(W σ:St)(d c:Addr)(T:Nat):Prop where
 dk:zE σ d c T
 fr:aF aS W σ
 wd:W d=none
 wc:W c=none
theorem Dk.ext{W:St}{c:Addr}{T:Nat}(h:Dk W σ d c T)(p:aF aS σ ae):Dk W ae d c T:=by
 refine f7 h.dk.ok λcs m t hd hc r=>?_;exact⟨⟨cs,m,t,p.at hd,p.at hc,r⟩,h.fr.trans p,h.wd,h.wc⟩
theorem Dk.up{W:St}{c:Addr}{T:Nat}(h:Dk W σ d c T)(l:T≤T'):Dk W σ d c T':=by
 refine Fq h.dk.ok λcs m t hd hc r1 r2 r3=>?_
 exact⟨⟨cs,m,t,hd,hc,r1,r2,by exact rO r3 (ki.2 l)⟩,h.fr,h.wd,h.wc⟩
theorem Dk.other{X:Addr→Prop}{W:St}{c:Addr}{T:Nat}(h:Dk W σ d c T)(p:aF X σ ae)(n:∀a,X a→a≠d∧a≠c∧W a=none):Dk W ae d c T:=by
 refine f7 h.dk.ok λcs m t hd hc r=>?_;exact⟨⟨cs,m,t,p.at hd (λx=>(n _ x).1 rfl),p.at hc (λx=>(n _ x).2.1 rfl),r⟩,λa o e z=>p a o (h.fr.at e) λx=>(bo (((n _ x).2.2).symm.trans e)),h.wd,h.wc⟩
theorem Dk.fz{W:St}{c:Addr}{T:Nat}(h:Dk W σ d c T)(ha:σ a=some o)(hd:a≠d)(hc:a≠c):∃W',aF aS W W'∧W' a=some o∧Dk W' σ d c T∧∀b,b≠a→W' b=W b:=by
 refine⟨upd W a o,λb x e z=>?_,eJ ..,⟨h.dk,λb x e z=>?_,by rw[iU hd.symm];exact h.wd,by rw[iU hc.symm];exact h.wc⟩,λb hb=>iU hb⟩
 ·by_cases g:b=a
  ·subst g
   have:=h.fr.at e
   rw[eJ,←ha,this]
  ·rw[iU g];exact e
 ·by_cases g:b=a
  ·subst g
   rw[eJ]at e;rw[ha,e]
  ·rw[iU g]at e;exact h.fr.at e
theorem Dk.hd{W σ:St}{d c:Addr}{T:Nat}(h:Dk W σ d c T):∃m t,σ d=some (.dS (UJ c m t)):=by
 refine f7 h.dk.ok λcs m t hd hc r=>?_;exact⟨_,_,hd⟩
theorem Dk.hc{W:St}{c:Addr}{T:Nat}(h:Dk W σ d c T):∃cs,σ c=some (.list cs):=by
 refine f7 h.dk.ok λcs m t hd hc r=>?_;exact⟨_,hc⟩
theorem Dk.new{W:St}{c:Addr}{T:Nat}(h:Dk W σ d c T)(ha:σ a=none):a≠d∧a≠c:=by
 obtain⟨_,_,h1⟩:=h.hd;obtain⟨_,h2⟩:=h.hc
 exact⟨λe=>(by rw[e,h1]at ha;exact jP ha),λe=>(by rw[e,h2]at ha;exact jP ha)⟩
theorem Dk.nw{W:St}{c:Addr}{T:Nat}(h:Dk W σ d c T)(ha:σ a=none):W a=none:=by
 cases e:W a with
 |none=>rfl
 |some o=>exact jP ((h.fr.at e).symm.trans ha)
theorem Dk.Vd{W:St}{c:Addr}{T:Nat}(h:Dk W σ d c T)(ha:W a=some o):a≠d∧a≠c:=
 ⟨λe=>(by rw[e,h.wd]at ha;exact bo ha),λe=>(by rw[e,h.wc]at ha;exact bo ha)⟩
theorem nF{W:St}{c:Addr}{T:Nat}{b:Int}(h:Dk W σ d c T)(hT:T≤1000000)(h0:0<b)(h1:b<1073741824)
  (q:bI (∀(r:Nat) ae,(r:Int)<b→Dk W ae d c (T+1)→aF (two d c) σ ae→Q (.int r) ae)):jz [.loc d,.int b] [] σ Q:=
 agN h.dk (ki.2 hT) h0 h1 ⟨λr ae r0 r1 D P=>by
  have:=q.out r.toNat ae (ZD h0 r1) ⟨by simpa using D,λa o e z=>P a o (h.fr.at e) λx=>?_,h.wd,h.wc⟩ P
  ·rwa[YQ r0]at this
  ·rcases x with rfl |rfl
   ·exact bo (h.wd.symm.trans e)
   ·rw[h.wc]at e;cases e⟩
theorem ahu{α:Type}{vs:List α}{v:α}(h:vs[i]?=some v)(hl:vs.length≤1000):iW vs (i:Int)=some v:=by
 rw[adn _ _ (by have:=(iL.1 h).1;exact ey this hl)];exact h
theorem ahv{vs:List CV}{v:CV}(h:σ a=some (.list vs)∨σ a=some (.ro vs))(hv:vs[i]?=some v)(hl:vs.length≤1000)(q:Q v σ):vQ (.loc a) (.int i) σ Q:=.li h (ahu hv hl) q
theorem zF{W:St}{c:Addr}{T:Nat}{vs:List CV}(h:Dk W σ d c T)(hT:T≤1000000)(ha:(σ a=some (.list vs)∧a≠c)∨σ a=some (.ro vs))(hv:vs≠[])(hl:vs.length≤1000)
  (q:bI (∀(i:Nat) v ae,vs[i]?=some v→Dk W ae d c (T+1)→aF (two d c) σ ae→Q v ae)):pF [.loc d,.loc a] [] σ Q:=by
 have hp:=EN.2 hv;have hf:Fn eI [.loc a] σ (.int vs.length):=λQ q=>.inl (a1 (k:=.L) ⟨vs,ha.imp f6 id,hl,q⟩)
 refine df<|fD<|ceT .var<|cu (.two .var (.call (.one .var) hf))<|nF h hT (dN.2 hp) (dN.2 (je hl (by decide))) ⟨λr ae hr D P=>?_⟩
 have hr:r<vs.length:=dN.1 hr;refine gF h.hd λm t hd=>?_;refine xe h.hc λcs hc=>?_;refine ahv (v:=vs[r]) (vs:=vs) ?_ (bS hr) hl (q.out r _ _ (bS hr) D P)
 rcases ha with⟨ha,hac⟩ |ha
 ·refine .inl (P.at ha λx=>x.elim (λx=>?_) hac)
  rw[x,hd]at ha;cases ha
 ·refine .inr (P.at ha λx=>x.elim (λx=>?_) λx=>?_)
  ·rw[x,hd]at ha;cases ha
  ·rw[x,hc]at ha;cases ha
noncomputable def reach(k:Nat):Nat→List (List Nat×List Nat)
 |0=>[(cS k,[])]
 |t+1=>(reach k t).flatMap λp=>if p.1=[]then[p]else(cS p.1.length).map λi=>(p.1.eraseIdx i,p.2++[p.1.getD i 0])
theorem ahw{k t:Nat}(h:([],r)∈reach k t):([],r)∈reach k (t+1):=by
 unfold reach
 exact EV.2 ⟨_,h,by simp⟩
theorem ahx{k t x:Nat}{l:List Nat}(h:(l,r)∈reach k t)(hx:l[i]?=some x):(l.eraseIdx i,r++[x])∈reach k (t+1):=by
 unfold reach;have hi:=(iL.1 hx).1;refine EV.2 ⟨_,h,?_⟩
 have hn:l≠[]:=λe=>by rw[e]at hi;exact absurd hi (by simp)
 rw[if_neg hn]
 refine dD.2 ⟨i,by simpa using hi,?_⟩
 simp[hx]
noncomputable def uF(k:Nat):List (List Nat):=((cS 4).flatMap λt=>(reach k t).map (λx=>x.2)).eraseDups
theorem ahy{α:Type}[BEq α][LawfulBEq α](l:List α)(x:α)(h:x∈l):x∈l.eraseDups:=List.mem_eraseDups.2 h
theorem ahz{k t:Nat}{l:List Nat}(h:(l,r)∈reach k t)(ht:t<4):r∈uF k:=
 ahy _ _ (EV.2 ⟨t,by simpa using ht,dD.2 ⟨_,h,rfl⟩⟩)
noncomputable def lJ(rows:List (List Nat)):Prop:=∀k r,rows[k]?=some r→r∈uF k
structure j5(W:St)(c9:List Addr)(rows:List (List Nat)):Prop where
 len:c9.length=rows.length
 at_:∀(k:Nat) (a:Addr) (r:List Nat),c9[k]?=some a→rows[k]?=some r→W a=some (.list (r.map nI))
noncomputable def j6(W:St)(l:Addr)(rows:List (List Nat)):Prop:=∃c9,W l=some (.list (c9.map .loc))∧j5 W c9 rows
theorem j5.mono{W:St}{rows:List (List Nat)}(h:j5 W c9 rows)(p:aF aS W W'):j5 W' c9 rows:=⟨h.len,λk a r h1 h2=>p.at (h.at_ k a r h1 h2)⟩
theorem q6{α:Type}{l:List α}{x y:α}(h:(l++[x])[i]?=some y):(i<l.length∧l[i]?=some y)∨(i=l.length∧y=x):=by
 rw[List.getElem?_append]at h
 split at h
 ·exact .inl ⟨by assumption,h⟩
 ·have:=(iL.1 h).1
  have e:i- l.length=0:=by simpa using this
  rw[e]at h
  exact .inr ⟨qq (YJ e) (EW (by assumption)),by simpa using h.symm⟩
theorem j5.snoc{W:St}{rows:List (List Nat)}(h:j5 W c9 rows)(ha:W a=some (.list (r.map nI))):j5 W (c9++[a]) (rows++[r]):=by
 refine⟨by simp[h.len],λk b s h1 h2=>?_⟩
 have hl:=h.len
 rcases q6 h1 with⟨i1,g1⟩ |⟨i1,rfl⟩<;>rcases q6 h2 with⟨i2,g2⟩ |⟨i2,rfl⟩
 ·exact h.at_ k b s g1 g2
 ·exact(iP i1 (i2.trans hl.symm)).elim
 ·exact(iP i2 (i1.trans hl)).elim
 ·exact ha
theorem lJ.snoc{rows:List (List Nat)}(h:lJ rows)(hr:r∈uF rows.length):lJ (rows++[r]):=λk s h2=>by
 rcases q6 h2 with⟨i2,g2⟩ |⟨i2,rfl⟩
 ·exact h k s g2
 ·rw[i2];exact hr
theorem Ve{α β:Type}(f:α→β):∀(l:List α) (i:Nat),(l.map f).eraseIdx i=(l.eraseIdx i).map f
 |[],i=>by simp
 |x::l,0=>by simp
 |x::l,i+1=>by simp[Ve f l i]
theorem ahA{W:St}{c:Addr}{k m T:Nat}{Q:dy→aL→St→Prop}(h:Dk W σ d c T)(hT:T≤1000)(hk:k≤3)(hm:m≤3)(h57:e 57=some (.loc la))(h27:e 27=some (.loc ra))(h46:e 46=some (.loc d))
  (hl:σ la=some (.list ((mQ 0 k).map nI)))(hr:σ ra=some (.list []))(nl:la≠d∧la≠c∧W la=none)(nr:ra≠d∧ra≠c∧W ra=none)(Dt:la≠ra)
  (q:∀e' ae r,cx [88] e e'→r∈uF k→ae ra=some (.list (r.map nI))→Dk W ae d c (T+m)→aF (λa=>(a=d∨a=c)∨a=la∨a=ra) σ ae→Q .next e' ae):
  f9 pM (aName 88) (ah (bC (aT .NotEq (af 57) (eList ar)) (ah (cw (bJ cD cN (af 27) (ag (bJ cD sr (af 57) (ag (aY jz (ag (af 46) (ag (aY eI (ag (af 57) ar)) ar))) ar)) ar))) az) az) az) Q ((mQ 0 m).map nI) e σ:=by
 refine qF [88] nI (λxs o ae=>∃t l r,t+xs.length=m∧(l,r)∈reach k t∧l.length+r.length=k∧ae la=some (.list (l.map nI))∧ae ra=some (.list (r.map nI))∧Dk W ae d c (T+t)∧aF (λa=>(a=d∨a=c)∨a=la∨a=ra) σ ae)
  ⟨0,mQ 0 k,[],by rw[EO,mO],cL.2 (by rw[List.range_eq_range']),by rw[EO];rfl,hl,hr,h,.refl _ _⟩ (λx xs e' ae s z=>⟨trivial,λK kk=>?_⟩) λe' ae s z=>⟨trivial,?_⟩
 ·refine A8 z λt l r ht gh hlen hl hr D P=>?_
  rw[kY]at ht
  have q7:t+1+xs.length=m:=by rw[←ht,YY];rfl
  have l3:l.length≤3:=by exact l2 hk (el hlen) (by simp+arith only)
  refine BZ .var hl (λg ao P1=>?_) λg ao P1=>?_
  ·have Vf:0<l.length:=by rw[←aZ (f:=nI)];exact EN.2 g
   have j3:=P1.at hl
   refine iA<|sv .var (P1.at hr)<|yG .var ⟨_,_,rfl,j3⟩<|dH<|cu (.two .var (.call (.one .var) (.len (by rw[aZ];exact cB l3 rfl) j3)))<|nF (D.ext P1) (l4 hT hm (eN 2 (el ht)) (er ht) (by simp+arith only)) (by rw[aZ];exact dN.2 Vf) (by rw[aZ];exact ki.2 (lz l3 rfl)) ⟨λi ay hi D2 P2=>?_⟩
   rw[aZ]at hi;have hi:i<l.length:=dN.1 hi
   refine FL (P2.at j3 (λx=>x.elim nl.1 nl.2.1)) (n:=nI l[i]) (by rw[dM,bS hi];rfl) (by rw[aZ];exact cB l3 rfl) λaQ zG P3=>?_
   refine tY (f:=nI) (u:=l[i]) (P3.at (P2.at (P1.at hr) (λx=>x.elim nr.1 nr.2.1)) (λe=>Dt e.symm)) (l2 hk (el hlen) (by simp+arith only)) λbU Jq P4=>oA<|kk.nx ⟨t+1,l.eraseIdx i,r++[l[i]],q7,ahx gh (bS hi),?_,?_,Jq,?_,?_⟩
   ·rw[YO,if_pos hi,bW,mH];exact ZE hlen Vf
   ·rw[P4.at zG Dt,Ve]
   ·exact(D2.other P3 (λa x=>by cases x;exact nl)).other P4 (λa x=>by cases x;exact nr)
   ·exact(((P.nx P1).trans (P2.mono λa=>.inl)).trans (P3.mono λa x=>.inr (.inl x))).trans (P4.mono λa x=>.inr (.inr x))
  ·have:l=[]:=xH.1 g
   subst this
   exact oA<|kk.nx ⟨t+1,[],r,q7,ahw gh,hlen,P1.at hl,P1.at hr,(D.ext P1).up (nW _),P.nx P1⟩
 ·refine A8 z λt l r ht gh hlen hl hr D P=>?_
  have ht:t=m:=ht;subst ht;exact q e' ae r s (ahz gh (Y7 hm)) hr D P
theorem ahB{v:CV}(h:[CV.int 1,.int 1,.int 1,.int 2,.int 2,.int 3,.int 0][i]?=some v):∃m:Nat,v=.int m∧m≤3:=
 match i,h with
 |0,h |1,h |2,h=>⟨1,(bt h).symm,by decide⟩
 |3,h |4,h=>⟨2,(bt h).symm,by decide⟩
 |5,h=>⟨3,(bt h).symm,by decide⟩
 |6,h=>⟨0,(bt h).symm,by decide⟩
theorem lrX{m:EM}{n:Nat}{R:CV→St→Prop}(h:Ev m e σ (.int n))(hn:n≤1000)(k:∀a ae,σ a=none→ae a=some (.list ((mQ 0 n).map nI))→aF aS σ ae→R (.loc a) ae):IF m e σ R:=
 h _ ⟨n,rfl,by exact fX _,by exact ki.2 hn,cX (by rw[B1];exact k)⟩
theorem ahC{W:St}{c:Addr}{T:Nat}(h:Dk W σ d c T)(hT:T≤900)
  (q:bI (∀rl rows W' ae,lJ rows→2≤rows.length→rows.length≤4→aF aS W W'→j6 W' rl rows→Dk W' ae d c (T+20)→Q (.loc rl) ae)):Gx [.loc d,.int 4] [] σ Q:=by
 refine df<|cy<|dh .nil λrl ao hn cI P1=>PO<|pJ .val<|cu (.two .var (.bin .var .val .sub))<|nF (h.ext P1) (cB hT rfl) (by decide) (by decide) ⟨λn0 ay hn0 D2 P2=>gP .add<|?_⟩
 have lK:=h.new hn;have zH:n0<3:=dN.1 hn0
 refine PQ (n:=2+n0) (l1 zH (by simp+arith only))<|qF [1,57,27,88] nI (λxs y ae=>∃(k:Nat) (W':St) (c9:List Addr) (rows:List (List Nat)),xs=mQ k (2+n0- k)∧k≤2+n0∧rows.length=k∧lJ rows∧aF aS W W'∧W' rl=none∧j5 W' c9 rows∧ae rl=some (.list (c9.map .loc))∧Dk W' ae d c (T+1+4*k))
  ⟨0,W,[],[],rfl,dE _,rfl,λy y h=>(bo h),.refl _ _,h.nw hn,⟨rfl,λy y y h=>(bo h)⟩,P2.at cI (λx=>x.elim lK.1 lK.2),D2⟩ (λk xs e ae s z=>⟨trivial,λK kk=>?_⟩) λe ae s z=>⟨trivial,?_⟩
 ·refine Mz z λk' W' c9 rows hx c4 hlen bw PW hW RI cI D=>?_
  obtain⟨j,hj⟩:∃j,2+n0- k'=j+1:=by
   cases g:2+n0- k' with
   |zero=>rw[g]at hx;exact og hx
   |succ j=>exact⟨j,rfl⟩
  rw[hj,List.range'_succ]at hx;refine xa (List.cons.inj hx) λaq hx=>?_;subst aq
  have k3:k≤3:=l2 (YK hj) zH (by simp+arith only)
  refine BM<|show b8 _ _ _ _ from jA<|lrX .var (cB k3 rfl) λla aQ Du c6 P3=>dH<|dh .nil λra bU Dv gU P4=>⟨by exact cG rfl,_,rfl,rfl,?_⟩
  have P5:=P3.trans P4;have nl:=D.new Du;have nr:=(D.ext P3).new Dv;have ahD:=P4.at c6;have Dt:la≠ra:=gK Dv c6;have Dw:=P5.at cI;have n1:rl≠la:=gK Du cI;have n2:rl≠ra:=gK Dv (P3.at cI)
  refine PO<|jY<|jX .var<|dH<|dh (.cons .val (.cons .val (.cons .val (.cons .val (.cons .val (.cons .val (.one .val))))))) λpa fG ahE q8 P6=>zF ((D.ext P5).ext P6) (l2 hT (eN 4 k3) (by simp+arith only)) (.inl ⟨q8,((D.ext P5).new ahE).2⟩) (by decide) (by decide) ⟨λi v fH hv D6 P7=>?_⟩
  refine a9 (ahB hv) λm aq hm=>?_;subst aq;have X:∀{a o},bU a=some o→a≠d→a≠c→fH a=some o:=λha h1 h2=>P7.at (P6.at ha) λx=>x.elim h1 h2
  refine PQ (n:=m) (cB hm rfl)<|ahA (la:=la) (ra:=ra) D6 (l2 hT (eN 4 k3) (by simp+arith only)) k3 hm rfl rfl ?_ (X ahD nl.1 nl.2) (X gU nr.1 nr.2) ⟨nl.1,nl.2,D.nw Du⟩ ⟨nr.1,nr.2,(D.ext P3).nw Dv⟩ Dt λe' nE r he hr ahF D7 P8=>?_
  ·exact s.rd (j:=46) rfl rfl
  have s2:cx [1,57,27,88] (bz (eW [46,65] [.loc d,.int 4] λy=>none) 76 (.loc rl)) e':=λj hj=>by
   rw[he j (by
    cases g:[88].contains j with
    |false=>rfl
    |true=>rw[vp,cL]at g;rw[g]at hj;exact iR hj)]
   exact((s.set).set) j hj
  have ahG:=P8.at (X Dw lK.1 lK.2) λx=>x.elim (λx=>x.elim lK.1 lK.2) λx=>x.elim n1 n2
  refine su .loc ra .var (.var ((he.rd (v:=.loc ra) rfl rfl))) ahG (by rw[RI.len,hlen];exact cB k3 rfl) λsR ahH u=>?_
  have D8:=D7.other u (λa x=>by obtain rfl:=x.symm;exact⟨lK.1,lK.2,hW⟩)
  refine cz (D8.fz (a:=ra) (u.at ahF (λx=>n2 x.symm)) nr.1 nr.2) λW2 cJ ahI D9 hW2=>?_
  exact bp<|kk.nx ⟨k+1,W2,c9++[ra],rows++[r],by rw[hx];congr 1;exact(Mu hj).symm,by exact YK hj,by rw[bW,hlen];rfl,bw.snoc (by rw[hlen];exact hr),PW.trans cJ,by rw[hW2 _ n2];exact hW,(RI.mono cJ).snoc ahI,ahH,D9.up (AB hm _)⟩
 ·refine Mz z λk W' c9 rows hx c4 hlen bw PW hW RI cI D=>?_
  have:rows.length=2+n0:=by
   cases g:2+n0- k with
   |zero=>exact hlen.trans (qq c4 (YJ g))
   |succ j=>rw[g]at hx;exact vE hx
  refine cz (D.fz (a:=rl) cI lK.1 lK.2) λW2 cJ ahJ D9 zz=>?_
  exact bX .var (q.out rl rows W2 ae bw (aR (mL ..) (er this)) (l2 (el this) zH (by simp+arith only)) (PW.trans cJ) ⟨c9,ahJ,RI.mono cJ⟩ (D9.up (l3 (eN 4 (er hlen)) (eN 4 (el this)) (eN 4 zH) (by simp+arith only))))
noncomputable def wX(n:Nat)(times:List Nat):Prop:=times.length=n∧∀t∈times,t<2000
theorem ahK{W:St}{c:Addr}{n T:Nat}(h:Dk W σ d c T)(hT:T≤900)(h1:1≤n)(hn:n≤4)
  (q:bI (∀tl times W' ae,wX n times→aF aS W W'→W' tl=some (.list (times.map nI))→Dk W' ae d c (T+5)→Q (.loc tl) ae)):Gy [.loc d,.int n] [] σ Q:=by
 have fin:∀(times:List Nat) (T':Nat) {ae ay:St} {tl:Addr},T'≤T+5→wX n times→Dk W ae d c T'→ae tl=none→ay tl=some (.list (times.map nI))→aF aS ae ay→Q (.loc tl) ay:=λtimes T' {ae ay tl} zI ok D hn ht P=>by
  refine cz ((D.ext P).fz ht (D.new hn).1 (D.new hn).2) λW2 P2 h2 D2 zz=>?_;exact q.out tl times W2 ay ok P2 h2 (D2.up zI)
 have Vg:∀(f:Nat→Nat),(∀k,k<4→f k<2000)→wX n ((mQ 0 n).map f):=λf hf=>⟨by rw[aZ,EO],λt ht=>by
  refine a9 (dD.1 ht) λk hk aq=>?_;subst aq
  exact hf k (ey (Y6.1 hk).2 (by rw[mO];exact hn))⟩
 have ln:(mQ 0 n).length≤1000:=by rw[EO];exact aR hn (by decide)
 have n3:n≤1000:=aR hn (by decide)
 refine df<|cy<|cu (.two .var .val)<|nF h (aR hT (by decide)) (by decide) (by decide) ⟨λway ao hw D P=>?_⟩
 have T1:T+1≤T+5:=AB (by decide) T
 refine fO (.cmp .var .val .eq) (λo=>?_) λo=>bp<|fO (.cmp .var .val .eq) (λo=>?_) λo=>bp<|fO (.cmp .var .val .eq) (λo=>?_) λo=>bp ?_
 ·exact fD<|md nI (λk=>nI (100+10*k)) (.rg .var n3) ln (λk hk ce s hv=>.bin .val (.bin .val .var (.mul (by decide) (by decide))) .add) λl ae hn hl P2=>fin _ _ T1 (Vg (λk=>100+10*k) (λk hk=>by exact l1 (eN 10 hk) (by simp+arith only))) D hn (by rw[dp];exact hl) P2
 ·refine fD<|dh (.one .val) λla ay Du c6 P2=>mlK .var c6 n3 λl ae hn hl P3=>fin (qr n 500) _ T1 ⟨List.length_replicate,λt ht=>by rw[(List.mem_replicate.1 ht).2];decide⟩ (D.ext P2) hn (by rw[List.map_replicate];exact hl) P3
 ·refine fD<|md nI (λk=>.int (900- 10*k)) (.rg .var n3) ln (λk hk ce s hv=>.bin .val (.bin .val .var (.mul (by decide) (by decide))) .sub) λl ae yW hl P2=>fin _ _ T1 (Vg (λk=>900- 10*k) (λk hk=>by exact je (A2 ..) (by decide))) D yW ?_ P2
  rw[hl,dp]
  congr 2
  refine pb λk hk=>?_;have:=(Y6.1 hk).2;show CV.int _=.int ((900- 10*k:Nat):Int)
  congr 1;exact ZF this hn
 ·refine fD<|coR .var n3<|B4 nI (λxs acc ae=>∃times:List Nat,acc=times.map nI∧times.length+xs.length=n∧(∀t∈times,t<2000)∧Dk W ae d c (T+1+times.length)) ⟨[],rfl,by rw[EO];exact mO _,λo h=>(cA h),D⟩ ln (λx xs acc ae ce z hl s hv=>⟨trivial,λKY y=>?_⟩) λacc ae z=>⟨trivial,?_⟩
  ·refine cz z λtimes aq hlen ck D3=>?_;clear z;subst aq
   rw[kY]at hlen
   refine pJ .val<|cu (.two .var .val)<|nF D3 (l3 hT hn (el hlen) (by simp+arith only)) (by decide) (by decide) ⟨λr ay hr D4 P4=>gP .add<|y _ _ ⟨times++[1000+r],by rw[cR];rfl,by rw[bW,←hlen,YY];rfl,λt ht=>?_,by rw[bW];exact D4⟩⟩
   rcases fY.1 ht with ht |ht
   ·exact ck t ht
   ·rw[cL.1 ht];exact l1 (ki.1 hr) (by simp+arith only)
  ·refine cz z λtimes aq hlen ck D3=>?_;clear z;subst aq
   have hlen:times.length=n:=hlen
   exact cX λl ay yW hl P2=>fin times _ (l2 (el hlen) hn (by simp+arith only)) ⟨hlen,ck⟩ D3 yW hl P2
theorem ahL{s:Addr}{vs:List Int}(hs:σ s=some (.ro (vs.map .int)))(hl:vs.length≤100)
  (q:bI (∀d c W ae,aF aS σ W→Dk W ae d c 0→Q (.loc d) ae)):Gv [.loc s] [] σ Q:=by
 have hk:(vs.take 12).length≤12:=by rw[Ly];exact Nat.min_le_left ..
 refine df<|BM<|show b8 _ _ _ _ from jA<|me<|Pt .var .val<|upR (k:=12) hs (by rw[aZ];exact cB hl rfl) λa1 ao zH zJ P1=>?_
 rw[←List.map_take]at zJ;generalize vs.take 12=cs at*
 have Vh:∀{n:Nat},n≤12→n≤1000:=λh=>aR h (by decide)
 refine iX zJ λok bw=>wm CV.int CV.int (bw _ zJ) (Vh hk) (λx o ce s h=>.call (.one .var) .int) λa2 ay Dr sS P2=>dH<|bV .val ⟨by exact cG rfl,_,rfl,rfl,?_⟩
 have P:=P1.trans P2
 refine jB .var sS λok bw=>qF [44,117] CV.int (λo e ae=>(∃m:Int,e 117=some (.int m)∧0≤m∧m<2147483648)∧ae=ay) ⟨⟨5565,rfl,by decide,by decide⟩,rfl⟩ (λx xs e ae s z=>?_) λe ae s z=>?_
 ·obtain⟨⟨m,Jr,m0,m1⟩,rfl⟩:=z
  have b1:=wQ (a:=m*48271+x.fmod 2147483629+5565) (b:=2147483587) (by decide)
  exact⟨bw _ sS,λK kk=>gN (.bin (.bin (.bin (.bin (.var Jr) .val (.mul (tm (by decide) m0) (pg m1 (by decide)))) (.bin .var .val (.mod (by decide))) .add) .val .add) .val (.mod (by decide)))<|bp<|kk.nx ⟨⟨_,rfl,b1.1,pg b1.2 (by decide)⟩,rfl⟩⟩
 ·obtain⟨⟨m,Jr,m0,m1⟩,rfl⟩:=z
  refine⟨bw _ sS,fD<|d3X<|Hh .var sS (by rw[aZ];exact Vh hk) λc aQ hn3 hc P3=>bV (.var Jr)<|bV .val<|cX λd bU Cz hd P4=>?_⟩
  exact q.out d c σ bU (.refl _ _) ⟨⟨cs.reverse,m,0,hd,by rw[P4.at hc,vt],by rw[EI];exact hk,by decide,by decide⟩,(P.trans P3).trans P4,(P.trans P3).no Cz,P.no hn3⟩
noncomputable abbrev oN:List UInt8:=[98,108,111,98]
noncomputable abbrev q9:List UInt8:=[116,114,101,101]
noncomputable abbrev lL:List UInt8:=[99,111,109,109,105,116]
noncomputable abbrev Vi:List UInt8:=[43,48,48,48,48]
noncomputable abbrev ahM:List UInt8:=[43,48,49,51,48]
noncomputable def kB(n:Nat):List UInt8:=(qr n [107]).flatten++[10]
noncomputable def sU(t:Nat):kP:=⟨[90],[122,64,122],t,ahM⟩
noncomputable def jJ(bH:List UInt8×List UInt8)(k:Nat):kP:=⟨bH.1,bH.2,5+k,Vi⟩
noncomputable def nG:List (List UInt8×List UInt8):=[([65,110,110],[97,64,120]),([66,111],[97,110,110,64,121]),([67,121],[99,64,120])]
noncomputable def j7:List (List UInt8×List UInt8):=[([102,105,120,32,97,10],[102,105,120,32,97]),([97,100,100,32,98,10,10,97,110,100,32,102,105,120,32,109,111,114,101,10],[97,100,100,32,98]),
 ([116,119,111,10,108,105,110,101,115,10],[116,119,111,32,108,105,110,101,115]),([112,108,97,105,110],[112,108,97,105,110])]
theorem Vj{X Y:List UInt8}(hx:X.head?=some 97)(hy:Y.head?=some 97):∀(ps qs:List (List UInt8)),(∀p∈ps,p.length=4)→(∀p∈qs,p.length=4)→(ps.map nD).flatten++X=(qs.map nD).flatten++Y→X=Y
 |[],[],_,_,h=>h
 |[],q::qs,_,_,h=>by
  rw[E8,Zg,vy]at h;rw[h]at hx
  simp[nD]at hx
 |p::ps,[],_,_,h=>by
  rw[E8,Zg,vy]at h;rw[←h]at hy
  simp[nD]at hy
 |p::ps,q::qs,h1,h2,h=>by
  simp only[gB,AG,fJ]at h
  have e:=(List.append_inj h (by simp[nD,wV,h1 p (by simp),h2 q (by simp)])).2
  exact Vj hx hy ps qs (λp hp=>h1 p (by simp[hp])) (λp hp=>h2 p (by simp[hp])) e
theorem Vk(t:List UInt8)(ps:List (List UInt8))(A C m:List UInt8):∃r,mv t ps A C m=[116,114,101,101,32]++(nC t++([10]++((ps.map nD).flatten++([97,117,116,104,111,114,32]++(A++r))))):=
 ⟨_,by unfold mv Jn;simp only[xM,vy,AG,List.flatten_append,fJ];rfl⟩
theorem ahN{t t' m m' C C' A A':List UInt8}{ps qs:List (List UInt8)}(ht:t.length=4)(q7:t'.length=4)(hp:∀p∈ps,p.length=4)(hq:∀p∈qs,p.length=4)(h:mv t ps A C m=mv t' qs A' C' m'):∃r r',A++r=A'++r':=by
 refine xe (Vk t ps A C m) λr e=>?_;refine xe (Vk t' qs A' C' m') λr' e'=>?_;have h:=vn (e.symm.trans (h.trans e'))
 have h:=(List.append_inj h (by rw[wV,wV,ht,q7])).2
 exact⟨r,r',vn (Vj rfl rfl ps qs hp hq (vn h))⟩
theorem Vl:∀{a b x y:List UInt8},(0:UInt8)∉a→(0:UInt8)∉b→a++0::x=b++0::y→a=b∧x=y
 |[],[],x,y,_,_,h=>⟨rfl,by simpa using h⟩
 |[],b::bs,x,y,_,hb,h=>by
  simp only[vy,xM,L7]at h
  exact absurd (by rw[←h.1];simp) hb
 |a::as,[],x,y,ha,_,h=>by
  simp only[vy,xM,L7]at h
  exact absurd (by rw[h.1];simp) ha
 |a::as,b::bs,x,y,ha,hb,h=>by
  simp only[xM,L7]at h;obtain⟨rfl,h⟩:=h
  refine xa (Vl (λz=>ha (by simp[z])) (λz=>hb (by simp[z])) h) λaq e=>?_;subst aq
  exact⟨rfl,e⟩
theorem ahO{k k' c:List UInt8}(hk:(0:UInt8)∉k)(c4:(0:UInt8)∉k')(h:dF k c=dF k' c'):k++[32]++jH c.length=k'++[32]++jH c'.length∧c=c':=by
 unfold dF at h;simp only[fJ,xM,vy]at h;have n1:=U1 c.length;have n2:=U1 c'.length
 have:=Vl (a:=k++32::jH c.length) (b:=k'++32::jH c'.length) (x:=c) (y:=c') (by simp[hk,n1]) (by simp[c4,n2]) (by simpa using h)
 refine⟨by simpa using this.1,this.2⟩
theorem Js{k c:List UInt8}(hk:(0:UInt8)∉k)(h:dF k c=dF k c'):c=c':=(ahO hk hk h).2
theorem Vn{c:List UInt8}:dF oN c≠dF q9 c':=λh=>absurd (xF h) (by decide)
theorem Vo{c:List UInt8}:dF oN c≠dF lL c':=λh=>absurd (xF h) (by decide)
theorem Vp{c:List UInt8}:dF q9 c≠dF lL c':=λh=>absurd (xF h) (by decide)
theorem ahP:∀n,n<10→jH n=[(48+n).toUInt8]:=by decide+kernel
theorem ahQ:∀n,n<3→∀m,m<3→kB n=kB m→n=m:=by decide
theorem ahR{bH zK:List UInt8×List UInt8}{k:Nat}(h1:bH∈nG)(h2:zK∈nG)(hk:k<4)(c4:k'<4){r r':List UInt8}(h:(jJ bH k).B++r=(jJ zK k').B++r'):k=k':=by
 have e:∀j,j<4→jH (5+j)=[(53+j).toUInt8]:=λj hj=>by rw[ahP _ (l1 hj (by simp+arith only))];exact congrArg (λn=>[n.toUInt8]) (AU 48 5 j).symm
 have inj:∀j,j<4→∀i,i<4→(53+j).toUInt8=(53+i).toUInt8→j=i:=by decide
 have hd:∀w∈nG,∀(k:Nat) (r:List UInt8),((jJ w k).B++r).head?=w.1.head?:=λw hw k r=>by
  rcases eO.1 hw with rfl |hw
  ·rfl
  rcases eO.1 hw with rfl |hw
  ·rfl
  rw[cL.1 hw];rfl
 have wi:∀w∈nG,∀w'∈nG,w.1.head?=w'.1.head?→w=w':=by decide
 obtain rfl:=wi _ h1 _ h2 ((hd _ h1 k r).symm.trans ((congrArg List.head? h).trans (hd _ h2 k' r')));unfold jJ kP.B Dj at h;rw[e k hk,e k' c4]at h;simp only[fJ]at h;exact inj _ hk _ c4 (xF (vn (vn (vn (vn h)))))
theorem ahS{t t' m m' C C':List UInt8}{ps qs:List (List UInt8)}{bH zK:List UInt8×List UInt8}{k:Nat}(ht:t.length=4)(q7:t'.length=4)(hp:∀p∈ps,p.length=4)(hq:∀p∈qs,p.length=4)
  (h1:bH∈nG)(h2:zK∈nG)(hk:k<4)(c4:k'<4)(h:dF lL (mv t ps (jJ bH k).B C m)=dF lL (mv t' qs (jJ zK k').B C' m')):k=k':=by
 refine gF (ahN ht q7 hp hq (Js (by decide) h)) λr r' e=>?_
 exact ahR h1 h2 hk c4 e
theorem ahT{a:List UInt8}(h:oL a=oL b):a=b:=by unfold oL at h;exact vn h
theorem ahU{a b:Option (List UInt8)}(h:oM a=oM b):a=b:=by
 induction a with
 |none=>
  induction b with
  |none=>rfl
  |some y=>simp[oM,oL,wW]at h
 |some x=>
  induction b with
  |none=>simp[oM,oL,wW]at h
  |some y=>rw[ahT h]
structure Cd where
 row:List Nat
 time:Nat
 cnt:Option Nat
 note:List UInt8×List UInt8
 bH:List UInt8×List UInt8
structure Cd.Ok(D:Cd)(k:Nat):Prop where
 row:∀j∈D.row,j<k
 len:D.row.length≤4
 time:D.time<2000
 cnt:∀n,D.cnt=some n→n<3
 note:D.note∈j7
 bH:D.bH∈nG
noncomputable def fS(i:Nat):List UInt8:=fR (i+1)
noncomputable def my(is row:List Nat):List (List UInt8):=row.map λj=>fS (is.getD j 0)
noncomputable def wY(O:Objs)(i n:Nat):Prop:=O[i]?=some (dF oN (kB n),oN,.bytes (kB n))
noncomputable def rb(O:Objs)(o:Option (List UInt8)):Option Nat→Prop
 |none=>o=none
 |some n=>∃bi,bi<60∧o=some (fS bi)∧wY O bi n
noncomputable def oO(W:St)(O:Objs)(i:Nat)(cnt:Option Nat):Prop:=∃t td l o,O[i]?=some (dF q9 (oM o),q9,.loc t)∧lI W t td l o∧rb O o cnt
structure ahV(W:St)(O:Objs)(is:List Nat)(k i:Nat)(D:Cd)(c cd pl al ad cl iJ el:Addr)(ti:Nat):Prop where
 at_:O[i]?=some (dF lL (mv (fS ti) (my is D.row) (jJ D.bH k).B (sU D.time).B D.note.1),lL,.loc c)
 c:bP W c 391 cd (qZ (fS ti) pl al cl el D.note.1)
 p:W pl=some (.list ((my is D.row).map .bytes))
 a:mw W al ad (jJ D.bH k)
 cm:mw W cl iJ (sU D.time)
 e:W el=some (.list [])
 tl:ti<60
 t:oO W O ti D.cnt
noncomputable def uG(W:St)(O:Objs)(is:List Nat)(k i:Nat)(D:Cd):Prop:=∃c cd pl al ad cl iJ el ti,ahV W O is k i D c cd pl al ad cl iJ el ti
structure fI(W:St)(O:Objs)(is:List Nat)(Ds:List Cd):Prop where
 len:is.length=Ds.length
 ok:∀(k:Nat) (D:Cd),Ds[k]?=some D→D.Ok k
 comm:∀(k i:Nat) (D:Cd),is[k]?=some i→Ds[k]?=some D→uG W O is k i D
 cls:∀(i:Nat) (e:List UInt8×List UInt8×CV),O[i]?=some e→(∃n,n<3∧e=(dF oN (kB n),oN,.bytes (kB n)))∨(∃cnt,oO W O i cnt)∨∃k:Nat,is[k]?=some i
 inc:is.Pairwise (·<·)
 lt:∀i∈is,i<O.length
noncomputable def wZ(O O':Objs):Prop:=∀(i:Nat) (e:List UInt8×List UInt8×CV),O[i]?=some e→O'[i]?=some e
theorem wZ.snoc(O:Objs)(x:List UInt8×List UInt8×CV):wZ O (O++[x]):=λi e h=>by
 rw[xE (iL.1 h).1];exact h
theorem kQ.ext{x:List UInt8}(h:kQ O x kind cW O' i):wZ O O':=by
 induction h with
 |old h=>exact λz z h=>h
 |new h=>exact .snoc _ _
theorem kQ.len{x:List UInt8}(h:kQ O x kind cW O' i):O'.length≤O.length+1∧i<O'.length:=by
 induction h with
 |old h=>exact⟨by exact mL ..,(iL.1 h).1⟩
 |new h=>simp
theorem rb.ext{o:Option (List UInt8)}{cnt:Option Nat}(h:rb O o cnt)(e:wZ O O'):rb O' o cnt:=by
 induction cnt with
 |none=>exact h
 |some n=>obtain⟨bi,h1,h2,h3⟩:=h;exact⟨bi,h1,h2,e _ _ h3⟩
theorem oO.ext{W:St}{cnt:Option Nat}(h:oO W O i cnt)(p:aF aS W W')(e:wZ O O'):oO W' O' i cnt:=by
 obtain⟨t,td,l,o,h1,h2,h3⟩:=h;exact⟨t,td,l,o,e _ _ h1,h2.p0 p,h3.ext e⟩
theorem uG.ext{W:St}{k:Nat}{D:Cd}(h:uG W O is k i D)(p:aF aS W W')(e:wZ O O'):uG W' O' is k i D:=by
 obtain⟨c,cd,pl,al,ad,cl,iJ,el,ti,H⟩:=h;exact⟨c,cd,pl,al,ad,cl,iJ,el,ti,e _ _ H.at_,H.c.a7 p,p.at H.p,H.a.a7 p,H.cm.a7 p,p.at H.e,H.tl,H.t.ext p e⟩
theorem fI.up{W:St}{Ds:List Cd}(h:fI W O is Ds)(p:aF aS W W'):fI W' O is Ds:=
 ⟨h.len,h.ok,λk i D h1 h2=>(h.comm k i D h1 h2).ext p λz z h=>h,λi e he=>(h.cls i e he).imp id (Or.imp (λ⟨cnt,g⟩=>⟨cnt,g.ext p λz z h=>h⟩) id),h.inc,h.lt⟩
theorem Jt(is row:List Nat):∀p∈my is row,p.length=4:=λp hp=>by
 refine a9 (dD.1 hp) λj zz aq=>?_;subst aq;rfl
theorem fI.zM{W:St}{Ds:List Cd}(h:fI W O is Ds){k:Nat}{e:List UInt8×List UInt8×CV}(he:O[i]?=some e)(hk:is[k]?=some i):∃D c,∃t ps,Ds[k]?=some D∧t.length=4∧(∀p∈ps,p.length=4)∧e=(dF lL (mv t ps (jJ D.bH k).B (sU D.time).B D.note.1),lL,.loc c):=by
 have hl:=(iL.1 hk).1;rw[h.len]at hl;obtain⟨c,cd,pl,al,ad,cl,iJ,el,ti,H⟩:=h.comm k i Ds[k] hk (bS hl);have:=H.at_;rw[he]at this;obtain rfl:=bt this;exact⟨Ds[k],c,_,_,bS hl,rfl,Jt _ _,rfl⟩
theorem fI.blob{W:St}{Ds:List Cd}{n:Nat}(h:fI W O is Ds)(hn:n<3)(p:kQ O (dF oN (kB n)) oN (.bytes (kB n)) O' i):fI W O' is Ds∧wY O' i n:=by
 have E:=p.ext
 induction p with
 |old g=>
  refine⟨h,?_⟩
  rcases h.cls _ _ g with⟨m,hm,e⟩ |⟨cnt,t,td,l,o,e,_⟩ |⟨k,hk⟩
  ·have e1:=ahQ n hn m hm (Js (by decide) (k0 e).1)
   subst e1;unfold wY
   rw[g,e]
  ·rw[g]at e
   exact absurd (k0 (bt e)).1 Vn
  ·obtain⟨D,c,t,ps,_,_,_,e⟩:=h.zM g hk
   exact absurd (k0 e).1 Vo
 |new g=>
  refine⟨⟨h.len,h.ok,λk i D h1 h2=>(h.comm k i D h1 h2).ext (.refl _ _) E,λi e he=>?_,h.inc,λi hi=>by have:=h.lt i hi;simp;exact xJ this⟩,by unfold wY;simp⟩
  rcases q6 he with⟨_,he⟩ |⟨_,rfl⟩
  ·exact(h.cls i e he).imp id (Or.imp (λ⟨cnt,g⟩=>⟨cnt,g.ext (.refl _ _) E⟩) id)
  ·exact .inl ⟨n,hn,rfl⟩
theorem fI.tree{W:St}{Ds:List Cd}{t:Addr}{o:Option (List UInt8)}{cnt:Option Nat}(h:fI W O is Ds)(ht:lI W t td l o)(hc:rb O o cnt)(p:kQ O (dF q9 (oM o)) q9 (.loc t) O' i):fI W O' is Ds∧oO W O' i cnt:=by
 have E:=p.ext
 induction p with
 |old g=>
  refine⟨h,?_⟩
  rcases h.cls _ _ g with⟨m,hm,e⟩ |⟨ahW,t',Vq,l',o',e,h2,h3⟩ |⟨k,hk⟩
  ·exact absurd (k0 e).1.symm Vn
  ·rw[g]at e
   have e1:=ahU (Js (by decide) (k0 (bt e)).1)
   subst e1
   exact⟨t',Vq,l',o,by rw[g,e],h2,hc⟩
  ·obtain⟨D,c,t,ps,_,_,_,e⟩:=h.zM g hk
   exact absurd (k0 e).1 Vp
 |new g=>
  have T:oO W (O++[(dF q9 (oM o),q9,.loc t)]) O.length cnt:=⟨t,td,l,o,by simp,ht,hc.ext E⟩
  refine⟨⟨h.len,h.ok,λk i D h1 h2=>(h.comm k i D h1 h2).ext (.refl _ _) E,λi e he=>?_,h.inc,λi hi=>by have:=h.lt i hi;simp;exact xJ this⟩,T⟩
  rcases q6 he with⟨_,he⟩ |⟨rfl,rfl⟩
  ·exact(h.cls i e he).imp id (Or.imp (λ⟨cnt,g⟩=>⟨cnt,g.ext (.refl _ _) E⟩) id)
  ·exact .inr (.inl ⟨cnt,T⟩)
theorem Vr{row:List Nat}{k:Nat}(h:∀j∈row,j<k)(hk:k≤is.length):my (is++[i]) row=my is row:=by
 unfold my;refine pb λj hj=>?_;have:=h j hj;rw[dG,xE (ey this hk),←dG]
theorem uG.more{W:St}{k m:Nat}{D:Cd}(h:uG W O is k i D)(ok:D.Ok k)(hk:k≤is.length):uG W O (is++[m]) k i D:=by
 obtain⟨c,cd,pl,al,ad,cl,iJ,el,ti,H⟩:=h;have e:=Vr (i:=m) ok.row hk
 exact⟨c,cd,pl,al,ad,cl,iJ,el,ti,by rw[e];exact H.at_,H.c,by rw[e];exact H.p,H.a,H.cm,H.e,H.tl,H.t⟩
theorem fI.put{W:St}{Ds:List Cd}{ti:Nat}{D:Cd}{c pl el:Addr}(h:fI W O is Ds)(hk:is.length<4)(ok:D.Ok is.length)
  (hc:bP W c 391 cd (qZ (fS ti) pl al cl el D.note.1))(hp:W pl=some (.list ((my is D.row).map .bytes)))(ha:mw W al ad (jJ D.bH is.length))(hm:mw W cl iJ (sU D.time))(he:W el=some (.list []))(Ju:ti<60)(ht:oO W O ti D.cnt)
  (p:kQ O (dF lL (mv (fS ti) (my is D.row) (jJ D.bH is.length).B (sU D.time).B D.note.1)) lL (.loc c) O' i):fI W O' (is++[i]) (Ds++[D])∧i=O.length:=by
 have E:=p.ext
 induction p with
 |old g=>
  exfalso
  rcases h.cls _ _ g with⟨m,hm,e⟩ |⟨ahW,t',Vq,l',o',e,h2,h3⟩ |⟨k,c4⟩
  ·exact absurd (k0 e).1.symm Vo
  ·rw[g]at e
   exact absurd (k0 (bt e)).1.symm Vp
  ·refine tM (h.zM g c4) λD' c' t ps hD h1 h2 e=>?_
   have hl:=(iL.1 c4).1;have:=ahS (k:=is.length) (k':=k) rfl h1 (Jt _ _) h2 ok.bH (h.ok k D' hD).bH hk (jN hl hk) (k0 e).1
   exact vA hl this
 |new g=>
  have e1:=Vr (i:=O.length) ok.row (cP _)
  refine⟨⟨by simp[h.len],λk D1 h2=>?_,λk i D1 h1 h2=>?_,λi e he=>?_,?_,λi hi=>?_⟩,rfl⟩
  ·rcases q6 h2 with⟨_,h2⟩ |⟨rfl,rfl⟩
   ·exact h.ok k D1 h2
   ·rw[←h.len];exact ok
  ·have hl:=h.len
   rcases q6 h1 with⟨l1,h1⟩ |⟨l1,rfl⟩<;>rcases q6 h2 with⟨l2,h2⟩ |⟨l2,rfl⟩
   ·exact((h.comm k i D1 h1 h2).ext (.refl _ _) E).more (h.ok k D1 h2) (iQ l1)
   ·exact(iP l1 (l2.trans hl.symm)).elim
   ·exact(iP l2 (l1.trans hl)).elim
   ·rw[l1]
    exact⟨c,cd,pl,al,ad,cl,iJ,el,ti,by rw[e1];simp,hc,by rw[e1];exact hp,ha,hm,he,Ju,ht.ext (.refl _ _) E⟩
  ·rcases q6 he with⟨_,he⟩ |⟨rfl,rfl⟩
   ·refine(h.cls i e he).imp id (Or.imp (λ⟨cnt,g⟩=>⟨cnt,g.ext (.refl _ _) E⟩) λ⟨k,hk⟩=>⟨k,?_⟩)
    rw[xE (iL.1 hk).1];exact hk
   ·exact .inr (.inr ⟨is.length,by simp⟩)
  ·rw[Lo]
   exact⟨h.inc,by simp,λa ha b hb=>by rw[cL.1 hb];exact h.lt a ha⟩
  ·rcases fY.1 hi with hi |hi
   ·have:=h.lt i hi;simp;exact xJ this
   ·rw[cL.1 hi];simp
variable {D:Cd}{Ds done:List Cd}
theorem Vs{σ:St}{p:kP}(q:bI (∀a d ae,σ a=none→σ d=none→mw ae a d p→aF aS σ ae→Q (.loc a) ae)):eV 232 tT [.bytes p.name,.bytes p.ig,.int p.jI,.bytes p.zone] [] σ Q:=
 pL λa d ao na nd i1 P1=>agY i1 ⟨λay i2 P2=>⟨rfl,q.out a d ay na nd i2 (P1.seq P2 λb hb=>.inr (hb▸nd))⟩⟩
theorem ahX{σ:St}(q:bI (∀a d ae,σ a=none→σ d=none→bP ae a 274 d (uE dT)→aF aS σ ae→Q (.loc a) ae)):eV 274 Bn [.int 33188,.bytes [102],.bytes dT] [] σ Q:=
 pL λa d ao na nd i1 P1=>ahf i1 ⟨λay i2 P2=>⟨rfl,q.out a d ay na nd i2 (P1.seq P2 λb hb=>.inr (hb▸nd))⟩⟩
theorem ahY{σ:St}(q:bI (∀a d ae,σ a=none→σ d=none→bP ae a 323 d (Jp l)→aF aS σ ae→Q (.loc a) ae)):eV 323 yb [.loc l] [] σ Q:=
 pL λa d ao na nd i1 P1=>ahg i1 ⟨λay i2 P2=>⟨rfl,q.out a d ay na nd i2 (P1.seq P2 λb hb=>.inr (hb▸nd))⟩⟩
theorem ahZ{σ:St}{tree:List UInt8}{pl el:Addr}(q:bI (∀a d ae,σ a=none→σ d=none→bP ae a 391 d (qZ tree pl al cl el msg)→aF aS σ ae→Q (.loc a) ae)):eV 391 yc [.bytes tree,.loc pl,.loc al,.loc cl,.loc el,.bytes msg] [] σ Q:=
 pL λa d ao na nd i1 P1=>ag3 i1 ⟨λay i2 P2=>⟨rfl,q.out a d ay na nd i2 (P1.seq P2 λb hb=>.inr (hb▸nd))⟩⟩
theorem ah0{σ:St}(q:bI (∀a d kn ae,σ kn=none→bP ae a 108 d (Dl kn)→ae kn=some (.dB [])→aF aS σ ae→Q (.loc a) ae)):eV 108 Bl [.int 4] [] σ Q:=
 pL λa d ao na nd i1 P1=>agZ i1 ⟨λkn ay nk i2 hk P2=>⟨rfl,q.out a d kn ay (P1.no nk) i2 hk (P1.seq P2 λb hb=>.inr (hb▸nd))⟩⟩
theorem ah1{σ:St}{h:Addr}(q:bI (∀a d kp ae,σ kp=none→bP ae a 539 d (Jo h kp)→ae kp=some (.dB [])→aF aS σ ae→Q (.loc a) ae)):eV 539 Bp [.loc h] [] σ Q:=
 pL λa d ao na nd i1 P1=>aha i1 ⟨λkp ay nk i2 hk P2=>⟨rfl,q.out a d kp ay (P1.no nk) i2 hk (P1.seq P2 λb hb=>.inr (hb▸nd))⟩⟩
noncomputable def CO.dJ:CO→Bool
 |.list _=>true
 |_=>false
structure Wk(W σ:St)(d c:Addr)(T:Nat)(A:gv)(O:Objs)(il tl:Addr)(ids gy:List CV):Prop where
 dk:Dk W σ d c T
 S:eE σ A O
 hi:σ il=some (.list ids)
 ht:σ tl=some (.list gy)
 wi:W il=none∧il≠d∧il≠c
 wt:W tl=none∧tl≠d∧tl≠c∧il≠tl
 wn:W A.kn=none∧W A.kp=none
section
variable{W σ ae:St}{d c:Addr}{T:Nat}{A:gv}{O O':Objs}{il tl:Addr}{ids gy:List CV}
theorem Wk.ext(h:Wk W σ d c T A O il tl ids gy)(p:aF aS σ ae):Wk W ae d c T A O il tl ids gy:=
 ⟨h.dk.ext p,h.S.p0 p,p.at h.hi,p.at h.ht,h.wi,h.wt,h.wn⟩
theorem Wk.draw(h:Wk W σ d c T A O il tl ids gy)(D:Dk W ae d c (T+1))(p:aF (two d c) σ ae):Wk W ae d c (T+1) A O il tl ids gy:=by
 refine gF h.dk.hd λm t hd=>?_;refine xe h.dk.hc λcs hc=>?_
 have k:∀{a o},σ a=some o→(∀x,o≠.dS x)→(∀x,o≠.list x)→¬two d c a:=λe n1 n2 x=>by
  rcases x with rfl |rfl
  ·obtain rfl:=bt (hd.symm.trans e);exact n1 _ rfl
  ·obtain rfl:=bt (hc.symm.trans e);exact n2 _ rfl
 have S:=h.S
 refine⟨D,⟨S.s.a7 p (k S.s.1 (λz e=>nomatch e) (λz e=>nomatch e)) (k S.s.2 (λz e=>nomatch e) (λz e=>nomatch e)),S.h.a7 p (k S.h.1 (λz e=>nomatch e) (λz e=>nomatch e)) (k S.h.2 (λz e=>nomatch e) (λz e=>nomatch e)),p.at S.kn (k S.kn (λz e=>nomatch e) (λz e=>nomatch e)),p.at S.kp (k S.kp (λz e=>nomatch e) (λz e=>nomatch e)),S.len,S.nd,S.ne⟩,
  p.at h.hi (λx=>x.elim h.wi.2.1 h.wi.2.2),p.at h.ht (λx=>x.elim h.wt.2.1 h.wt.2.2.1),h.wi,h.wt,h.wn⟩
theorem Wk.put(h:Wk W σ d c T A O il tl ids gy)(S:eE ae A O')(p:aF (SX A) σ ae):Wk W ae d c T A O' il tl ids gy:=by
 have k:∀{a o},σ a=some o→(∀x,o≠.dB x)→¬SX A a:=λe n1 x=>by
  rcases x with rfl |rfl
  ·obtain rfl:=bt (h.S.kn.symm.trans e);exact n1 _ rfl
  ·obtain rfl:=bt (h.S.kp.symm.trans e);exact n1 _ rfl
 refine gF h.dk.hd λm t hd=>?_;refine xe h.dk.hc λcs hc=>?_;refine⟨h.dk.other p λa x=>⟨λe=>k hd (λz e=>nomatch e) (e▸x),λe=>k hc (λz e=>nomatch e) (e▸x),?_⟩,S,p.at h.hi (k h.hi (λz e=>nomatch e)),p.at h.ht (k h.ht (λz e=>nomatch e)),h.wi,h.wt,h.wn⟩
 rcases x with rfl |rfl
 ·exact h.wn.1
 ·exact h.wn.2
theorem Wk.ni(h:Wk W σ d c T A O il tl ids gy):∀a∈[A.st,A.sd,A.h,A.hd,A.kn,A.kp],a≠il∧a≠tl:=by
 have S:=h.S
 have k:∀{a o},σ a=some o→(∀x,o≠.list x)→a≠il∧a≠tl:=λ{a o} e n=>⟨λx=>by rw[x,h.hi]at e;obtain rfl:=bt e;exact n _ rfl,λx=>by rw[x,h.ht]at e;obtain rfl:=bt e;exact n _ rfl⟩
 have kl:∀{o:CO},o.dJ=false→∀x,o≠.list x:=λh x e=>by rw[e]at h;exact iR h
 intro a ha
 rcases ha with _ |⟨_,_ |⟨_,_ |⟨_,_ |⟨_,_ |⟨_,_ |⟨_,ha⟩⟩⟩⟩⟩⟩
 ·exact k S.s.1 (kl rfl)
 ·exact k S.s.2 (kl rfl)
 ·exact k S.h.1 (kl rfl)
 ·exact k S.h.2 (kl rfl)
 ·exact k S.kn (kl rfl)
 ·exact k S.kp (kl rfl)
 ·exact cA ha
theorem Wk.ah2(h:Wk W σ d c T A O il tl ids gy){Vt:List CV}(hi:ae il=some (.list Vt))(u:aF (one il) σ ae):Wk W ae d c T A O il tl Vt gy:=
 ⟨h.dk.other u λa e=>by obtain rfl:=e.symm;exact⟨h.wi.2.1,h.wi.2.2,h.wi.1⟩,h.S.a7 u λa ha e=>(h.ni a ha).1 e,hi,u.at h.ht λe=>h.wt.2.2.2 e.symm,h.wi,h.wt,h.wn⟩
theorem Wk.ah3(h:Wk W σ d c T A O il tl ids gy){Vu:List CV}(ht:ae tl=some (.list Vu))(u:aF (one tl) σ ae):Wk W ae d c T A O il tl ids Vu:=
 ⟨h.dk.other u λa e=>by obtain rfl:=e.symm;exact⟨h.wt.2.1,h.wt.2.2.1,h.wt.1⟩,h.S.a7 u λa ha e=>(h.ni a ha).2 e,u.at h.hi h.wt.2.2.2,ht,h.wi,h.wt,h.wn⟩
theorem Wk.fz(h:Wk W σ d c T A O il tl ids gy)(ha:σ a=some o)(n1:a≠d)(n2:a≠c)(n3:a≠il)(n4:a≠tl)(n5:a≠A.kn)(n6:a≠A.kp):∃W',aF aS W W'∧W' a=some o∧Wk W' σ d c T A O il tl ids gy:=by
 refine cz (h.dk.fz ha n1 n2) λW' P hW D hb=>?_
 exact⟨W',P,hW,D,h.S,h.hi,h.ht,⟨by rw[hb _ n3.symm];exact h.wi.1,h.wi.2⟩,⟨by rw[hb _ n4.symm];exact h.wt.1,h.wt.2⟩,by rw[hb _ n5.symm];exact h.wn.1,by rw[hb _ n6.symm];exact h.wn.2⟩
end
structure Nm(A:gv)(d c il tl a:Addr):Prop where
 d:a≠d
 c:a≠c
 il:a≠il
 tl:a≠tl
 kn:a≠A.kn
 kp:a≠A.kp
section
variable{W σ ae:St}{d c:Addr}{T:Nat}{A:gv}{O O':Objs}{il tl a:Addr}{ids gy:List CV}
theorem Wk.nm(h:Wk W σ d c T A O il tl ids gy)(na:σ a=none):Nm A d c il tl a:=by
 have k:∀{b o},σ b=some o→a≠b:=λe x=>by rw[x,e]at na;exact jP na
 refine gF h.dk.hd λm t hd=>?_;refine xe h.dk.hc λcs hc=>?_;exact⟨k hd,k hc,k h.hi,k h.ht,k h.S.kn,k h.S.kp⟩
theorem Wk.w5(h:Wk W σ d c T A O il tl ids gy)(ha:σ a=some o)(n:Nm A d c il tl a):∃W',aF aS W W'∧W' a=some o∧Wk W' σ d c T A O il tl ids gy:=
 h.fz ha n.d n.c n.il n.tl n.kn n.kp
theorem Wk.sW{b:Addr}(h:Wk W σ d c T A O il tl ids gy)(ha:bP σ a C b fs)(n:Nm A d c il tl a)(n2:Nm A d c il tl b):∃W',aF aS W W'∧bP W' a C b fs∧Wk W' σ d c T A O il tl ids gy:=by
 refine bF (h.w5 ha.1 n) λW1 P1 h1 k1=>?_;refine bF (k1.w5 ha.2 n2) λW2 P2 h2 k2=>?_;exact⟨W2,P1.trans P2,⟨P2.at h1,h2⟩,k2⟩
end
noncomputable def sX(D:List UInt8×List UInt8):CV:=.tup [.bytes D.1,.bytes D.2]
noncomputable def kR(D:Cd):CV:=.tup [.bytes D.note.1,.bytes D.note.2,.bytes D.bH.1,.bytes D.bH.2]
noncomputable def mz(i:Nat):CV:=.bytes (fS i)
noncomputable def nH:Option Nat→CV
 |none=>.none
 |some n=>.int n
noncomputable def Jv(W:St)(la:Addr)(o:Option (List UInt8)):Prop:=match o with
  |none=>W la=some (.list [])
  |some dT=>∃en ed,W la=some (.list [.loc en])∧bP W en 274 ed (uE dT)
theorem ah4{k:Nat}(h:D.bH∈nG)(hk:k<4):(jJ D.bH k).Ok:=by
 refine⟨ey (Nat.add_lt_add_left hk 5) (by decide),?_⟩
 have:∀w∈nG,(jJ w k).name.length≤100∧(jJ w k).ig.length≤100∧(jJ w k).zone.length≤100:=λw hw=>(show∀w∈nG,w.1.length≤100∧w.2.length≤100∧Vi.length≤100 by decide) w hw
 exact this _ h
theorem ah5{n:List UInt8×List UInt8}(h:n∈j7):n.1.length≤1000:=(show∀n∈j7,n.1.length≤1000 by decide) n h
theorem ah6{O:Objs}{o:Option (List UInt8)}{n:Option Nat}(hO:O.length≤60)(hc:rb O o n):∀x,o=some x→∃n,0<n∧n<256∧x=fR n:=λx e=>by
 unfold rb at hc
 cases hD:n with
 |none=>rw[hD]at hc;exact bo (hc.symm.trans e)
 |some n=>
  rw[hD]at hc;obtain⟨bi,g1,g2,g3⟩:=hc;obtain rfl:=bt (g2.symm.trans e)
  exact⟨bi+1,nU _,by exact l1 g1 (by simp+arith only),rfl⟩
theorem ah7{W σ:St}{d c:Addr}{T:Nat}{A:gv}{O:Objs}{il tl w6:Addr}{o:Option (List UInt8)}{K:dy→aL→St→Prop}
  (h:Wk W σ d c T A O il tl (is.map mz) (Ds.map kR))(w:fI W O is Ds)(hl:O.length≤3*is.length+1)(hk:is.length<4)(ok:D.Ok is.length)(he:Jv W la o)(hc:rb O o D.cnt)
  (fT:times.length≤4)(oP:W w6=some (.list (times.map nI)))(Ju:times[is.length]?=some D.time)(gU:W ra=some (.list (D.row.map nI)))
  (w7:e 131=some (.loc A.st))(Dx:e 14=some (.loc il))(Vv:e 85=some (.loc tl))(uH:e 133=some (.loc w6))(e1:e 1=some (.int is.length))(Vw:e 27=some (.loc ra))(zN:e 68=some (sX D.note))(zO:e 33=some (sX D.bH))(Vx:e 176=some (.loc la))
  (q:∀W' ae O' i e',aF aS W W'→Wk W' ae d c T A O' il tl ((is++[i]).map mz) ((Ds++[D]).map kR)→fI W' O' (is++[i]) (Ds++[D])→O'.length≤3*is.length+3→cx [144,165,87] e e'→K .next e' ae):
  (ah (gO [144,165] (b8 (ag (aY (eV 232 tT) (ag (bc (af 33) (au (.int 0))) (ag (bc (af 33) (au (.int 1))) (ag (be .Add (au (.int 5)) (af 1)) (ag (au (.bytes [43,48,48,48,48])) ar))))) (ag (aY (eV 232 tT) (ag (au (.bytes [90])) (ag (au (.bytes [122,64,122])) (ag (bc (af 133) (af 1)) (ag (au (.bytes [43,48,49,51,48])) ar))))) ar)))) (ah (aP (bN 539 235 yn (af 131) (ag (aY (eV 323 yb) (ag (af 176) ar)) ar)) (aName 87)) (ah (cw (bJ cD cN (af 14) (ag (bN 539 257 Br (af 131) (ag (aY (eV 391 yc) (ag (af 87) (ag (cT [(3,.local),(0,.local),(14,.free)] (bO (af 27)) (aName 0) de (bc (af 14) (af 0))) (ag (af 144) (ag (af 165) (ag (eList ar) (ag (bc (af 68) (au (.int 0))) ar))))))) ar)) ar))) (ah (cw (bJ cD cN (af 85) (ag (be .Add (af 68) (af 33)) ar))) az)))) e σ K:=by
 have c4:is.length≤3:=AD hk;refine BM<|show b8 _ _ _ _ from jA<|cu (.cons (.item (.var zO) .val .tup) (.cons (.item (.var zO) .val .tup) (.cons (.to (.bin .val .var .add) rfl) (.one .val))))<|Vs (p:=jJ D.bH is.length) ⟨λal ad ao Jw uI hA P1=>?_⟩;refine bF ((h.ext P1).sW hA (h.nm Jw) (h.nm uI)) λW1 ik hA1 h1=>?_
 refine dH<|cu (.cons .val (.cons .val (.cons (.item .var .var (.li (by rw[dM,Ju];rfl) (by rw[aZ];exact cB fT rfl) (h1.dk.fr.at (ik.at oP)))) (.one .val))))<|Vs (p:=sU D.time) ⟨λcl iJ ay rh Vy hC P2=>?_⟩
 refine bF ((h1.ext P2).sW hC (h1.nm rh) (h1.nm Vy)) λW2 cJ hC2 h2=>?_
 refine⟨by exact cG rfl,_,rfl,rfl,cy<|sj .var h2.S.s.fi<|dH<|cu (.one .var)<|ahY ⟨λt td aQ nt ntd hT P3=>?_⟩⟩
 clear P1 P2 hA hC Jw uI rh Vy;refine bF ((h2.ext P3).sW hT (h2.nm nt) (h2.nm ntd)) λW3 dU hT3 h3=>?_;have PW:=(ik.trans cJ).trans dU
 have TA:lI W3 t td la o:=⟨hT3,by
  unfold Jv at he
  induction o with
  |none=>exact PW.at he
  |some dT=>obtain⟨en,ed,g1,g2⟩:=he;exact⟨en,ed,PW.at g1,g2.a7 PW⟩⟩
 refine ahs h3.S (l2 hl (eN 3 hk) (by simp+arith only)) (TA.p0 h3.dk.fr) (ah6 h3.S.len hc) ⟨λbU O4 ti S4 p4 P4=>?_⟩
 have h4:=h3.put S4 P4;refine xa ((w.up PW).tree TA hc p4) λw4 T4=>?_;have Vz:=p4.len
 have Jx:O4.length≤3*is.length+2:=by exact l2 hl Vz.1 (by simp+arith only)
 have rl:=ok.len;have Sst:=h4.S.s.fi (i:=257);have VA:=h4.hi
 refine iA<|sv .var VA<|sj .var Sst<|dH<|jY<|jX .var<|jA<|md nI (λj=>mz (is.getD j 0)) (.li .var (h4.dk.fr.at (PW.at gU))) (cB rl rfl) (λj hj ce s hv=>.item .var .var (.li ?_ (by rw[aZ];exact cB (iQ hk) rfl) VA)) λpl fG Dy jo P5=>?_
 ·rw[dM,dG,bS (ok.row j hj)];rfl
 refine bF ((h4.ext P5).w5 jo (h4.nm Dy)) λW5 lM ah8 h5=>?_;refine jX .var<|jX .var<|jA<|dh .nil λel fH nel wO P6=>?_;refine bF ((h5.ext P6).w5 wO (h5.nm nel)) λW6 Jy VB h6=>?_;refine dH<|bV (.item (.var zN) .val .tup)<|ahZ ⟨λc cd nE nc ncd hC7 P7=>?_⟩;refine bF ((h6.ext P7).sW hC7 (h6.nm nc) (h6.nm ncd)) λW7 Jz hC h7=>?_;have Q5:aF aS W5 W7:=Jy.trans Jz;have Q3:aF aS W3 W7:=lM.trans Q5;have Q2:aF aS W2 W7:=dU.trans Q3;have pA:mw W7 al ad (jJ D.bH is.length):=hA1.a7 (cJ.trans Q2);have pC:mw W7 cl iJ (sU D.time):=hC2.a7 Q2
 have VC:W7 pl=some (.list ((my is D.row).map .bytes)):=by rw[Q5.at ah8];unfold my;rw[dp];rfl
 have fr:=h7.dk.fr
 have oC:(sU D.time).Ok:=⟨jN ok.time (by decide),cG rfl,cG rfl,cG rfl⟩
 refine aht h7.S (l2 (eN 3 hk) Jx (by simp+arith only)) (hC.a7 fr) (fr.at VC) (pA.a7 fr) (pC.a7 fr) (fr.at (Jz.at VB)) (ah4 ok.bH hk) oC (cG rfl) ⟨by rw[my,aZ];exact cB rl rfl,λp hp=>by rw[Jt _ _ p hp];decide⟩ (ah5 ok.note) ⟨λsR O8 i S8 p8 P8=>?_⟩
 have h8:=h7.put S8 P8
 refine xa ((w4.up Q3).put hk ok hC VC pA pC (Jz.at VB) (l3 (eN 3 hk) Vz.2 Jx (by simp+arith only)) (T4.ext Q3 λz z h=>h) p8) λw8 aq=>?_;subst aq
 refine tY (u:=O4.length) h8.hi (cB (iQ hk) rfl) λuJ hi9 u9=>?_;have h9:=h8.ah2 hi9 u9
 refine su kR D .var (.bin (.var zN) (.var zO) (.BI (λe=>og e) (λe=>og e) (cG rfl))) h9.ht (by have:=w.len;exact l2 hk (er this) (by simp+arith only)) λDz ah9 u10=>bp ?_
 exact q W7 _ O8 O4.length _ (PW.trans Q3) (h9.ah3 ah9 u10) w8 (by have:=p8.len;exact l2 Jx this.1 (by simp+arith only)) (.set (.set (.set .refl)))
noncomputable def m6:List CV:=j7.map sX
noncomputable def m7:List CV:=nG.map sX
noncomputable def JA(n:Nat)(counts:List (Option Nat)):Prop:=counts.length=n∧∀m,some m∈counts→m<3
structure JB(Ds:List Cd)(rows:List (List Nat))(times:List Nat)(counts:List (Option Nat)):Prop where
 r:Ds.map (λx=>x.row)=rows
 t:Ds.map (λx=>x.time)=times
 c:Ds.map (λx=>x.cnt)=counts
theorem aia:∀k,k<4→∀r∈uF k,(∀j∈r,j<k)∧r.length≤4:=by decide+kernel
theorem take_snoc{α:Type}{l:List α}{k:Nat}{x:α}(h:l[k]?=some x):l.take (k+1)=l.take k++[x]:=by
 rw[Lv,h];rfl
theorem Wk.sY{W:St}{c:Addr}{T:Nat}{A:gv}{ids gy vs:List CV}(h:Wk W σ d c T A O il tl ids gy)(ha:σ a=some (.list vs))(n:Nm A d c il tl a)(hw:W a=none)(p:aF (one a) σ ae):Wk W ae d c T A O il tl ids gy:=by
 have S:=h.S
 have k:∀{b o},σ b=some o→(∀x,o≠.list x)→¬one a b:=λ{b o} e n x=>by obtain rfl:=x.symm;obtain rfl:=bt (ha.symm.trans e);exact n _ rfl
 exact⟨h.dk.other p λb e=>by obtain rfl:=e.symm;exact⟨n.d,n.c,hw⟩,⟨S.s.a7 p (k S.s.1 (λz e=>nomatch e)) (k S.s.2 (λz e=>nomatch e)),S.h.a7 p (k S.h.1 (λz e=>nomatch e)) (k S.h.2 (λz e=>nomatch e)),p.at S.kn (k S.kn (λz e=>nomatch e)),p.at S.kp (k S.kp (λz e=>nomatch e)),S.len,S.nd,S.ne⟩,
  p.at h.hi (λe=>n.il e.symm),p.at h.ht (λe=>n.tl e.symm),h.wi,h.wt,h.wn⟩
theorem Dk.all{W:St}{c:Addr}{T:Nat}(h:Dk W σ d c T):∃W',aF aS W W'∧(∀{a o},σ a=some o→a≠d→a≠c→W' a=some o)∧Dk W' σ d c T:=by
 refine⟨λa=>if a=d∨a=c then none else σ a,λa o e z=>?_,λ{a o} e n1 n2=>?_,h.dk,λa o e z=>?_,if_pos (.inl rfl),if_pos (.inr rfl)⟩
 ·exact(if_neg λx=>x.elim (h.Vd e).1 (h.Vd e).2).trans (h.fr.at e)
 ·exact(if_neg λx=>x.elim n1 n2).trans e
 ·have e:(if a=d∨a=c then none else σ a)=some o:=e
  split at e
  ·exact bo e
  ·exact e
theorem VD{m:Nat}(h:m<3):(qr m [(107:UInt8)]).flatten.length≤2∧(kB m).length≤100000:=
 match m,h with
 |0,_=>by decide
 |1,_=>by decide
 |2,_=>by decide
theorem aib{W:St}{c w6:Addr}{T n:Nat}{rows:List (List Nat)}
  (h:Dk W σ d c T)(hT:T≤900)(hN:W 1003=some (.ro m6))(hP:W 1007=some (.ro m7))(hR:j6 W rl rows)(ro:lJ rows)(rn:rows.length=n)(n4:n≤4)(oP:W w6=some (.list (times.map nI)))(to:wX n times)(g8:W cl=some (.list (counts.map nH)))(co:JA n counts)
  (q:bI (∀W' ae A O is Ds il tl,aF aS W W'→fI W' O is Ds→eE W' A O→JB Ds rows times counts→W' il=some (.list (is.map mz))→W' tl=some (.list (Ds.map kR))→Dk W' ae d c (T+8)→Q (.tup [.loc A.st,.loc il,.loc tl]) ae)):
  Bz [.loc d,.loc rl,.loc w6,.loc cl] [] σ Q:=by
 obtain⟨c9,cI,RI⟩:=hR;refine df<|Pr<|jY<|dH<|cu (.one .val)<|ah0 ⟨λha had kn ao uK iH ij P1=>ah1 ⟨λsa sd kp ay JC iS zt P2=>?_⟩⟩;refine dh .nil λil aQ nil jE P3=>dh .nil λtl bU zP fT P4=>?_
 obtain⟨A,eA,h0⟩:∃A:gv,sa=A.st∧Wk W bU d c T A [] il tl [] []:=by
  have D1:=h.ext P1;have D2:=D1.ext P2;have D3:=D2.ext P3;refine⟨⟨sa,sd,ha,had,kn,kp⟩,rfl,D3.ext P4,⟨(iS.a7 P3).a7 P4,((iH.a7 P2).a7 P3).a7 P4,P4.at (P3.at (P2.at ij)),P4.at (P3.at zt),dE _,.nil,gK JC ij⟩,P4.at jE,fT,⟨D2.nw nil,(D2.new nil).1,(D2.new nil).2⟩,⟨D3.nw zP,(D3.new zP).1,(D3.new zP).2,gK zP jE⟩,h.nw uK,D1.nw JC⟩
 subst eA;clear P1 P2 P3 P4 ij zt iH iS jE fT uK JC nil zP;have w0:fI W [] [] []:=⟨rfl,λy y h=>(bo h),λy y y h=>(bo h),λy y h=>(bo h),Y1,λy h=>(cA h)⟩
 refine PN .var (h0.dk.fr.at cI) λok bw=>Hr [1,27,33,68,176,144,165,87] (λk e ae=>∃W' O is Ds,is.length=k∧aF aS W W'∧Wk W' ae d c (T+2*k) A O il tl (is.map mz) (Ds.map kR)∧fI W' O is Ds∧O.length≤3*k∧JB Ds (rows.take k) (times.take k) (counts.take k))
  ⟨W,[],[],[],rfl,.refl _ _,h0,w0,dE _,⟨rfl,rfl,rfl⟩⟩ (λk v e ae hv s z=>?_) λe ae s z=>?_
 ·refine Fs z λW' O is Ds aq PW h1 w lO wo=>?_;clear z;subst aq
  refine⟨bw _ (h1.dk.fr.at (PW.at cI)),λK kk=>?_⟩;refine a9 (tg.1 (dM▸hv)) λr hr aq=>?_;obtain rfl:=aq;have gh:=RI.len;have qY:=(iL.1 hr).1
  have i7:is.length<rows.length:=by exact ey qY (el gh)
  have k4:is.length<4:=by exact l4 n4 qY (el rn) (el gh) (by simp+arith only)
  have gU:=RI.at_ _ _ _ hr (bS i7)
  have VE:is.length<times.length:=by have:=to.1;exact l4 qY (el rn) (el gh) (er this) (by simp+arith only)
  have wF:is.length<counts.length:=by have:=co.1;exact l4 qY (el rn) (el gh) (er this) (by simp+arith only)
  have JD:counts.length≤4:=by have:=co.1;exact aR (el this) n4
  refine vY<|cu (.two .var .glob)<|zF h1.dk (l2 hT (eN 2 k4) (by simp+arith only)) (.inr (h1.dk.fr.at (PW.at hN))) (by decide) (by decide) ⟨λni nv fG VF D5 P5=>?_⟩
  have h2:=h1.draw D5 P5;refine a9 (dD.1 (tj VF)) λnote aic aq=>?_;subst aq
  refine cu (.two .var .glob)<|zF h2.dk (l2 hT (eN 2 k4) (by simp+arith only)) (.inr (h2.dk.fr.at (PW.at hP))) (by decide) (by decide) ⟨λwi wv fH VG D6 P6=>?_⟩
  have h3:=h2.draw D6 P6;refine a9 (dD.1 (tj VG)) λbH aid aq=>?_;subst aq;refine cy<|dh .nil λla nE lN c6 P7=>?_;clear D5 P5 D6 P6 VF VG;have h4:=h3.ext P7;have zQ:=h3.nm lN;have ecl:nE cl=some (.list (counts.map nH)):=h4.dk.fr.at (PW.at g8)
  have okD:(⟨rows[is.length],times[is.length],counts[is.length],note,bH⟩:Cd).Ok is.length:=by
   have hr:=aia _ k4 _ (ro _ _ (bS i7))
   exact⟨hr.1,hr.2,to.2 _ (vv _),λm hm=>co.2 m (by rw[←hm];exact vv _),aic,aid⟩
  have rc:It (.loc cl) (.int is.length) nE (nH counts[is.length]):=.li (by rw[dM,bS wF];rfl) (by rw[aZ];exact cB JD rfl) ecl
  have tail:=λ{W3 aQ O3 o e3} (dU:aF aS W' W3) (h:Wk W3 aQ d c (T+2*is.length+1+1) A O3 il tl (is.map mz) (Ds.map kR)) (w:fI W3 O3 is Ds) (hl:O3.length≤3*is.length+1) (he:Jv W3 la o) (hc:rb O3 o counts[is.length]) (w7:e3 131=some (.loc A.st)) (Dx:e3 14=some (.loc il)) (Vv:e3 85=some (.loc tl)) (uH:e3 133=some (.loc w6)) (e1:e3 1=some (.int is.length)) (Vw:e3 27=some (.loc r)) (zN:e3 68=some (sX note)) (zO:e3 33=some (sX bH)) (Vx:e3 176=some (.loc la)) (s3:cx [1,27,33,68,176,144,165,87] _ e3)=>
   ah7 (K:=K) (e:=e3) (D:=⟨rows[is.length],times[is.length],counts[is.length],note,bH⟩) h w hl k4 okD he hc (by have:=to.1;exact aR (el this) n4) (dU.at (PW.at oP)) (bS VE) (dU.at (PW.at gU)) w7 Dx Vv uH e1 Vw zN zO Vx λW9 uJ O9 i9 e9 PW9 h9 w9 l9 he9=>
    kk.nx ⟨W9,O9,is++[i9],Ds++[_],bW,PW.trans (dU.trans PW9),h9,w9,l9,by rw[cR,wo.r,take_snoc (bS i7)];rfl,by rw[cR,wo.t,take_snoc (bS VE)];rfl,by rw[cR,wo.c,take_snoc (bS wF)];rfl⟩
     (λj hj=>by rw[he9 j (by
      rw[←Bool.not_eq_true,vp]at hj ⊢
      exact λh=>hj (.tail _ (.tail _ (.tail _ (.tail _ (.tail _ h))))))];exact s3 j hj)
  have s3:=(((s.set (i:=33) (v:=sX bH)).set (i:=68) (v:=sX note)).set (i:=176) (v:=.loc la))
  cases JE:counts[is.length]with
  |none=>
   rw[JE]at rc tail;refine bF (h4.w5 c6 zQ) λW8 VH hW8 h8=>?_
   exact e8 (.cmp (.item .var .var rc) .val .iY)<|bp<|tail (o:=none) VH h8 (w.up VH) (rG lO) hW8 rfl (s3.rd (j:=131) rfl rfl) (s3.rd (j:=14) rfl rfl) (s3.rd (j:=85) rfl rfl) (s3.rd (j:=133) rfl rfl) rfl rfl rfl rfl rfl s3
  |some m=>
   have DA:m<3:=co.2 m (by rw[←JE];exact vv _)
   rw[JE]at rc tail;have rc:It (.loc cl) (.int is.length) nE (.int m):=rc
   refine oB (.cmp (.item .var .var rc) .val .iY)<|iA<|sv .var c6<|jY<|jX .val<|jX .val<|dH<|eX .var h4.S.s.fi (.two .val (.bin (.bin .val (.item .var .var rc) (.BJ (λe=>og e) (by decide) (fX _) (ki.2 (aR (iQ DA) (by decide))))) .val (.lq (aR (iN (VD DA).1 1) (by decide))))) ?_
   rw[pe]
   refine ag9 h4.S (l3 lO (eN 3 wF) (eN 3 JD) (by simp+arith only)) (VD DA).2 ⟨λsR O8 i8 S8 p8 P8=>ahX ⟨λen ed uJ VI VJ hE P9=>?_⟩⟩
   have p8':kQ O (dF oN (kB m)) oN (.bytes (kB m)) O8 i8:=p8;refine xa (w.blob DA p8') λw8 B8=>?_;have JF:=p8.len;have h5:=h4.put S8 P8;have DB:=P8.at c6 (λx=>x.elim zQ.kn zQ.kp);refine wg (P9.at DB) (dE _) λDz aie u=>?_;have h7:=(h5.ext P9).sY (P9.at DB) zQ (h3.dk.nw lN) u;refine bF (h7.sW (hE.a7 u (λe=>gK VI DB e.symm) (λe=>gK VJ DB e.symm)) (h5.nm VI) (h5.nm VJ)) λW1 ik hE1 h8=>?_;refine bF (h8.w5 aie zQ) λW2 cJ aif h9=>?_;have VK:=ik.trans cJ
   exact bp<|tail (o:=some (fS i8)) VK h9 (w8.up VK) (l2 lO JF.1 (by simp+arith only)) ⟨en,ed,aif,hE1.a7 cJ⟩ ⟨i8,by exact l5 lO (eN 3 wF) (eN 3 JD) JF.1 JF.2 (by simp+arith only),rfl,B8⟩ (s3.rd (j:=131) rfl rfl) (s3.rd (j:=14) rfl rfl) (s3.rd (j:=85) rfl rfl) (s3.rd (j:=133) rfl rfl) rfl rfl rfl rfl rfl s3
 ·refine Fs z λW' O is Ds lk PW h1 w lO wo=>?_
  have gh:=RI.len
  have hn:(c9.map CV.loc).length=n:=by rw[aZ,gh,rn]
  rw[hn]at wo h1 lk lO;refine⟨bw _ (h1.dk.fr.at (PW.at cI)),bX (.tup (.three .var .var .var)) ?_⟩;have D:=h1.dk;refine gF D.hd λm t hd=>?_;refine xe D.hc λcs hc=>?_;refine bF D.all λW2 P2 F D2=>?_
  have f:∀{a o},ae a=some o→(∀x,o≠.dS x)→(∀x,o≠.list x)→W2 a=some o:=λ{a o} e n1 n2=>F e (λx=>by rw[x,hd]at e;cases e;exact n1 _ rfl) λx=>by rw[x,hc]at e;cases e;exact n2 _ rfl
  have S:=h1.S;have nS:∀{o:CO},(∀x,o≠.dS x)→(∀x,o≠.list x)→(∀x,o≠.dS x)∧(∀x,o≠.list x):=λa b=>⟨a,b⟩;have l2:=to.1;have l3:=co.1;rw[vo (rN rn),vo (rN l2),vo (rN l3)]at wo
  exact q.out W2 ae A O is Ds il tl (PW.trans P2) (w.up P2) ⟨⟨f S.s.1 (λy e=>nomatch e) (λy e=>nomatch e),f S.s.2 (λy e=>nomatch e) (λy e=>nomatch e)⟩,⟨f S.h.1 (λy e=>nomatch e) (λy e=>nomatch e),f S.h.2 (λy e=>nomatch e) (λy e=>nomatch e)⟩,f S.kn (λy e=>nomatch e) (λy e=>nomatch e),f S.kp (λy e=>nomatch e) (λy e=>nomatch e),S.len,S.nd,S.ne⟩ wo (F h1.hi h1.wi.2.1 h1.wi.2.2) (F h1.ht h1.wt.2.1 h1.wt.2.2.1) (D2.up (l1 (eN 2 n4) (by simp+arith only)))
noncomputable def fA:List Nat:=([3,91,107,108,134,162,163,168,169,187,231,232,273,274,322,323,390,391,538,539,587,588,608,609,642,643,704,705,760,761,809,810,817,818,957,958,999,1000,1001,1002,1003,1004,1005,1006,1007]++rows.flatMap λr:Nat×Nat×Ks×List Nat=>[r.1,r.1- 1])
noncomputable def GG(g:Nat→Option Obj):Frag:=fA.filterMap λa=>(g a).map λo=>(a,o)
noncomputable def fragOf(h:Heap):Frag:=GG h.get?
noncomputable def GH(S:tJ)(a:Nat):Option Obj:=match k9 a S.n with
 |true=>alive ((S.tree.get a).getD default)
 |false=>none
theorem acp(S:tJ)(a:Nat):S.abs.heap.get? a=GH S a:=by
 unfold GH
 cases e:k9 a S.n with
 |false=>exact abs_get_none (Nat.not_le_of_not_ble_eq_true λh=>nomatch h.symm.trans e)
 |true=>
  show(match(absHeap S.tree S.n S.life).objs[a]? with |some ⟨_,_,.freed,_⟩=>none |o=>o)=_
  rw[absHeap_at,if_pos (show a<S.n from cG e)];generalize(S.tree.get a).getD default=o;obtain⟨c,d,dt,sl⟩:=o;cases dt<;>rfl
theorem acq(h:Heap):(fragOf h).In h:=λa o e=>by
 have m:=lookup_mem e;obtain⟨b,_,hb⟩:=List.mem_filterMap.1 m;obtain⟨o',ho,e'⟩:=tg.1 hb;cases e';exact ho
noncomputable def O7(K:Frag)(p:Nat×Nat):Bool:=k9 p.2 nN&&plainGet K p.1 (nm p.2)&&hasDictIn K p.1&&(match findIn K (.ref p.1) (nm p.2)with |some a=>noGet K a |none=>false)&&
 (findIn K (.ref p.1) "__setattr__"==some (some (.builtin "object.__setattr__")))&&plainOver K p.1&&(takerIn K p.1 (nm p.2)==some none)
noncomputable def Pb(K:Frag)(p:(Nat×Nat)×Nat):Bool:=k9 p.1.2 nN&&plainGet K p.1.1 (nm p.1.2)&&(findIn K (.ref p.1.1) (nm p.1.2)==some (some (.ref p.2)))&&isFn K (.ref p.2)&&keepIn K (.ref p.2)
noncomputable def Pc(K:Frag)(p:Nat×Nat):Bool:=makesIn K p.1&&(findIn K (.ref p.1) "__init__"==some (some (.ref p.2)))&&isFn K (.ref p.2)&&keepIn K (.ref p.1)
noncomputable def obs(K:Frag):Bool:=(rows.all λr=>Bh K r.1 r.2.2.1 r.2.2.2)&&yo.all (O7 K)&&yp.all (Pb K)&&yq.all (Pc K)&&(nsIn K nV (fK "law")==some (some (.ref 1039)))
noncomputable def tU(K:Frag):Bool×List (List Stmt)×List (Option CV)×List (Option (List CV)):=(obs K,rows.map λr=>x9 K r.1,tP.map λp=>FF K p.1,(x8.map λd=>FG K d.1)++[pD K 1003,pD K 1007])
noncomputable def seen:Bool×List (List Stmt)×List (Option CV)×List (Option (List CV)):=(true,rows.map λr=>bd r.2.1,tP.map λp=>some p.2,(x8.map λd=>some d.2)++[some m6,some m7])
set_option maxHeartbeats 0 in
theorem acr(w:cM)(os:OsState):(vO w os).map (λS=>tU (GG (GH S)))=some seen:=by
 unfold vO;rw[ak3,ak4,ak5,ak6]
 kernel_rfl
theorem acs(w:cM)(os:OsState):(vO w os).map (λS=>tU (fragOf S.abs.heap))=some seen:=
 (congrArg (λf=>(vO w os).map f) (funext λS=>congrArg (λg=>tU (GG g)) (funext (acp S)))).trans (acr w os)
theorem acu{α β γ:Type}{X:Option α}{f:α→Bool×β×Unit}{g:α→γ}{b:β}{d:γ}(h1:X.map f=some (true,b,()))(h2:X.map g=some d):X.map (λS=>((f S).1,(f S).2.1,g S))=some (true,b,d):=by
 obtain⟨S,rfl,e⟩:=tg.1 h1;cases h2;rw[Option.map_some,e]
theorem acv:LeftO ot qv BA (λz=>true) (λs=>tU (fragOf s.heap)) (λz=>seen) 8000 true:=
 acw (boot_open rfl rfl λz=>rfl) acx acy λw os=>acu (acz w os) (acs w os)
set_option tactic.hygienic true
noncomputable def dc(is:List Nat)(k:Nat):List UInt8:=fS (is.getD k 0)
noncomputable def Inj(is:List Nat):Prop:=∀j k,j<is.length→k<is.length→dc is j=dc is k→j=k
theorem aih(hi:i<200)(hj:j<200)(h:fS i=fS j):i=j:=by
 have:=UT (l1 hi (by simp+arith only)) (l1 hj (by simp+arith only)) h;exact Nat.succ.inj this
theorem fI.inj{W:St}(h:fI W O is Ds)(hO:O.length≤60):Inj is:=by
 intro j k hj hk e;unfold dc at e
 have ej:is.getD j 0=is[j]:=by rw[dG,bS hj];rfl
 have ek:is.getD k 0=is[k]:=by rw[dG,bS hk];rfl
 rw[ej,ek]at e;have l1:=h.lt _ (vv hj);have l2:=h.lt _ (vv hk);have e:=aih (jQ l1 hO rfl) (jQ l2 hO rfl) e;have P:=List.pairwise_iff_getElem.1 h.inc
 rcases Nat.lt_trichotomy j k with g |g |g
 ·have:=P j k hj hk g;exact absurd e (iP this)
 ·exact g
 ·have:=P k j hk hj g;exact absurd e (vA this)
noncomputable def qe(is:List Nat)(l:List (Nat×CV)):List (List UInt8×CV):=l.map λp=>(dc is p.1,p.2)
theorem aii(is:List Nat)(l:List (Nat×CV)):(qe is l).length=l.length:=aZ ..
theorem DC(hi:Inj is){k:Nat}(hk:k<is.length):∀{l:List (Nat×CV)},(∀p∈l,p.1<is.length)→bB (qe is l) (dc is k)=bB l k
 |[],_=>rfl
 |p::l,h=>by
  have ih:=DC hi hk (l:=l) λq hq=>h q (.tail _ hq);unfold bB qe at ih ⊢;rw[gB,rM,rM]
  by_cases e:p.1=k
  ·simp[e]
  ·have:dc is p.1≠dc is k:=λz=>e (hi _ _ (h p (.head _)) hk z)
   simp only[this,e,decide_false];exact ih
theorem aij(hi:Inj is){k:Nat}(hk:k<is.length)(v:CV){l:List (Nat×CV)}(h:∀p∈l,p.1<is.length):bY (qe is l) (dc is k) v=qe is (bY l k v):=by
 have e:∀p∈l,(dc is p.1=dc is k)=(p.1=k):=λp hp=>propext ⟨λz=>hi _ _ (h p hp) hk z,λz=>by rw[z]⟩
 have ea:(qe is l).any (λkv=>kv.1=dc is k)=l.any (λkv=>kv.1=k):=by
  unfold qe;rw[List.any_map];rw[rL,vw,vw]
  constructor
  ·rintro⟨p,hp,z⟩;exact⟨p,hp,by simpa[e p hp]using z⟩
  ·rintro⟨p,hp,z⟩;exact⟨p,hp,by simpa[e p hp]using z⟩
 unfold bY;rw[ea]
 split
 ·unfold qe
  rw[dp,dp];refine pb λp hp=>?_
  show(if dc is p.1=dc is k then _ else _)=_
  simp only[e p hp,Mf]
  split
  ·rename_i g;simp[g]
  ·rfl
 ·unfold qe;rw[cR];rfl
theorem VL{n k:Nat}{v:CV}{l:List (Nat×CV)}(h:∀p∈l,p.1<n)(hk:k<n):∀p∈bY l k v,p.1<n:=λp hp=>by
 unfold bY at hp
 split at hp
 ·refine a9 (dD.1 hp) λq hq aq=>?_;subst aq
  by_cases e:q.1=k
  ·simp[e];exact hk
  ·simp[e];exact h q hq
 ·rcases fY.1 hp with hp |hp
  ·exact h p hp
  ·rw[cL.1 hp];exact hk
theorem uL{κ:Type}[DecidableEq κ]{k j:κ}{v:CV}:∀{l:List (κ×CV)},bB (bY l k v) j=if j=k then some v else bB l j:=by
 intro l;unfold bY
 split
 ·rename_i ha
  induction l with
  |nil=>simp at ha
  |cons p l ih=>
   unfold bB at ih ⊢;rw[gB,rM,rM]
   by_cases e:p.1=k
   ·rw[if_pos e]
    by_cases ej:j=k
    ·simp[ej,e]
    ·have hk:¬p.1=j:=λz=>ej (by rw[←z,e])
     simp only[hk,e,decide_false,if_neg ej]
     by_cases uM:l.any (λkv=>kv.1=k)
     ·have:=ih uM
      rw[if_neg ej]at this;have c4:¬k=j:=λz=>ej z.symm;simp only[c4,decide_false]at*
      exact this
     ·have:l.map (λkv=>if kv.1=k then(kv.1,v)else kv)=l:=by
       conv=>rhs;rw[←List.map_id l]
       refine pb λq hq=>?_
       have:¬q.1=k:=λz=>uM (vw.2 ⟨q,hq,by simp[z]⟩)
       rw[if_neg this];rfl
      have c4:¬k=j:=λz=>ej z.symm
      simp only[c4,decide_false,this]
   ·rw[if_neg e]
    have uM:l.any (λkv=>kv.1=k)=true:=by
     simp only[xP,e,decide_false,Bool.false_or]at ha;exact ha
    by_cases ej:p.1=j
    ·have:¬j=k:=λz=>e (by rw[ej,z])
     simp[ej,this]
    ·simp only[ej,decide_false]
     exact ih uM
 ·rename_i ha
  unfold bB;rw[List.find?_append]
  by_cases ej:j=k
  ·subst ej
   have:l.find? (λkv=>decide (kv.1=j))=none:=by
    rw[Ls];intro q hq z;exact ha (vw.2 ⟨q,hq,z⟩)
   simp[this]
  ·have c4:¬k=j:=λz=>ej z.symm
   simp[ej,c4]
theorem oQ:∀(n:Nat) (l:List Nat),l.Nodup→(∀x∈l,x<n)→l.length≤n
 |0,[],_,_=>cP _
 |0,x::l,_,h=>absurd (h x (.head _)) (xN _)
 |n+1,l,hn,h=>by
  have h1:=oQ n (l.erase n) (hn.erase n) λx hx=>by
   have y:=(List.Nodup.mem_erase_iff hn).1 hx;have:=h x y.2;exact Nat.lt_of_le_of_ne (AD this) y.1
  by_cases hm:n∈l
  ·have:=YE hm;exact Nat.le_add_of_sub_le (this▸h1)
  ·rw[List.erase_of_not_mem hm]at h1;exact rG h1
set_option tactic.hygienic false
structure DI(σ:St)(is:List Nat)(a:Addr)(l:List (Nat×CV)):Prop where
 at_:σ a=some (.dB (qe is l))
 lt:∀p∈l,p.1<is.length
 len:l.length≤100
theorem DI.a7{X:Addr→Prop}{σ:St}{l:List (Nat×CV)}(h:DI σ is a l)(p:aF X σ ae)(n:autoParam (¬X a) aX):DI ae is a l:=⟨p.at h.at_ n,h.lt,h.len⟩
theorem Cm.JG{σ:St}{a k:Nat}{l:List (Nat×CV)}(hi:Inj is)(h:DI σ is a l)(hk:k<is.length):Cm .NotIn (.bytes (dc is k)) (.loc a) σ (!(bB l k).isSome):=DC hi hk h.lt▸.oy (.dB h.at_)
theorem Cm.iD{σ:St}{a k:Nat}{l:List (Nat×CV)}(hi:Inj is)(h:DI σ is a l)(hk:k<is.length):Cm .In (.bytes (dc is k)) (.loc a) σ (bB l k).isSome:=DC hi hk h.lt▸.mem (.dB h.at_)
theorem It.id{σ:St}{a k:Nat}{l:List (Nat×CV)}{v:CV}(hi:Inj is)(h:DI σ is a l)(hk:k<is.length)(hv:bB l k=some v):It (.loc a) (.bytes (dc is k)) σ v:=.dB h.at_ (by rw[DC hi hk h.lt];exact hv)
theorem aik{k:Nat}{v:CV}(l:List (Nat×CV)):(bY l k v).length≤l.length+1:=by
 unfold bY
 split
 ·rw[aZ];exact nW _
 ·rw[bW];exact cP _
theorem JH{σ:St}{a k:Nat}{l:List (Nat×CV)}{v:CV}{P:St→Prop}(hi:Inj is)(h:DI σ is a l)(hk:k<is.length)(hl:l.length≤99)(q:∀ae,DI ae is a (bY l k v)→aF (one a) σ ae→P ae):lx (.loc a) (.bytes (dc is k)) v σ P:=
 BX h.at_ (by rw[aii];exact aR h.len (by decide)) λae g p=>q ae ⟨by rw[g,aij hi hk v h.lt],VL h.lt hk,aR (aik l) (qn hl)⟩ p
section
variable{σ:St}{A:gv}{O:Objs}{i:Nat}{x kind:List UInt8}{cW:CV}
theorem ail(S:eE σ A O)(h:O[i]?=some (x,kind,cW)):Fn F6 [.loc A.st,.bytes (fS i)] σ (.tup [.bytes kind,cW]):=λQ q=>by
 have hl:=S.len;have hi:=(iL.1 h).1
 have hg:bB (qc O) (fS i)=some (.tup [.bytes kind,cW]):=by unfold fS;rw[Dq (jQ hi hl rfl) (l1 hl (by simp+arith only)),h];rfl
 have Ss:=S.s
 exact df<|e8 (.to (.cmp .var (.attr .var .ins) (.GY S.kp)) (by rw[hg];rfl))<|bp<|bX (.item (.attr .var .ins) .var (.dB S.kp hg)) q
theorem JI(S:eE σ A O)(h:O[i]?=some (x,kind,cW)):Fn ye [.loc A.st,.bytes (fS i),.bytes kind] σ cW:=λQ q=>
 df<|BO (.jy .var S.s.fi (.one .var) (ail S h))<|e8 (.to (.cmp .var .var .B9) (by rw[decide_eq_true rfl];rfl))<|bp<|bX .var q
theorem aim(S:eE σ A O)(h:O[i]?=some (x,oN,cW)):Fn F7 [.loc A.st,.bytes (fS i)] σ cW:=λQ q=>df<|bX (.jy .var S.s.fi (.two .var .glob) (JI S h)) q
theorem ain(S:eE σ A O)(h:O[i]?=some (x,q9,cW)):Fn F8 [.loc A.st,.bytes (fS i)] σ cW:=λQ q=>df<|bX (.jy .var S.s.fi (.two .var .glob) (JI S h)) q
theorem JJ(S:eE σ A O)(h:O[i]?=some (x,lL,cW)):Fn yf [.loc A.st,.bytes (fS i)] σ cW:=λQ q=>df<|bX (.jy .var S.s.fi (.two .var .glob) (JI S h)) q
end
structure Row where
 r:Int
 c:Nat
 w:CV
noncomputable def qV(x:Row):CV:=.tup [.int x.r,.int x.c,x.w]
noncomputable def Row.lt(x y:Row):Bool:=lexLt x.r x.c y.r y.c
noncomputable def Row.le(x y:Row):Bool:=lexLe x.r x.c y.r y.c
noncomputable def DD(l:Addr)(b9:Nat):List (Nat×CV):=[(76,.loc l),(43,.int b9)]
structure lP(σ:St)(q qd l:Addr)(b9:Nat)(h:List Row):Prop where
 q:bP σ q 588 qd (DD l b9)
 l:σ l=some (.list (h.map qV))
noncomputable def ja:Row:=⟨0,0,.none⟩
noncomputable def oR(h:List Row)(a b:Nat):List Row:=(h.set a (h.getD b ja)).set b (h.getD a ja)
noncomputable def up:Nat→List Row→Nat→List Row
 |0,h,_=>h
 |k+1,h,at_=>if at_=0 then h else if Row.le (h.getD ((at_- 1)/2) ja) (h.getD at_ ja)then h else up k (oR h ((at_- 1)/2) at_) ((at_- 1)/2)
theorem uN(h:List Row)(a b:Nat):(oR h a b).length=h.length:=by simp[oR]
theorem It.q{h:List Row}(hl:σ l=some (.list (h.map qV)))(hh:h.length≤100)(hi:i<h.length):It (.loc l) (.int i) σ (qV (h.getD i ja)):=
 .li (by rw[dM,bS hi,dG,bS hi];rfl) (by rw[aZ];exact aR hh (by decide)) hl
theorem Ev.DG{m:EM}{x:Row}(h:Ev m e σ (qV x)):Ev (jW m (au (.int 2))) e σ (.tup [.int x.r,.int x.c]):=λQ q=>h _ ⟨2,rfl,.tup (vs:=[.int x.r,.int x.c,x.w]) (cP 3) (cG rfl) q⟩
theorem zR{h:List Row}{x:Row}{P:St→Prop}(hl:σ l=some (.list (h.map qV)))(hh:h.length≤100)(hi:i<h.length)(q:∀ae,ae l=some (.list ((h.set i x).map qV))→aF (one l) σ ae→P ae):lx (.loc l) (.int i) (qV x) σ P:=
 fsL hl (by rw[aZ];exact hi) (by rw[aZ];exact aR hh (by decide)) λae g p=>q ae (by rw[g,List.map_set]) p
theorem aio(h:bP σ a 588 d [])(q:bI (∀l ae,σ l=none→lP ae a d l 0 []→aF (one d) σ ae→Q .none ae)):yg [.loc a] [] σ Q:=
 qE λe he=>vW<|dh .nil λl ao hn hl P1=>bV .var<|sk (h.a7 P1) λay h2 P2=>fE .val he h2 λaQ h3 P3=>bp (q.out l aQ hn ⟨h3,P3.at (P2.at hl (gK hn h.2).symm) (gK hn h.2).symm⟩ (P1.pn (P2.trans P3)))
theorem VN(q:bI (∀a d l ae,σ a=none→σ d=none→σ l=none→lP ae a d l 0 []→aF aS σ ae→Q (.loc a) ae)):eV 588 yg [] [] σ Q:=
 pL λa d ao na nd i1 P1=>aio i1 ⟨λl ay nl i2 P2=>⟨rfl,q.out a d l ay na nd (P1.no nl) i2 (P1.sn P2 nd)⟩⟩
theorem aip{q:Addr}{h:List Row}(H:lP σ q qd l b9 h)(hl:h.length≤100):Fn yh [.loc q] σ (.int h.length):=λQ k=>by
 have Hq:=H.q
 exact df<|bX (.call (.one (.attr .var .ins)) (.len (by rw[aZ];exact aR hl (by decide)) H.l)) (by rw[aZ];exact k)
theorem aiq{q:Addr}{h:List Row}{rank:Int}{w:CV}(H:lP σ q qd l b9 h)(hl:h.length≤3)
  (k:bI (∀ae,lP ae q qd l (b9+1) (up 4 (h++[⟨-rank,b9,w⟩]) h.length)→aF (two qd l) σ ae→Q .none ae)):qB [.loc q,.int rank,w] [] σ Q:=by
 have n1:q≠l:=λe=>(by have:=H.q.1;rw[e,H.l]at this;cases this)
 have n2:qd≠l:=λe=>(by have:=H.q.2;rw[e,H.l]at this;cases this)
 have Hq:=H.q
 refine Pp λe he xb qO=>yH (.attr .var .ins) (.tup (.three (.neg .var) (.attr .var .ins) .var)) H.l (by rw[aZ];exact cB hl rfl) λao l1 u1=>?_
 have q1:=Hq.a7 u1 n1 n2
 have l1:ao l=some (.list ((h++[(⟨-rank,b9,w⟩:Row)]).map qV)):=by rw[l1,cR];rfl
 have h0:(h++[(⟨-rank,b9,w⟩:Row)]).length=h.length+1:=bW;refine show ah (H6 _ _ _ _) _ _ _ _ from bV .var<|atK .ins<|bV .val ⟨_,.add,sk q1 λay q2 P2=>?_⟩;have q2:bP ay q 588 qd (DD l (b9+1)):=q2
 refine gN (.to (.bin (.call (.one (.attr .var .ins)) (.len (by rw[aZ];exact l2 hl (el h0) (by simp+arith only)) (P2.at l1 n2.symm))) .val .sub) (show CV.int (((List.map qV _).length:Nat)- 1)=.int h.length by rw[aZ,h0];congr 1;exact xW _)) ?_
 generalize JK:up 4 (h++[(⟨-rank,b9,w⟩:Row)]) h.length=res at k;have l2:=P2.at l1 n2.symm;generalize h++[(⟨-rank,b9,w⟩:Row)]=h1 at*
 refine pP<|qG [4,96] (λf e ae=>∃h' at_,e 4=some (.int (at_:Nat))∧at_<f∧at_<h'.length∧h'.length=h.length+1∧up f h' at_=res∧bP ae q 588 qd (DD l (b9+1))∧ae l=some (.list (h'.map qV))∧aF (two qd l) σ ae) (n:=4)
  ⟨h1,h.length,rfl,by exact qn hl,by rw[h0];exact kX _,h0,JK,q2,l2,(u1.mono λo=>.inr).trans (P2.mono λo=>.inl)⟩ λf e' ae s z W hW=>?_
 obtain⟨h',at_,e4,hf,mq,hlen,uO,q',l',P'⟩:=z
 cases f with
 |zero=>exact absurd hf (xN _)
 |succ f=>
 refine sA (.cmp .var .val .gt) (λg=>?_) λg=>?_
 ·have g:0<at_:=dN.1 (of_decide_eq_true g)
  rw[up,if_neg (vA g)]at uO;have kN:(at_- 1)/2<at_:=Mq g
  have mA:h'.length≤100:=by exact l4 hl (el h0) (er h0) (el hlen) (by simp+arith only)
  have ed:((at_:Int)- 1).fdiv 2=(((at_- 1)/2:Nat):Int):=by rw[alf _ (by decide)];exact Mr g
  refine gN (.to (.bin (.bin .var .val .sub) .val (.fdiv (by decide) (by decide))) (congrArg CV.int ed)) ?_
  generalize(at_- 1)/2=ab at*;have DH:=jN kN mq
  refine fO (.cmp (.DG (.item (.attr .var .ins) .var (.q l' mA DH))) (.DG (.item (.attr .var .ins) (.var e4) (.q l' mA mq))) .lex) (λg=>?_) λg=>bp ?_
  ·rw[if_pos (show Row.le _ _=true from g)]at uO
   subst uO
   exact Pu (k.out _ ⟨q',l'⟩ P')
  ·rw[if_neg (show¬Row.le _ _=true from by rw[show Row.le _ _=false from g];exact gX)]at uO
   refine Pq (.tup (.two (.item (.attr .var .ins) (.var e4) (.q l' mA mq)) (.item (.attr .var .ins) .var (.q l' mA DH))))<|BN (.attr .var .ins) .var<|zR l' mA DH λaQ l3 u3=>?_;have q3:=q'.a7 u3 n1 n2
   refine BN (.attr .var .ins) (.var e4)<|zR l3 (by rw[E1];exact mA) (by rw[E1];exact mq) λbU l4 u4=>?_
   exact gN .var<|bp<|hW (kX f) ⟨oR h' ab at_,ab,rfl,ey kN (AD hf),by rw[uN];exact DH,by rw[uN];exact hlen,uO,q3.a7 u4 n1 n2,l4,(P'.trans (u3.mono λo=>.inr)).trans (u4.mono λo=>.inr)⟩
 ·have g:at_=0:=YI λh=>absurd (dN.2 h) (of_decide_eq_false g)
  rw[up,if_pos g]at uO;subst uO;exact k.out _ ⟨q',l'⟩ P'
set_option tactic.hygienic true
noncomputable def low(h:List Row)(l b:Nat):Nat:=if decide (b<h.length)&&Row.lt (h.getD b ja) (h.getD l ja)then b else l
noncomputable def mB(h:List Row)(a:Nat):Nat:=low h (low h a (2*a+1)) (2*a+2)
noncomputable def down:Nat→List Row→Nat→List Row
 |0,h,_=>h
 |k+1,h,a=>if mB h a=a then h else down k (oR h (mB h a) a) (mB h a)
theorem JL(h:List Row)(l b:Nat):low h l b=l∨(low h l b=b∧b<h.length):=by
 unfold low
 split
 ·rename_i g
  simp at g
  exact .inr ⟨rfl,g.1⟩
 ·exact .inl rfl
theorem VO(h:List Row)(a:Nat):mB h a=a∨(a<mB h a∧mB h a<h.length):=by
 unfold mB
 rcases JL h (low h a (2*a+1)) (2*a+2)with g |⟨g,l⟩
 ·rw[g]
  rcases JL h a (2*a+1)with g2 |⟨g2,l⟩
  ·exact .inl g2
  ·rw[g2];exact .inr ⟨by exact(by simp+arith only),l⟩
 ·rw[g];exact .inr ⟨by exact(by simp+arith only),l⟩
theorem VP{q:Addr}{h:List Row}{a b:Nat}{K:dy→aL→St→Prop}(H:lP σ q qd l b9 h)(hl:h.length≤100)(ha:a<h.length)(fg:e 78=some (.loc q))(JM:e 61=some (.int h.length))(VQ:e 113=some (.int a))(JN:e 100=some (.int b))
  (k:∀e',e' 113=some (.int (low h a b:Nat))→cx [113] e e'→K .next e' σ):
  ah (bC (bR (aT .Lt (af 100) (af 61)) (bR (aT .Lt (jW (bc (bf 76 (af 78)) (af 100)) (au (.int 2))) (jW (bc (bf 76 (af 78)) (af 113)) (au (.int 2)))) (cQ true))) (ah (aP (af 100) (aName 113)) az) az) az e σ K:=by
 have Hq:=H.q;refine fO (.and (.cmp (.var JN) (.var JM) .lt) λg=>.lp (.cmp (.DG (.item (.attr (.var fg) .ins) (.var JN) (.q H.l hl (dN.1 (of_decide_eq_true g))))) (.DG (.item (.attr (.var fg) .ins) (.var VQ) (.q H.l hl ha))) .Qh)) (λg=>?_) λg=>?_
 all_goals
  have ed:decide ((b:Int)<(h.length:Nat))=decide (b<h.length):=by rw[decide_eq_decide];exact dN
  rw[ed]at g
  change (decide (b<h.length)&&Row.lt (h.getD b ja) (h.getD a ja))=_ at g
 ·exact gN (.var JN)<|oA<|k _ (by unfold low;rw[g];rfl) (.set .refl)
 ·exact bp<|bp<|k _ (by unfold low;rw[g];exact VQ) .refl
theorem air{q:Addr}{h:List Row}(H:lP σ q qd l b9 h)(hl:h.length≤4)(h0:h≠[])
  (k:bI (∀ae,lP ae q qd l b9 (down 4 h 0)→aF (one l) σ ae→Q .none ae)):F9 [.loc q] [] σ Q:=by
 have n1:q≠l:=λe=>(by have:=H.q.1;rw[e,H.l]at this;cases this)
 have n2:qd≠l:=λe=>(by have:=H.q.2;rw[e,H.l]at this;cases this)
 have hp:=EN.2 h0;have Hq:=H.q;generalize JK:down 4 h 0=res at k
 refine qE λe fg=>vY<|bV .val<|bV (.to (.call (.one (.attr .var .ins)) (.len (by rw[aZ];exact cB hl rfl) H.l)) (by rw[aZ])) ?_
 refine pP<|qG [4,113,100] (λf e ae=>∃(h':List Row) (a:Nat),e 4=some (.int a)∧a<h'.length∧h'.length≤a+f∧h'.length=h.length∧down f h' a=res∧lP ae q qd l b9 h'∧aF (one l) σ ae) (n:=4) ⟨h,0,rfl,hp,by exact hl,rfl,JK,H,.refl _ _⟩ λf e' ae s z W hW=>?_
 obtain⟨h',a,e4,ha,hf,hlen,DJ,H',P'⟩:=z
 cases f with
 |zero=>exact absurd ha (Nat.not_lt.2 hf)
 |succ f=>
 have mA:h'.length≤100:=by exact xX hlen hl rfl
 have DK:e' 78=some (.loc q):=s.rd (j:=78) fg rfl
 have JO:e' 61=some (.int h'.length):=by rw[hlen];exact s.rd (j:=61) rfl rfl
 have Hq':=H'.q
 refine sA (.val .val) (λo=>gN (.var e4)<|Ho (.tup (.two (.to (.bin (.bin .val (.var e4) (.mul (by decide) (by decide))) .val .add) (show _=CV.int ((2*a+1:Nat):Int)from rfl)) (.to (.bin (.bin .val (.var e4) (.mul (by decide) (by decide))) .val .add) (show _=CV.int ((2*a+2:Nat):Int)from rfl)))) ⟨trivial,?_⟩) (λg=>iR g)
 refine VP H' mA ha DK JO rfl rfl λe1 f1 xb=>⟨trivial,?_⟩
 have j3:low h' a (2*a+1)<h'.length:=by rcases JL h' a (2*a+1)with g |⟨g,g2⟩<;>rw[g]<;>assumption
 refine VP H' mA j3 (xb.rd (j:=78) DK rfl) (xb.rd (j:=61) JO rfl) f1 rfl λe2 f2 qO=>⟨trivial,?_⟩;change e2 113=some (.int (mB h' a:Nat))at f2;have s2:cx [4,113,100] e' e2:=((((cx.set (i:=113) .refl).set (i:=100)).tr xb).set (i:=100)).tr qO;have s3:=s.tr s2;have qf:e2 78=some (.loc q):=s2.rd (j:=78) DK rfl;have f4:e2 4=some (.int a):=qO.rd (j:=4) (xb.rd (j:=4) e4 rfl) rfl;clear DK JO e4 s xb qO s2 f1
 refine fO (.cmp (.var f2) (.var f4) .eq) (λg=>?_) λg=>bp ?_
 ·have g:mB h' a=a:=AQ (of_decide_eq_true g)
  rw[down,if_pos g]at DJ;subst DJ
  exact Pu (k.out _ H' P')
 ·have g:¬mB h' a=a:=λx=>of_decide_eq_false g (congrArg Int.ofNat x)
  rw[down,if_neg g]at DJ;obtain⟨lt1,jQ⟩:=(VO h' a).resolve_left g;generalize mB h' a=b at*;refine Pq (.tup (.two (.item (.attr (.var qf) .ins) (.var f4) (.q H'.l mA ha)) (.item (.attr (.var qf) .ins) (.var f2) (.q H'.l mA jQ))))<|BN (.attr (.var qf) .ins) (.var f2)<|zR H'.l mA jQ λaQ l3 u3=>?_;have q3:=Hq'.a7 u3 n1 n2
  refine BN (.attr (.var qf) .ins) (.var f4)<|zR l3 (by rw[E1];exact mA) (by rw[E1];exact ha) λbU l4 u4=>?_
  exact gN (.var f2)<|bp<|hW (kX f) ⟨oR h' b a,b,rfl,by rw[uN];exact jQ,by rw[uN];exact l2 hf lt1 (by simp+arith only),by rw[uN];exact hlen,DJ,⟨q3.a7 u4 n1 n2,l4⟩,(P'.trans u3).trans u4⟩
noncomputable def uP(h:List Row):List Row:=match h.dropLast with
 |[]=>[]
 |x::xs=>down 4 ((x::xs).set 0 (h.getLastD ja)) 0
theorem ais{y:Row}{ys:List Row}{x:Row}:uP (y::ys++[x])=down 4 ((y::ys).set 0 x) 0:=by
 unfold uP;rw[List.dropLast_concat];show down 4 ((y::ys).set 0 ((y::ys++[x]).getLastD ja)) 0=_;rw[List.getLastD_concat]
theorem ait{q:Addr}{h:List Row}(H:lP σ q qd l b9 h)(hl:h.length≤4)(h0:h≠[])
  (k:bI (∀ae,lP ae q qd l b9 (uP h)→aF (one l) σ ae→Q (h.getD 0 ja).w ae)):yi [.loc q] [] σ Q:=by
 have n1:q≠l:=λe=>(by have:=H.q.1;rw[e,H.l]at this;cases this)
 have n2:qd≠l:=λe=>(by have:=H.q.2;rw[e,H.l]at this;cases this)
 have Hq:=H.q
 refine qE λe fg=>gN (.item (.attr .var .ins) .val (.q (i:=0) H.l (aR hl (by decide)) (EN.2 h0))) ?_
 obtain⟨xs,x,rfl⟩:∃xs x,h=xs++[x]:=⟨h.dropLast,h.getLast h0,(vj h0).symm⟩;rw[bW,mH]at hl
 refine cy<|pK (.attr .var .ins) ⟨_,_,rfl,H.l⟩ .nil<|BY (by rw[H.l,cR];rfl) (by rw[aZ];exact cB hl rfl) λao l1 u1=>?_
 have q1:=Hq.a7 u1 n1 n2;generalize(xs++[x]).getD 0 ja=first at*;have fin:∀{ay},lP ay q qd l b9 (uP (xs++[x]))→aF (one l) σ ay→ah (bh (bc (af 108) (au (.int 2)))) az (bz (bz e 108 (qV first)) 56 (qV x)) ay (bk Q):=λ{ay} H2 P2=>bX (.item .var .val (.tup (vs:=[.int first.r,.int first.c,first.w]))) (k.out ay H2 P2)
 refine BZ (.attr .var .ins) l1 (λg ay P2=>?_) λg ay P2=>?_
 ·induction xs with
  |nil=>exact absurd rfl g
  |cons y ys=>
   have q2:=q1.a7 P2
   have hy:((y::ys).set 0 x).length≤4:=by rw[E1];exact iQ hl
   refine lu .var (.attr .var .ins) .val<|zR (i:=0) (P2.at l1) (aR (AF hl) (by decide)) (nU _) λaQ l3 u3=>?_
   have q3:=q2.a7 u3 n1 n2
   exact iA<|eX .var q3.fi .nil<|air ⟨q3,l3⟩ hy (λe=>og e) ⟨λbU H4 P4=>bp<|fin (by rw[ais];exact H4) (((u1.nx P2).trans u3).trans P4)⟩
 ·have:xs=[]:=xH.1 g
  subst this;exact bp<|fin ⟨q1.a7 P2,P2.at l1⟩ (u1.nx P2)
theorem gd{h:List Row}(hi:i<h.length):h.getD i ja=h[i]:=by rw[dG,bS hi];rfl
theorem VR{h:List Row}{a b:Nat}(kN:a<b)(hb:b<h.length):(oR h a b).Perm h:=by
 unfold oR;rw[gd hb,gd (jN kN hb)];exact List.set_set_perm (jN kN hb) hb
theorem VS:∀(k:Nat) (h:List Row) (a:Nat),a<h.length→(up k h a).Perm h
 |0,h,a,_=>.refl _
 |k+1,h,a,ha=>by
  unfold up
  split
  ·exact .refl _
  ·split
   ·exact .refl _
   ·exact(VS k _ _ (by rw[uN];exact je (aR (Nat.div_le_self ..) (A2 ..)) ha)).trans (VR (Mq (Nat.pos_of_ne_zero (by assumption))) ha)
theorem aiu{h:List Row}{a b:Nat}(kN:a≠b):oR h b a=oR h a b:=by
 unfold oR;exact List.set_comm _ _ (λe=>kN e.symm)
theorem VT:∀(k:Nat) (h:List Row) (a:Nat),a<h.length→(down k h a).Perm h
 |0,h,a,_=>.refl _
 |k+1,h,a,ha=>by
  unfold down
  split
  ·exact .refl _
  ·rename_i hn
   obtain⟨l1,l2⟩:=(VO h a).resolve_left hn
   refine(VT k _ _ (by rw[uN];exact l2)).trans ?_
   rw[aiu (iP l1)];exact VR l1 l2
theorem aiv{h:List Row}(h0:h≠[]):(h.getD 0 ja::uP h).Perm h:=by
 obtain⟨xs,x,rfl⟩:∃xs x,h=xs++[x]:=⟨h.dropLast,h.getLast h0,(vj h0).symm⟩;unfold uP;rw[List.dropLast_concat]
 induction xs with
 |nil=>exact .refl _
 |cons y ys=>
  show(y::down 4 ((y::ys).set 0 ((y::ys++[x]).getLastD ja)) 0).Perm _;rw[List.getLastD_concat]
  refine((VT 4 _ 0 (by simp)).cons y).trans ?_
  show(y::x::ys).Perm (y::(ys++[x]));exact(List.perm_append_singleton x ys).symm.cons y
noncomputable def Le(x y:Row):Prop:=x.r<y.r∨(x.r=y.r∧x.c≤y.c)
theorem le_iff{x y:Row}:Row.le x y=true↔Le x y:=by
 unfold Row.le lexLe Le;simp
theorem Le.trans{x y z:Row}(h:Le x y)(k:Le y z):Le x z:=by unfold Le at*;exact h.elim (λa=>.inl (k.elim (λb=>pg a b) λb=>b.1▸a)) λa=>k.elim (λb=>.inl (a.1▸b)) λb=>.inr ⟨a.1.trans b.1,aR a.2 b.2⟩
theorem Le.xc{x y:Row}(h:¬Row.le x y=true):Le y x:=by rw[le_iff]at h;unfold Le at*;exact(Y3 x.r y.r).elim (λa=>(h (.inl a)).elim) λa=>a.elim (λa=>.inr ⟨a.symm,Nat.le_of_not_le λb=>h (.inr ⟨a,b⟩)⟩) .inl
theorem Le.lt{x y:Row}(h:Row.lt x y=true):Le x y:=by unfold Row.lt lexLt at h;unfold Le;simp at h;exact h.imp id λa=>⟨a.1,iQ a.2⟩
theorem Le.DL{x y:Row}(h:¬Row.lt x y=true):Le y x:=by unfold Row.lt lexLt at h;unfold Le;simp at h;exact(Int.lt_or_eq_of_le h.1).imp id λe=>⟨e,h.2 e.symm⟩
theorem Le.refl(x:Row):Le x x:=.inr ⟨rfl,cP _⟩
noncomputable def HeapOk:List Row→Prop
 |[]=>True
 |[_]=>True
 |[a,b]=>Le a b
 |[a,b,c]=>Le a b∧Le a c
 |[a,b,c,d]=>Le a b∧Le a c∧Le b d
 |_=>False
theorem aiw:∀{h:List Row},HeapOk h→∀x∈h,Le (h.getD 0 ja) x
 |[],_,_,h=>cA h
 |[a],_,x,h=>by rw[cL.1 h];exact .refl a
 |[a,b],H,x,h=>by
  rcases h with _ |⟨_,_ |⟨_,h⟩⟩
  ·exact .refl a
  ·exact H
  ·exact cA h
 |[a,b,c],H,x,h=>by
  rcases h with _ |⟨_,_ |⟨_,_ |⟨_,h⟩⟩⟩
  ·exact .refl a
  ·exact H.1
  ·exact H.2
  ·exact cA h
 |[a,b,c,d],H,x,h=>by
  rcases h with _ |⟨_,_ |⟨_,_ |⟨_,_ |⟨_,h⟩⟩⟩⟩
  ·exact .refl a
  ·exact H.1
  ·exact H.2.1
  ·exact H.1.trans H.2.2
  ·exact cA h
 |_::_::_::_::_::_,H,_,_=>H.elim
theorem aix{x:Row}:∀{h:List Row},HeapOk h→h.length≤3→HeapOk (up 4 (h++[x]) h.length)
 |[],_,_=>trivial
 |[a],H,_=>by
  show HeapOk (up 4 [a,x] 1)
  rw[up,if_neg (by decide:¬1=0)]
  split
  ·rename_i g;exact le_iff.1 g
  ·rename_i g;show HeapOk (up 3 [x,a] 0);rw[up,if_pos rfl];exact Le.xc g
 |[a,b],H,_=>by
  show HeapOk (up 4 [a,b,x] 2)
  rw[up,if_neg (by decide:¬2=0)]
  split
  ·rename_i g;exact⟨H,le_iff.1 g⟩
  ·rename_i g;show HeapOk (up 3 [x,b,a] 0);rw[up,if_pos rfl];exact⟨(Le.xc g).trans H,Le.xc g⟩
 |[a,b,c],H,_=>by
  show HeapOk (up 4 [a,b,c,x] 3)
  rw[up,if_neg (by decide:¬3=0)]
  split
  ·rename_i g;exact⟨H.1,H.2,le_iff.1 g⟩
  ·rename_i g
   show HeapOk (up 3 [a,x,c,b] 1)
   rw[up,if_neg (by decide:¬1=0)]
   split
   ·rename_i g2;exact⟨le_iff.1 g2,H.2,Le.xc g⟩
   ·rename_i g2;show HeapOk (up 2 [x,a,c,b] 0);rw[up,if_pos rfl];exact⟨Le.xc g2,(Le.xc g2).trans H.2,H.1⟩
 |_::_::_::_::_,_,hl=>absurd hl (λh=>nomatch (ED (ED (ED h))))
theorem aiy{x b:Row}:mB [x,b] 0=if Row.lt b x=true then 1 else 0:=by
 show low [x,b] (if Row.lt b x=true then 1 else 0) 2=_
 rfl
theorem aiz{x b c:Row}:mB [x,b,c] 0=if Row.lt b x=true then(if Row.lt c b=true then 2 else 1)else if Row.lt c x=true then 2 else 0:=by
 show low [x,b,c] (if Row.lt b x=true then 1 else 0) 2=_
 cases Row.lt b x<;>rfl
theorem aiA:∀{h:List Row},HeapOk h→h≠[]→HeapOk (uP h)
 |[],_,h0=>absurd rfl h0
 |[a],_,_=>trivial
 |[a,b],_,_=>trivial
 |[a,b,c],_,_=>by
  show HeapOk (down 4 [c,b] 0);rw[down,aiy]
  cases g:Row.lt b c with
  |true=>exact Le.lt g
  |false=>exact Le.DL (by rw[g];exact gX)
 |[a,b,c,d],_,_=>by
  show HeapOk (down 4 [d,b,c] 0);rw[down,aiz]
  cases g:Row.lt b d with
  |true=>
   have g:=Le.lt g
   cases g2:Row.lt c b with
   |true=>have g2:=Le.lt g2;exact⟨g2,g2.trans g⟩
   |false=>exact⟨g,Le.DL (x:=c) (y:=b) (by rw[g2];exact gX)⟩
  |false=>
   have g:Le d b:=Le.DL (by rw[g];exact gX)
   cases g2:Row.lt c d with
   |true=>have g2:=Le.lt g2;exact⟨g2.trans g,g2⟩
   |false=>exact⟨g,Le.DL (x:=c) (y:=d) (by rw[g2];exact gX)⟩
 |_::_::_::_::_::_,H,_=>H.elim
noncomputable def kT(t:Nat→Int):List Nat→Nat
 |[]=>0
 |k::ks=>(k::ks).foldl (λh j=>if t j>t h then j else h) k
noncomputable def uQ(t:Nat→Int)(cf:Nat→Nat)(ks:List Nat)(k:Nat):Prop:=k∈ks∧∀j∈ks,t j<t k∨(t j=t k∧cf k≤cf j)
theorem VU(t:Nat→Int)(cf:Nat→Nat):∀(ks done:List Nat) (b:Nat),uQ t cf done b→(done++ks).Pairwise (λa b=>cf a<cf b)→uQ t cf (done++ks) (ks.foldl (λh j=>if t j>t h then j else h) b)
 |[],done,b,h,_=>by simpa using h
 |k::ks,done,b,h,hp=>by
  rw[kh]
  have e:done++k::ks=(done++[k])++ks:=by simp
  rw[e]at hp ⊢;refine VU t cf ks (done++[k]) _ ?_ hp;have h1:=(Lo.1 (Lo.1 hp).1).2.2
  split
  ·rename_i g
   refine⟨by simp,λj hj=>?_⟩
   rcases fY.1 hj with hj |hj
   ·rcases h.2 j hj with z |⟨z,_⟩
    ·left;exact pg z g
    ·left;exact Lr (Int.le_of_eq z) g
   ·rw[cL.1 hj];exact .inr ⟨rfl,cP _⟩
  ·rename_i g
   refine⟨EG _ h.1,λj hj=>?_⟩
   rcases fY.1 hj with hj |hj
   ·exact h.2 j hj
   ·rw[cL.1 hj]
    have:=h1 b h.1 k (by simp)
    by_cases z:t k=t b
    ·exact .inr ⟨z,iQ this⟩
    ·left;exact Int.lt_iff_le_and_ne.2 ⟨nZ.1 g,z⟩
theorem aiB{ks:List Nat}(h0:ks≠[])(hp:ks.Pairwise (λa b=>cf a<cf b)):uQ t cf ks (kT t ks):=by
 induction ks with
 |nil=>exact absurd rfl h0
 |cons k ks=>
  show uQ t cf (k::ks) ((k::ks).foldl (λh j=>if t j>t h then j else h) k)
  rw[kh,if_neg (Int.lt_irrefl _)]
  have:=VU t cf ks [k] k ⟨by simp,λj hj=>by rw[cL.1 hj];exact .inr ⟨rfl,cP _⟩⟩ (by simpa using hp)
  simpa using this
theorem aiC{ks:List Nat}(hp:ks.Pairwise (λa b=>cf a<cf b)){a b:Nat}(ha:a∈ks)(hb:b∈ks)(h:cf a=cf b):a=b:=by
 induction ks with
 |nil=>exact cA ha
 |cons k ks ih=>
  rw[List.pairwise_cons]at hp
  rcases eO.1 ha with e |uM<;>rcases eO.1 hb with e' |jn
  ·rw[e,e']
  ·have:=hp.1 b jn;rw[e]at h;exact absurd h (iP this)
  ·have:=hp.1 a uM;rw[e']at h;exact absurd h (vA this)
  ·exact ih hp.2 uM jn
theorem aiD{ks:List Nat}(hp:ks.Pairwise (λa b=>cf a<cf b)){a b:Nat}(ha:uQ t cf ks a)(hb:uQ t cf ks b):a=b:=by
 have h1:=ha.2 b hb.1;have h2:=hb.2 a ha.1;exact aiC hp ha.1 hb.1 (h1.elim (λx=>h2.elim (λy=>absurd y (Int.lt_asymm x)) λy=>absurd x (y.1▸Int.lt_irrefl _)) λx=>h2.elim (λy=>absurd y (x.1▸Int.lt_irrefl _)) λy=>qq x.2 y.2)
noncomputable def ri(is:List Nat)(t:Nat→Int)(cf:Nat→Nat)(k:Nat):Row:=⟨-(t k),cf k,.bytes (dc is k)⟩
structure QS(σ:St)(is:List Nat)(q qd l:Addr)(t:Nat→Int)(b9:Nat)(ks:List Nat):Prop where
 at_:∃h cf,lP σ q qd l b9 h∧HeapOk h∧h.Perm (ks.map (ri is t cf))∧ks.Pairwise (λa b=>cf a<cf b)∧∀k∈ks,cf k<b9
theorem QS.inst{q:Addr}{ks:List Nat}(h:QS σ is q qd l t b9 ks):∃c,bP σ q 588 qd (DD l c)∧∃vs,σ l=some (.list vs):=by
 refine gH h.at_ λh cf H zz=>?_;exact⟨_,H.q,_,H.l⟩
theorem QS.a7{X:Addr→Prop}{q:Addr}{ks:List Nat}(h:QS σ is q qd l t b9 ks)(p:aF X σ ae)(n1:autoParam (¬X q) aX)(n2:autoParam (¬X qd) aX)(n3:autoParam (¬X l) aX):QS ae is q qd l t b9 ks:=by
 refine gH h.at_ λh cf H r=>?_;exact⟨h,cf,⟨H.q.a7 p n1 n2,p.at H.l n3⟩,r⟩
theorem VV{q:Addr}(H:lP σ q qd l 0 []):QS σ is q qd l t 0 []:=⟨[],λz=>0,H,trivial,.refl _,Y1,λz h=>by cases h⟩
theorem VW{q:Addr}{ks:List Nat}(h:QS σ is q qd l t b9 ks)(hl:ks.length≤4):Fn yh [.loc q] σ (.int ks.length):=by
 refine mX h.at_ λh cf H HO hp hw hc=>?_;have e:=hp.length_eq;rw[aZ]at e;rw[←e]at hl ⊢
 exact aip H (aR hl (by decide))
theorem VX{q:Addr}{ks:List Nat}{k:Nat}{rank:Int}(h:QS σ is q qd l t b9 ks)(hl:ks.length≤3)(hk:k∉ks)(hr:rank=t k)
  (z:bI (∀ae,QS ae is q qd l t (b9+1) (ks++[k])→aF (two qd l) σ ae→Q .none ae)):qB [.loc q,.int rank,.bytes (dc is k)] [] σ Q:=by
 subst hr;refine mX h.at_ λh cf H HO hp hw hc=>?_;have e:=hp.length_eq;rw[aZ]at e
 have zS:∀j∈ks,(λj=>if j=k then b9 else cf j) j=cf j:=λj hj=>by
  have:j≠k:=λe=>hk (e▸hj);simp[this]
 refine aiq H (aR (el e) hl) ⟨λae H' P=>z.out ae ⟨_,λj=>if j=k then b9 else cf j,H',aix HO (aR (el e) hl),?_,?_,?_⟩ P⟩
 ·refine(VS 4 _ _ (by simp)).trans ?_
  rw[cR]
  have e1:ks.map (ri is t λj=>if j=k then b9 else cf j)=ks.map (ri is t cf):=pb λj hj=>by unfold ri;rw[zS j hj]
  rw[e1]
  have e2:[k].map (ri is t λj=>if j=k then b9 else cf j)=[⟨-(t k),b9,.bytes (dc is k)⟩]:=by simp[ri]
  rw[e2]
  exact hp.append_right _
 ·rw[Lo]
  refine⟨?_,by simp,λa ha b hb=>?_⟩
  ·refine hw.imp_of_mem λ{a b} ha hb kN=>?_
   rw[zS a ha,zS b hb];exact kN
  ·rw[cL.1 hb,zS a ha]
   simp
   exact hc a ha
 ·intro j hj
  rcases fY.1 hj with hj |hj
  ·rw[zS j hj];have:=hc j hj;exact rG this
  ·rw[cL.1 hj];simp
theorem VY{k:Nat}:∀{ks:List Nat},ks.Pairwise (λa b=>cf a<cf b)→k∈ks→(k::ks.filter (·≠k)).Perm ks
 |[],_,h=>by exact cA h
 |j::ks,hp,h=>by
  rw[List.pairwise_cons]at hp
  by_cases e:j=k
  ·subst e
   have:(j::ks).filter (·≠j)=ks:=by
    rw[EB (by simp)]
    refine EH.2 λa ha=>?_;have:=hp.1 a ha
    have:a≠j:=λe=>by rw[e]at this;exact AS _ this
    simpa using this
   rw[this]
  ·have hk:k∈ks:=(eO.1 h).resolve_left λz=>e z.symm
   rw[EC (by simpa using e)]
   exact(List.Perm.swap j k _).trans ((VY hp.2 hk).cons j)
theorem VZ{q:Addr}{ks:List Nat}(h:QS σ is q qd l t b9 ks)(hl:ks.length≤4)(h0:ks≠[])
  (z:bI (∀ae,QS ae is q qd l t b9 (ks.filter (·≠kT t ks))→aF (one l) σ ae→Q (.bytes (dc is (kT t ks))) ae)):yi [.loc q] [] σ Q:=by
 refine mX h.at_ λh cf H HO hp hw hc=>?_;have e:=hp.length_eq;rw[aZ]at e
 have hn:h≠[]:=λz=>by rw[z]at e;exact h0 (Au e.symm)
 have hm:h.getD 0 ja∈h:=by
  induction h with
  |nil=>exact absurd rfl hn
  |cons a h=>simp
 refine a9 (dD.1 (hp.mem_iff.1 hm)) λk hk ek=>?_
 have hb:uQ t cf ks k:=⟨hk,λj hj=>by
  have:=aiw HO (ri is t cf j) (hp.mem_iff.2 (dD.2 ⟨j,hj,rfl⟩));rw[←ek]at this;unfold Le ri at this
  exact this.imp Int.lt_of_neg_lt_neg λh=>⟨(Int.neg_inj.1 h.1).symm,h.2⟩⟩
 have ep:=aiD hw hb (aiB h0 hw);refine ait H (aR (el e) hl) hn ⟨λae H' P=>?_⟩
 have ew:(h.getD 0 ja).w=.bytes (dc is (kT t ks)):=by rw[←ek,ep];rfl
 rw[ew];refine z.out ae ⟨_,cf,H',aiA HO hn,?_,hw.filter _,λj hj=>hc j (rK.1 hj).1⟩ P;have p1:=(aiv hn).trans hp;have p2:=(VY hw hk).map (ri is t cf);rw[gB,ek]at p2;rw[←ep];exact(p1.trans p2.symm).cons_inv
set_option tactic.hygienic false
noncomputable def JP(st sh kn lv:Addr):List (Nat×CV):=[(131,.loc st),(189,.loc sh),(112,.loc kn),(156,.loc lv)]
structure Wx where
 A:gv
 O:Objs
 is:List Nat
 Ds:List Cd
 wk:Addr
 wd:Addr
 sh:Addr
 kn:Addr
 lv:Addr
 d:Addr
 c:Addr
noncomputable def Wx.row(X:Wx)(k:Nat):List Nat:=((X.Ds[k]?).map (λx=>x.row)).getD []
noncomputable def Wx.time(X:Wx)(k:Nat):Nat:=((X.Ds[k]?).map (λx=>x.time)).getD 0
noncomputable def Wx.cnt(X:Wx)(k:Nat):Option Nat:=((X.Ds[k]?).map (λx=>x.cnt)).getD none
noncomputable def uR(row:Nat→List Nat):Nat→Nat→Nat
 |0,_=>0
 |f+1,k=>1+((row k).map (uR row f)).foldl max 0
noncomputable def ip(row:Nat→List Nat)(k:Nat):Nat:=uR row (k+1) k
theorem aiE{row:Nat→List Nat}(h:∀k,∀j∈row k,j<k):∀(f k:Nat),k<f→uR row f k=ip row k:=by
 have key:∀(k f g:Nat),k<f→k<g→uR row f k=uR row g k:=by
  intro k
  induction k using Nat.strongRecOn with
  |ind k ih=>
   intro f g hf hg
   cases f with
   |zero=>exact absurd hf (xN _)
   |succ f=>
    induction g with
    |zero=>exact absurd hg (xN _)
    |succ g=>
     unfold uR
     congr 2
     exact pb λj hj=>ih j (h k j hj) f g (by have:=h k j hj;exact l2 hf this (by simp+arith only)) (by have:=h k j hj;exact l2 hg this (by simp+arith only))
 intro f k hf;exact key k f (k+1) hf (cP _)
theorem aiF{row:Nat→List Nat}(h:∀k,∀j∈row k,j<k)(k:Nat):ip row k=1+((row k).map (ip row)).foldl max 0:=by
 unfold ip;rw[uR]
 congr 2
 exact pb λj hj=>aiE h k j (h k j hj)
noncomputable def cb(is:List Nat)(k:Nat):CV:=.bytes (dc is k)
structure JQ(X:Wx)(W:St)(k:Nat)(a ad pl:Addr)(ti:Nat):Prop where
 i:bP W a 609 ad [(185,.loc pl),(87,.bytes (fS ti)),(45,.int (X.time k))]
 p:W pl=some (.list ((X.row k).map (cb X.is)))
 t:oO W X.O ti (X.cnt k)
noncomputable def DM(X:Wx)(W:St)(k:Nat)(v:CV):Prop:=∃a ad pl ti,v=.loc a∧JQ X W k a ad pl ti
theorem DM.up{X:Wx}{W:St}{k:Nat}{v:CV}(h:DM X W k v)(p:aF aS W W'):DM X W' k v:=by
 obtain⟨a,ad,pl,ti,e,H⟩:=h;exact⟨a,ad,pl,ti,e,H.i.a7 p,p.at H.p,H.t.ext p λz z h=>h⟩
structure WF(X:Wx)(W:St):Prop where
 w:fI W X.O X.is X.Ds
 S:eE W X.A X.O
 n4:X.is.length≤4
 wk:bP W X.wk 958 X.wd (JP X.A.st X.sh X.kn X.lv)
 sh:W X.sh=some (.dB [])
theorem WF.up{X:Wx}{W:St}(h:WF X W)(p:aF aS W W'):WF X W':=⟨h.w.up p,h.S.p0 p,h.n4,h.wk.a7 p,p.at h.sh⟩
theorem WF.inj{X:Wx}{W:St}(h:WF X W):Inj X.is:=h.w.inj h.S.len
theorem WF.ds{X:Wx}{W:St}(h:WF X W){k:Nat}(hk:k<X.is.length):∃D,X.Ds[k]?=some D∧X.row k=D.row∧X.time k=D.time∧X.cnt k=D.cnt:=by
 have hl:=h.w.len
 have c4:k<X.Ds.length:=by exact ey hk (el hl)
 exact⟨X.Ds[k],bS c4,by simp[Wx.row,c4],by simp[Wx.time,c4],by simp[Wx.cnt,c4]⟩
theorem WF.fh{X:Wx}{W:St}(h:WF X W):∀k,∀j∈X.row k,j<k:=λk j hj=>by
 unfold Wx.row at hj
 cases e:X.Ds[k]? with
 |none=>rw[e]at hj;exact cA hj
 |some D=>rw[e]at hj;exact(h.w.ok k D e).row j hj
theorem WF.j8{X:Wx}{W:St}(h:WF X W):∀k,(X.row k).length≤4:=λk=>by
 unfold Wx.row
 cases e:X.Ds[k]? with
 |none=>simp
 |some D=>exact(h.w.ok k D e).len
structure WS(X:Wx)(W σ:St)(T:Nat)(ls:List Nat):Prop where
 f:WF X W
 dk:Dk W σ X.d X.c T
 kn:∃ks:List (Nat×CV),DI σ X.is X.kn ks∧(ks.map (λx=>x.1)).Nodup∧∀k v,bB ks k=some v→DM X W k v
 lv:DI σ X.is X.lv (ls.map λk=>(k,.int (ip X.row k)))
 ln:ls.Nodup
 fk:W X.kn=none∧X.kn≠X.d∧X.kn≠X.c
 fl:W X.lv=none∧X.lv≠X.d∧X.lv≠X.c
 sZ:X.kn≠X.lv
theorem WS.ext{X:Wx}{W:St}{T:Nat}(h:WS X W σ T ls)(p:aF aS σ ae):WS X W ae T ls:=by
 refine bF h.kn λks h1 h2 h3=>?_;exact⟨h.f,h.dk.ext p,⟨ks,h1.a7 p,h2,h3⟩,h.lv.a7 p,h.ln,h.fk,h.fl,h.sZ⟩
theorem WS.sY{X:Wx}{W:St}{T:Nat}(h:WS X W σ T ls)(p:aF Y σ ae)(n:∀a,Y a→(a≠X.d∧a≠X.c∧W a=none)∧a≠X.kn∧a≠X.lv):WS X W ae T ls:=by
 refine bF h.kn λks h1 h2 h3=>?_;exact⟨h.f,h.dk.other p λa y=>(n a y).1,⟨ks,h1.a7 p λy=>(n _ y).2.1 rfl,h2,h3⟩,h.lv.a7 p λy=>(n _ y).2.2 rfl,h.ln,h.fk,h.fl,h.sZ⟩
structure Nx(X:Wx)(a:Addr):Prop where
 d:a≠X.d
 c:a≠X.c
 kn:a≠X.kn
 lv:a≠X.lv
theorem WS.nx{X:Wx}{W:St}{T:Nat}(h:WS X W σ T ls)(na:σ a=none):Nx X a:=by
 have k:∀{b o},σ b=some o→a≠b:=λe x=>by rw[x,e]at na;exact jP na
 refine gF h.dk.hd λm t hd=>?_;refine xe h.dk.hc λcs hc=>?_;refine a9 h.kn λks h1 zz=>?_;exact⟨k hd,k hc,k h1.at_,k h.lv.at_⟩
structure Gw(σ W W':St):Prop where
 p:aF aS W W'
 n:∀a o,σ a=some o→W a=none→W' a=none
theorem Gw.refl(σ W:St):Gw σ W W:=⟨.refl _ _,λz z z h=>h⟩
theorem Gw.trans{W W2:St}(g:Gw σ W W1)(p:aF Y σ ao)(g2:Gw ao W1 W2)(hY:∀a,Y a→W2 a=none):Gw σ W W2:=
 ⟨g.p.trans g2.p,λa o h hw=>Classical.byCases (λy:Y a=>hY a y) λy=>g2.n a o (p.at h y) (g.n a o h hw)⟩
theorem WS.fz{X:Wx}{W:St}{T:Nat}(h:WS X W σ T ls)(ha:σ a=some o)(n:Nx X a):∃W',aF aS W W'∧W' a=some o∧WS X W' σ T ls∧∀b,b≠a→W' b=W b:=by
 refine cz (h.dk.fz ha n.d n.c) λW' P hW D hb=>?_;refine bF h.kn λks h1 h2 h3=>?_
 exact⟨W',P,hW,⟨h.f.up P,D,⟨ks,h1,h2,λk v e=>(h3 k v e).up P⟩,h.lv,h.ln,⟨by rw[hb _ n.kn.symm];exact h.fk.1,h.fk.2⟩,⟨by rw[hb _ n.lv.symm];exact h.fl.1,h.fl.2⟩,h.sZ⟩,hb⟩
theorem WS.sW{X:Wx}{W:St}{T:Nat}{b:Addr}(h:WS X W σ T ls)(ha:bP σ a C b fs)(n:Nx X a)(n2:Nx X b):∃W',aF aS W W'∧bP W' a C b fs∧WS X W' σ T ls∧∀c,c≠a→c≠b→W' c=W c:=by
 refine cz (h.fz ha.1 n) λW1 P1 h1 k1 e1=>?_;refine cz (k1.fz ha.2 n2) λW2 P2 h2 k2 e2=>?_
 exact⟨W2,P1.trans P2,⟨P2.at h1,h2⟩,k2,λc n1 n2=>by rw[e2 c n2,e1 c n1]⟩
theorem qg{W:St}(p:aF aS W W')(na:σ a=none)(e:∀b,b≠a→W' b=W b):Gw σ W W':=
 ⟨p,λb o hb hw=>by rw[e b (λz=>by rw[z,na]at hb;exact bo hb)];exact hw⟩
theorem aiG{W:St}{a':Addr}(p:aF aS W W')(na:σ a=none)(na':σ a'=none)(e:∀b,b≠a→b≠a'→W' b=W b):Gw σ W W':=
 ⟨p,λb o hb hw=>by rw[e b (λz=>by rw[z,na]at hb;exact bo hb) (λz=>by rw[z,na']at hb;exact bo hb)];exact hw⟩
theorem Gw.from{W:St}(g:Gw ao W W')(p:aF aS σ ao):Gw σ W W':=⟨g.p,λa o h hw=>g.n a o (p.at h) hw⟩
theorem Gw.tr{W W2:St}(g:Gw σ W W1)(g2:Gw σ W1 W2):Gw σ W W2:=⟨g.p.trans g2.p,λa o h hw=>g2.n a o h (g.n a o h hw)⟩
variable {X:Wx}
set_option tactic.hygienic true
theorem aiH{pl:Addr}{tree:List UInt8}{t:Nat}(q:bI (∀a d ae,σ a=none→σ d=none→bP ae a 609 d [(185,.loc pl),(87,.bytes tree),(45,.int t)]→aF aS σ ae→Q (.loc a) ae)):eV 609 Ga [.loc pl,.bytes tree,.int t] [] σ Q:=
 pL λa d ao na nd i1 P1=>df<|fE .var rfl i1 λay h2 p2=>fE .var rfl h2 λaQ h3 p3=>fE .var rfl h3 λbU h4 p4=>bp ⟨rfl,q.out a d bU na nd h4 (P1.sn ((p2.trans p3).trans p4) nd)⟩
theorem DO{ks:List (Nat×CV)}{k:Nat}(h:bB ks k=none):k∉ks.map (λx=>x.1):=λhm=>by
 refine a9 (dD.1 hm) λp hp e=>?_;unfold bB at h;rw[YH,Ls]at h
 exact h p hp (by simpa using e)
theorem JR{ks:List (Nat×CV)}{k:Nat}{v:CV}(h:bB ks k=none):bY ks k v=ks++[(k,v)]:=by
 unfold bY;rw[if_neg];intro z;refine a9 (vw.1 z) λp hp e=>?_
 exact DO h (dD.2 ⟨p,hp,by simpa using e⟩)
theorem V0{ks:List (Nat×CV)}(hn:(ks.map (λx=>x.1)).Nodup)(hl:∀p∈ks,p.1<is.length):ks.length≤is.length:=by
 have:=oQ is.length (ks.map (λx=>x.1)) hn λx hx=>by
  refine a9 (dD.1 hx) λp hp aq=>?_;subst aq;exact hl p hp
 simpa using this
theorem Fn.list{σ:St}{a:Addr}{vs:List CV}{Q:CV→St→Prop}(h:σ a=some (.list vs))(hl:vs.length≤1000)(q:∀l ae,σ l=none→ae l=some (.list vs)→aF aS σ ae→Q (.loc l) ae):sH [.loc a] [] σ Q:=a1 (k:=.L) ⟨vs,.inl h,hl,cX q⟩
theorem xd{W:St}{T:Nat}{k:Nat}(h:WS X W σ T ls)(hk:k<X.is.length)
  (q:bI (∀W' ae a ad pl ti,Gw σ W W'→WS X W' ae T ls→JQ X W' k a ad pl ti→aF (one X.kn) σ ae→Q (.loc a) ae)):rY [.loc X.wk,.bytes (dc X.is k)] [] σ Q:=by
 have hi:=h.f.inj;refine bF h.kn λks pW zT V1=>?_;have fr:=h.dk.fr;have wk:=h.f.wk.a7 fr
 refine yy λe fg V2=>fO (.cmp .var (.attr .var .ins) (.JG hi pW hk)) (λg=>?_) λg=>bp ?_
 ·have hg:bB ks k=none:=by
   cases e:bB ks k with
   |none=>rfl
   |some v=>rw[e]at g;exact eP g
  refine cz (h.f.ds hk) λD hD eR eT eC=>?_;have xf:X.is[k]?=some X.is[k]:=bS hk;obtain⟨c,cd,pl,al,ad,cl,iJ,el,ti,H⟩:=h.f.w.comm k _ D xf hD;have mq:=H.at_
  rw[←show X.is.getD k 0=X.is[k] by rw[dG,xf];rfl]at mq
  have S:=h.f.S.p0 fr;have sh:DI σ X.is X.sh []:=⟨fr.at h.f.sh,λz h=>(cA h),dE _⟩;have hc:=H.c.a7 fr
  refine gN (.jy (.attr .var .ins) S.s.fi (.one .var) (JJ S mq))<|cy<|show eH _ _ _ _ _ _ from(bM.to (.cmp .var (.attr .var .ins) (.iD hi sh hk)) (show(bB [] k:Option CV).isSome=false from rfl):bM _ _ _ false) _<|cu (.one (.attr .var .ins))<|Fn.list (fr.at H.p) (by rw[aZ,my,aZ];have:=h.f.j8 k;rw[eR]at this;exact cB this rfl) λJS ao Dy jo P1=>?_
  refine cz ((h.ext P1).fz jo (h.nx Dy)) λW1 ik aiI h1 e1=>?_;have sP:=hc.a7 P1;have V3:=(H.cm.a7 ik).a7 h1.dk.fr;refine vV<|cu (.three .var (.attr .var .ins) (.attr (.attr .var .ins) .ins))<|aiH (t:=D.time) ⟨λa JT ay na uI ha P2=>?_⟩;refine cz ((h1.ext P2).sW ha (h1.nx na) (h1.nx uI)) λW2 cJ sS h2 e2=>?_;have G:=(qg ik Dy e1).tr ((aiG cJ na uI e2).from P1)
  have wc:JQ X W2 k a JT JS ti:=by
   refine⟨by rw[eT];exact sS,?_,by rw[eC];exact(H.t.ext ik λz z h=>h).ext cJ λz z h=>h⟩
   rw[cJ.at aiI,eR];unfold my;rw[dp];rfl
  have wk2:=h2.f.wk.a7 h2.dk.fr;have hl:=V0 zT pW.lt;have n4:=h.f.n4;refine bV (.attr .var (.ins wk2))<|bV .var<|JH hi ((pW.a7 P1).a7 P2) hk (jQ hl n4 rfl) λaQ h3 P3=>bp ?_
  have S3:WS X W2 aQ T ls:=by
   refine⟨h2.f,h2.dk.other P3 λa e=>by subst e;exact⟨h2.fk.2.1,h2.fk.2.2,h2.fk.1⟩,⟨_,h3,?_,λj v hj=>?_⟩,h2.lv.a7 P3 λe=>h2.sZ e.symm,h2.ln,h2.fk,h2.fl,h2.sZ⟩
   ·rw[JR hg,cR,nT]
    exact⟨zT,mN.2 ⟨rJ,.nil⟩,λa ha b hb e=>DO hg (by rw[←show b=k from cL.1 hb,←e];exact ha)⟩
   ·rw[uL]at hj
    split at hj
    ·rename_i e
     obtain rfl:=bt hj;rw[e]
     exact⟨a,JT,JS,ti,rfl,wc⟩
    ·exact(V1 j v hj).up (ik.trans cJ)
  have wk3:=S3.f.wk.a7 S3.dk.fr
  exact bX (.item (.attr .var .ins) .var (.id hi h3 hk (v:=.loc a) (by rw[uL,if_pos rfl]))) (q.out W2 aQ a JT JS ti G S3 wc ((P1.trans P2).pn P3))
 ·cases hg:bB ks k with
  |none=>rw[hg]at g;exact iR g
  |some v=>
   obtain⟨a,ad,pl,ti,rfl,H⟩:=V1 k v hg;exact bX (.item (.attr .var .ins) .var (.id hi pW hk hg)) (q.out W σ a ad pl ti (.refl _ _) h H (.refl _ _))
set_option tactic.hygienic false
theorem WS.iw{X:Wx}{W σ:St}{T:Nat}{ls:List Nat}(h:WS X W σ T ls):bP σ X.wk 958 X.wd (JP X.A.st X.sh X.kn X.lv):=h.f.wk.a7 h.dk.fr
theorem WS.inst{X:Wx}{W σ:St}{T:Nat}{ls:List Nat}(h:WS X W σ T ls)(hf:iz (JP X.A.st X.sh X.kn X.lv) i=none):r9 958 i (.loc X.wk) σ:=agO h.iw.1 h.iw.2 hf
section
variable{X:Wx}{W σ:St}{T:Nat}{ls:List Nat}{k:Nat}{Q:CV→St→Prop}
theorem aiJ(h:WS X W σ T ls)(hk:k<X.is.length)
  (q:bI (∀W' ae,Gw σ W W'→WS X W' ae T ls→aF (one X.kn) σ ae→Q (.int (X.time k)) ae)):yk [.loc X.wk,.bytes (dc X.is k)] [] σ Q:=
 df<|fD<|v8<|eX .var (h.inst rfl) (.one .var)<|xd h hk ⟨λW' ae a ad pl ti PW h' H P=>atK (.ins (H.i.a7 h'.dk.fr)) (q.out W' ae PW h' P)⟩
theorem aiL(h:WS X W σ T ls)(hk:k<X.is.length)
  (q:bI (∀W' ae ti,Gw σ W W'→WS X W' ae T ls→aF (one X.kn) σ ae→oO W' X.O ti (X.cnt k)→Q (.bytes (fS ti)) ae)):Gm [.loc X.wk,.bytes (dc X.is k)] [] σ Q:=
 df<|fD<|v8<|eX .var (h.inst rfl) (.one .var)<|xd h hk ⟨λW' ae a ad pl ti PW h' H P=>atK (.ins (H.i.a7 h'.dk.fr)) (q.out W' ae ti PW h' P H.t)⟩
theorem aiM(h:WS X W σ T ls)(hk:k<X.is.length)
  (q:bI (∀W' ae pl,Gw σ W W'→WS X W' ae T ls→aF (one X.kn) σ ae→W' pl=some (.list ((X.row k).map (cb X.is)))→Q (.loc pl) ae)):Ge [.loc X.wk,.bytes (dc X.is k)] [] σ Q:=by
 refine df<|fD<|jY<|dH<|v8<|eX .var (h.inst rfl) (.one .var)<|xd h hk ⟨λW' ae a ad pl ti PW h' H P=>atK (.ins (H.i.a7 h'.dk.fr))<|Fn.list (h'.dk.fr.at H.p) (by rw[aZ];exact aR (h.f.j8 k) (by decide)) λl ay nl hl P2=>?_⟩
 refine cz ((h'.ext P2).fz hl (h'.nx nl)) λW2 cJ lG h2 e2=>?_
 exact q.out W2 ay l (PW.trans P (qg cJ nl e2) λa e=>by subst e;exact h2.fk.1) h2 (P.nx P2) lG
theorem aiN(h:WS X W σ T ls)(hk:k<X.is.length)
  (q:bI (∀W' ae pl,Gw σ W W'→WS X W' ae T ls→aF (one X.kn) σ ae→W' pl=some (.list ((X.row k).map (cb X.is)))→Q (.loc pl) ae)):Gh [.loc X.wk,.bytes (dc X.is k),.bool false] [] σ Q:=
 df<|cy<|v8<|eX .var (h.inst rfl) (.one .var)<|xd h hk ⟨λW' ae a ad pl ti PW h' H P=>atK (.ins (H.i.a7 h'.dk.fr))<|bX (.iff (.val .var) .var) (q.out W' ae pl PW h' P H.p)⟩
end
set_option tactic.hygienic true
noncomputable def uS(ls ks:List Nat):Nat:=match ks.getLast? with
 |none=>0
 |some t=>if t∈ls then 16 else 5*t
noncomputable def rj(n:Nat)(ls ks:List Nat):Nat:=16*(n- ls.length)+ks.length+uS ls ks
theorem JU{ls ks:List Nat}(h:∀k∈ks,k<4):uS ls ks≤16:=by
 unfold uS
 split
 ·exact dE _
 ·rename_i t e
  have:=h t (List.mem_of_getLast? e)
  split<;>(first |exact cP _ |exact cB (eN 5 (AD this)) rfl)
theorem V4(ls xs:List Nat)(t:Nat):uS ls (xs++[t])=if t∈ls then 16 else 5*t:=by
 unfold uS;rw[List.getLast?_concat]
theorem aiO{α:Type}(xs:List α)(x:α)(h:xs.length≤1000):iW (xs++[x]) (-1)=some x:=by
 unfold iW
 rw[if_pos (by decide),if_neg (by decide),if_pos (by simp;exact ki.2 (nU _))]
 have:((-1:Int)+((xs++[x]).length:Int)).toNat=xs.length:=by simp;exact Zq _
 rw[this];simp
theorem It.last{σ:St}{vs:List CV}{v:CV}(h:σ a=some (.list (vs++[v])))(hl:vs.length≤1000):It (.loc a) (.int (-1)) σ v:=.pi (aiO vs v hl) h
theorem JV{f:Nat→CV}{ls:List Nat}{k:Nat}:bB (ls.map λk=>(k,f k)) k=if k∈ls then some (f k)else none:=by
 induction ls with
 |nil=>rfl
 |cons j ls ih=>
  unfold bB at ih ⊢;rw[gB,rM]
  by_cases e:j=k
  ·simp[e]
  ·have:¬k=j:=λz=>e z.symm
   simp only[e,decide_false,eO,this,false_or];exact ih
theorem foldl_max(l:List Nat):∀m,m≤l.foldl max m∧(∀x∈l,x≤l.foldl max m)∧(l.foldl max m=m∨l.foldl max m∈l):=by
 induction l with
 |nil=>intro m;simp
 |cons a l ih=>
  intro m;refine pj (ih (max m a)) λh1 h2 h3=>?_;rw[kh]
  refine⟨aR (Nat.le_max_left ..) h1,λx hx=>?_,?_⟩
  ·rcases eO.1 hx with rfl |hx
   ·exact aR (Nat.le_max_right ..) h1
   ·exact h2 x hx
  ·rcases h3 with h3 |h3
   ·by_cases g:a≤m
    ·left;exact h3.trans (Nat.max_eq_left g)
    ·right;rw[h3];simp;left;exact Nat.max_eq_right (Nat.le_of_not_le g)
   ·right;simp[h3]
theorem WS.aiP{X:Wx}{W σ:St}{T:Nat}{ls:List Nat}{k:Nat}(h:WS X W σ T ls)(hk:k∉ls)(hl:DI ae X.is X.lv ((ls++[k]).map λk=>(k,.int (ip X.row k))))(p:aF (one X.lv) σ ae):WS X W ae T (ls++[k]):=by
 refine bF h.kn λks h1 h2 h3=>?_
 refine⟨h.f,h.dk.other p λa e=>by subst e;exact⟨h.fl.2.1,h.fl.2.2,h.fl.1⟩,⟨ks,h1.a7 p λe=>h.sZ e,h2,h3⟩,hl,?_,h.fk,h.fl,h.sZ⟩
 rw[nT]
 exact⟨h.ln,mN.2 ⟨rJ,.nil⟩,λa ha b hb e=>hk (by rw[←cL.1 hb,←e];exact ha)⟩
theorem WS.V5{X:Wx}{W σ:St}{T:Nat}{ls:List Nat}(h:WS X W σ T ls):∀k∈ls,k<X.is.length:=λk hk=>
 h.lv.lt (k,.int (ip X.row k)) (dD.2 ⟨k,hk,rfl⟩)
theorem WS.V6{X:Wx}{W σ:St}{T:Nat}{ls:List Nat}(h:WS X W σ T ls):ls.length≤X.is.length:=oQ _ _ h.ln h.V5
section
variable{X:Wx}{W σ:St}{T:Nat}{ls:List Nat}{k:Nat}{Q:CV→St→Prop}
theorem V7{f:Nat→CV}:(bB (ls.map λk=>(k,f k)) k).isSome=decide (k∈ls):=by
 rw[JV]
 split
 ·rename_i h;rw[decide_eq_true h];rfl
 ·rename_i h;rw[decide_eq_false h];rfl
theorem WS.iLv(h:WS X W σ T ls)(hk:k<X.is.length):Cm .In (.bytes (dc X.is k)) (.loc X.lv) σ (decide (k∈ls)):=V7 (k:=k)▸Cm.iD h.f.inj h.lv hk
theorem WS.aiQ(h:WS X W σ T ls)(hk:k<X.is.length):Cm .NotIn (.bytes (dc X.is k)) (.loc X.lv) σ (!decide (k∈ls)):=V7 (k:=k)▸Cm.JG h.f.inj h.lv hk
theorem WS.V8(h:WS X W σ T ls)(hk:k∈ls):It (.loc X.lv) (.bytes (dc X.is k)) σ (.int (ip X.row k)):=.id h.f.inj h.lv (h.V5 k hk) (by rw[JV,if_pos hk])
theorem WS.zU(h:WS X W σ T ls)(fg:e 78=some (.loc X.wk)):Ev (bf 156 (af 78)) e σ (.loc X.lv):=.attr (.var fg) (.ins h.iw)
theorem aiR{row:Nat→List Nat}(fh:∀k,∀j∈row k,j<k){m:Int}(h1:m∈(row k).map (λj=>(ip row j:Int))++[0])(h2:∀i∈(row k).map (λj=>(ip row j:Int))++[0],i≤m):1+m=(ip row k:Int):=by
 rw[aiF fh k];refine pj (foldl_max ((row k).map (ip row)) 0) λf1 f2 f3=>?_
 have a1:((((row k).map (ip row)).foldl max 0:Nat):Int)≤m:=by
  rcases f3 with f3 |f3
  ·rw[f3];exact h2 0 (kW _ (.head _))
  ·refine a9 (dD.1 f3) λj hj ej=>?_
   rw[←ej];exact h2 _ (EG _ (dD.2 ⟨j,hj,rfl⟩))
 have a2:m≤((((row k).map (ip row)).foldl max 0:Nat):Int):=by
  rcases fY.1 h1 with h1 |h1
  ·refine a9 (dD.1 h1) λj hj aq=>?_;subst aq
   exact ki.2 (f2 _ (dD.2 ⟨j,hj,rfl⟩))
  ·rw[cL.1 h1];exact fX _
 exact congrArg (1+·) (Int.le_antisymm a2 a1)
theorem V9{n t:Nat}{ls xs left:List Nat}{f:Nat→CV}(g:left.map f≠[])(hl:left.length≤4)(h:∀y∈left,y<t∧y∉ls):rj n ls (xs++[t]++left)<16*(n- ls.length)+(xs.length+1)+5*t:=by
 obtain⟨ys,y,rfl⟩:∃ys y,left=ys++[y]:=⟨left.dropLast,left.getLast (λz=>g (by rw[z];rfl)),(vj _).symm⟩
 refine xa (h y (kW _ (.head _))) λh1 h2=>?_;rw[bW,mH]at hl;unfold rj;rw[←fJ,V4,if_neg h2,bW,bW,bW,mH,mH]
 exact l2 hl (eN 5 h1) (by simp+arith only)
noncomputable def xg(X:Wx)(wa:Addr):Addr→Prop:=λa=>(a=X.kn∨a=X.lv)∨a=wa
theorem Gw.go{σ aQ W W3:St}{T:Nat}{ls:List Nat}{X:Wx}(g:Gw σ W W')(p:aF (xg X wa) σ ae)(g2:Gw ae W' W3)(h:WS X W3 aQ T ls)(nw:W3 wa=none):Gw σ W W3:=g.trans p g2 λa y=>by
 rcases y with(y |y) |y
 ·rw[y];exact h.fk.1
 ·rw[y];exact h.fl.1
 ·rw[y];exact nw
theorem aiS(h:WS X W σ T ls)(hk:k<X.is.length)
  (q:bI (∀W' ae cE,Gw σ W W'→WS X W' ae T cE→aF (two X.kn X.lv) σ ae→Q (.int (ip X.row k)) ae)):yl [.loc X.wk,.bytes (dc X.is k)] [] σ Q:=by
 have n4:=h.f.n4;refine yy λe fg V2=>cy<|dh (.one .var) λwa ao xh s6 P1=>?_;have nx:=h.nx xh
 have hm0:rj X.is.length ls [k]≤100:=by unfold rj;have:=JU (ls:=ls) (ks:=[k]) (λj hj=>by rw[cL.1 hj];exact ey hk n4);rw[mH];exact l2 (eN 16 (aR (A2 ..) n4)) this (by simp+arith only)
 refine pP<|qG [51,185,57] (λf w ae=>f≤100∧∃W' cE ks,rj X.is.length cE ks≤f∧(∀j∈ks,j<X.is.length)∧(k∈cE∨k∈ks)∧ae wa=some (.list (ks.map (cb X.is)))∧Gw σ W W'∧W' wa=none∧WS X W' ae T cE∧aF (xg X wa) σ ae)
  ⟨hm0,W,ls,[k],cP _,λj hj=>by rw[cL.1 hj];exact hk,.inr (.head _),s6,.refl _ _,h.dk.nw xh,h.ext P1,P1.mono λw h=>h.elim⟩ λf e' ae s z V hV=>?_
 obtain⟨hf,W',cE,ks,hm,pW,DP,s6,PW,nw,h',P⟩:=z;have fg:e' 78=some (.loc X.wk):=s.rd (j:=78) fg rfl;have rm:e' 191=some (.loc wa):=s.rd (j:=191) rfl rfl
 refine PR .var s6 (λh0 ay P2=>?_) λh0 ay P2=>?_
 ·obtain⟨xs,t,rfl⟩:∃xs t,ks=xs++[t]:=⟨ks.dropLast,ks.getLast (λz=>h0 (by rw[z];rfl)),(vj _).symm⟩
  have rp:=P2.at s6;have h2:=h'.ext P2;have P:=P.nx P2;have ht:t<X.is.length:=pW t (kW _ (.head _));have wN:∀j∈xs,j<X.is.length:=λj hj=>pW j (EG _ hj);have tw:=V4 cE xs t;have aiT:=h2.V6;have tx:uS cE xs≤16:=JU λj hj=>ey (wN j hj) n4;have oS:=hm;unfold rj at oS;rw[bW,mH,tw]at oS
  have DQ:xs.length≤100:=by exact l2 hf oS (by simp+arith only)
  have aiU:t∈cE→k∈cE∨k∈xs:=λfT=>DP.elim .inl λg=>(fY.1 g).elim .inr λg=>by rw[cL.1 g];exact .inl fT
  rw[cR]at rp
  refine gN (.item .var (.neg .val) (.last (v:=cb X.is t) rp (by rw[aZ];exact cB DQ rfl))) ?_
  refine fO (.cmp .var (h2.zU fg) (h2.iLv ht)) (λg=>?_) λg=>bp ?_
  ·have fT:=of_decide_eq_true g
   rw[if_pos fT]at oS
   refine iA<|pK .var ⟨_,_,rfl,rp⟩ .nil<|BY rp (by rw[aZ];exact lz DQ rfl) λaQ DR u=>Hj<|hV ?_ ⟨?_,W',cE,xs,cP _,wN,aiU fT,DR,PW,nw,h2.sY u λa e=>by cases e;exact⟨⟨nx.d,nx.c,nw⟩,nx.kn,nx.lv⟩,P.trans (u.mono λw=>.inr)⟩
   all_goals
    unfold rj
    (first |(refine l2 tx oS ?_;simp+arith only;done) |exact l3 hf tx oS (by simp+arith only))
  ·have fT:=of_decide_eq_false g
   rw[if_neg fT]at oS;refine cy<|v8<|eX (.var fg) (h2.inst rfl) (.one .var)<|xd h2 ht ⟨λW3 aQ a ad pl ti dU h3 H P3=>atK (.ins (H.i.a7 h3.dk.fr)) ?_⟩;have jo:=h3.dk.fr.at H.p;have DR:=P3.at rp (λe=>nx.kn e);have DS:=dU.n wa _ rp nw;have G3:=PW.go P dU h3 DS;have P3:=P.trans (P3.mono λa e=>.inl (.inl e));have mC:=h3.f.fh t;have cI:=h3.f.j8 t;have zV:∀j∈X.row t,j<X.is.length:=λj hj=>jN (mC j hj) ht
   have zW:(X.row t).length≤1000:=aR cI (by decide)
   have Wa:∀a,one wa a→(a≠X.d∧a≠X.c∧W3 a=none)∧a≠X.kn∧a≠X.lv:=λa e=>by cases e;exact⟨⟨nx.d,nx.c,DS⟩,nx.kn,nx.lv⟩
   refine cy<|Ht (cb X.is) (λj=>!decide (j∈cE)) (cb X.is) (.li .var jo) zW (λj hj ce s hv=>⟨.cmp .var (h3.zU (s.rd (j:=78) fg rfl)) (h3.aiQ (zV j hj)),λw=>.var⟩) λla bU lN c6 P4=>?_;have zX:∀j∈(X.row t).filter (λj=>!decide (j∈cE)),j∈X.row t∧j∉cE:=λj hj=>⟨(rK.1 hj).1,of_decide_eq_false (mK _▸(rK.1 hj).2)⟩
   have sL:(X.row t).filter (λj=>!decide (j∈cE))=[]→∀j∈X.row t,j∈cE:=λz j hj=>YD λy=>by
    have:=Ll.1 z j hj;rw[decide_eq_false y]at this;exact this rfl
   have JW:((X.row t).filter (λj=>!decide (j∈cE))).length≤4:=aR (EE _ _) cI;generalize(X.row t).filter (λj=>!decide (j∈cE))=left at*
   refine BZ .var c6 (λg fG P5=>?_) λg fG P5=>bp ?_
   ·have Wb:=P5.at (P4.at DR)
    refine iA<|pK (.var rm) ⟨_,_,rfl,Wb⟩ (.one .var)<|exK Wb (P5.at c6) (by rw[bW,aZ,aZ,aZ,mH];exact l2 DQ JW (by simp+arith only)) λfH aiV u=>Hj<|hV ?_ ⟨?_,W3,cE,xs++[t]++left,cP _,?_,?_,by rw[aiV,cR,cR],G3,DS,((h3.ext P4).ext P5).sY u Wa,((P3.nx P4).nx P5).trans (u.mono λw=>.inr)⟩
    ·exact ey (V9 g JW λy hy=>⟨mC y (zX y hy).1,(zX y hy).2⟩) oS
    ·exact aR (iQ (V9 g JW λy hy=>⟨mC y (zX y hy).1,(zX y hy).2⟩)) (aR oS hf)
    ·exact λj hj=>(fY.1 hj).elim (pW j) λhj=>zV j (zX j hj).1
    ·exact DP.imp id λg=>EG _ g
   ·have hl0:left=[]:=xH.1 g
    have h5:=(h3.ext P4).ext P5;have sL:=sL hl0;refine vV<|pJ .val<|jY<|dH<|ly<|md (cb X.is) (λj=>nI (ip X.row j)) (.li .var (P5.at (P4.at jo))) zW (λj hj ce s hv=>.item (h5.zU (s.rd (j:=78) fg rfl)) .var (h5.V8 (sL j hj))) λl1 fH Wc j3 P6=>?_
    refine dh (.one .val) λl2 nE Wd lG P7=>PJ (P7.at j3) lG (by rw[aZ];exact qn (aR cI (by decide))) λl3 sR nl3 zG P8=>mxK (is:=(X.row t).map (λj=>(ip X.row j:Int))++[0]) (by rw[zG,cR,dp];rfl) (by rw[bW];exact nU _) λm V3 hm2=>gP .add ?_
    rw[aiR h5.f.fh V3 hm2];have JX:=(P6.trans P7).trans P8;have h8:=h5.ext JX
    refine bV (h8.zU fg)<|bV .var<|JH h8.f.inj h8.lv ht (by rw[aZ];exact jQ aiT n4 rfl) λuJ h9 zY=>?_
    rw[JR (by rw[JV,if_neg fT])]at h9
    have S9:=h8.aiP fT (by rw[cR];exact h9) zY
    have We:=zY.at (JX.at (P5.at (P4.at DR))) (λe=>nx.lv e);have JY:=S9.V6;have Wf:uS (cE++[t]) xs≤16:=JU λj hj=>ey (wN j hj) n4;rw[bW,mH]at JY
    refine iA<|pK (.var rm) ⟨_,_,rfl,We⟩ .nil<|BY We (by rw[aZ];exact lz DQ rfl) λDz aiW u=>bp<|hV ?_ ⟨?_,W3,cE++[t],xs,cP _,wN,?_,aiW,G3,DS,S9.sY u Wa,((((P3.nx P4).nx P5).nx JX).trans (zY.mono λa e=>.inl (.inr e))).trans (u.mono λw=>.inr)⟩
    ·unfold rj;rw[bW,mH];exact Internal.l3 oS (eN 16 (Ms JY)) Wf (by simp+arith only)
    ·unfold rj;rw[bW,mH];exact Internal.l4 oS hf (eN 16 (Ms JY)) Wf (by simp+arith only)
    ·exact DP.elim (λg=>.inl (EG _ g)) λg=>(fY.1 g).elim .inr λg=>.inl (kW _ g)
 ·have h0:ks=[]:=xH.1 h0
  subst h0;have h2:=h'.ext P2
  exact bX (.item (h2.zU fg) (.var (s.rd (j:=21) V2 rfl)) (h2.V8 (DP.resolve_right rJ))) (q.out W' ay cE PW h2 λa o e n=>(P.nx P2).at e λx=>x.elim n λx=>by rw[x,xh]at e;exact bo e)
end
structure DF(σ:St)(is:List Nat)(a:Addr)(f:Nat→Option CV):Prop where
 ex:∃l,DI σ is a l∧(l.map (λx=>x.1)).Nodup∧∀k,bB l k=f k
noncomputable def eM{α:Type}(f:Nat→Option α)(k:Nat)(v:α):Nat→Option α:=λj=>if j=k then some v else f j
theorem DF.a7{f:Nat→Option CV}(h:DF σ is a f)(p:aF Y σ ae)(n:autoParam (¬Y a) aX):DF ae is a f:=by
 refine bF h.ex λl h1 h2 h3=>?_;exact⟨l,h1.a7 p n,h2,h3⟩
theorem DF.there{f:Nat→Option CV}(h:DF σ is a f):∃es,σ a=some (.dB es):=by
 refine bF h.ex λl h1 h2 h3=>?_;exact⟨_,h1.at_⟩
theorem DT(h:σ a=some (.dB [])):DF σ is a λz=>none:=⟨[],⟨h,λz h=>(cA h),by simp⟩,E6,λz=>rfl⟩
theorem DF.congr{f g:Nat→Option CV}(h:DF σ is a f)(e:∀k,f k=g k):DF σ is a g:=by
 refine bF h.ex λl h1 h2 h3=>?_;exact⟨l,h1,h2,λk=>(h3 k).trans (e k)⟩
theorem Cm.DU{a k:Nat}{f:Nat→Option CV}(hi:Inj is)(h:DF σ is a f)(hk:k<is.length):Cm .NotIn (.bytes (dc is k)) (.loc a) σ (!(f k).isSome):=by
 refine bF h.ex λl h1 h2 h3=>?_;exact h3 k▸Cm.JG hi h1 hk
theorem Cm.iF{a k:Nat}{f:Nat→Option CV}(hi:Inj is)(h:DF σ is a f)(hk:k<is.length):Cm .In (.bytes (dc is k)) (.loc a) σ (f k).isSome:=by
 refine bF h.ex λl h1 h2 h3=>?_;exact h3 k▸Cm.iD hi h1 hk
theorem It.df{a k:Nat}{f:Nat→Option CV}{v:CV}(hi:Inj is)(h:DF σ is a f)(hk:k<is.length)(hv:f k=some v):It (.loc a) (.bytes (dc is k)) σ v:=by
 refine bF h.ex λl h1 h2 h3=>?_;exact .id hi h1 hk (by rw[h3];exact hv)
theorem Wg{l:List (Nat×CV)}{k:Nat}{v:CV}(h:(l.map (λx=>x.1)).Nodup):((bY l k v).map (λx=>x.1)).Nodup:=by
 by_cases g:bB l k=none
 ·rw[JR g,cR,nT]
  exact⟨h,mN.2 ⟨rJ,.nil⟩,λa ha b hb e=>DO g (by rw[←show b=k from cL.1 hb,←e];exact ha)⟩
 ·unfold bY
  rw[if_pos]
  ·have:(l.map λkv=>if kv.1=k then(kv.1,v)else kv).map (λx=>x.1)=l.map (λx=>x.1):=by
    rw[dp];refine pb λp hp=>?_;simp only[Mf]
    split<;>rfl
   rw[this];exact h
  ·unfold bB at g
   rw[YH,Ls]at g;rw[vw];refine Classical.byContradiction λz=>g λx hx e=>z ⟨x,hx,e⟩
theorem xi{a k:Nat}{f:Nat→Option CV}{v:CV}{P:St→Prop}(hi:Inj is)(n4:is.length≤4)(h:DF σ is a f)(hk:k<is.length)(q:∀ae,DF ae is a (eM f k v)→aF (one a) σ ae→P ae):lx (.loc a) (.bytes (dc is k)) v σ P:=by
 refine bF h.ex λl h1 h2 h3=>?_
 exact JH hi h1 hk (aR (V0 h2 h1.lt) (aR n4 (by decide))) λae h' P=>q ae ⟨_,h',Wg h2,λj=>by rw[uL,h3];rfl⟩ P
structure PS where
 w:List Nat
 o:List Nat
 f:Nat→Option Nat
noncomputable def PS.put(s:PS)(k m:Nat):PS:=match s.f k with
 |none=>⟨s.w++[k],s.o,eM s.f k m⟩
 |some m'=>⟨s.w,s.o,eM s.f k (m' |||m)⟩
noncomputable def PS.rq(s:PS)(k:Nat):List Nat→PS
 |[]=>s
 |p::ps=>match s.f k with
  |some (m+1)=>PS.rq (s.put p (m+1)) k ps
  |_=>PS.rq s k ps
noncomputable def PS.step(row:Nat→List Nat)(s:PS):PS:=
 let k:=kT (λj=>(ip row j:Int)) s.w
 PS.rq ⟨s.w.filter (·≠k),s.o++[k],s.f⟩ k (row k)
noncomputable def PS.run(row:Nat→List Nat):Nat→PS→PS
 |0,s=>s
 |n+1,s=>if s.w=[]then s else PS.run row n (s.step row)
noncomputable def PS.begin(s:PS):List (Nat×Nat)→PS
 |[]=>s
 |p::ps=>PS.begin (s.put p.1 p.2) ps
structure PS.Ok(s:PS)(n:Nat):Prop where
 nd:s.w.Nodup
 lt:∀k∈s.w,k<n∧(s.f k).isSome=true
 m:∀k m,s.f k=some m→m<4
theorem PS.Ok.put{s:PS}{n k m:Nat}(h:s.Ok n)(hk:k<n)(hm:m<4):(s.put k m).Ok n:=by
 unfold PS.put
 have key:∀(v:Nat),v<4→∀j u,eM s.f k v j=some u→u<4:=λv hv j u e=>by
  unfold eM at e
  split at e
  ·obtain rfl:=bt e;exact hv
  ·exact h.m j u e
 have Wh:∀v,∀j∈s.w,j<n∧(eM s.f k v j).isSome=true:=λv j hj=>⟨(h.lt j hj).1,by
  unfold eM;split
  ·rfl
  ·exact(h.lt j hj).2⟩
 split
 ·rename_i e
  refine⟨?_,λj hj=>?_,key m hm⟩
  ·show(s.w++[k]).Nodup
   rw[nT]
   refine⟨h.nd,by simp,λa ha b hb z=>?_⟩
   have:=(h.lt a ha).2;simp at hb;rw[z,hb,e]at this
   exact eP this
  ·rcases fY.1 hj with hj |hj
   ·exact Wh m j hj
   ·rw[cL.1 hj]
    exact⟨hk,by simp[eM]⟩
 ·rename_i m' e
  have:=h.m k m' e
  have hor:∀a,a<4→∀b,b<4→a |||b<4:=by decide
  exact⟨h.nd,Wh _,key _ (hor _ this _ hm)⟩
theorem PS.Ok.JZ{s:PS}{n k:Nat}(h:s.Ok n)(n4:n≤4)(hk:k<n)(hf:s.f k=none):s.w.length≤3:=by
 have:=oQ n (s.w++[k]) (by
  rw[nT]
  refine⟨h.nd,by simp,λa ha b hb z=>?_⟩
  have:=(h.lt a ha).2;simp at hb;rw[z,hb,hf]at this
  exact eP this) λj hj=>by
   rcases fY.1 hj with hj |hj
   ·exact(h.lt j hj).1
   ·rw[cL.1 hj];exact hk
 simp at this;exact l2 n4 this (by simp+arith only)
set_option tactic.hygienic false
structure Mx(fa oa q qd l:Addr)(a:Addr):Prop where
 or:a=fa∨a=oa∨a=qd∨a=l
structure PT(X:Wx)(t:Nat→Int)(vf:Nat→CV)(W0 bL W σ:St)(T:Nat)(fa oa q qd l:Addr)(s:PS):Prop where
 ws:∃ls,WS X W σ T ls
 fl:DF σ X.is fa λk=>(s.f k).map vf
 od:σ oa=some (.list (s.o.map (cb X.is)))
 qs:∃b9,QS σ X.is q qd l t b9 s.w
 ok:s.Ok X.is.length
 gw:Gw bL W0 W
 pr:aF (λa=>a=X.kn∨a=X.lv∨Mx fa oa q qd l a) bL σ
 nw:∀a,Mx fa oa q qd l a∨a=q→W a=none∧Nx X a
 ne:oa≠l
theorem PT.lift{W:St}{T:Nat}{q:Addr}{s:PS}(h:PT X t vf W0 bL W σ T fa oa q qd l s)(g:Gw σ W W1)(w:WS X W1 ao T ls)(p:aF (two X.kn X.lv) σ ao):PT X t vf W0 bL W1 ao T fa oa q qd l s:=by
 have nn:∀a,Mx fa oa q qd l a∨a=q→¬two X.kn X.lv a:=λa m x=>by
  have:=(h.nw a m).2
  rcases x with x |x
  ·exact this.kn x
  ·exact this.lv x
 refine xe h.qs λb9 Q=>?_;obtain⟨c,iq,vs,il⟩:=Q.inst;refine xe h.fl.there λes ef=>?_
 have nw:∀a,Mx fa oa q qd l a∨a=q→W1 a=none∧Nx X a:=λa m=>by
  refine⟨?_,(h.nw a m).2⟩;have hw:=(h.nw a m).1
  rcases m with⟨rfl |rfl |rfl |rfl⟩ |rfl
  ·exact g.n _ _ ef hw
  ·exact g.n _ _ h.od hw
  ·exact g.n _ _ iq.2 hw
  ·exact g.n _ _ il hw
  ·exact g.n _ _ iq.1 hw
 refine⟨⟨ls,w⟩,h.fl.a7 p (nn _ (.inl ⟨.inl rfl⟩)),p.at h.od (nn _ (.inl ⟨.inr (.inl rfl)⟩)),⟨b9,Q.a7 p (nn _ (.inr rfl)) (nn _ (.inl ⟨.inr (.inr (.inl rfl))⟩)) (nn _ (.inl ⟨.inr (.inr (.inr rfl))⟩))⟩,h.ok,h.gw.trans h.pr g λa y=>?_,h.pr.trans (p.mono λa x=>x.elim .inl λx=>.inr (.inl x)),nw,h.ne⟩
 rcases y with rfl |rfl |m
 ·exact w.fk.1
 ·exact w.fl.1
 ·exact(nw a (.inl m)).1
theorem PT.mut{W:St}{T:Nat}{q:Addr}{s s':PS}(h:PT X t vf W0 bL W σ T fa oa q qd l s)(p:aF Y σ ao)(hY:∀a,Y a→Mx fa oa q qd l a)
  (fl:DF ao X.is fa λk=>(s'.f k).map vf)(od:ao oa=some (.list (s'.o.map (cb X.is))))(qs:∃b9,QS ao X.is q qd l t b9 s'.w)(ok:s'.Ok X.is.length):PT X t vf W0 bL W ao T fa oa q qd l s':=by
 refine xe h.ws λls w=>?_;refine⟨⟨ls,w.sY p λa y=>?_⟩,fl,od,qs,ok,h.gw,h.pr.trans (p.mono λa y=>.inr (.inr (hY a y))),h.nw,h.ne⟩;refine xa (h.nw a (.inl (hY a y))) λn1 n2=>?_;exact⟨⟨n2.d,n2.c,n1⟩,n2.kn,n2.lv⟩
structure PT.Ne(fa oa q qd l:Addr):Prop where
 fo:fa≠oa
 fq:fa≠q
 fd:fa≠qd
 fl:fa≠l
 oq:oa≠q
 od:oa≠qd
 ol:oa≠l
theorem PT.q5{W:St}{T:Nat}{q:Addr}{s:PS}(h:PT X t vf W0 bL W σ T fa oa q qd l s):PT.Ne fa oa q qd l:=by
 refine xe h.qs λb9 Q=>?_;obtain⟨c,iq,vs,il⟩:=Q.inst;refine xe h.fl.there λes ef=>?_;have od:=h.od
 refine⟨λe=>?_,λe=>?_,λe=>?_,λe=>?_,λe=>?_,λe=>?_,h.ne⟩
 ·rw[e,od]at ef;cases ef
 ·rw[e,iq.1]at ef;cases ef
 ·rw[e,iq.2]at ef;cases ef
 ·rw[e,il]at ef;cases ef
 ·rw[e,iq.1]at od;cases od
 ·rw[e,iq.2]at od;cases od
noncomputable abbrev s7(X:Wx):=PT X (λj=>(ip X.row j:Int)) λm=>.int (m:Nat)
theorem Wj:∀a,a<4→∀b,b<4→Mb ((a:Nat):Int) ((b:Nat):Int)=((a |||b:Nat):Int):=by decide+kernel
theorem Wl{W:St}{T:Nat}{q:Addr}{s:PS}{v k m:Nat}{K:dy→aL→St→Prop}(h:s7 X W0 bL W σ T fa oa q qd l s)(hk:k<X.is.length)(hm:m<4)(n4:X.is.length≤4)(hi:Inj X.is)
  (ev:e v=some (cb X.is k))(Wm:e 116=some (.int m))(uT:e 109=some (.loc fa))(J0:e 123=some (.loc q))(fg:e 78=some (.loc X.wk))
  (z:∀W' ae,aF aS W W'→s7 X W0 bL W' ae T fa oa q qd l (s.put k m)→K .next e ae):
  ah (bC (aT .NotIn (af v) (af 109)) (ah (cw (bN 588 26 qB (af 123) (ag (bN 958 114 yl (af 78) (ag (af v) ar)) (ag (af v) ar)))) (ah (aP (au (.int 0)) (dg (af 109) (af v))) az)) az) (ah (aP (be .BitOr (bc (af 109) (af v)) (af 116)) (dg (af 109) (af v))) az) e σ K:=by
 have N:=h.q5;refine xe h.qs λb9 Q=>?_
 cases hf:s.f k with
 |none=>
  have ep:s.put k m=⟨s.w++[k],s.o,eM s.f k m⟩:=by unfold PS.put;rw[hf]
  refine a9 Q.inst λc iq zz=>?_;refine xe h.ws λls w=>?_
  refine oB (.to (.cmp (.var ev) (.var uT) (.DU hi h.fl hk)) (by rw[hf];rfl))<|iA<|sj (.var J0) iq.fi<|jA<|eX (.var fg) (w.inst rfl) (.one (.var ev))<|aiS w hk ⟨λW1 ao jK g1 w1 P1=>dH<|bV (.var ev) ?_⟩
  have h1:=h.lift g1 w1 P1;refine xe h1.qs λaiX Q1=>?_
  refine VX Q1 (h.ok.JZ n4 hk hf) (λz=>by have:=(h.ok.lt k z).2;rw[hf]at this;exact eP this) rfl ⟨λay Q2 P2=>?_⟩
  refine lu .val (.var uT) (.var ev)<|xi hi n4 (h1.fl.a7 P2 (λx=>x.elim N.fd N.fl)) hk λaQ Wn P3=>bp<|lu (.bin (.item (.var uT) (.var ev) (.df hi Wn hk (v:=.int 0) (if_pos rfl))) (.var Wm) .or) (.var uT) (.var ev)<|xi hi n4 Wn hk λbU zZ P4=>bp<|z W1 bU g1.p ?_
  have e0:Mb 0 ((m:Nat):Int)=((0 |||m:Nat):Int):=Wj 0 (by decide) m hm
  rw[e0,Nat.zero_or]at zZ;have P24:=(P2.mono λa x=>(⟨.inr (.inr x)⟩:Mx fa oa q qd l a)).trans ((P3.mono λa x=>⟨.inl x⟩).trans (P4.mono λa x=>⟨.inl x⟩))
  refine h1.mut P24 (λa y=>y) (zZ.congr λj=>?_) (by rw[ep];exact P4.at (P3.at (P2.at h1.od (λx=>x.elim N.od N.ol)) λx=>N.fo x.symm) λx=>N.fo x.symm) ⟨aiX+1,?_⟩ (h.ok.put hk hm)
  ·rw[ep]
   show(if j=k then _ else if j=k then _ else _)=(if j=k then some m else s.f j).map _
   split<;>rfl
  ·rw[ep]
   exact(Q2.a7 P3 (λx=>N.fq x.symm) (λx=>N.fd x.symm) λx=>N.fl x.symm).a7 P4 (λx=>N.fq x.symm) (λx=>N.fd x.symm) λx=>N.fl x.symm
 |some m'=>
  have ep:s.put k m=⟨s.w,s.o,eM s.f k (m' |||m)⟩:=by unfold PS.put;rw[hf]
  refine e8 (.to (.cmp (.var ev) (.var uT) (.DU hi h.fl hk)) (by rw[hf];rfl))<|bp<|lu (.bin (.item (.var uT) (.var ev) (.df hi h.fl hk (v:=.int (m':Nat)) (by rw[hf];rfl))) (.var Wm) .or) (.var uT) (.var ev)<|xi hi n4 h.fl hk λbU zZ P4=>bp<|z W bU (.refl _ _) ?_
  rw[Wj m' (h.ok.m k m' hf) m hm]at zZ
  refine h.mut (P4.mono λa x=>(⟨.inl x⟩:Mx fa oa q qd l a)) (λa y=>y) (zZ.congr λj=>?_) (by rw[ep];exact P4.at h.od λx=>N.fo x.symm) ⟨b9,by rw[ep];exact Q.a7 P4 (λx=>N.fq x.symm) (λx=>N.fd x.symm) λx=>N.fl x.symm⟩ (h.ok.put hk hm)
  rw[ep]
  show(if j=k then _ else _)=(if j=k then some _ else s.f j).map _
  split<;>rfl
noncomputable def xj(is:List Nat)(b:Nat×Nat):CV:=.tup [cb is b.1,.int b.2]
noncomputable def gV:PS:=⟨[],[],λz=>none⟩
theorem xk{ks:List Nat}(h:ks≠[]):kT t ks∈ks:=by
 induction ks with
 |nil=>exact absurd rfl h
 |cons k ks=>
  have key:∀(l:List Nat) (b:Nat),l.foldl (λh j=>if t j>t h then j else h) b=b∨l.foldl (λh j=>if t j>t h then j else h) b∈l:=by
   intro l
   induction l with
   |nil=>intro b;exact .inl rfl
   |cons x l ih=>
    intro b;rw[kh]
    rcases ih (if t x>t b then x else b)with e |e
    ·rw[e];split
     ·exact .inr (by simp)
     ·exact .inl rfl
    ·exact .inr (by simp[e])
  show(k::ks).foldl (λh j=>if t j>t h then j else h) k∈k::ks
  rcases key (k::ks) k with e |e
  ·rw[e];simp
  ·exact e
theorem z5(n:Nat):gV.Ok n:=⟨E6,λz h=>(cA h),λz z h=>(bo h)⟩
theorem PS.aiY{s:PS}{k m:Nat}(h:(s.f j).isSome=true):((s.put k m).f j).isSome=true:=by
 unfold PS.put
 split<;>simp only[eM]<;>split<;>first |rfl |exact h
theorem Wo(s:PS)(k m:Nat):(s.put k m).o=s.o:=by unfold PS.put;split<;>rfl
theorem Wp:∀(bs:List (Nat×Nat)) (s:PS),(PS.begin s bs).o=s.o
 |[],s=>rfl
 |b::bs,s=>by show(PS.begin (s.put b.1 b.2) bs).o=_;rw[Wp bs,Wo]
theorem J1(k:Nat):∀(ps:List Nat) (s:PS),(PS.rq s k ps).o=s.o
 |[],s=>rfl
 |p::ps,s=>by
  unfold PS.rq
  split
  ·rw[J1 k ps,Wo]
  ·rw[J1 k ps]
theorem aiZ:Fn Bs [x,y] σ x:=λQ q=>df<|bX .var q
theorem ai0(q:Q x σ):Bs [x,y] [] σ Q:=aiZ _ q
theorem ai1{W:St}{T:Nat}{ba:Addr}{bs:List (Nat×Nat)}{R:PS}(h:WS X W σ T ls)(xm:W ba=some (.list (bs.map (xj X.is))))(CP:∀b∈bs,b.1<X.is.length∧b.2<4)
  (hR:PS.run X.row 5 (PS.begin gV bs)=R)(hw:R.w=[])
  (q:bI (∀W' ae cE oa fa,Gw σ W W'→WS X W' ae T cE→aF (two X.kn X.lv) σ ae→W' oa=some (.list (R.o.map (cb X.is)))→DF W' X.is fa (λk=>(R.f k).map λm=>.int (m:Nat))→Q (.tup [.loc oa,.loc fa]) ae)):
  Gf [.loc X.wk,.loc ba,.loc 627] [] σ Q:=by
 have n4:=h.f.n4;have hi:=h.f.inj;refine Pp λe fg e99 ai2=>Hf<|cX λfa ao qh mD P1=>dh .nil λoa ay nJ gz P2=>cu .nil<|VN ⟨λqa qd l aQ nq z6 nl HQ P3=>?_⟩
 have fresh:∀a,Mx fa oa qa qd l a∨a=qa→σ a=none:=λa m=>by
  rcases m with⟨rfl |rfl |rfl |rfl⟩ |rfl
  ·exact qh
  ·exact P1.no nJ
  ·exact P1.no (P2.no z6)
  ·exact P1.no (P2.no nl)
  ·exact P1.no (P2.no nq)
 have pt:s7 X W σ W aQ T fa oa qa qd l gV:=
  ⟨⟨ls,((h.ext P1).ext P2).ext P3⟩,DT (P3.at (P2.at mD)),P3.at gz,⟨0,VV HQ⟩,z5 _,.refl _ _,((P1.trans P2).trans P3).mono λd h=>h.elim,λa m=>⟨h.dk.nw (fresh a m),h.nx (fresh a m)⟩,gK nl gz⟩
 clear qh nJ nq z6 nl HQ P1 P2 P3 mD gz
 have qi:∀{W' ae s} {a:Addr} {o:CO},s7 X W σ W' ae T fa oa qa qd l s→W' a=some o→ae a=some o:=λpt hw=>by refine xe pt.ws λls w=>?_;exact w.dk.fr.at hw
 generalize oT:PS.begin gV bs=R0 at hR
 refine jB (.var e99) (qi pt xm) λok bw=>acX [21,116,111,163] (λb=>cb X.is b.1) (λb=>.int b.2) (λtl ae=>∃s W',(∀b∈tl,b.1<X.is.length∧b.2<4)∧PS.begin s tl=R0∧s7 X W σ W' ae T fa oa qa qd l s) ⟨gV,W,CP,oT,pt⟩ (λb tl e' ae s ev em z=>?_) λe' ae s' z=>?_
 ·refine jg z λs1 W' hb hs pt=>?_
  refine xa (hb b (.head _)) λb1 b2=>?_;exact⟨bw _ (qi pt (pt.gw.p.at xm)),λK kk=>Wl (v:=21) pt b1 b2 n4 hi ev em (s.rd (j:=109) rfl rfl) (s.rd (j:=123) rfl rfl) (s.rd (j:=78) fg rfl) λW2 ay d uU=>kk.nx ⟨s1.put b.1 b.2,W2,λb jn=>hb b (.tail _ jn),hs,uU⟩⟩
 refine jg z λs0 W' zz hs pt=>?_;refine⟨bw _ (qi pt (pt.gw.p.at xm)),?_⟩;have hs:s0=R0:=hs;subst hs
 have s8:s0.o.length+5=5:=by rw[←oT,Wp];rfl
 clear bw oT;refine pP<|qG [21,116,111,163] (λf d ae=>∃s W',s.o.length+f=5∧PS.run X.row f s=R∧s7 X W σ W' ae T fa oa qa qd l s) (n:=5) ⟨s0,W',s8,hR,pt⟩ λf e1 ao s1 z V hV=>?_;clear pt hR s8;refine jg z λs W1 ho hR pt=>?_;have N:=pt.q5;refine xe pt.qs λb9 Qs=>?_;refine a9 Qs.inst λcq iq zz=>?_;have g7:s.w.length≤4:=aR (oQ _ _ pt.ok.nd λk hk=>(pt.ok.lt k hk).1) n4;have sV:=s1;have s1:=s'.tr s1;have qf:e1 78=some (.loc X.wk):=s1.rd (j:=78) fg rfl;have ai3:e1 109=some (.loc fa):=s1.rd (j:=109) rfl rfl;have ai4:e1 119=some (.loc oa):=s1.rd (j:=119) rfl rfl;have J2:e1 123=some (.loc qa):=s1.rd (j:=123) rfl rfl;have ai5:e1 164=some (.loc 627):=s1.rd (j:=164) ai2 rfl
 refine sA (.cmp (.jy .var iq.fi .nil (VW Qs g7)) .val .gt) (λg=>?_) λg=>?_
 ·have h0:s.w≠[]:=λe=>by rw[e]at g;exact eP g
  induction f with
  |zero=>exact absurd (by rw[←hR]at hw;exact hw) h0
  |succ f=>
  replace hR:=(if_neg h0).symm.trans hR
  have xn:=xk (t:=λj=>(ip X.row j:Int)) h0;refine cy<|eX .var iq.fi .nil<|VZ Qs g7 h0 ⟨λay Q1 P1=>?_⟩;unfold PS.step at hR;generalize kT (λj=>(ip X.row j:Int)) s.w=k at*;have ij:=(pt.ok.lt k xn).1
  refine su (cb X.is) k (.var ai4) .var (P1.at pt.od N.ol) (l1 (el ho) (by simp+arith only)) λaQ z7 u=>?_
  have uU:s7 X W σ W1 aQ T fa oa qa qd l ⟨s.w.filter (·≠k),s.o++[k],s.f⟩:=
   pt.mut (Y:=Mx fa oa qa qd l) ((P1.mono λa x=>⟨.inr (.inr (.inr x))⟩).trans (u.mono λa x=>⟨.inr (.inl x)⟩)) (λa y=>y) ((pt.fl.a7 P1 N.fl).a7 u N.fo) z7 ⟨_,Q1.a7 u (λx=>N.oq x.symm) (λx=>N.od x.symm) λx=>N.ol x.symm⟩ ⟨pt.ok.nd.filter _,λj hj=>pt.ok.lt j (rK.1 hj).1,pt.ok.m⟩
  have sO:=(pt.ok.lt k xn).2
  have iZ:(s.o++[k]).length+f=5:=by rw[bW,←ho,AU,tC _ f];rfl
  clear u P1 Q1 z7;refine xe uU.ws λuV w2=>?_;refine acY<|v8<|eX (.var qf) (w2.inst rfl) (.one .var)<|xd w2 ij ⟨λW3 bU a ad pl ti G3 w3 H P3=>atK (.ins (H.i.a7 w3.dk.fr)) ⟨_,_,rfl,.inl (w3.dk.fr.at H.p),?_⟩⟩;have J3:=uU.lift G3 w3 (P3.mono λa x=>.inl x);generalize xp:PS.rq _ k (X.row k)=R1 at hR
  refine Hr [116,111,163] (λidx e' ae=>∃s' mE,aF aS W3 mE∧PS.rq s' k ((X.row k).drop idx)=R1∧s7 X W σ mE ae T fa oa qa qd l s'∧(s'.f k).isSome=true) ⟨_,W3,.refl _ _,xp,J3,sO⟩ (λidx v e2 fG hv s2 z=>?_) λe2 fG s2 z=>?_
  ·refine xZ z λs' mE PW cH gA DV=>?_
   refine⟨.inl (qi gA (PW.at H.p)),λK8 uW=>?_⟩;refine a9 (tg.1 (dM▸hv)) λp p9 aq=>?_;obtain rfl:=aq;refine xe gA.ws λJ4 w4=>?_;have jE:=(iL.1 p9).1;have hp:=w4.f.fh k _ (tj p9);rw[Lc jE,(iL.1 p9).2]at cH;obtain⟨m,hm⟩:=Lf.1 DV;have hm4:=gA.ok.m k m hm;have Wq:=s2.rd (j:=109) ai3 rfl;have g21:=s2.rd (j:=21) (v:=cb X.is k) rfl rfl
   refine cy<|show Ie _ _ _ _ _ _ _ from⟨s2.rd (j:=164) ai5 rfl,elK (.two (.item (.var Wq) (.var g21) (.df hi gA.fl ij (v:=.int (m:Nat)) (by rw[hm];rfl))) .var) (ai0 ?_)⟩
   refine fO (.cmp .var .val .eq) (λg=>?_) λg=>bp ?_
   ·have m0:m=0:=AQ (of_decide_eq_true g)
    subst m0;rw[PS.rq,hm]at cH
    exact Hj<|uW.ct ⟨s',mE,PW,cH,gA,DV⟩
   ·induction m with
    |zero=>exact absurd rfl (of_decide_eq_false g)
    |succ m=>
     rw[PS.rq,hm]at cH
     exact Wl (v:=163) (k:=p) (m:=m+1) gA (jN hp ij) hm4 n4 hi rfl rfl Wq (s2.rd (j:=123) J2 rfl) (s2.rd (j:=78) qf rfl) λW5 fH lM z8=>uW.nx ⟨s'.put p (m+1),W5,PW.trans lM,cH,z8,PS.aiY DV⟩
  ·refine xZ z λs' mE PW cH gA DV=>?_
   rw[aZ,Lz]at cH;have cH:s'=R1:=cH;subst cH
   exact⟨.inl (qi gA (PW.at H.p)),hV (kX f) ⟨s',mE,by rw[←xp,J1];exact iZ,hR,gA⟩ (sV.set.tr s2)⟩
 ·have h0:s.w=[]:=Au (YI λh=>of_decide_eq_false g (dN.2 h))
  have hs:s=R:=by
   induction f with
   |zero=>exact hR
   |succ f=>exact(if_pos h0).symm.trans hR
  subst hs;refine xe pt.ws λcE w=>?_;refine xe pt.fl.there λes ef=>?_;have nf:=pt.nw fa (.inl ⟨.inl rfl⟩);have no:=pt.nw oa (.inl ⟨.inr (.inl rfl)⟩);refine cz (w.fz ef nf.2) λW2 cJ g1 w1 u1=>?_;refine cz (w1.fz pt.od no.2) λW3 dU g2 w2 u2=>?_;have G:=(pt.gw.tr (qg cJ (fresh fa (.inl ⟨.inl rfl⟩)) u1)).tr (qg dU (fresh oa (.inl ⟨.inr (.inl rfl)⟩)) u2)
  refine bX (.tup (.two .var .var)) (q.out W3 ao cE oa fa G w2 (λa o ha hn=>pt.pr.at ha λx=>?_) g2 ?_)
  ·rcases x with x |x |m
   ·exact hn (.inl x)
   ·exact hn (.inr x)
   ·exact bo ((fresh a (.inl m)).symm.trans ha)
  ·refine bF pt.fl.ex λll f1 f2 f3=>?_
   rw[f1.at_]at ef;cases ef;exact⟨ll,⟨dU.at g1,f1.lt,f1.len⟩,f2,f3⟩
noncomputable def DW(ws hs:List Nat):List (Nat×Nat):=ws.map (λk=>(k,1))++hs.map λk=>(k,2)
noncomputable def runOf(row:Nat→List Nat)(ws hs:List Nat):PS:=PS.run row 5 (PS.begin gV (DW ws hs))
structure xq(row:Nat→List Nat)(n:Nat)(ws hs:List Nat):Prop where
 w:(runOf row ws hs).w=[]
 o:∀k∈(runOf row ws hs).o,k<n∧((runOf row ws hs).f k).isSome=true
 l:(runOf row ws hs).o.length≤100
noncomputable def z9(R:PS)(k:Nat):Option Nat:=if k∈R.o∧R.f k=some 1 then some 1 else none
noncomputable def qj(_:Nat):CV:=.bool true
theorem ai6{W:St}{T:Nat}{ws:List Nat}(h:WS X W σ T ls)(xr:∀k∈ws,k<X.is.length)(uX:∀k∈hs,k<X.is.length)(lw:ws.length≤10)(lh:hs.length≤10)(R:xq X.row X.is.length ws hs)
  (q:bI (∀W' ae cE sa,Gw σ W W'→WS X W' ae T cE→aF (two X.kn X.lv) σ ae→DF W' X.is sa (λk=>(z9 (runOf X.row ws hs) k).map qj)→Q (.loc sa) ae)):
  Gg [.loc X.wk,.tup (ws.map (cb X.is)),.tup (hs.map (cb X.is)),.bool false] [] σ Q:=by
 have n4:=h.f.n4;have hi:=h.f.inj
 refine df<|cy<|ly<|md (cb X.is) (λk=>xj X.is (k,1)) (.tu .var) (aR lw (by decide)) (λk u ce s hv=>.tup (.two .var .glob)) λl1 ao Wc j3 P1=>md (cb X.is) (λk=>xj X.is (k,2)) (.tu .var) (aR lh (by decide)) (λk u ce s hv=>.tup (.two .var .glob)) λl2 ay Wd lG P2=>
  PJ (P2.at j3) lG (by rw[aZ,aZ];exact aR (gj lw lh) (by decide)) λba aQ Wr xm P3=>?_
 have P:=(P1.trans P2).trans P3;have Ws:=(P1.trans P2).no Wr;refine cz ((h.ext P).fz xm (h.nx Ws)) λW1 ik Wt h3 u1=>?_
 have eb:(ws.map λk=>xj X.is (k,1))++(hs.map λk=>xj X.is (k,2))=(DW ws hs).map (xj X.is):=by
  unfold DW;rw[cR,dp,dp];rfl
 rw[eb]at Wt
 have hb:∀b∈DW ws hs,b.1<X.is.length∧b.2<4:=λb hb=>by
  rcases fY.1 hb with hb |hb
  ·refine a9 (dD.1 hb) λk hk aq=>?_;subst aq;exact⟨xr k hk,(by decide:1<4)⟩
  ·refine a9 (dD.1 hb) λk hk aq=>?_;subst aq;exact⟨uX k hk,(by decide:2<4)⟩
 refine acT<|eX .var (h3.inst rfl) (.two .var (.iff (.val .var) .glob))<|ai1 (R:=runOf X.row ws hs) h3 Wt hb rfl R.w ⟨λW4 bU J4 oa fa G4 h4 P4 gz mD=>⟨_,rfl,rfl,cy<|cX λsa fG J5 Aa P5=>?_⟩⟩;have G:Gw σ W W4:=(qg ik Ws u1).trans P G4 λa x=>x.elim;have PP:=P.pn P4;clear j3 lG P1 P2 P3 Wc Wd Wr eb xm hb;have hRo:=R.o;generalize runOf X.row ws hs=RR at*;have uY:=h4.nx J5;have nsw:=h4.dk.nw J5;have A7:=PP.no J5 (λy=>y.elim uY.kn uY.lv)
 refine jB .var ((h4.ext P5).dk.fr.at gz) λok bw=>pN [21] (cb X.is) (λtl ae=>∃done,RR.o=done++tl∧DF ae X.is sa (λk=>(if k∈done∧RR.f k=some 1 then some 1 else none:Option Nat).map qj)∧WS X W4 ae T J4∧aF (xg X sa) σ ae)
  ⟨[],rfl,(DT Aa).congr λk=>(by rw[if_neg λz=>rJ z.1];rfl),h4.ext P5,(PP.nx P5).mono λa=>.inl⟩ (λj tl e' ae s hv z=>?_) λe' ae s z=>?_
 ·refine cz z λdone hd D w P'=>?_
  refine xa (hRo j (by rw[hd];exact kW _ (.head _))) λzV DX=>?_
  obtain⟨m,hm⟩:=Lf.1 DX;have D':=mD.a7 w.dk.fr
  have mem:∀{i:Nat} {P:Prop},i≠j→((i∈done++[j]∧P)↔(i∈done∧P)):=λn=>and_congr_left λu=>by rw[fY,cL];exact or_iff_left n
  refine⟨bw _ (w.dk.fr.at gz),λK kk=>fO (.cmp (.item .var .var (.df hi D' zV (v:=.int (m:Nat)) (by rw[hm];rfl))) .glob .eq) (λg=>?_) λg=>?_⟩
  ·have m1:m=1:=AQ (of_decide_eq_true g)
   subst m1
   refine lu .val .var .var<|xi hi n4 D zV λfH D6 P6=>oA<|kk.nx ⟨done++[j],by rw[hd,fJ];rfl,D6.congr λi=>?_,w.sY P6 λa e=>by obtain rfl:=e.symm;exact⟨⟨uY.d,uY.c,nsw⟩,uY.kn,uY.lv⟩,P'.trans (P6.mono λa=>.inr)⟩
   show(if i=j then _ else _)=_
   by_cases ei:i=j
   ·rw[if_pos ei,ei,if_pos ⟨kW _ (.head _),hm⟩];rfl
   ·rw[if_neg ei];simp only[mem ei]
  ·have m1:m≠1:=λe=>of_decide_eq_false g (congrArg Int.ofNat e)
   refine bp<|bp<|kk.nx ⟨done++[j],by rw[hd,fJ];rfl,D.congr λi=>?_,w,P'⟩
   by_cases ei:i=j
   ·rw[ei,if_neg λz=>m1 (bt (hm.symm.trans z.2)),if_neg λz=>m1 (bt (hm.symm.trans z.2))]
   ·simp only[mem ei]
 ·refine cz z λdone hd D w P'=>?_
  rw[fj]at hd;subst hd;refine bF D.ex λll f1 f2 f3=>?_;refine cz (w.fz f1.at_ uY) λW6 Jy ai7 h6 u6=>?_
  exact⟨bw _ (w.dk.fr.at gz),bX .var (q.out W6 ae J4 sa (G.tr (qg Jy A7 u6)) h6 (λa o ha hn=>P'.at ha λx=>x.elim hn λx=>by rw[x,A7]at ha;exact bo ha) ⟨ll,⟨ai7,f1.lt,f1.len⟩,f2,f3⟩)⟩
set_option tactic.hygienic true
noncomputable def dW(sh:Nat→Bool)(s:PS)(p:Nat):PS:=if sh p&&(s.f p).isNone then⟨s.w++[p],s.o,eM s.f p 1⟩else s
noncomputable def nK(row:Nat→List Nat)(t:Nat→Int)(sh:Nat→Bool)(s:PS):PS:=
 (row (kT t s.w)).foldl (dW sh) ⟨s.w.filter (·≠kT t s.w),s.o++[kT t s.w],s.f⟩
noncomputable def lQ(row:Nat→List Nat)(t:Nat→Int)(sh:Nat→Bool):Nat→PS→PS
 |0,s=>s
 |n+1,s=>if s.w=[]then s else lQ row t sh n (nK row t sh s)
theorem J6{row:Nat→List Nat}{n:Nat}{s:PS}(e:s.w=[]):lQ row t sh (n+1) s=s:=if_pos e
theorem J7{row:Nat→List Nat}{n:Nat}{s:PS}(e:s.w≠[]):lQ row t sh (n+1) s=lQ row t sh n (nK row t sh s):=if_neg e
noncomputable def j9(row:Nat→List Nat)(t:Nat→Int)(sh:Nat→Bool)(a:Nat):PS:=lQ row t sh 5 (dW sh gV a)
theorem DY{s:PS}{n p:Nat}(h:s.Ok n)(hp:p<n):(dW sh s p).Ok n:=by
 unfold dW
 split
 ·rename_i g
  simp at g
  have:=h.put (k:=p) (m:=1) hp (by decide)
  unfold PS.put at this;rw[g.2]at this
  exact this
 ·exact h
noncomputable def oU(n:Nat)(s:PS):Nat:=s.w.length+((cS n).filter λk=>(s.f k).isNone).length
theorem Wu{f:Nat→Option Nat}{k:Nat}(hf:f k=none):∀(l:List Nat),l.Nodup→k∈l→(l.filter λj=>(eM f k 1 j).isNone).length+1=(l.filter λj=>(f j).isNone).length
 |[],_,h=>by exact cA h
 |j::l,hn,h=>by
  rw[mN]at hn
  by_cases e:j=k
  ·subst e
   have h1:l.filter (λi=>(eM f j 1 i).isNone)=l.filter λi=>(f i).isNone:=List.filter_congr λi hi=>by
    have:i≠j:=λe=>hn.1 (e▸hi);simp[eM,this]
   rw[EB (by simp[eM]),EC (by simp[hf]),h1,kY]
  ·have ih:=Wu hf l hn.2 ((eO.1 h).resolve_left λz=>e z.symm)
   by_cases g:(f j).isNone=true
   ·rw[EC (by simp[eM,e];simpa using g),EC (by simpa using g),kY,kY];exact congrArg Nat.succ ih
   ·rw[EB (by simp[eM,e];simpa using g),EB (by simpa using g)];exact ih
theorem Wv{s:PS}{n p:Nat}(hp:p<n):oU n (dW sh s p)=oU n s:=by
 unfold dW
 split
 ·rename_i g
  simp at g;have:=Wu g.2 (cS n) List.nodup_range (E7.2 hp);unfold oU;simp at this ⊢
  exact q1 this (by simp+arith only)
 ·rfl
theorem Ww{n:Nat}:∀(ps:List Nat) (s:PS),(∀p∈ps,p<n)→oU n (ps.foldl (dW sh) s)=oU n s
 |[],s,_=>rfl
 |p::ps,s,h=>by
  rw[kh,Ww ps _ λq hq=>h q (.tail _ hq),Wv (h p (.head _))]
theorem Wy{n:Nat}:∀(ps:List Nat) (s:PS),s.Ok n→(∀p∈ps,p<n)→(ps.foldl (dW sh) s).Ok n
 |[],s,h,_=>h
 |p::ps,s,h,hp=>Wy ps _ (DY h (hp p (.head _))) λq hq=>hp q (.tail _ hq)
theorem Wz{k:Nat}:∀{l:List Nat},l.Nodup→k∈l→(l.filter (·≠k)).length+1=l.length
 |[],_,h=>by exact cA h
 |j::l,hn,h=>by
  rw[mN]at hn
  by_cases e:j=k
  ·subst e
   have:l.filter (·≠j)=l:=EH.2 λa ha=>by
    have:a≠j:=λe=>hn.1 (e▸ha);simpa using this
   rw[EB (by simp),this,kY]
  ·have ih:=Wz hn.2 ((eO.1 h).resolve_left λz=>e z.symm)
   rw[EC (by simpa using e),kY,kY];exact congrArg Nat.succ ih
theorem WA{row:Nat→List Nat}{s:PS}{n:Nat}(h:s.Ok n)(hr:∀k,k<n→∀j∈row k,j<n)(h0:s.w≠[]):(nK row t sh s).Ok n∧oU n (nK row t sh s)+1=oU n s:=by
 have hp:=xk (t:=t) h0;have hn:=(h.lt _ hp).1;unfold nK;refine⟨Wy _ _ ⟨h.nd.filter _,λj hj=>h.lt j (rK.1 hj).1,h.m⟩ (hr _ hn),?_⟩;rw[Ww _ _ (hr _ hn)];have:=Wz h.nd hp;unfold oU;simp only at this ⊢
 exact q1 this (by simp+arith only)
theorem WB{row:Nat→List Nat}{n:Nat}(hr:∀k,k<n→∀j∈row k,j<n):∀(f:Nat) (s:PS),s.Ok n→oU n s≤f→(lQ row t sh f s).w=[]∧(lQ row t sh f s).Ok n
 |0,s,h,hp=>⟨Au (by unfold oU at hp;show s.w.length=0;exact Nat.le_zero.1 (l1 hp (by simp+arith only))),h⟩
 |f+1,s,h,hp=>by
  by_cases e:s.w=[]
  ·rw[J6 e];exact⟨e,h⟩
  ·rw[J7 e]
   refine xa (WA (t:=t) (sh:=sh) h hr e) λh1 h2=>?_
   exact WB hr f _ h1 (l2 hp (el h2) (by simp+arith only))
theorem WC{row:Nat→List Nat}{n a:Nat}(n4:n≤4)(ha:a<n)(hr:∀k,∀j∈row k,j<k):(j9 row t sh a).w=[]:=by
 refine(WB (n:=n) (λk hk j hj=>by have:=hr k j hj;exact jN this hk) 5 _ (DY (z5 n) ha) ?_).1
 rw[Wv ha];unfold oU gV;have:=EE (λk=>((λz=>none:Nat→Option Nat) k).isNone) (cS n);simp at this ⊢;exact jQ this n4 rfl
set_option tactic.hygienic false
noncomputable abbrev iK(X:Wx):Nat→Int:=λk=>(X.time k:Int)
noncomputable abbrev oV(X:Wx):=PT X (iK X) qj
theorem ai8{k:Nat}(hi:Inj is)(n4:is.length≤4)(hk:k<is.length)(q:bI (∀ae a,σ a=none→ae a=some (.list [cb is k])→aF aS σ ae→Q (.loc a) ae)):Gb [.tup [cb is k]] [] σ Q:=by
 refine qE λe he=>vY<|cX λka ao DZ oW P1=>dh .nil λfa ay qh mD P2=>Ho (vs:=[cb is k]) .var ⟨trivial,?_⟩;have P:=P1.trans P2;have D:DF ay is ka λz=>none:=DT (P2.at oW);refine oB (.cmp .var .var (.DU hi D hk))<|lu .val .var .var<|xi hi n4 D hk λaQ D3 P3=>yH .var .var (P3.at mD (gK qh oW).symm) (dE _) λbU h4 P4=>oA ⟨trivial,bX .var (q.out _ fa (P1.no qh) h4 ((P.sn P3 DZ).sn P4 (P1.no qh)))⟩
theorem WD{W:St}{T:Nat}{q:Addr}{s:PS}{v p:Nat}{K:dy→aL→St→Prop}(h:oV X W0 bL W σ T fa oa q qd l s)(hk:p<X.is.length)(hf:s.f p=none)(n4:X.is.length≤4)(hi:Inj X.is)
  (ev:e v=some (cb X.is p))(e77:e 77=some (.loc fa))(J0:e 123=some (.loc q))(fg:e 78=some (.loc X.wk))
  (z:∀W' ae,aF aS W W'→oV X W0 bL W' ae T fa oa q qd l ⟨s.w++[p],s.o,eM s.f p 1⟩→K .next e ae):
  ah (aP (au (.bool true)) (dg (af 77) (af v))) (ah (cw (bN 588 26 qB (af 123) (ag (bN 958 45 yk (af 78) (ag (af v) ar)) (ag (af v) ar)))) az) e σ K:=by
 have N:=h.q5;refine lu .val (.var e77) (.var ev)<|xi hi n4 h.fl hk λao fl1 P1=>?_;refine xe h.qs λb9 Q=>?_
 have Ab:(⟨s.w++[p],s.o,eM s.f p 1⟩:PS).Ok X.is.length:=by
  have:=h.ok.put (k:=p) (m:=1) hk (by decide)
  unfold PS.put at this;rw[hf]at this;exact this
 have ai9:DF ao X.is fa λk=>(eM s.f p 1 k).map qj:=fl1.congr λj=>by
  show(if j=p then _ else _)=(if j=p then _ else _:Option Nat).map _
  split<;>rfl
 have Q1:=Q.a7 P1 (λx=>N.fq x.symm) (λx=>N.fd x.symm) λx=>N.fl x.symm
 have h1:oV X W0 bL W ao T fa oa q qd l ⟨s.w,s.o,eM s.f p 1⟩:=by
  refine h.mut (Y:=Mx fa oa q qd l) (P1.mono λa x=>⟨.inl x⟩) (λa y=>y) ai9 (P1.at h.od λx=>N.fo x.symm) ⟨_,Q1⟩ ⟨h.ok.nd,λj hj=>⟨(h.ok.lt j hj).1,?_⟩,Ab.m⟩
  show(if j=p then some 1 else s.f j).isSome=true
  split
  ·rfl
  ·exact(h.ok.lt j hj).2
 refine xe h1.ws λjK w1=>?_;refine a9 Q1.inst λc iq zz=>?_;refine iA<|sj (.var J0) iq.fi<|jA<|eX (.var fg) (w1.inst rfl) (.one (.var ev))<|aiJ w1 hk ⟨λW2 ay G2 w2 P2=>dH<|bV (.var ev) ?_⟩;have h2:=h1.lift G2 w2 (P2.mono λa x=>.inl x);refine xe h2.qs λalW Q2=>?_
 exact VX Q2 (h.ok.JZ n4 hk hf) (λz=>by have:=(h.ok.lt p z).2;rw[hf]at this;exact eP this) rfl ⟨λaQ Q3 P3=>bp<|z W2 aQ G2.p<|h2.mut (Y:=Mx fa oa q qd l) (P3.mono λa x=>⟨.inr (.inr x)⟩) (λa y=>y) (h2.fl.a7 P3 (λx=>x.elim N.fd N.fl)) (P3.at h2.od (λx=>x.elim N.od N.ol)) ⟨_,Q3⟩ Ab⟩
theorem aja{W:St}{T:Nat}{sa:Addr}{g:Nat→Option Nat}(h:WS X W σ T ls)(Aa:DF W X.is sa λk=>(g k).map qj)(ha:a<X.is.length)
  (q:bI (∀W' ae cE oa,Gw σ W W'→WS X W' ae T cE→aF (two X.kn X.lv) σ ae→W' oa=some (.list ((j9 X.row (iK X) (λk=>(g k).isSome) a).o.map (cb X.is)))→Q (.loc oa) ae)):
  Gi [.loc X.wk,.tup [cb X.is a],.loc sa,.bool false] [] σ Q:=by
 have n4:=h.f.n4;have hi:=h.f.inj;have ry:=WC (t:=iK X) (sh:=λk=>(g k).isSome) n4 ha h.f.fh;refine df<|Hf<|cu .nil<|VN ⟨λqa qd l ao nq z6 nl HQ P1=>cX λfa ay qh mD P2=>dh .nil λoa aQ nJ gz P3=>?_⟩
 have fresh:∀a,Mx fa oa qa qd l a∨a=qa→σ a=none:=λa m=>by
  rcases m with⟨rfl |rfl |rfl |rfl⟩ |rfl
  ·exact P1.no qh
  ·exact P1.no (P2.no nJ)
  ·exact z6
  ·exact nl
  ·exact nq
 have pt:oV X W σ W aQ T fa oa qa qd l gV:=
  ⟨⟨ls,((h.ext P1).ext P2).ext P3⟩,DT (P3.at mD),gz,⟨0,((VV HQ).a7 P2).a7 P3⟩,z5 _,.refl _ _,((P1.trans P2).trans P3).mono λb h=>h.elim,λa m=>⟨h.dk.nw (fresh a m),h.nx (fresh a m)⟩,(gK nJ (P2.at HQ.l)).symm⟩
 clear qh nJ nq z6 nl HQ P1 P2 P3 mD gz;generalize hE:bz (bz (bz _ 110 _) 77 _) 123 _=E
 have WE:E 78=some (.loc X.wk):=by rw[←hE];rfl
 have WG:E 77=some (.loc fa):=by rw[←hE];rfl
 have Ea:E 110=some (.loc oa):=by rw[←hE];rfl
 have WH:E 123=some (.loc qa):=by rw[←hE];rfl
 have Ac:E 126=some (.loc sa):=by rw[←hE];rfl
 have ajb:E 251=some (.bool false):=by rw[←hE];rfl
 have ajc:E 170=some (.tup [cb X.is a]):=by rw[←hE];rfl
 clear hE;refine wj<|cu (.one .var)<|ai8 hi n4 ha ⟨λbU la lN c6 P4=>iX c6 λok bw=>?_⟩
 obtain⟨W1,ik,WI,pt⟩:∃W1,aF aS W W1∧W1 la=some (.list [cb X.is a])∧oV X W σ W1 bU T fa oa qa qd l gV:=by
  refine xe pt.ws λxt w3=>?_;refine cz ((w3.ext P4).fz c6 (w3.nx lN)) λW1 ik g1 w1 u1=>?_;exact⟨W1,ik,g1,pt.lift (qg ik lN u1) w1 (P4.mono λb h=>h.elim)⟩
 have qi:∀{W' ae:St} {s:PS} {a:Addr} {o:CO},oV X W σ W' ae T fa oa qa qd l s→W' a=some o→ae a=some o:=λpt hw=>by refine xe pt.ws λls w=>?_;exact w.dk.fr.at hw
 have jZ:∀{W' ae:St} {s:PS},aF aS W1 W'→oV X W σ W' ae T fa oa qa qd l s→DF ae X.is sa λk=>(g k).map qj:=λfU pt=>by
  refine xe pt.ws λcE w=>?_;exact(Aa.a7 (ik.trans fU)).a7 w.dk.fr
 have bs:∀{s:PS} {p:Nat},(g p).isSome=true→s.f p=none→dW (λk=>(g k).isSome) s p=⟨s.w++[p],s.o,eM s.f p 1⟩:=λ{s p} h1 h2=>if_pos (by show((g p).isSome&&(s.f p).isNone)=true;rw[h1,h2];rfl)
 have bn:∀{s:PS} {p:Nat},(g p).isSome=false∨(s.f p).isNone=false→dW (λk=>(g k).isSome) s p=s:=λ{s p} h=>if_neg (by show¬((g p).isSome&&(s.f p).isNone)=true;rw[rI];exact λz=>h.elim (λh=>by rw[h]at z;exact absurd z.1 gX) λh=>by rw[h]at z;exact absurd z.2 gX)
 have mi:∀{p:Nat},((g p).map qj).isSome=(g p).isSome:=λ{p}=>by cases g p<;>rfl
 clear P4 lN c6;unfold j9 at ry q
 have s8:(dW (λk=>(g k).isSome) gV a).o.length+5=5:=by unfold dW;split<;>rfl
 generalize oT:dW (λk=>(g k).isSome) gV a=R0 at*
 refine pN (xs:=[a]) [21] (cb X.is) (λtl ae=>∃W' s,tl.length≤1∧(∀p∈tl,p<X.is.length∧s.f p=none)∧tl.foldl (dW λk=>(g k).isSome) s=R0∧aF aS W1 W'∧oV X W σ W' ae T fa oa qa qd l s)
  ⟨W1,gV,cP _,λp hp=>by rw[cL.1 hp];exact⟨ha,rfl⟩,oT,.refl _ _,pt⟩ (λp tl e' ae s hv z=>?_) λe' ae s' z=>?_
 ·refine mX z λW' s1 hl hp hs fU gA=>?_
  refine xa (hp p (.head _)) λWJ uA=>?_;have fT:tl=[]:=Au (Nat.le_zero.1 (ED hl));subst fT;have D:=jZ fU gA;rw[kh]at hs
  refine⟨bw _ (qi gA (fU.at WI)),λK kk=>fO (.cmp .var (.var (s.rd (j:=126) Ac rfl)) (.iF hi D WJ)) (λhg=>?_) λhg=>?_⟩
  ·rw[mi]at hg
   rw[bs hg uA]at hs
   exact WD (v:=21) gA WJ uA n4 hi hv (s.rd (j:=77) WG rfl) (s.rd (j:=123) WH rfl) (s.rd (j:=78) WE rfl) λW5 fG lM z8=>show K .next _ _ from kk.nx ⟨W5,_,dE _,λb h=>(cA h),hs,fU.trans lM,z8⟩
  ·rw[mi]at hg
   rw[bn (.inl hg)]at hs;exact bp<|bp<|kk.nx ⟨W',s1,dE _,λb h=>(cA h),hs,fU,gA⟩
 refine mX z λW' s0 zz zz uZ fU pt=>?_;have uZ:s0=R0:=uZ;subst uZ;refine⟨bw _ (qi pt (fU.at WI)),?_⟩;generalize hR:lQ X.row (iK X) (λk=>(g k).isSome) 5 s0=R at ry q;clear bw oT;refine pP<|qG [21,163] (λf b ae=>∃s W',s.o.length+f=5∧lQ X.row (iK X) (λk=>(g k).isSome) f s=R∧aF aS W1 W'∧oV X W σ W' ae T fa oa qa qd l s) (n:=5) ⟨s0,W',s8,hR,fU,pt⟩ λf e1 ao s1 z V hV=>?_;clear pt hR s8 fU;refine xZ z λs W' ho hR fU pt=>?_;have N:=pt.q5;refine xe pt.qs λb9 Qs=>?_;refine a9 Qs.inst λcq iq zz=>?_;have g7:s.w.length≤4:=aR (oQ _ _ pt.ok.nd λk hk=>(pt.ok.lt k hk).1) n4;have rd:∀{j:Nat} {v:CV},E j=some v→[21].contains j=false→[21,163].contains j=false→e1 j=some v:=λh1 h2 h3=>s1.rd (s'.rd h1 h2) h3;have qf:=rd WE rfl rfl;have ajd:=rd Ea rfl rfl;have J2:=rd WH rfl rfl
 refine sA (.cmp (.jy .var iq.fi .nil (VW Qs g7)) .val .gt) (λgl=>?_) λgl=>?_
 ·have h0:s.w≠[]:=λe=>by rw[e]at gl;exact eP gl
  induction f with
  |zero=>exact absurd (by rw[←hR]at ry;exact ry) h0
  |succ f=>
  replace hR:=(if_neg h0).symm.trans hR
  have xn:=xk (t:=iK X) h0;refine cy<|eX .var iq.fi .nil<|VZ Qs g7 h0 ⟨λay Q1 P1=>?_⟩;unfold nK at hR;generalize kT (iK X) s.w=k at*;have ij:=(pt.ok.lt k xn).1
  refine su (cb X.is) k (.var ajd) .var (P1.at pt.od N.ol) (l1 (el ho) (by simp+arith only)) λaQ z7 u=>?_
  have uU:oV X W σ W' aQ T fa oa qa qd l ⟨s.w.filter (·≠k),s.o++[k],s.f⟩:=
   pt.mut (Y:=Mx fa oa qa qd l) ((P1.mono λa x=>⟨.inr (.inr (.inr x))⟩).trans (u.mono λa x=>⟨.inr (.inl x)⟩)) (λa y=>y) ((pt.fl.a7 P1 N.fl).a7 u N.fo) z7 ⟨_,Q1.a7 u (λx=>N.oq x.symm) (λx=>N.od x.symm) λx=>N.ol x.symm⟩ ⟨pt.ok.nd.filter _,λj hj=>pt.ok.lt j (rK.1 hj).1,pt.ok.m⟩
  have iZ:(s.o++[k]).length+f=5:=by rw[bW,←ho,AU,tC _ f];rfl
  clear u P1 Q1 z7;refine xe uU.ws λuV w2=>?_;refine wj<|eX (.var qf) (w2.inst rfl) (.two .var (.var (rd ajb rfl rfl)))<|aiN w2 ij ⟨λW3 bU pl G3 w3 P3 jo=>iX (w3.dk.fr.at jo) λok bw=>?_⟩;have J3:=uU.lift G3 w3 (P3.mono λa x=>.inl x);have dU:=fU.trans G3.p;generalize xp:(X.row k).foldl _ _=R1 at hR
  refine pN [163] (cb X.is) (λps ae=>∃s' mE,(∀p∈ps,p<X.is.length)∧aF aS W3 mE∧ps.foldl (dW λk=>(g k).isSome) s'=R1∧s'.o=s.o++[k]∧oV X W σ mE ae T fa oa qa qd l s') ⟨_,W3,λp hp=>jN (w3.f.fh k p hp) ij,.refl _ _,xp,rfl,J3⟩ (λp ps e2 fG s2 hv z=>?_) λe2 fG s2 z=>?_
  ·refine mX z λs' mE dR mF cH c7 gA=>?_
   have hp:=dR p (.head _);have nj:∀j∈ps,j<X.is.length:=λj hj=>dR j (.tail _ hj);have D:=jZ (dU.trans mF) gA;rw[kh]at cH;have WK:=s2.rd (j:=77) (rd WG rfl rfl) rfl
   refine⟨bw _ (qi gA (mF.at jo)),λK8 uW=>fO (.and (.cmp (.var hv) (.var (s2.rd (j:=126) (rd Ac rfl rfl) rfl)) (.iF hi D hp)) λb=>.lp (.cmp (.var hv) (.var WK) (.DU hi gA.fl hp))) (λhg=>?_) λhg=>?_⟩
   ·rw[mi,rI]at hg
    have hf:s'.f p=none:=by
     cases h:s'.f p with
     |none=>rfl
     |some u=>rw[h]at hg;exact absurd hg.2 gX
    rw[bs hg.1 hf]at cH
    exact WD (v:=163) gA hp hf n4 hi hv WK (s2.rd (j:=123) J2 rfl) (s2.rd (j:=78) qf rfl) λW5 fH lM z8=>show K8 .next _ _ from uW.nx ⟨_,W5,nj,mF.trans lM,cH,c7,z8⟩
   ·rw[mi,Bool.and_eq_false_iff]at hg
    rw[bn (hg.imp id λh=>by cases h2:s'.f p with
     |none=>rw[h2]at h;exact iR h
     |some u=>rfl)]at cH
    exact bp<|bp<|uW.nx ⟨s',mE,nj,mF,cH,c7,gA⟩
  ·refine mX z λs' mE dR mF cH c7 gA=>?_
   have cH:s'=R1:=cH;subst cH
   exact⟨bw _ (qi gA (mF.at jo)),hV (kX f) ⟨s',mE,by rw[c7];exact iZ,hR,dU.trans mF,gA⟩ (s1.set.tr s2)⟩
 ·have h0:s.w=[]:=Au (YI λh=>of_decide_eq_false gl (dN.2 h))
  have hs:s=R:=by
   induction f with
   |zero=>exact hR
   |succ f=>exact(if_pos h0).symm.trans hR
  subst hs;refine xe pt.ws λcE w=>?_;have no:=pt.nw oa (.inl ⟨.inr (.inl rfl)⟩);refine cz (w.fz pt.od no.2) λW2 cJ g2 w2 u2=>?_;refine bX .var (q.out W2 ao cE oa (pt.gw.tr (qg cJ (fresh oa (.inl ⟨.inr (.inl rfl)⟩)) u2)) w2 (λa o ha hn=>pt.pr.at ha λx=>?_) g2)
  rcases x with x |x |m
  ·exact hn (.inl x)
  ·exact hn (.inr x)
  ·exact bo ((fresh a (.inl m)).symm.trans ha)
theorem aje:decide (fK "date"=fK "topo")=false:=by decide+kernel
theorem ajf:decide (fK "date"=fK "dated")=false:=by decide+kernel
theorem ajg:decide (fK "date"=fK "reverse")=false:=by decide+kernel
noncomputable def kU(row:Nat→List Nat)(a:Nat)(hs:List Nat)(k:Nat):Bool:=(z9 (runOf row [a] hs) k).isSome
theorem ajh{W:St}{T:Nat}{a:Nat}(h:WS X W σ T ls)(ha:a<X.is.length)(uX:∀k∈hs,k<X.is.length)(lh:hs.length≤10)(R:xq X.row X.is.length [a] hs)
  (q:bI (∀W' ae cE oa,Gw σ W W'→WS X W' ae T cE→aF (two X.kn X.lv) σ ae→W' oa=some (.list ((j9 X.row (iK X) (kU X.row a hs) a).o.map (cb X.is)))→Q (.loc oa) ae)):
  Gk [.loc X.wk,.tup [cb X.is a],.tup (hs.map (cb X.is)),.str (fK "date")] [] σ Q:=by
 refine⟨_,_,_,_,rfl,rfl,?_⟩
 refine show Gj (eW vG [.loc X.wk,.tup [cb X.is a],.tup (hs.map (cb X.is)),.str (fK "date"),.bool false,.none,.none] λz=>none) σ (bk Q)from cy<|eX .var (h.inst rfl) (.three .var .var .var)<|ai6 (ws:=[a]) h (λk hk=>by rw[cL.1 hk];exact ha) uX (cG rfl) lh R ⟨λW1 ao jK sa G1 h1 P1 Aa=>cy<|eX .var (h1.inst rfl) (.three .var .var .var)<|aja h1 Aa ha ⟨λW2 ay uV oa G2 h2 P2 gz=>?_⟩⟩
 have G:=G1.trans P1 G2 λa x=>x.elim (λx=>by rw[x];exact h2.fk.1) λx=>by rw[x];exact h2.fl.1
 exact e8 (.to (.cmp .var .val .B7) aje)<|e8 (.to (.cmp .var .val .B7) ajf)<|oA<|e8 (.cmp .var .val .iY)<|bp<|e8 (.cmp .var .val .iY)<|bp<|e8 (.to (.cmp .var .val .B7) ajg)<|bp<|bX .var (q.out W2 ay uV oa G h2 (P1.trans P2) gz)
theorem aji:lA [102] [47]=[[102]]:=by decide+kernel
theorem ajj:∀n,n<3→yw (kB n) [107]=n:=by decide+kernel
noncomputable def jL(o:Option Nat):Nat:=o.getD 0
theorem ajk{t:Addr}{o:Option (List UInt8)}(h:lI σ t td l o)(q:match o with
  |none=>Q .none σ
  |some dT=>∀en ed,bP σ en 274 ed (uE dT)→Q (.loc en) σ):FW [.loc t,.bytes [102]] [] σ Q:=by
 have ht:=h.t
 induction o with
 |none=>
  have hl:σ l=some (.list []):=h.l
  exact df<|jB (.attr .var .ins) hl λok bw=>yJ (bw _ hl)<|bX .val q
 |some dT=>
  refine gH h.l λen ed g1 g2=>?_
  exact df<|jB (.attr .var .ins) g1 λok bw=>⟨bw _ g1,oB (.to (.cmp (.attr .var (.ins g2)) .var .t7) (by decide))<|bX .var (q en ed g2)⟩
noncomputable def ajl(O:Objs)(cnt:Option Nat)(v:CV):Prop:=(cnt=none∧v=.none)∨∃n bi,cnt=some n∧wY O bi n∧v=.tup [.int 33188,.bytes (fS bi)]
noncomputable def ajm(O:Objs)(cnt:Option Nat)(v:CV):Prop:=(cnt=none∧v=.none)∨∃n bi,cnt=some n∧wY O bi n∧v=.bytes (fS bi)
theorem ajn{W:St}{T:Nat}{ti:Nat}{cnt:Option Nat}(h:WS X W σ T ls)(ht:oO W X.O ti cnt)
  (q:bI (∀ae v,aF aS σ ae→ajl X.O cnt v→Q v ae)):Gl [.loc X.wk,.bytes (fS ti),.bytes [102]] [] σ Q:=by
 obtain⟨t,td,l,o,e1,e2,e3⟩:=ht
 refine df<|He (.tup (.two .glob .var))<|e8 (.to (.cmp .var .val .t7) (by decide))<|bp<|wj<|pK .var ⟨_,rfl⟩ (.one .val)<|PH aji (by decide) (by decide) (by decide) λpa ao Eb q8 P1=>iX q8 λok bw=>⟨bw _ q8,?_⟩
 have h1:=h.ext P1;have iw:=h1.iw;have S:=h1.f.S.p0 h1.dk.fr;have T1:=e2.p0 h1.dk.fr;refine e8 (.cmp .var .glob .ne)<|bp<|cy<|eX (.jy (.attr .var .ins) S.s.fi (.one .var) (ain S e1)) T1.t.fi (.one .var)<|ajk T1 ?_;have q:=λv=>q.out ao v P1
 induction cnt with
 |none=>
  have e3:o=none:=e3;subst e3
  exact oB (.cmp .var .val .is)<|bX .val (q _ (.inl ⟨rfl,rfl⟩))
 |some n=>
  obtain⟨bi,b1,b2,b3⟩:=e3;subst b2;exact λen ed ie=>e8 (.cmp .var .val .is)<|bp<|He (.tup (.two (.attr .var .ins) (.attr .var .ins)))<|bp ⟨bw _ q8,bX (.tup (.two .var .var)) (q _ (.inr ⟨n,bi,rfl,b3,rfl⟩))⟩
theorem ajo{W:St}{T:Nat}{k:Nat}(h:WS X W σ T ls)(hk:k<X.is.length)
  (q:bI (∀W' ae cE,Gw σ W W'→WS X W' ae T cE→aF (one X.kn) σ ae→∀v,ajm X.O (X.cnt k) v→Q v ae)):Gn [.loc X.wk,.bytes (dc X.is k),.bytes [102]] [] σ Q:=by
 refine df<|cy<|sj .var (h.inst rfl)<|jA<|eX .var (h.inst rfl) (.one .var)<|aiL h hk ⟨λW1 ao ti G1 h1 P1 ht=>dH<|bV .var<|ajn h1 ht ⟨λay v P2 hv=>?_⟩⟩;have q:=q.out W1 ay ls G1 (h1.ext P2) (P1.nx P2)
 rcases hv with⟨hc,rfl⟩ |⟨n,bi,hc,hb,rfl⟩
 ·exact bX (.yu (.GX (.cmp .var .val .is)) .val) (q _ (.inl ⟨hc,rfl⟩))
 ·exact bX (.iff (.Pm (.cmp .var .val .is) (.BH (.to (.cmp (.item .var .val .tup) (.tup (.two .glob .glob)) (Cm.iTI (is:=[16384,57344]))) (by decide)))) (.item .var .val .tup)) (q _ (.inr ⟨n,bi,hc,hb,rfl⟩))
noncomputable def gW(X:Wx):Option Nat→Nat
 |none=>0
 |some k=>jL (X.cnt k)
noncomputable def J8(is:List Nat):Option Nat→CV
 |none=>.none
 |some k=>cb is k
theorem WL{W:St}{T:Nat}{k:Option Nat}(h:WS X W σ T ls)(hk:∀j,k=some j→j<X.is.length)
  (q:bI (∀W' ae cE,Gw σ W W'→WS X W' ae T cE→aF (one X.kn) σ ae→Q (.int (gW X k)) ae)):ym [.loc X.A.st,.loc X.wk,J8 X.is k,.bytes [102],.bytes [107]] [] σ Q:=by
 refine df<|cy ?_
 induction k with
 |none=>exact BU (.cmp .var .val .is)<|bV .val<|bX (.yu (.cmp .var .val .is) .val) (q.out W σ ls (.refl _ _) h (.refl _ _))
 |some k=>
  refine yF (.cmp .var .val .is)<|cu (.three .var .var .var)<|ajo h (hk k rfl) ⟨λW1 ao jK G1 h1 P1 v hv=>?_⟩;have q:=q.out W1 ao jK G1 h1 P1;change Q (.int (jL (X.cnt k):Nat)) ao at q
  rcases hv with⟨hc,rfl⟩ |⟨n,bi,hc,hb,rfl⟩
  ·rw[hc]at q
   exact bX (.yu (.cmp .var .val .is) .val) q
  ·rw[hc]at q
   have S:=h1.f.S.p0 h1.dk.fr;refine cz (h.f.ds (hk k rfl)) λD hD eR eT eC=>?_
   have n3:n<3:=(h.f.w.ok k D hD).cnt n (by rw[←eC];exact hc)
   exact bX (.iff (.cmp .var .val .is) (.pw (.jy .var S.s.fi (.one .var) (aim S hb)) ⟨_,rfl⟩ (.one .var) (.count (d:=[107]) (by decide)))) (by rw[ajj n n3];exact q)
structure Wi where
 g:Option (List UInt8)
 a:Option (List UInt8)
 b:Option (Option Nat×Option Nat)
 p:Bool
 m:Option Bool
noncomputable def xu:Option (List UInt8)→CV
 |none=>.none
 |some b=>.bytes b
noncomputable def optN:Option Nat→CV
 |none=>.none
 |some n=>.int n
noncomputable def Ec:Option (Option Nat×Option Nat)→CV
 |none=>.none
 |some (f,l)=>.tup [optN f,optN l]
noncomputable def J9:Bool→CV
 |false=>.none
 |true=>.tup [.bytes [102],.bytes [107]]
noncomputable def Ka:Option Bool→CV
 |none=>.none
 |some b=>.bool b
noncomputable def u0(w:Wi):List (Nat×CV):=[(50,xu w.g),(144,xu w.a),(171,Ec w.b),(186,J9 w.p),(159,Ka w.m)]
noncomputable def qk(w:Wi)(note:List UInt8):Bool:=match w.g with
 |none=>true
 |some g=>vT g note
noncomputable def rz(w:Wi)(name xw:List UInt8):Bool:=match w.a with
 |none=>true
 |some a=>vT a name||vT a xw
noncomputable def Ad(t:Nat):Option Nat→Bool
 |none=>true
 |some f=>decide (f≤t)
noncomputable def Kb(t:Nat):Option Nat→Bool
 |none=>true
 |some l=>decide (t≤l)
noncomputable def oX(w:Wi)(t:Nat):Bool:=match w.b with
 |none=>true
 |some (f,l)=>Ad t f&&Kb t l
noncomputable def u5(w:Wi)(np:Nat):Bool:=match w.m with
 |none=>true
 |some m=>m==decide (1<np)
noncomputable def Kc(w:Wi)(Kd:Nat)(others:List Nat):Bool:=!w.p||others.all λx=>x !=Kd
theorem ajp{w:Wi}(q:bI (∀a d ae,σ a=none→σ d=none→bP ae a 163 d (u0 w)→aF aS σ ae→Q (.loc a) ae)):eV 163 Gp [xu w.g,xu w.a,Ec w.b,J9 w.p,Ka w.m] [] σ Q:=
 pL λa d ao na nd i1 P1=>df<|fE .var rfl i1 (hb:=by cases w.g<;>rfl) λay h2 p2=>fE .var rfl h2 (hb:=by cases w.a<;>rfl) λaQ h3 p3=>fE .var rfl h3 (hb:=by unfold Ec;split<;>rfl) λbU h4 p4=>fE .var rfl h4 (hb:=by cases w.p<;>rfl) λfG h5 p5=>fE .var rfl h5 (hb:=by cases w.m<;>rfl) λfH h6 p6=>
  bp ⟨rfl,q.out a d fH na nd h6 (P1.sn ((((p2.trans p3).trans p4).trans p5).trans p6) nd)⟩
theorem ajq{w:Wi}{note:List UInt8}(h1:Ev m1 e σ (xu w.g))(h2:Ev m2 e σ (.bytes note)):bM (bR (aT .IsNot m1 (au .none)) (bR (aT .NotIn m1 m2) (cQ true))) e σ (!qk w note):=by
 unfold qk
 cases hg:w.g with
 |none=>rw[hg]at h1;exact .lZ (.cmp h1 .val .iY)
 |some g=>rw[hg]at h1;exact .pH (.cmp h1 .val .iY) (.lp (.cmp h1 h2 .BK))
theorem ajr{c pl WM el:Addr}{w:Wi}{tree:List UInt8}{p:kP}(h:bP σ aa 163 ad (u0 w))(hc:bP σ c 391 cd (qZ tree pl al cl el msg))(ha:mw σ al WM p):Fn Gq [.loc aa,.loc c] σ (.bool (qk w msg&&rz w p.name p.ig)):=λQ q=>by
 refine yy λe fg Ae=>fO (ajq (.attr .var (.ins h)) (.attr .var (.ins hc))) (λg=>bX .val ?_) λg=>bp ?_
 ·rw[(mK _).mp g]at q;exact q
 ·rw[(rE _).mp g]at q
  have h1:Ev (bf 144 (af 78)) e σ (xu w.a):=.attr .var (.ins h);unfold rz at q
  cases hg:w.a with
  |none=>
   rw[hg]at h1 q
   exact oB (.cmp h1 .val .is)<|bX .val q
  |some a=>
   rw[hg]at h1 q;exact e8 (.cmp h1 .val .is)<|bp<|bX (.or (.cmp h1 (.attr (.attr .var (.ins hc)) (.ins ha)) .ib) λz=>.cmp h1 (.attr (.attr .var (.ins hc)) (.ins ha)) .ib) q
theorem WN{a b:Nat}{p:Bool}(h1:Ev m1 e σ (.int a))(h2:Ev m2 e σ (.int b))(hp:p=decide (a≤b)):Ev (gM .LtE m1 m2) e σ (.bool p):=.to (.cmp h1 h2 .le) (by rw[hp];congr 1;rw[decide_eq_decide];exact ki)
theorem ajs{w:Wi}{t:Nat}(h:bP σ aa 163 ad (u0 w)):Fn Gr [.loc aa,.int t] σ (.bool (oX w t)):=λQ q=>by
 refine yy λe fg e91=>?_;have h1:Ev (bf 171 (af 78)) e σ (Ec w.b):=.attr .var (.ins h);unfold oX at q
 cases hb:w.b with
 |none=>
  rw[hb]at h1 q
  exact oB (.cmp h1 .val .is)<|bX .val q
 |some fl=>
  obtain⟨f,l⟩:=fl;rw[hb]at h1 q;have h1:Ev (bf 171 (af 78)) e σ (.tup [optN f,optN l]):=h1
  refine e8 (.cmp h1 .val .is)<|bp<|BO h1<|bX (.and (.to (x:=.bool (Ad t f)) (v:=.bool (Ad t f)) ?_ rfl) λz=>?_) q
  ·induction f with
   |none=>exact .or (b1:=true) (b2:=true) (.cmp (.var (v:=.none) rfl) .val .is) λh=>iR h
   |some f=>exact .or (b1:=false) (.cmp (.var (v:=.int f) rfl) .val .is) λz=>WN (.var rfl) .var rfl
  ·induction l with
   |none=>exact .or (b1:=true) (b2:=true) (.cmp (.var (v:=.none) rfl) .val .is) λh=>iR h
   |some l=>exact .or (b1:=false) (.cmp (.var (v:=.int l) rfl) .val .is) λz=>WN .var (.var rfl) rfl
noncomputable def Wx.note(X:Wx)(k:Nat):List UInt8×List UInt8:=((X.Ds[k]?).map (λx=>x.note)).getD ([],[])
noncomputable def Wx.bH(X:Wx)(k:Nat):List UInt8×List UInt8:=((X.Ds[k]?).map (λx=>x.bH)).getD ([],[])
noncomputable def oldsOf(row:List Nat):List (Option Nat):=if row=[]then[none]else row.map some
noncomputable def kb(X:Wx)(w:Wi)(k:Nat):Bool:=
 qk w (X.note k).1&&rz w (X.bH k).1 (X.bH k).2&&oX w (X.time k)&&u5 w (X.row k).length&&Kc w (gW X (some k)) ((oldsOf (X.row k)).map (gW X))
theorem ajt{W:St}(h:WF X W){k:Nat}(hk:k<X.is.length):(oldsOf (X.row k)).length≤5∧∀o∈oldsOf (X.row k),∀j,o=some j→j<X.is.length:=by
 unfold oldsOf
 split
 ·exact⟨by decide,λo ho j hj=>by rw[cL.1 ho]at hj;cases hj⟩
 ·refine⟨by rw[aZ];exact rG (h.j8 k),λo ho j hj=>?_⟩
  refine a9 (dD.1 ho) λi hi aq=>?_;subst aq;obtain rfl:=(bt hj).symm;exact jN (h.fh k j hi) hk
theorem aju{k:Option Nat}{l:List (Option Nat)}:(l.map λo=>!decide ((gW X o:Int)=gW X k)).all id=(l.map (gW X)).all λx=>x !=gW X k:=by
 rw[List.all_map,List.all_map]
 congr 1
 funext o
 show(!decide ((gW X o:Int)=gW X k))=!(gW X o==gW X k);rw[Bool.beq_eq_decide_eq,show decide ((gW X o:Int)=gW X k)=decide (gW X o=gW X k)from decide_eq_decide.2 Int.ofNat_inj]
theorem ajv{w:Wi}{n:Nat}(h1:Ev m1 e σ (Ka w.m))(h2:Ev m2 e σ (.bool (decide ((1:Int)<n)))):bM (bR (aT .IsNot m1 (au .none)) (bR (aT .NotEq m1 m2) (cQ true))) e σ (!u5 w n):=by
 unfold u5
 cases hm:w.m with
 |none=>rw[hm]at h1;exact .lZ (.cmp h1 .val .iY)
 |some m=>
  rw[hm]at h1
  exact .pH (.cmp h1 .val .iY) (.lp (.to (.cmp h1 h2 .HG) (by rw[show decide ((1:Int)<n)=decide (1<n)from decide_eq_decide.2 dN];rfl)))
theorem WO{W:St}{T:Nat}{k:Option Nat}{olds:List (Option Nat)}{ol:Addr}(h:WS X W σ T ls)(G:Gw bL W0 W)(P:aF (one X.kn) bL σ)(rZ:W ol=some (.list (olds.map (J8 X.is))))(hl:olds.length≤5)(ho:∀o∈olds,∀j,o=some j→j<X.is.length)
  (JM:e 61=some (.int (gW X k)))(e71:e 71=some (.bytes [107]))(e72:e 72=some (.bytes [102]))(w7:e 131=some (.loc X.A.st))(Ke:e 89=some (.loc X.wk))(e69:e 69=some (.loc ol))
  (q:∀W' ae cE,Gw bL W0 W'→WS X W' ae T cE→aF (one X.kn) bL ae→Q (.bool ((olds.map (gW X)).all λx=>x !=gW X k)) ae):
  aY BL (ag (cT [(3,.local),(22,.local),(275,.globalImplicit),(61,.free),(71,.free),(72,.free),(131,.free),(89,.free)] (bO (af 69)) (aName 22) de (gM .NotEq (aY ym (ag (af 131) (ag (af 89) (ag (af 22) (ag (af 72) (ag (af 71) ar)))))) (af 61))) ar) e σ Q:=by
 refine jY<|dH<|me<|bV (.var e69)<|iX (h.dk.fr.at rZ) λok bw=>B4 (J8 X.is) (λtl acc ae=>∃done W' nL,olds=done++tl∧acc=(done.map λo=>!decide ((gW X o:Int)=gW X k)).map .bool∧Gw bL W0 W'∧aF aS W W'∧WS X W' ae T nL∧aF (one X.kn) bL ae) ⟨[],W,ls,rfl,rfl,G,.refl _ _,h,P⟩ (aR hl (by decide)) (λo tl acc ae ce z y s hv=>?_) λacc ae z=>?_
 ·refine Mw z λdone W' nL hd ha G' fU h' P'=>?_
  refine⟨bw _ (h'.dk.fr.at (fU.at rZ)),λKY hy=>show aY _ _ _ _ _ from cu (.cons (.var (s.rd (j:=131) w7 rfl)) (.cons (.var (s.rd (j:=89) Ke rfl)) (.three .var (.var (s.rd (j:=72) e72 rfl)) (.var (s.rd (j:=71) e71 rfl)))))<|WL (k:=o) h' (ho o (by rw[hd];exact kW _ (.head _))) ⟨λW5 fG ls5 G5 h5 P5=>bV (.var (s.rd (j:=61) JM rfl))<|we .ne<|hy _ _ ⟨done++[o],W5,ls5,by rw[hd,fJ];rfl,by rw[ha,cR,cR];rfl,G'.trans P' G5 λa e=>by subst e;exact h5.fk.1,fU.trans G5.p,h5,P'.trans P5⟩⟩⟩
 ·refine Mw z λdone W' nL hd ha G' fU h' P'=>?_
  rw[fj]at hd;subst hd
  refine⟨bw _ (h'.dk.fr.at (fU.at rZ)),cX λla fH lN c6 P6=>BV (.all (by rw[c6,ha])) ?_⟩
  rw[aju];exact q W' fH nL G' (h'.ext P6) (P'.nx P6)
theorem ajw{W:St}{T:Nat}{w:Wi}{k:Nat}(h:WS X W σ T ls)(hk:k<X.is.length)(ha:bP W aa 163 ad (u0 w))
  (q:bI (∀W' ae cE,Gw σ W W'→WS X W' ae T cE→aF (one X.kn) σ ae→Q (.bool (kb X w k)) ae)):Bt [.loc aa,.loc X.A.st,.loc X.wk,.bytes (dc X.is k)] [] σ Q:=by
 refine cz (h.f.ds hk) λD hD eR eT eC=>?_;have xf:X.is[k]?=some X.is[k]:=bS hk;obtain⟨c,cd,pl,al,WM,cl,iJ,el,ti,H⟩:=h.f.w.comm k _ D xf hD;have mq:=H.at_
 rw[←show X.is.getD k 0=X.is[k] by rw[dG,xf];rfl]at mq
 have fr:=h.dk.fr;have S:=h.f.S.p0 fr;have ia:=ha.a7 fr;have ic:=H.c.a7 fr;have q:=q.out;unfold kb at q
 rw[show X.note k=D.note by unfold Wx.note;rw[hD];rfl,show X.bH k=D.bH by unfold Wx.bH;rw[hD];rfl,eT]at q
 refine df<|gN (.jy .var S.s.fi (.one .var) (JJ S mq))<|fO (.or (.not (.val (.jy .var ia.fi (.one .var) (ajr ia ic (H.a.a7 fr))))) λz=>.BH (.not (.val (.jy .var ia.fi (.one (.attr (.attr .var .ins) (.ins (H.cm.a7 fr)))) (ajs ia))))) (λg=>bX .val ?_) λg=>bp ?_
 ·have q:=q W σ ls (.refl _ _) h (.refl _ _)
  rw[←Mn,mK]at g;rw[show(qk w D.note.1&&rz w D.bH.1 D.bH.2&&oX w D.time)=false from g,Bool.false_and,Bool.false_and]at q;exact q
 rw[←Mn,rE]at g;rw[show(qk w D.note.1&&rz w D.bH.1 D.bH.2&&oX w D.time)=true from g,Bool.true_and]at q;refine cy<|eX .var (h.inst rfl) (.one .var)<|aiM h hk ⟨λW1 ao pl1 G1 h1 P1 jo=>?_⟩;clear mq eR eT eC hD xf g ia ic S fr;have ia:=(ha.a7 G1.p).a7 h1.dk.fr;have j8:=h1.f.j8 k
 have ln:∀{W2 ay uV} {e:aL},WS X W2 ay T uV→aF aS W1 W2→e 185=some (.loc pl1)→Ev (aY eI (ag (af 185) ar)) e ay (.int (X.row k).length):=λh2 PW ajx=>.to (.call (.one (.var ajx)) (.len (by rw[aZ];exact aR j8 (by decide)) (h2.dk.fr.at (PW.at jo)))) (by rw[aZ])
 refine fO (ajv (.attr .var (.ins ia)) (.cmp (ln h1 (.refl _ _) rfl) .val .gt)) (λg=>bX .val ?_) λg=>bp ?_
 ·have q:=q W1 ao ls G1 h1 P1
  rw[(mK _).mp g]at q;exact q
 rw[(rE _).mp g,Bool.true_and]at q;unfold Kc at q;have Af:∀{e:aL},e 78=some (.loc aa)→Ev (bf 186 (af 78)) e ao (J9 w.p):=λfg=>.attr (.var fg) (.ins ia)
 cases hp:w.p with
 |false=>
  rw[hp]at q Af
  exact oB (.cmp (Af rfl) .val .is)<|bX .val (q W1 ao ls G1 h1 P1)
 |true=>
  rw[hp]at q Af;refine xa (ajt h1.f hk) λWQ WR=>?_
  refine e8 (.cmp (Af rfl) .val .is)<|bp<|BO (Af rfl)<|cy<|cu (.cons .var (.cons .var (.three .var .var .var)))<|WL (k:=some k) h1 (λj hj=>by obtain rfl:=bt hj;exact hk) ⟨λW2 ay uV G2 h2 P2=>?_⟩
  have kk:∀{W' ae cE},WS X W' ae T cE→∀a,one X.kn a→W' a=none:=λh a e=>by subst e;exact h.fk.1
  have G:=G1.trans P1 G2 (kk h2);have P:=P1.trans P2
  by_cases xx:X.row k=[]
  ·have ol:oldsOf (X.row k)=[none]:=if_pos xx
   refine cy<|yF (.to (.cmp (ln h2 G2.p rfl) .val .gt) (by rw[xx];rfl))<|dh (.one .val) λl aQ nl hl P3=>?_
   refine cz ((h2.ext P3).fz hl (h2.nx nl)) λW3 dU zG h3 u3=>?_
   exact fD<|WO h3 (G.trans P (qg dU nl u3) (kk h3)) (P.nx P3) (by rw[ol];exact zG) WQ WR rfl rfl rfl rfl rfl rfl q
  ·have ol:oldsOf (X.row k)=(X.row k).map some:=if_neg xx
   refine cy<|BU (.to (.cmp (ln h2 G2.p rfl) .val .gt) (decide_eq_true (dN.2 (EN.2 xx))))<|bV .var<|fD<|WO h2 G P (by rw[ol,dp];exact G2.p.at jo) WQ WR rfl rfl rfl rfl rfl rfl q
set_option tactic.hygienic true
noncomputable def full(most:Option Nat)(acc:List Nat):Bool:=match most with
 |none=>false
 |some m=>decide (m≤acc.length)
noncomputable def s9(hU:Nat→Bool)(most:Option Nat):List Nat→List Nat→List Nat
 |acc,[]=>acc
 |acc,k::ks=>if full most acc then acc else s9 hU most (if hU k then acc++[k]else acc) ks
theorem WT(hU:Nat→Bool):∀(ks acc:List Nat),s9 hU none acc ks=acc++ks.filter hU
 |[],acc=>(fj acc).symm
 |k::ks,acc=>by
  show s9 hU none _ ks=_;rw[WT hU ks,mM]
  split<;>simp
theorem WU(hU:Nat→Bool)(m:Nat):∀(ks acc:List Nat),acc.length≤m→s9 hU (some m) acc ks=(acc++ks.filter hU).take m
 |[],acc,h=>by show acc=_;rw[List.filter_nil,fj,vo h]
 |k::ks,acc,h=>by
  by_cases g:m≤acc.length
  ·have e:acc.length=m:=by exact qq h g
   refine(if_pos (decide_eq_true g)).trans ?_
   rw[List.take_append_of_le_length (g),vo (h)]
  ·refine(if_neg λz=>g (of_decide_eq_true z)).trans ?_
   have hl:(if hU k=true then acc++[k]else acc).length≤m:=by
    split
    ·simp;exact(Nat.lt_of_not_le g)
    ·exact h
   rw[WU hU m ks _ hl,mM]
   split<;>simp
theorem Kf{row:Nat→List Nat}{n a:Nat}(ha:a<n)(hr:∀k,∀j∈row k,j<k):(∀k∈(j9 row t sh a).o,k<n)∧(j9 row t sh a).o.length≤5:=by
 have key:∀(f:Nat) (s:PS),s.Ok n→(∀k∈s.o,k<n)→(∀k∈(lQ row t sh f s).o,k<n)∧(lQ row t sh f s).o.length≤s.o.length+f:=by
  intro f
  induction f with
  |zero=>intro s hs ho;exact⟨ho,cP _⟩
  |succ f ih=>
   intro s hs ho
   by_cases e:s.w=[]
   ·rw[J6 e];exact⟨ho,by exact mL ..⟩
   ·rw[J7 e]
    have hp:=xk (t:=t) e;have hn:=(hs.lt _ hp).1
    have fo:∀(ps:List Nat) (s:PS),(ps.foldl (dW sh) s).o=s.o:=by
     intro ps
     induction ps with
     |nil=>intro s;rfl
     |cons p ps ih=>intro s;rw[kh,ih];unfold dW;split<;>rfl
    have e1:(nK row t sh s).o=s.o++[kT t s.w]:=by unfold nK;rw[fo]
    obtain⟨h1,h2⟩:=ih (nK row t sh s) (WA (t:=t) (sh:=sh) hs (λk hk j hj=>by have:=hr k j hj;exact jN this hk) e).1 (λk hk=>by
     rw[e1]at hk
     rcases fY.1 hk with hk |hk
     ·exact ho k hk
     ·rw[cL.1 hk];exact hn)
    refine⟨h1,?_⟩;rw[e1]at h2
    simp at h2;exact l1 h2 (by simp+arith only)
 have h0:(dW sh gV a).o=[]:=by unfold dW;split<;>rfl
 have:=key 5 (dW sh gV a) (DY (z5 n) ha) (by rw[h0];intro k hk;exact cA hk)
 rw[h0]at this
 exact⟨this.1,by have:=this.2;simp at this;exact this⟩
theorem ajy{W:St}{T:Nat}{w:Wi}{most:Option Nat}{row R0:List Nat}{ok:St→Prop}(h:WS X W σ T ls)(bw:∀ae,ae ra=some (.list (row.map (cb X.is)))→ok ae)(gU:W ra=some (.list (row.map (cb X.is))))(gz:σ oa=some (.list []))(n0:bL oa=none)(G:Gw bL W0 W)(P:aF (xg X oa) bL σ)(nw:W oa=none)(nx:Nx X oa)
  (ck:∀k∈row,k<X.is.length)(Kg:row.length≤5)(oT:s9 (kb X w) most [] row=R0)(ask:bP W aa 163 ad (u0 w))
  (w7:e 131=some (.loc X.A.st))(Ke:e 89=some (.loc X.wk))(xy:e 92=some (.loc aa))(e65:e 65=some (optN most))(xA:e 110=some (.loc oa))
  (q:∀W' ae cE,Gw bL W0 W'→WS X W' ae T cE→aF (two X.kn X.lv) bL ae→W' oa=some (.list (R0.map (cb X.is)))→Q (.loc oa) ae):
  f9 ok (aName 21) (ah
    (bC (bR (aT .IsNot (af 65) (au .none)) (bR (aT .GtE (aY eI (ag (af 110) ar)) (af 65)) (cQ true))) (ah BQ az) az)
    (ah (bC (hG (aT .Is (af 92) (au .none)) (hG (jh (bN 163 48 Bt (af 92) (ag (af 131) (ag (af 89) (ag (af 21) ar))))) (cQ false))) (ah (cw (bJ cD cN (af 110) (ag (af 21) ar))) az) az) az)) (sq (ah (bh (af 110)) az) (bk Q)) (row.map (cb X.is)) e σ:=by
 have fin:∀{W' ae e' nL acc},e' 110=some (.loc oa)→Gw bL W0 W'→WS X W' ae T nL→aF (xg X oa) bL ae→ae oa=some (.list (acc.map (cb X.is)))→R0=acc→ah (bh (af 110)) az e' ae (bk Q):=λ{W' ae e' nL acc} he G' h' P' ho mr=>by
  refine cz (h'.fz ho nx) λW3 dU g3 h3 u3=>?_
  exact bX (.var he) (q W3 ae nL (G'.tr (qg dU n0 u3)) h3 (λa o ha hn=>P'.at ha λx=>x.elim hn λx=>by rw[x,n0]at ha;exact bo ha) (by rw[mr];exact g3))
 refine pN [21] (cb X.is) (λtl ae=>∃acc W' nL,(∀k∈tl,k<X.is.length)∧s9 (kb X w) most acc tl=R0∧acc.length+tl.length≤5∧ae oa=some (.list (acc.map (cb X.is)))∧Gw bL W0 W'∧aF aS W W'∧W' oa=none∧WS X W' ae T nL∧aF (xg X oa) bL ae) ⟨[],W,ls,ck,oT,by rw[tv,mO];exact Kg,gz,G,.refl _ _,nw,h,P⟩ (λj tl e' ae s hv z=>?_) λe' ae s z=>?_
 ·refine My z λacc W' nL fT ql hlen ho G' fU WV h' P'=>?_
  have hj:=fT j (.head _);have WX:∀i∈tl,i<X.is.length:=λi hi=>fT i (.tail _ hi);have WY:=s.rd (j:=110) xA rfl;rw[kY]at hlen
  have j3:acc.length≤1000:=by exact l1 hlen (by simp+arith only)
  rw[s9]at ql;refine⟨bw _ (h'.dk.fr.at (fU.at gU)),λK kk=>?_⟩
  have ef:bM (bR (aT .IsNot (af 65) (au .none)) (bR (aT .GtE (aY eI (ag (af 110) ar)) (af 65)) (cQ true))) e' ae (full most acc):=by
   have Kh:=s.rd (j:=65) e65 rfl;unfold full
   induction most with
   |none=>exact .lZ (.cmp (.var Kh) .val .iY)
   |some m=>exact .pH (.cmp (.var Kh) .val .iY) (.lp (.to (.cmp (.call (.one .var) (.len (by rw[aZ];exact j3) ho)) (.var (v:=.int m) Kh) .ge) (by rw[aZ];exact decide_eq_decide.2 ki)))
  refine fO ef (λg=>?_) λg=>bp ?_
  ·rw[if_pos g]at ql
   exact acV<|kk.br<|fin WY G' h' P' ho ql.symm
  rw[if_neg (by rw[g];exact gX)]at ql
  have ia:=(ask.a7 fU).a7 h'.dk.fr;have xy:=s.rd (j:=92) xy rfl;refine vZ<|toF (.cmp (.var xy) .val .is)<|Py<|BW<|eX (.var xy) ia.fi (.three (.var (s.rd (j:=131) w7 rfl)) (.var (s.rd (j:=89) Ke rfl)) .var)<|ajw h' hj (ask.a7 fU) ⟨λW3 aQ xt G3 h3 P3=>⟨_,rfl,?_⟩⟩;have WZ:=P3.at ho nx.kn;have Ed:=G3.n oa _ ho WV;have G4:=G'.go P' G3 h3 Ed;have P4:=P'.trans (P3.mono λa x=>.inl (.inl x))
  cases y8:kb X w j with
  |false=>
   rw[y8,if_neg gX]at ql
   exact bp<|bp<|kk.nx ⟨acc,W3,xt,WX,ql,by exact iQ hlen,WZ,G4,fU.trans G3.p,Ed,h3,P4⟩
  |true=>
   rw[y8,if_pos rfl]at ql
   exact su (cb X.is) j (.var WY) .var WZ j3 λbU ho4 u=>oA<|kk.nx ⟨acc++[j],W3,xt,WX,ql,by rw[bW,mH];exact l1 hlen (by simp+arith only),ho4,G4,fU.trans G3.p,Ed,h3.sY u λa e=>by cases e;exact⟨⟨nx.d,nx.c,Ed⟩,nx.kn,nx.lv⟩,P4.trans (u.mono λy=>.inr)⟩
 ·refine My z λacc W' nL fT ql hlen ho G' fU WV h' P'=>?_
  exact⟨bw _ (h'.dk.fr.at (fU.at gU)),fin (s.rd (j:=110) xA rfl) G' h' P' ho ql.symm⟩
theorem ajz{W:St}{T:Nat}{w:Wi}{a:Nat}{most:Option Nat}(h:WS X W σ T ls)(ha:a<X.is.length)(uX:∀k∈hs,k<X.is.length)(lh:hs.length≤10)(R:xq X.row X.is.length [a] hs)
  (ajA:bP W aa 163 ad (u0 w))(mx:W na=some (.list [cb X.is a]))(mD:W fa=some (.list (hs.map (cb X.is))))
  (q:bI (∀W' ae cE oa,Gw σ W W'→WS X W' ae T cE→aF (two X.kn X.lv) σ ae→W' oa=some (.list ((s9 (kb X w) most [] (j9 X.row (iK X) (kU X.row a hs) a).o).map (cb X.is)))→Q (.loc oa) ae)):
  ui Bu (eW pB [.loc X.A.st,.loc X.wk,.loc na,.loc fa,.str (fK "date"),.loc aa,optN most] λz=>none) σ Q:=by
 refine show Bu _ σ (bk Q)from cy<|dh .nil λoa ao nJ gz P1=>?_;have h1:=h.ext P1;have nx:=h.nx nJ
 refine wj<|eX .var (h1.inst rfl) (.three (.call (.one .var) (.Po (cG rfl) (h1.dk.fr.at mx))) (.call (.one .var) (.Po (by rw[aZ];exact aR lh (by decide)) (h1.dk.fr.at mD))) .var)<|ajh h1 ha uX lh R ⟨λW2 ay uV ra G2 h2 P2 gU=>iX (h2.dk.fr.at gU) λok bw=>?_⟩
 refine xa (Kf (t:=iK X) (sh:=kU X.row a hs) ha h.f.fh) λck Kg=>?_;exact ajy (e:=bz (eW pB _ _) 110 (.loc oa)) h2 bw gU (P2.at gz (λx=>x.elim nx.kn nx.lv)) nJ (G2.from P1) (P1.pn (P2.mono λa=>.inl)) (G2.n oa _ gz (h.dk.nw nJ)) nx ck Kg rfl (ajA.a7 G2.p) rfl rfl rfl rfl rfl λW' ae cE G' h' P' hw=>q.out W' ae cE oa G' h' P' hw
noncomputable def mG{κ:Type}(key:Nat→κ)(l:List (Nat×CV)):List (κ×CV):=l.map λp=>(key p.1,p.2)
theorem Xa{κ:Type}[DecidableEq κ]{key:Nat→κ}(hi:∀i j,key i=key j→i=j){k:Nat}:∀{l:List (Nat×CV)},bB (mG key l) (key k)=bB l k
 |[]=>rfl
 |p::l=>by
  have ih:=Xa hi (k:=k) (l:=l);unfold bB mG at ih ⊢;rw[gB,rM,rM]
  by_cases e:p.1=k
  ·simp[e]
  ·have:key p.1≠key k:=λz=>e (hi _ _ z)
   simp only[this,e,decide_false];exact ih
theorem ajB{κ:Type}[DecidableEq κ]{key:Nat→κ}(hi:∀i j,key i=key j→i=j){k:Nat}(v:CV){l:List (Nat×CV)}:bY (mG key l) (key k) v=mG key (bY l k v):=by
 have e:∀p:Nat×CV,(key p.1=key k)=(p.1=k):=λp=>propext ⟨λz=>hi _ _ z,λz=>by rw[z]⟩
 have ea:(mG key l).any (λkv=>kv.1=key k)=l.any (λkv=>kv.1=k):=by
  unfold mG;rw[List.any_map]
  congr 1
  funext p
  simp[e p]
 unfold bY;rw[ea]
 split
 ·unfold mG
  rw[dp,dp];refine pb λp hp=>?_
  show(if key p.1=key k then _ else _)=_
  simp only[e p,Mf]
  split
  ·rename_i g;simp[g]
  ·rfl
 ·unfold mG;rw[cR];rfl
noncomputable def oY(i:Nat):Int:=i
theorem Xb:∀i j,oY i=oY j→i=j:=λi j h=>by unfold oY at h;exact AQ h
structure jM(σ:St)(a:Addr)(n:Nat)(f:Nat→Option CV):Prop where
 ex:∃l:List (Nat×CV),σ a=some (.dI (mG oY l))∧(l.map (λx=>x.1)).Nodup∧(∀p∈l,p.1<n)∧∀k,bB l k=f k
theorem jM.a7{a n:Nat}{f:Nat→Option CV}(h:jM σ a n f)(p:aF Y σ ae)(nY:autoParam (¬Y a) aX):jM ae a n f:=by
 refine a9 h.ex λl h1 h2=>?_;exact⟨l,p.at h1 nY,h2⟩
theorem ajC{a n:Nat}(h:σ a=some (.dI [])):jM σ a n λz=>none:=⟨[],h,E6,λz h=>(cA h),λz=>rfl⟩
theorem Cm.niN{a n k:Nat}{f:Nat→Option CV}(h:jM σ a n f):Cm .NotIn (.int k) (.loc a) σ (!(f k).isSome):=by
 refine cz h.ex λl h1 h2 h3 h4=>?_;have:=Cm.oy (Mem.dI (k:=oY k) h1);rwa[Xa Xb,h4]at this
theorem Xc{a n k:Nat}{f:Nat→Option CV}{v:CV}{P:St→Prop}(h:jM σ a n f)(n4:n≤4)(hk:k<n)(q:∀ae,jM ae a n (eM f k v)→aF (one a) σ ae→P ae):lx (.loc a) (.int k) v σ P:=by
 refine cz h.ex λl h1 h2 h3 h4=>?_
 have hl:(l.map (λx=>x.1)).length≤n:=oQ n _ h2 λx hx=>by
  refine a9 (dD.1 hx) λp hp aq=>?_;subst aq;exact h3 p hp
 rw[aZ]at hl
 refine fsI h1 (by rw[mG,aZ];exact jQ hl n4 rfl) λae g p=>q ae ⟨bY l k v,?_,Wg h2,VL h3 hk,λj=>by rw[uL,h4];rfl⟩ p
 rw[g,show(k:Int)=oY k from rfl,ajB Xb]
theorem Mem.ns{k:Nat}(h:σ a=some (.list (is.map nI))):Mem (.int k) (.loc a) σ (decide (k∈is)):=by
 have:decide ((k:Int)∈is.map λ(i:Nat)=>(i:Int))=decide (k∈is):=by
  rw[decide_eq_decide,dD];exact⟨λ⟨i,hi,e⟩=>AQ e▸hi,λhk=>⟨k,hk,rfl⟩⟩
 rw[←this];exact .li (by rw[h,dp];rfl)
set_option tactic.hygienic false
structure LB(bL σ:St)(n:Nat)(wa ka fo:Addr)(s:PS):Prop where
 p:aF aS bL σ
 w:σ wa=some (.list (s.w.map nI))
 k:jM σ ka n λj=>(s.f j).map qj
 f:σ fo=some (.list (s.o.map nI))
 ok:s.Ok n
 nw:bL wa=none
 nk:bL ka=none
 nf:bL fo=none
 ne:wa≠fo
theorem jM.there{a n:Nat}{f:Nat→Option CV}(h:jM σ a n f):∃es,σ a=some (.dI es):=by
 refine a9 h.ex λl h1 zz=>?_;exact⟨_,h1⟩
theorem LB.q5{n:Nat}{ka fo:Addr}{s:PS}(h:LB bL σ n wa ka fo s):ka≠wa∧ka≠fo:=by
 refine xe h.k.there λes e=>?_
 exact⟨λz=>(by rw[z,h.w]at e;cases e),λz=>(by rw[z,h.f]at e;cases e)⟩
theorem ajD{s:PS}{p:Nat}(h:(sh p&&!((s.f p).map qj).isSome)=false):dW sh s p=s:=if_neg (by
 intro z;rw[rI]at z;rw[z.1,Bool.true_and]at h;have:=z.2
 cases e:s.f p with
 |none=>rw[e]at h;exact iR h
 |some m=>rw[e]at this;exact eP this)
theorem ajE{s:PS}{p:Nat}(h:(sh p&&!((s.f p).map qj).isSome)=true):s.f p=none∧dW sh s p=⟨s.w++[p],s.o,eM s.f p 1⟩:=by
 rw[rI]at h
 have e:s.f p=none:=by
  cases e:s.f p with
  |none=>rfl
  |some m=>rw[e]at h;cases h.2
 exact⟨e,if_pos (by rw[h.1,e];rfl)⟩
theorem Xd(sh:Nat→Bool)(s:PS)(p:Nat):(dW sh s p).o=s.o:=by unfold dW;split<;>rfl
theorem Xe{n:Nat}{ka fo:Addr}{s:PS}{shown:List Nat}{v p:Nat}{K:dy→aL→St→Prop}(h:LB bL σ n wa ka fo s)(n4:n≤4)(hp:p<n)(u7:bL sl=some (.list (shown.map nI)))
  (ev:e v=some (.int p))(ajF:e 126=some (.loc sl))(Xf:e 112=some (.loc ka))(rm:e 191=some (.loc wa))
  (z:∀ae,LB bL ae n wa ka fo (dW (λk=>decide (k∈shown)) s p)→K .next e ae):
  ah (bC (bR (aT .In (af v) (af 126)) (bR (aT .NotIn (af v) (af 112)) (cQ true))) (ah (aP (au (.bool true)) (dg (af 112) (af v))) (ah (cw (bJ cD cN (af 191) (ag (af v) ar))) az)) az) az e σ K:=by
 refine xa h.q5 λn1 n2=>?_
 refine fO (.and (.cmp (.var ev) (.var ajF) (.mem (.ns (h.p.at u7)))) λo=>.lp (.cmp (.var ev) (.var Xf) (.niN h.k))) (λg=>?_) λg=>?_
 ·refine xa (ajE (sh:=λk=>decide (k∈shown)) g) λhf eb=>?_
  have Ab:=DY (sh:=λk=>decide (k∈shown)) h.ok hp;rw[eb]at z Ab;have wl:=h.ok.JZ n4 hp hf
  refine lu .val (.var Xf) (.var ev)<|Xc h.k n4 hp λao D1 P1=>su nI p (.var rm) (.var ev) (P1.at h.w (λx=>n1 x.symm)) (aR wl (by decide)) λay hw2 u=>oA<|z _ ?_
  refine⟨(h.p.sn P1 h.nk).sn u h.nw,hw2,?_,u.at (P1.at h.f (λx=>n2 x.symm)) (λx=>h.ne x.symm),Ab,h.nw,h.nk,h.nf,h.ne⟩;refine cz ((D1.a7 u n1).ex) λll g1 g2 g3 g4=>?_;refine⟨ll,g1,g2,g3,λj=>?_⟩;rw[g4]
  show(if j=p then _ else _)=(if j=p then _ else _:Option Nat).map _
  split<;>rfl
 ·rw[ajD g]at z
  exact bp<|bp<|z _ h
noncomputable def best(t:Nat→Int)(l:List Nat)(k:Nat):Nat:=l.foldl (λh j=>if t j>t h then j else h) k
theorem ajG{wl:Addr}{rows:List (List Nat)}{shown:List Nat}{a:Nat}(hr:j6 σ rl rows)(ht:σ tl=some (.list (times.map nI)))(hs:σ sl=some (.list (shown.map nI)))(g7:σ wl=some (.list [nI a]))
  (n4:rows.length≤4)(nt:times.length=rows.length)(ha:a<rows.length)(fh:∀k,∀j∈rows.getD k [],j<k)(j8:∀k,(rows.getD k []).length≤4)
  (q:bI (∀ae oa,σ oa=none→ae oa=some (.list ((j9 (λk=>rows.getD k []) (λk=>(times.getD k 0:Int)) (λk=>decide (k∈shown)) a).o.map nI))→aF aS σ ae→Q (.loc oa) ae)):
  GA [.loc rl,.loc tl,.loc sl,.loc wl] [] σ Q:=by
 obtain⟨c9,cI,RI⟩:=hr;have ry:=WC (t:=λk=>(times.getD k 0:Int)) (sh:=λk=>decide (k∈shown)) n4 ha fh;unfold j9 at ry q
 have s8:(dW (λk=>decide (k∈shown)) gV a).o.length+5=5:=by rw[Xd];rfl
 have gt:∀{i σ},i<rows.length→σ tl=some (.list (times.map nI))→It (.loc tl) (.int i) σ (.int (times.getD i 0:Nat)):=λ{i σ} hi h=>.li (by rw[dM,dG,bS (ey hi (er nt))];rfl) (by rw[aZ];exact xX nt n4 rfl) h
 generalize oT:dW (λk=>decide (k∈shown)) gV a=R0 at*;refine df<|Hf<|dh .nil λwa ao xh s6 P1=>cX λka ay DZ oW P2=>dh .nil λfo aQ ta ee P3=>?_;generalize hE:bz (bz (bz _ 110 _) 112 _) 191 _=E
 have E76:E 76=some (.loc rl):=by rw[←hE];rfl
 have ajH:E 133=some (.loc tl):=by rw[←hE];rfl
 have Ac:E 126=some (.loc sl):=by rw[←hE];rfl
 have ajc:E 170=some (.loc wl):=by rw[←hE];rfl
 have Ki:E 191=some (.loc wa):=by rw[←hE];rfl
 have Xg:E 112=some (.loc ka):=by rw[←hE];rfl
 have Ea:E 110=some (.loc fo):=by rw[←hE];rfl
 clear hE;have lb:LB σ aQ rows.length wa ka fo gV:=⟨(P1.trans P2).trans P3,P3.at (P2.at s6),ajC (P3.at oW),ee,z5 _,xh,P1.no DZ,(P1.trans P2).no ta,gK ta (P2.at s6)⟩;clear xh s6 P1 DZ oW P2 ta ee P3
 refine jB .var (lb.p.at g7) λok bw=>pN (xs:=[a]) [1] nI (λxB ae=>∃s,(∀p∈xB,p<rows.length)∧xB.foldl (dW λk=>decide (k∈shown)) s=R0∧LB σ ae rows.length wa ka fo s)
  ⟨gV,λp hp=>by rw[cL.1 hp];exact ha,oT,lb⟩ (λp xB e ae s hv z=>?_) λe0 ae s0 z=>?_
 ·refine bF z λs1 hp zy lb=>?_
  exact⟨bw _ (lb.p.at g7),λK kk=>Xe (v:=1) lb n4 (hp p (.head _)) hs hv (s.rd Ac rfl) (s.rd Xg rfl) (s.rd Ki rfl) λay Ag=>kk.nx ⟨_,λq hq=>hp q (.tail _ hq),zy,Ag⟩⟩
 refine bF z λKj zz uZ lb=>?_;have uZ:Kj=R0:=uZ;subst uZ;refine⟨bw _ (lb.p.at g7),?_⟩;generalize hR:lQ _ _ _ 5 Kj=R at ry q;clear bw oT;refine pP<|qG [51,1,191,0] (λf e ae=>∃s wa,s.o.length+f=5∧lQ (λk=>rows.getD k []) (λk=>(times.getD k 0:Int)) (λk=>decide (k∈shown)) f s=R∧LB σ ae rows.length wa ka fo s∧e 191=some (.loc wa)) (n:=5) ⟨Kj,wa,s8,hR,lb,s0.rd Ki rfl⟩ λf e1 ao s1 z V hV=>?_;clear lb hR s8 Ki;refine xZ z λs wa ho hR lb rm=>?_;have rd:∀{j:Nat} {v:CV},E j=some v→[1].contains j=false→[51,1,191,0].contains j=false→e1 j=some v:=λh1 h2 h3=>s1.rd (s0.rd h1 h2) h3;have Xh:s.w.length≤4:=aR (oQ _ _ lb.ok.nd λk hk=>(lb.ok.lt k hk).1) n4
 refine PR (.var rm) lb.w (λh0 ay P2=>?_) λh0 ay P2=>?_
 ·have h0:s.w≠[]:=λe=>h0 (by rw[e];rfl)
  have lb:LB σ ay rows.length wa ka fo s:=⟨lb.p.trans P2,P2.at lb.w,lb.k.a7 P2,P2.at lb.f,lb.ok,lb.nw,lb.nk,lb.nf,lb.ne⟩
  cases f with
  |zero=>exact absurd (by rw[←hR]at ry;exact ry) h0
  |succ f=>
  replace hR:=(if_neg h0).symm.trans hR
  obtain⟨oZ,ws,xr⟩:∃oZ ws,s.w=oZ::ws:=by
   cases IB:s.w with
   |nil=>exact absurd IB h0
   |cons x xs=>exact⟨x,xs,rfl⟩
  have xn:=xk (t:=λk=>(times.getD k 0:Int)) h0
  have Xi:best (λk=>(times.getD k 0:Int)) s.w oZ=kT (λk=>(times.getD k 0:Int)) s.w:=by rw[xr];rfl
  unfold nK at hR;generalize kT (λk=>(times.getD k 0:Int)) s.w=here at*;have Ee:=(lb.ok.lt here xn).1
  have hk0:=(lb.ok.lt oZ (by rw[xr];exact .head _)).1
  refine gN (.item (.var rm) .val (.li (i:=0) (v:=nI oZ) (by rw[xr];rfl) (by rw[aZ];exact aR Xh (by decide)) lb.w)) ?_
  clear xr h0
  refine jB (.var rm) lb.w λok bw=>qF [1,51] nI (λxB e ae=>∃done,s.w=done++xB∧ae=ay∧best (λk=>(times.getD k 0:Int)) done oZ<rows.length∧e 51=some (nI (best (λk=>(times.getD k 0:Int)) done oZ))) ⟨[],rfl,rfl,hk0,rfl⟩ (λj xB e2 ae s2 z=>?_) λe2 ae s2 z=>?_
  ·refine cz z λdone hd aq ck va=>?_;clear z;subst aq
   have hj:=(lb.ok.lt j (by rw[hd];exact kW _ (.head _))).1
   have uH:=s2.rd (j:=133) (rd ajH rfl rfl) rfl
   have eb:best (λk=>(times.getD k 0:Int)) (done++[j]) oZ=if(times.getD j 0:Int)>times.getD (best (λk=>(times.getD k 0:Int)) done oZ) 0 then j else best (λk=>(times.getD k 0:Int)) done oZ:=by unfold best;rw[Y5];rfl
   generalize best (λk=>(times.getD k 0:Int)) done oZ=b at*;have q7:=lb.p.at ht
   refine⟨bw _ lb.w,λK kk=>gN (.ite (.cmp (.item (.var uH) .var (gt hj q7)) (.item (.var uH) (.var (i:=51) va) (gt ck q7)) .gt) (λy=>.var) λy=>.var (i:=51) va)<|bp<|kk.nx ⟨done++[j],by rw[hd,fJ];rfl,rfl,?_,?_⟩⟩
   ·rw[eb];split
    ·exact hj
    ·exact ck
   ·rw[eb]
    show some (cond (decide ((times.getD b 0:Int)<times.getD j 0)) (nI j) (nI b))=_
    by_cases g:(times.getD b 0:Int)<times.getD j 0
    ·rw[decide_eq_true g,if_pos g];rfl
    ·rw[decide_eq_false g,if_neg g];rfl
  refine cz z λdone hd aq ck va=>?_;clear z;subst aq;rw[fj]at hd;subst hd;rw[Xi]at va;refine⟨bw _ lb.w,?_⟩;have s3:=(s1.set (i:=51)).tr s2;clear Xi ck bw
  refine cy<|Ht nI (λj=>decide (j≠here)) nI (.li (.var (s2.rd (j:=191) rm rfl)) lb.w) (aR Xh (by decide)) (λj hj ce s hv=>⟨.to (.cmp .var (.var (v:=nI here) (s.rd (j:=51) va rfl)) .ne) (by rw[←decide_not,decide_eq_decide];exact not_congr Int.ofNat_inj),λy=>.var⟩) λEf aQ Kk rp P3=>?_
  have ne2:Ef≠fo:=(gK Kk lb.f).symm
  refine su nI here (.var (s3.rd (j:=110) (s0.rd Ea rfl) rfl)) (.var (v:=nI here) va) (P3.at lb.f) (l1 (el ho) (by simp+arith only)) λbU Xj u=>?_
  have Ag:LB σ bU rows.length Ef ka fo ⟨s.w.filter (·≠here),s.o++[here],s.f⟩:=
   ⟨(lb.p.trans P3).sn u lb.nf,u.at rp ne2,(lb.k.a7 P3).a7 u lb.q5.2,Xj,⟨lb.ok.nd.filter _,λj hj=>lb.ok.lt j (rK.1 hj).1,lb.ok.m⟩,lb.p.no Kk,lb.nk,lb.nf,ne2⟩
  have iZ:(s.o++[here]).length+f=5:=by rw[bW,←ho,AU,tC _ f];rfl
  have Xk:here<c9.length:=by rw[RI.len];exact Ee
  have mC:=RI.at_ here _ _ (bS Xk) (bS Ee)
  rw[←show rows.getD here []=rows[here] by rw[dG,bS Ee];rfl]at mC
  clear u Xj Kk rp P3;generalize xp:(rows.getD here []).foldl _ _=R1 at hR;have Xl:=s3.rd (j:=76) (s0.rd E76 rfl) rfl;have ajI:=s3.rd (j:=126) (s0.rd Ac rfl) rfl;have ajJ:=s3.rd (j:=112) (s0.rd Xg rfl) rfl
  refine jB (.item (.var Xl) (.var (v:=nI here) va) (.li (v:=.loc c9[here]) (by rw[dM,bS Xk];rfl) (by rw[aZ,RI.len];exact cB n4 rfl) (Ag.p.at cI))) (Ag.p.at mC) λok bw=>pN [0] nI (λps ae=>∃s',(∀p∈ps,p<rows.length)∧ps.foldl (dW λk=>decide (k∈shown)) s'=R1∧s'.o=s.o++[here]∧LB σ ae rows.length Ef ka fo s')
   ⟨_,λp hp=>jN (fh here p hp) Ee,xp,rfl,Ag⟩ (λp ps e4 fG s5 hv z=>?_) λe4 fG s5 z=>?_
  ·refine cz z λs' dR cH c7 Ah=>?_
   exact⟨bw _ (Ah.p.at mC),λK kk=>Xe (v:=0) Ah n4 (dR p (.head _)) hs hv (s5.rd (j:=126) ajI rfl) (s5.rd (j:=112) ajJ rfl) (s5.rd (j:=191) rfl rfl) λfH lb6=>kk.nx ⟨_,λq hq=>dR q (.tail _ hq),cH,by rw[Xd];exact c7,lb6⟩⟩
  ·refine cz z λs' dR cH c7 Ah=>?_
   have cH:s'=R1:=cH;subst cH
   exact⟨bw _ (Ah.p.at mC),hV (kX f) ⟨s',Ef,by rw[c7];exact iZ,hR,Ah,s5.rd (j:=191) rfl rfl⟩ ((s3.set (i:=191)).tr s5)⟩
 ·have h0:s.w=[]:=xH.1 h0
  have hs:s=R:=by
   induction f with
   |zero=>exact hR
   |succ f=>exact(if_pos h0).symm.trans hR
  subst hs;exact bX (.var (rd Ea rfl rfl)) (q.out ay fo lb.nf (P2.at lb.f) (lb.p.trans P2))
noncomputable abbrev Eg:Str:=fK "grep"
noncomputable abbrev Ai:Str:=fK "author"
noncomputable abbrev Eh:Str:=fK "merges"
noncomputable abbrev Xm:Str:=fK "between"
noncomputable abbrev Kl:Str:=fK "pickaxe"
structure gi(w:Wi)(es:List (Str×CV)):Prop where
 g:bB es Eg=w.g.map .bytes
 a:bB es Ai=w.a.map .bytes
 m:bB es Eh=w.m.map .bool
 b:bB es Xm=w.b.map λp=>.tup [optN p.1,optN p.2]
 p:bB es Kl=if w.p then some (.tup [.bytes [102],.bytes [107]])else none
noncomputable def Ei(w:Wi)(note name xw:List UInt8)(np t Kd:Nat)(others:List Nat):Bool:=
 qk w note&&(rz w name xw&&(u5 w np&&(oX w t&&(!w.p||!decide (Kd∈others)))))
section
variable{σ:St}{e:aL}{wd:Addr}{w:Wi}{es:List (Str×CV)}{note name xw:List UInt8}{m1 m2 m3:EM}
theorem wit{v:CV}{k:Str}(eu:σ wd=some (.dS es))(h1:Ev m1 e σ (.loc wd))(h:bB es k=some v):Ev (bc m1 (au (.str k))) e σ v:=.item h1 .val (.dS eu h)
theorem qm{o:Option CV}{k:Str}(eu:σ wd=some (.dS es))(h1:Ev m1 e σ (.loc wd))(h:bB es k=o):bM (aT .In (au (.str k)) m1) e σ o.isSome:=.to (.cmp .val h1 (.iS eu)) (by rw[h])
theorem ajK(eu:σ wd=some (.dS es))(ke:gi w es)(h1:Ev m1 e σ (.loc wd))(h2:Ev m2 e σ (.bytes note)):bM (bR (aT .In (au (.str Eg)) m1) (bR (aT .NotIn (bc m1 (au (.str Eg))) m2) (cQ true))) e σ (!qk w note):=by
 have h:=ke.g;unfold qk
 cases hg:w.g with
 |none=>rw[hg]at h;exact .lZ (qm eu h1 h)
 |some g=>rw[hg]at h;exact .pH (qm eu h1 h) (.lp (.cmp (wit eu h1 h) h2 .BK))
theorem ajL(eu:σ wd=some (.dS es))(ke:gi w es)(h1:Ev m1 e σ (.loc wd))(h2:Ev m2 e σ (.bytes name))(h3:Ev m3 e σ (.bytes xw)):bM (bR (aT .In (au (.str Ai)) m1) (bR (aT .NotIn (bc m1 (au (.str Ai))) m2) (bR (aT .NotIn (bc m1 (au (.str Ai))) m3) (cQ true)))) e σ (!rz w name xw):=by
 have h:=ke.a;unfold rz
 cases hg:w.a with
 |none=>rw[hg]at h;exact .lZ (qm eu h1 h)
 |some g=>rw[hg]at h;exact .pH (qm eu h1 h) (.to (.and (.cmp (wit eu h1 h) h2 .BK) λz=>.lp (.cmp (wit eu h1 h) h3 .BK)) (Bool.not_or ..).symm)
theorem ajM{n:Nat}(eu:σ wd=some (.dS es))(ke:gi w es)(h1:Ev m1 e σ (.loc wd))(h2:Ev m2 e σ (.bool (decide ((1:Int)<n)))):bM (bR (aT .In (au (.str Eh)) m1) (bR (aT .NotEq m2 (bc m1 (au (.str Eh)))) (cQ true))) e σ (!u5 w n):=by
 have h:=ke.m;unfold u5
 cases hg:w.m with
 |none=>rw[hg]at h;exact .lZ (qm eu h1 h)
 |some m=>
  rw[hg]at h;refine .pH (qm eu h1 h) (.lp (.to (.cmp h2 (wit eu h1 h) .HG) ?_));rw[show decide ((1:Int)<n)=decide (1<n)from decide_eq_decide.2 dN];cases m<;>cases decide (1<n)<;>rfl
theorem ajN{t:Nat}{f:Option Nat}(h1:Ev m1 e σ (optN f))(h2:Ev m2 e σ (.int t)):bM (bR (aT .IsNot m1 (au .none)) (bR (aT .Lt m2 m1) (cQ true))) e σ (!Ad t f):=by
 induction f with
 |none=>exact .lZ (.cmp h1 .val .iY)
 |some f=>exact .pH (.cmp h1 .val .iY) (.lp (.to (.cmp h2 h1 .lt) (by show decide ((t:Int)<f)=!decide (f≤t);rw[←decide_not,decide_eq_decide];exact Mt ..)))
theorem ajO{t:Nat}{f:Option Nat}(h1:Ev m1 e σ (optN f))(h2:Ev m2 e σ (.int t)):bM (bR (aT .IsNot m1 (au .none)) (bR (aT .Gt m2 m1) (cQ true))) e σ (!Kb t f):=by
 induction f with
 |none=>exact .lZ (.cmp h1 .val .iY)
 |some f=>exact .pH (.cmp h1 .val .iY) (.lp (.to (.cmp h2 h1 .gt) (by show decide ((f:Int)<t)=!decide (t≤f);rw[←decide_not,decide_eq_decide];exact Mt ..)))
theorem Xn{o:Option Nat}(h1:Ev m1 e σ (nH o)):Ev (eH (aT .IsNot m1 (au .none)) m1 (au (.int 0))) e σ (.int (jL o)):=by
 induction o with
 |none=>exact .iff (.cmp h1 .val .iY) .val
 |some n=>exact .yu (.cmp h1 .val .iY) h1
end
theorem ajP{σ:St}{wd:Addr}{w:Wi}{es:List (Str×CV)}{rows:List (List Nat)}{k:Nat}
  (eu:σ wd=some (.dS es))(ke:gi w es)(hr:j6 σ rl rows)(ht:σ tl=some (.list (times.map nI)))(hc:σ cl=some (.list (counts.map nH)))(Km:σ dX=some (.list (Ds.map kR)))
  (n4:rows.length≤4)(nt:times.length=rows.length)(nc:counts.length=rows.length)(nd:Ds.length=rows.length)(hk:Ds[k]?=some D)(fh:∀k,∀j∈rows.getD k [],j<k)(j8:∀k,(rows.getD k []).length≤4)
  (q:bI (∀ae,aF aS σ ae→Q (.bool (Ei w D.note.1 D.bH.1 D.bH.2 (rows.getD k []).length (times.getD k 0) (jL (counts.getD k none)) (if rows.getD k []=[]then[0]else(rows.getD k []).map λj=>jL (counts.getD j none)))) ae)):
  GC [.loc wd,.int k,.loc rl,.loc tl,.loc cl,.loc dX] [] σ Q:=by
 obtain⟨c9,cI,RI⟩:=hr;have qY:=(iL.1 hk).1
 have i7:k<rows.length:=by exact ey qY (el nd)
 have oW:k<c9.length:=by rw[RI.len];exact i7
 have mC:=RI.at_ k _ _ (bS oW) (bS i7)
 rw[←show rows.getD k []=rows[k] by rw[dG,bS i7];rfl]at mC
 have Dw:=j8 k
 have Kn:∀{n:Nat},n≤4→n≤1000:=λh=>aR h (by decide)
 have i1:It (.loc dX) (.int k) σ (kR D):=.li (by rw[dM,hk];rfl) (by rw[aZ];exact xX nd n4 rfl) Km
 have ir:∀{ae},aF aS σ ae→It (.loc rl) (.int k) ae (.loc c9[k]):=λP=>.li (by rw[dM,bS oW];rfl) (by rw[aZ,RI.len];exact Kn n4) (P.at cI)
 have it:It (.loc tl) (.int k) σ (.int (times.getD k 0:Nat)):=.li (by rw[dM,dG,bS (nt▸nd▸qY)];rfl) (by rw[aZ];exact xX nt n4 rfl) ht
 have ic:∀{j:Nat} {ae},j<rows.length→aF aS σ ae→It (.loc cl) (.int j) ae (nH (counts.getD j none)):=λ{j ae} hj P=>.li (by rw[dM,dG,bS (ey hj (er nc))];rfl) (by rw[aZ];exact xX nc n4 rfl) (P.at hc)
 have q:=q.out;unfold Ei at q;refine df<|He (.tup (.three (.item (.item .var .var i1) .val .tup) (.item (.item .var .var i1) .val .tup) (.item (.item .var .var i1) .val .tup))) ?_;generalize hE:eW _ _ (eW _ _ _)=e
 have xy:e 92=some (.loc wd):=by rw[←hE];rfl
 have zN:e 68=some (.bytes D.note.1):=by rw[←hE];rfl
 have Ko:e 66=some (.bytes D.bH.1):=by rw[←hE];rfl
 have e60:e 60=some (.bytes D.bH.2):=by rw[←hE];rfl
 have e1:e 1=some (.int k):=by rw[←hE];rfl
 have Xo:e 76=some (.loc rl):=by rw[←hE];rfl
 have uH:e 133=some (.loc tl):=by rw[←hE];rfl
 have ajQ:e 147=some (.loc cl):=by rw[←hE];rfl
 clear hE
 refine fO (ajK eu ke .var .var) (λg=>bX .val ?_) λg=>bp ?_
 ·have q:=q σ (.refl _ _)
  rw[(mK _).mp g]at q;exact q
 rw[(rE _).mp g]at q;clear g
 refine fO (ajL eu ke .var .var .var) (λg=>bX .val ?_) λg=>bp ?_
 ·have q:=q σ (.refl _ _)
  rw[(mK _).mp g]at q;exact q
 rw[(rE _).mp g]at q;clear g
 refine fO (ajM eu ke .var (.to (.cmp (.call (.one (.item .var .var (ir (.refl _ _)))) (.len (by rw[aZ];exact Kn Dw) mC)) .val .gt) (by rw[aZ]))) (λg=>bX .val ?_) λg=>bp ?_
 ·have q:=q σ (.refl _ _)
  rw[(mK _).mp g]at q;exact q
 rw[(rE _).mp g]at q;clear g
 have rest:∀{e':aL},cx [108,56] e e'→oX w (times.getD k 0)=true→ah (bC (aT .In (au (.str Kl)) (af 92)) (ah (aP (eH (aT .IsNot (bc (af 147) (af 1)) (au .none)) (bc (af 147) (af 1)) (au (.int 0))) (aName 62)) (ah (aP (eH (aT .NotEq (bc (af 76) (af 1)) (eList ar)) (cT [(3,.local),(0,.local),(147,.free)] (bO (bc (af 76) (af 1))) (aName 0) de (eH (aT .IsNot (bc (af 147) (af 0)) (au .none)) (bc (af 147) (af 0)) (au (.int 0)))) (eList (ag (au (.int 0)) ar))) (aName 162)) (ah (bh (gM .NotIn (af 62) (af 162))) az))) az) (ah (bh (au (.bool true))) az) e' σ (bk Q):=λ{e'} s hd=>by
  rw[hd]at q;have f92:=s.rd (j:=92) xy rfl;have f1:=s.rd (j:=1) e1 rfl;have Xl:=s.rd (j:=76) Xo rfl;have ajR:=s.rd (j:=147) ajQ rfl;have h:=ke.p
  cases hp:w.p with
  |false=>
   rw[hp]at h q
   exact e8 (qm eu .var h)<|bp<|bX .val (q σ (.refl _ _))
  |true=>
   rw[hp]at h q;refine oB (qm eu .var h)<|gN (Xn (.item .var .var (ic i7 (.refl _ _)))) ?_
   have fin:∀{la:Addr} {ao:St} {others:List Nat},ao la=some (.list (others.map nI))→aF aS σ ao→others=(if rows.getD k []=[]then[0]else(rows.getD k []).map λj=>jL (counts.getD j none))→ah (bh (gM .NotIn (af 62) (af 162))) az (bz (bz e' 62 (.int (jL (counts.getD k none)))) 162 (.loc la)) ao (sq (ah (bh (au (.bool true))) az) (bk Q)):=λ{la ao others} c6 P1 ho=>by
    have q:=q ao P1;rw[←ho]at q;exact bX (.cmp (x:=.int (jL (counts.getD k none):Nat)) (.var rfl) (.var rfl) (.oy (.ns c6))) q
   refine cy<|acW (.item .var .var (ir (.refl _ _))) mC (λg ao P1=>?_) λg ao P1=>?_
   ·have xx:rows.getD k []≠[]:=λe=>g (by rw[e];rfl)
    exact md nI (λj=>nI (jL (counts.getD j none))) (.li (.item .var .var (ir P1)) (P1.at mC)) (Kn Dw) (λj hj ce s hv=>Xn (.item (.var (s.rd (j:=147) ajR rfl)) .var (ic (jN (fh k j hj) i7) P1))) λla ay lN c6 P2=>fin (by rw[c6,dp];rfl) (P1.trans P2) (if_neg xx).symm
   ·exact dh (.one .val) λla ay lN c6 P2=>fin (others:=[0]) c6 (P1.trans P2) (if_pos (xH.1 g)).symm
 have h:=ke.b
 cases hb:w.b with
 |none=>
  rw[hb]at h
  exact e8 (qm eu .var h)<|bp<|rest .refl (by unfold oX;rw[hb])
 |some fl=>
  obtain⟨f,l⟩:=fl;rw[hb]at h
  have Xp:oX w (times.getD k 0)=(Ad (times.getD k 0) f&&Kb (times.getD k 0) l):=by unfold oX;rw[hb]
  refine oB (qm eu .var h)<|BO (wit eu .var h)<|fO (.or (ajN (.var rfl) (.item .var .var it)) λz=>.BH (ajO (.var rfl) (.item .var .var it))) (λg=>bX .val ?_) λg=>bp<|oA<|rest (.set (.set .refl)) ?_
  ·have q:=q σ (.refl _ _)
   rw[←Mn,←Xp,mK]at g
   rw[g]at q;exact q
  ·rw[←Mn,←Xp,rE]at g;exact g
noncomputable def o6(found:List (List Nat))(row:List Nat):List (List Nat):=
 found++[(cS (found.length+1)).filter λx=>x==found.length||row.any λj=>(found.getD j []).contains x]
noncomputable def fw(rows:List (List Nat)):List (List Nat):=rows.foldl o6 []
noncomputable def Aj(rows:List (List Nat))(hs:List Nat):List Nat:=
 ((fw rows).getD (rows.length- 1) []).filter λx=>hs.all λk=>!((fw rows).getD k []).contains x
noncomputable def Ak:Nat→List (List (List Nat))
 |0=>[[]]
 |n+1=>(Ak n).flatMap λrs=>(uF n).map λr=>rs++[r]
theorem Xq:∀(n:Nat) (rows:List (List Nat)),rows.length=n→lJ rows→rows∈Ak n
 |0,rows,h,_=>by rw[Au h];simp[Ak]
 |n+1,rows,h,ok=>by
  obtain⟨rs,r,rfl⟩:∃rs r,rows=rs++[r]:=⟨rows.dropLast,rows.getLast (λe=>by rw[e]at h;exact rT h),(vj _).symm⟩
  have hl:rs.length=n:=by simpa using h
  have ih:=Xq n rs hl λk r' hk=>ok k r' (by rw[xE (iL.1 hk).1];exact hk)
  have hr:=ok n r (by rw[Ez ((el hl)),hl];simp)
  unfold Ak;exact EV.2 ⟨rs,ih,dD.2 ⟨r,hr,rfl⟩⟩
noncomputable def Al(n:Nat):List (List Nat):=[]::(cS (n- 1)).map λh=>[h]
noncomputable def goodRun(rows:List (List Nat))(hs:List Nat):Bool:=
 let R:=runOf (λk=>rows.getD k []) [rows.length- 1] hs
 R.w.isEmpty&&(R.o.all λk=>decide (k<rows.length)&&(R.f k).isSome)&&decide (R.o.length≤100)&&
  ((Aj rows hs).all λk=>decide (k<rows.length))&&(cS rows.length).all λk=>(z9 R k).isSome==(Aj rows hs).contains k
noncomputable def Ej(n:Nat):Bool:=(Ak n).all λrows=>(Al n).all λhs=>goodRun rows hs
theorem ajS:Ej 2=true:=by decide+kernel
theorem ajT:Ej 3=true:=by decide+kernel
theorem ajU:Ej 4=true:=by decide+kernel
theorem ajV{rows:List (List Nat)}(ok:lJ rows)(h2:2≤rows.length)(h4:rows.length≤4)(hh:hs∈Al rows.length):
  xq (λk=>rows.getD k []) rows.length [rows.length- 1] hs∧∀k,kU (λk=>rows.getD k []) (rows.length- 1) hs k=decide (k∈Aj rows hs):=by
 have hg:Ej rows.length=true:=by
  have:rows.length=2∨rows.length=3∨rows.length=4:=Mo h2 h4
  rcases this with e |e |e<;>rw[e]
  ·exact ajS
  ·exact ajT
  ·exact ajU
 have hg:=iy.1 (iy.1 hg rows (Xq _ rows rfl ok)) hs hh;unfold goodRun at hg;simp only[rI,L0,iy,decide_eq_true_eq,E7,beq_iff_eq]at hg;obtain⟨⟨⟨⟨g1,g2⟩,g3⟩,g4⟩,g5⟩:=hg;refine⟨⟨g1,g2,g3⟩,λk=>?_⟩;unfold kU
 by_cases hk:k<rows.length
 ·rw[g5 k hk,List.contains_eq_mem]
 ·have e1:(z9 (runOf (λk=>rows.getD k []) [rows.length- 1] hs) k).isSome=false:=by
   unfold z9
   rw[if_neg]
   ·rfl
   ·rintro⟨z,_⟩;exact hk (g2 k z).1
  rw[e1,decide_eq_false];exact λz=>hk (g4 k z)
noncomputable def mark(b:Nat→Bool)(x:Nat):Option CV:=if b x then some (.bool true)else none
theorem ajW{l:List (Nat×CV)}{k:Nat}{v:CV}(h:bB l k=some v):k∈l.map (λx=>x.1):=by
 unfold bB at h;rw[tg]at h;refine a9 h λp hp zz=>?_;have h1:=List.find?_some hp;have h2:=alh hp
 exact dD.2 ⟨p,h2,by simpa using h1⟩
theorem ajX{a n:Nat}{b:Nat→Bool}(h:jM σ a n (mark b))(n4:n≤4)(q:σ.new (.list (((cS n).filter b).map nI)) Q):uq [.loc a] [] σ Q:=by
 refine cz h.ex λl h1 h2 h3 h4=>?_
 have hl:l.length≤n:=by
  have:=oQ n (l.map (λx=>x.1)) h2 λx hx=>by
   refine a9 (dD.1 hx) λp hp aq=>?_;subst aq;exact h3 p hp
  simpa using this
 refine .inl (a1 (k:=.L) ⟨_,h1,by unfold mG;rw[aZ];exact aR hl n4,λws hp hs=>?_⟩)
 have e:(mG oY l).map (λx=>x.1)=(l.map (λx=>x.1)).map oY:=by unfold mG;rw[dp,dp];rfl
 rw[e]at hp
 have p1:(l.map (λx=>x.1)).Perm ((cS n).filter b):=by
  rw[alg h2 (List.nodup_range.filter _)];intro x;rw[rK,E7]
  constructor
  ·intro hx
   refine⟨by refine a9 (dD.1 hx) λp hp aq=>?_;subst aq;exact h3 p hp,?_⟩
   cases hb:b x with
   |true=>rfl
   |false=>
    have:=h4 x;unfold mark at this;rw[hb]at this
    exact absurd hx (DO this)
  ·rintro⟨_,hb⟩
   have:=h4 x;unfold mark at this;rw[hb]at this;exact ajW this
 have p2:=hp.trans (p1.map oY)
 have hT:(((cS n).filter b).map oY).Pairwise (·≤·):=by
  rw[Y0]
  exact(List.pairwise_lt_range.filter _).imp λh=>by unfold oY;exact ki.2 (iQ h)
 have:=YF (λa b z z h1 h2=>Int.le_antisymm h1 h2) hs hT p2;rw[this,dp];exact q
theorem ajY{b:Nat→Bool}{x:Nat}:eM (mark b) x (.bool true)=mark λj=>b j||j==x:=by
 funext j
 unfold eM mark
 by_cases e:j=x
 ·simp[e]
 ·have:(j==x)=false:=by simpa using e
  simp[e,this]
theorem ajZ{rows:List (List Nat)}{k:Nat}(hk:k<rows.length):fw (rows.take (k+1))=o6 (fw (rows.take k)) rows[k]:=by
 unfold fw;rw[take_snoc (bS hk),Y5]
 rfl
theorem Kp:∀(rows acc:List (List Nat)),(rows.foldl o6 acc).length=acc.length+rows.length
 |[],acc=>rfl
 |r::rows,acc=>by
  rw[kh,Kp rows];simp[o6];exact AW ..
theorem Xr{b:Nat→Bool}{m:Nat}(h:∀x,b x=true→x<m):∀d,(cS (m+d)).filter b=(cS m).filter b
 |0=>rfl
 |d+1=>by
  rw[←AU,List.range_succ,Lu,Xr h d]
  have:¬b (m+d)=true:=λz=>by have:=h _ z;exact f1 this (by simp+arith only)
  simp[this]
theorem Kq:∀(rows acc:List (List Nat)),(∀j x,x∈acc.getD j []→x≤j)→∀j x,x∈(rows.foldl o6 acc).getD j []→x≤j
 |[],acc,h=>h
 |r::rows,acc,h=>by
  refine Kq rows (o6 acc r) λj x hx=>?_;unfold o6 at hx;rw[dG]at hx
  by_cases hj:j<acc.length
  ·rw[xE hj,←dG]at hx
   exact h j x hx
  ·rw[Ez ((EW hj))]at hx
   cases e:j- acc.length with
   |zero=>
    rw[e]at hx;simp at hx
    exact l2 (EW hj) hx.1 (by simp+arith only)
   |succ i=>rw[e]at hx;simp at hx
theorem jM.congr{a n:Nat}{b b':Nat→Bool}(h:jM σ a n (mark b))(e:∀x,b x=b' x):jM σ a n (mark b'):=by
 have:b=b':=funext e;rw[←this];exact h
theorem d1X{m mk:EM}{R:CV→St→Prop}{i:Int}{v:CV}(hk:Ev mk e σ (.int i))(h:Ev m e σ v)(q:∀a ae,σ a=none→ae a=some (.dI (bY [] i v))→aF aS σ ae→R (.loc a) ae):IQ mk m e σ R:=hk _ ⟨i,rfl,h _ (cX q)⟩
theorem j5.p0{W:St}{rows:List (List Nat)}(h:j5 W c9 rows)(n:∀a∈c9,a≠da)(p:aF (one da) W W'):j5 W' c9 rows:=⟨h.len,λk a r h1 h2=>p.at (h.at_ k a r h1 h2) (n a (tj h1))⟩
theorem aj0{l:List Nat}{x y:Nat}:(l++[x]).contains y=(l.contains y||y==x):=by
 rw[rL,vp,L6,vp,fY,cL,beq_iff_eq]
theorem aj1{rows:List (List Nat)}(hr:j6 σ rl rows)(n4:rows.length≤4)(fh:∀k,∀j∈rows.getD k [],j<k)
  (q:bI (∀ae fo (fA:List Addr),σ fo=none→(∀a∈fA,σ a=none)→ae fo=some (.list (fA.map .loc))→j5 ae fA (fw rows)→aF aS σ ae→Q (.loc fo) ae)):Gz [.loc rl] [] σ Q:=by
 obtain⟨c9,cI,RI⟩:=hr;have gh:=RI.len
 refine qE λe Xo=>cy<|dh .nil λfo ao ta ee P1=>PN .var (P1.at cI) λok bw=>Hr [1,27,82,0,2] (λk o ae=>k≤rows.length∧∃fA,j5 ae fA (fw (rows.take k))∧ae fo=some (.list (fA.map .loc))∧fo∉fA∧aF aS σ ae∧∀a∈fA,σ a=none) ⟨dE _,[],⟨rfl,λo o o h=>(bo h)⟩,ee,rJ,P1,λo h=>(cA h)⟩ (λk v e2 ay hv s z=>?_) λe2 ay s z=>?_
 ·refine Mv z λkn fA FI ee Kr P Kt=>?_
  refine⟨bw _ (P.at cI),λK kk=>?_⟩;refine a9 (tg.1 (dM▸hv)) λra B5 aq=>?_;obtain rfl:=aq
  have i7:k<rows.length:=by rw[←gh];exact(iL.1 B5).1
  have gU:=RI.at_ k _ _ B5 (bS i7);have hdag:=fh k
  rw[show rows.getD k []=rows[k] by rw[dG,bS i7];rfl]at hdag
  have hlen:(fw (rows.take k)).length=k:=by unfold fw;rw[Kp,tv,mO,Ly];exact Nat.min_eq_left kn
  have vb:=FI.len;rw[hlen]at vb;have I7:=ajZ i7
  have Xs:∀j x,x∈(fw (rows.take k)).getD j []→x≤j:=Kq _ _ λj x hx=>by exact cA hx
  generalize fw (rows.take k)=found at*;have xA:=s.rd (j:=110) (v:=.loc fo) rfl rfl;refine cy<|d1X (.var rfl) .val λda aQ o7 Ek P2=>?_
  have D0:jM aQ da rows.length (mark λj=>j==k):=by
   refine⟨[(k,.bool true)],Ek,mN.2 ⟨rJ,.nil⟩,λp hp=>by rw[cL.1 hp];exact i7,λj=>?_⟩
   have:=@uL Nat _ k j (.bool true) [];show bB (bY [] k (.bool true)) j=_;rw[this];unfold mark
   by_cases e:j=k
   ·rw[if_pos e,e,if_pos (beq_self_eq_true k)]
   ·rw[if_neg e,if_neg λz=>e (n9 z)];rfl
  have aj2:=P.no o7;have dfo:fo≠da:=gK o7 ee
  have aj3:∀a∈fA,a≠da:=λa ha=>by
   refine xe (YL ha) λi h1=>?_
   have h2:i<found.length:=by rw[hlen,←vb];exact(iL.1 h1).1
   exact gK o7 (FI.at_ i a _ h1 (bS h2))
  refine jB (.var rfl) ((P.trans P2).at gU) λok2 Xu=>pN [0,2] nI (λtl ae=>∃done,rows[k]=done++tl∧jM ae da rows.length (mark λx=>x==k||done.any λj=>(found.getD j []).contains x)∧j5 ae fA found∧ae fo=some (.list (fA.map .loc))∧aF aS σ ae)
   ⟨[],rfl,D0.congr λx=>(Bool.or_false _).symm,FI.mono P2,P2.at ee,P.trans P2⟩ (λj tl e3 bU s2 hv z=>?_) λe3 bU s2 z=>?_
  ·refine rU z λdone hd D FI ee P=>?_
   have yB:j<k:=hdag j (by rw[hd];exact kW _ (.head _))
   have DX:j<found.length:=by rw[hlen];exact yB
   have Xv:j<fA.length:=by rw[vb];exact yB
   have efj:found.getD j []=found[j]:=by rw[dG,bS DX];rfl
   have Ku:∀{ae},j5 ae fA found→ae fA[j]=some (.list ((found.getD j []).map nI)):=λFI=>by rw[efj];exact FI.at_ j _ _ (bS Xv) (bS DX)
   have hxj:=Xs j;refine⟨Xu _ (P.at gU),λK5 kk5=>?_⟩
   refine jB (.item (.var (s2.rd (j:=110) xA rfl)) .var (.li (v:=.loc fA[j]) (by rw[dM,bS Xv];rfl) (by rw[aZ,vb];exact l2 n4 i7 (by simp+arith only)) ee)) (Ku FI) λok3 Xw=>pN [2] nI (λt2 ae=>∃d2,found.getD j []=d2++t2∧jM ae da rows.length (mark λx=>(x==k||done.any λj=>(found.getD j []).contains x)||d2.contains x)∧j5 ae fA found∧ae fo=some (.list (fA.map .loc))∧aF aS σ ae)
    ⟨[],rfl,D.congr λx=>(Bool.or_false _).symm,FI,ee,P⟩ (λx t2 e4 fG s3 US z=>?_) λe4 fG s3 z=>?_
   ·refine rU z λd2 hd2 D FI ee P=>?_
    have hx:x<rows.length:=je (hxj x (by rw[hd2];exact kW _ (.head _))) (jN yB i7)
    refine⟨Xw _ (Ku FI),λK8 uW=>lu .val (.var (s3.rd (j:=82) (s2.rd (j:=82) rfl rfl) rfl)) .var<|Xc D n4 hx λfH D4 P4=>bp<|uW.nx ⟨d2++[x],by rw[hd2,fJ];rfl,?_,FI.p0 aj3 P4,P4.at ee dfo,P.sn P4 aj2⟩⟩
    rw[ajY]at D4
    exact D4.congr λy=>by rw[aj0,Bool.or_assoc]
   ·refine rU z λd2 hd2 D FI ee P=>?_
    rw[fj]at hd2;rw[←hd2]at D
    exact⟨Xw _ (Ku FI),kk5.nx ⟨done++[j],by rw[hd,fJ];rfl,D.congr λx=>by rw[List.any_append,Bool.or_assoc];show _=(_||(_||(_||false)));rw[Bool.or_false],FI,ee,P⟩ (s2.tr s3)⟩
  ·refine rU z λdone hd D FI ee P=>?_
   rw[fj]at hd;rw[←hd]at D
   refine⟨Xu _ (P.at gU),iA<|sv (.var (s2.rd (j:=110) xA rfl)) ee<|cu (.one (.var (s2.rd (j:=82) rfl rfl)))<|ajX D n4<|cX λla fG lN c6 P3=>tY (u:=la) (P3.at ee) (by rw[vb];exact l2 n4 i7 (by simp+arith only)) λfH aj4 u=>bp<|kk.nx ?_ (s.set.tr s2)⟩
   have Xx:la≠fo:=(gK lN ee).symm
   have aj5:o6 found rows[k]=found++[(cS rows.length).filter λx=>x==k||rows[k].any λj=>(found.getD j []).contains x]:=by
    unfold o6;rw[hlen];obtain⟨dd,edd⟩:∃dd,rows.length=k+1+dd:=⟨rows.length- (k+1),(Nat.add_sub_of_le i7).symm⟩;rw[edd]
    congr 2
    refine(Xr (m:=k+1) (λx hx=>?_) dd).symm;rw[L6,vw]at hx
    rcases hx with hx |⟨j,hj,hx⟩
    ·rw[n9 hx];exact kX k
    ·exact Y7 (aR (Xs j x (vp.1 hx)) (iQ (hdag j hj)))
   refine⟨i7,fA++[la],?_,aj4,?_,(P.nx P3).sn u ta,λa ha=>?_⟩
   ·rw[I7,aj5]
    exact((FI.mono P3).p0 (da:=fo) (λa ha e=>Kr (by rw[←e];exact ha)) u).snoc (u.at c6 Xx)
   ·rw[fY,cL];exact λz=>z.elim Kr Xx.symm
   ·rcases fY.1 ha with ha |ha
    ·exact Kt a ha
    ·rw[cL.1 ha];exact P.no lN
 ·refine Mv z λkn fA FI ee Kr P Kt=>?_
  rw[aZ,gh,List.take_length]at FI;exact⟨bw _ (P.at cI),bX (.var (s.rd (j:=110) rfl rfl)) (q.out ay fo fA ta Kt ee FI P)⟩
structure WW(W σ:St)(d c:Addr)(T L:Nat)(wd:Addr)(w:Wi):Prop where
 dk:Dk W σ d c T
 at_:∃es,σ wd=some (.dS es)∧gi w es∧es.length≤L
 nd:wd≠d
 nc:wd≠c
 nw:W wd=none
section
variable{W σ ae:St}{d c wd:Addr}{T L:Nat}{w w':Wi}{es:List (Str×CV)}
theorem WW.ext(h:WW W σ d c T L wd w)(p:aF aS σ ae):WW W ae d c T L wd w:=by
 refine a9 h.at_ λes h1 h2=>?_;exact⟨h.dk.ext p,⟨es,p.at h1,h2⟩,h.nd,h.nc,h.nw⟩
theorem WW.draw(h:WW W σ d c T L wd w)(D:Dk W ae d c T')(p:aF (two d c) σ ae):WW W ae d c T' L wd w:=by
 refine a9 h.at_ λes h1 h2=>?_;exact⟨D,⟨es,p.at h1 (λx=>x.elim h.nd h.nc),h2⟩,h.nd,h.nc,h.nw⟩
theorem WW.up{L':Nat}(h:WW W σ d c T L wd w)(l:T≤T')(l':L≤L'):WW W σ d c T' L' wd w:=by
 refine bF h.at_ λes h1 h2 h3=>?_;exact⟨h.dk.up l,⟨es,h1,h2,aR h3 l'⟩,h.nd,h.nc,h.nw⟩
theorem sC{k j:Str}{v:CV}(h:j≠k):bB (bY es k v) j=bB es j:=uL.trans (if_neg h)
theorem sT{k:Str}{v:CV}:bB (bY es k v) k=some v:=uL.trans (if_pos rfl)
theorem gi.sp(h:gi w es):gi {w with p:=true} (bY es Kl (.tup [.bytes [102],.bytes [107]])):=⟨(sC (by decide+kernel)).trans h.g,(sC (by decide+kernel)).trans h.a,(sC (by decide+kernel)).trans h.m,(sC (by decide+kernel)).trans h.b,sT⟩
theorem gi.sg(x:List UInt8)(h:gi w es):gi {w with g:=some x} (bY es Eg (.bytes x)):=⟨sT,(sC (by decide+kernel)).trans h.a,(sC (by decide+kernel)).trans h.m,(sC (by decide+kernel)).trans h.b,(sC (by decide+kernel)).trans h.p⟩
theorem gi.sa(x:List UInt8)(h:gi w es):gi {w with a:=some x} (bY es Ai (.bytes x)):=⟨(sC (by decide+kernel)).trans h.g,sT,(sC (by decide+kernel)).trans h.m,(sC (by decide+kernel)).trans h.b,(sC (by decide+kernel)).trans h.p⟩
theorem gi.sm(x:Bool)(h:gi w es):gi {w with m:=some x} (bY es Eh (.bool x)):=⟨(sC (by decide+kernel)).trans h.g,(sC (by decide+kernel)).trans h.a,sT,(sC (by decide+kernel)).trans h.b,(sC (by decide+kernel)).trans h.p⟩
theorem gi.sb(x:Option Nat×Option Nat)(h:gi w es):gi {w with b:=some x} (bY es Xm (.tup [optN x.1,optN x.2])):=⟨(sC (by decide+kernel)).trans h.g,(sC (by decide+kernel)).trans h.a,(sC (by decide+kernel)).trans h.m,sT,(sC (by decide+kernel)).trans h.p⟩
theorem aj6{κ:Type}[DecidableEq κ]{l:List (κ×CV)}{k:κ}{v:CV}:(bY l k v).length≤l.length+1:=by
 unfold bY
 split
 ·rw[aZ];exact nW _
 ·rw[bW];exact cP _
theorem Am{k:Str}{v:CV}{P:St→Prop}(h:WW W σ d c T L wd w)(hL:L≤900)(hw:∀{es},gi w es→gi w' (bY es k v))(q:∀ae,WW W ae d c T (L+1) wd w'→P ae):lx (.loc wd) (.str k) v σ P:=by
 refine bF h.at_ λes h1 h2 h3=>?_
 exact PF h1 (aR h3 (aR hL (by decide))) λae g p=>q ae ⟨h.dk.other p λa e=>by obtain rfl:=e.symm;exact⟨h.nd,h.nc,h.nw⟩,⟨_,g,hw h2,aR aj6 (qn h3)⟩,h.nd,h.nc,h.nw⟩
theorem Kv{vs:List CV}{R:CV→St→Prop}(h:WW W σ d c T L wd w)(hT:T≤1000000)(rA:e 46=some (.loc d))(hm:gp ms e σ vs)(hv:vs≠[])(hl:vs.length≤1000)(q:∀v ae,v∈vs→WW W ae d c (T+1) L wd w→R v ae):aY pF (ag (af 46) (ag (eList ms) ar)) e σ R:=
 jY<|jX (.var rA)<|dH<|dh hm (λpa aQ Eb q8 P3=>zF (h.ext P3).dk hT (.inl ⟨q8,(h.dk.new Eb).2⟩) hv hl ⟨λi v bU hv D4 P4=>q v bU (tj hv) ((h.ext P3).draw D4 P4)⟩) hl
end
noncomputable def wi0:Wi:=⟨none,none,none,false,none⟩
theorem Xy{a x y:List UInt8}{v:CV}(h:v∈[CV.bytes a,.bytes b,.bytes x,.bytes y]):∃b,v=.bytes b:=by
 rcases h with _ |⟨_,_ |⟨_,_ |⟨_,_ |⟨_,h⟩⟩⟩⟩
 ·exact⟨_,rfl⟩
 ·exact⟨_,rfl⟩
 ·exact⟨_,rfl⟩
 ·exact⟨_,rfl⟩
 ·exact cA h
theorem aj7{a b:Nat}:decide ((a:Int)=b)=decide (a=b):=decide_eq_decide.2 Int.ofNat_inj
theorem aj8{W σ:St}{d c:Addr}{T:Nat}(h:Dk W σ d c T)(hT:T≤800)(hw:way<4)(fT:W tl=some (.list (times.map nI)))(Dg:times≠[])(Kw:times.length≤4)
  (q:bI (∀W' ae wd w es,aF aS W W'→W' wd=some (.dS es)→gi w es→Dk W' ae d c (T+10)→Q (.loc wd) ae)):GB [.loc d,.int way,.loc tl,.bool kn] [] σ Q:=by
 refine df<|cy<|cX λwd ao rB eu P1=>?_;have n:=h.new rB;have hW:WW W ao d c T 0 wd wi0:=⟨h.ext P1,⟨[],eu,⟨rfl,rfl,rfl,rfl,rfl⟩,cP _⟩,n.1,n.2,h.nw rB⟩;generalize hE:bz _ 110 _=e
 have rA:e 46=some (.loc d):=by rw[←hE];rfl
 have e32:e 32=some (.int way):=by rw[←hE];rfl
 have uH:e 133=some (.loc tl):=by rw[←hE];rfl
 have alX:e 203=some (.bool kn):=by rw[←hE];rfl
 have xA:e 110=some (.loc wd):=by rw[←hE];rfl
 clear hE;have ew:∀{n:Nat} {σ},bM (aT .Eq (af 32) (au (.int n))) e σ (decide (way=n)):=.to (.cmp .var .val .eq) aj7
 refine yE (λe' σ=>e'=e∧∃w,WW W σ d c T 1 wd w) (λe' σ ⟨he,w,hW⟩=>?_) λK nx z=>tR (ew (n:=0)) (λz=>lu (.tup (.two .val .val)) .var .val<|Am hW (by decide) .sp λay h2=>nx ⟨rfl,_,h2⟩) λz=>nx ⟨rfl,_,hW.up (cP _) (by decide)⟩
 subst he
 refine yE (λkD σ=>kD=e'∧∃w,WW W σ d c (T+1) 2 wd w) (λkD σ ⟨he,w,hW⟩=>?_) λK nx z=>tR (ew (n:=1)) (λz=>vV<|Kv hW (cB hT rfl) rA (.cons .val (.three .val .val .val)) (λe=>og e) (by decide) λv aQ hv h3=>?_) λz=>nx ⟨rfl,_,hW.up (nW _) (by decide)⟩
 rotate_left
 ·refine xe (Xy hv) λb aq=>?_;subst aq
  exact bV .var<|bV .val<|Am h3 (by decide) (.sg b) λbU h4=>nx ⟨rfl,_,h4⟩
 subst he
 refine yE (λe' σ=>e'=kD∧∃w,WW W σ d c (T+2) 3 wd w) (λe' σ ⟨he,w,hW⟩=>?_) λK nx z=>tR (ew (n:=2)) (λz=>vV<|Kv hW (lz hT rfl) rA (.cons .val (.three .val .val .val)) (λe=>og e) (by decide) λv aQ hv h3=>?_) λz=>nx ⟨rfl,_,hW.up (nW _) (by decide)⟩
 rotate_left
 ·refine xe (Xy hv) λb aq=>?_;subst aq
  exact bV .var<|bV .val<|Am h3 (by decide) (.sa b) λbU h4=>nx ⟨rfl,_,h4⟩
 subst he;refine yE (λkD σ=>kD=e'∧∃w,WW W σ d c (T+4) 4 wd w) (λkD σ ⟨he,w,hW⟩=>?_) λK nx z=>?_
 rotate_left
 ·have setM:∀{aQ},WW W aQ d c (T+3) 3 wd w→ah (aP (gM .Eq (aY jz (ag (af 46) (ag (au (.int 2)) ar))) (au (.int 0))) (dg (af 110) (au (.str (fK "merges"))))) az e' aQ K:=λ{aQ} h3=>
   vV<|show gM _ _ _ _ _ _ from cu (.two .var .val)<|nF h3.dk (lz hT rfl) (by decide) (by decide) ⟨λr bU hr D4 P4=>bV .val<|we .eq<|bV .var<|bV .val<|Am (h3.draw D4 P4) (by decide) (.sm _) λfG h5=>nx ⟨rfl,_,h5⟩⟩
  have go:∀{aQ},WW W aQ d c (T+3) 3 wd w→K .next e' aQ:=λh3=>nx ⟨rfl,_,h3.up (nW _) (by decide)⟩
  by_cases w3:way=3
  ·exact tR (.GX (.to ew (decide_eq_true w3))) (λz=>setM (hW.up (nW _) (cP _))) (λg=>iR g)
  ·refine ifX<|toF (.to ew (decide_eq_false w3))<|Py ?_
   induction kn with
   |true=>exact tbK (.lZ (.not (.val .var)))<|go (hW.up (nW _) (cP _))
   |false=>exact Px (.not (.val .var))<|Pz<|v9<|cu (.two .var .val)<|nF hW.dk (lz hT rfl) (by decide) (by decide) ⟨λr bU hr D4 P4=>bV .val<|we (b:=decide ((r:Int)=0)) .eq (by
     cases decide ((r:Int)=0)with
     |true=>exact setM (hW.draw D4 P4)
     |false=>exact go (hW.draw D4 P4))⟩
 subst he
 refine yE (λe' σ=>e'=kD∧∃w,WW W σ d c (T+5) 5 wd w) (λe' σ ⟨he,w,hW⟩=>?_) λK nx z=>tR (ew (n:=3)) (λz=>?_) λz=>nx ⟨rfl,_,hW.up (nW _) (by decide)⟩
 rotate_left
 ·have hf:=hW.dk.fr.at fT
  obtain⟨x,xs,rfl⟩:∃x xs,times=x::xs:=by
   induction times with
   |nil=>exact absurd rfl Dg
   |cons x xs=>exact⟨x,xs,rfl⟩
  obtain⟨ys,y,Xz⟩:∃ys y,x::xs=ys++[y]:=⟨_,_,(vj Dg).symm⟩
  have l4:∀{n:Nat},n≤4→n≤1000:=λh=>aR h (by decide)
  have i0:It (.loc tl) (.int 0) σ (.int x):=.li (i:=0) rfl (by rw[aZ];exact l4 Kw) hf
  have i1:It (.loc tl) (.int (-1)) σ (.int y):=.last (vs:=ys.map nI) (v:=nI y) (by rw[hf,Xz,cR];rfl) (by
   rw[Xz,bW]at Kw;rw[aZ]
   exact aR (mL _ 1) (l4 Kw))
  refine vV<|Kv hW (lz hT rfl) rA (.three (.tup (.two (.item .var .val i0) .val)) (.tup (.two .val (.item .var (.neg .val) i1))) (.tup (.two (.item .var .val i0) (.item .var .val i0)))) (λe=>og e) (cG rfl) λv aQ hv h3=>?_
  obtain⟨b,rfl⟩:∃b:Option Nat×Option Nat,v=.tup [optN b.1,optN b.2]:=by
   rcases hv with _ |⟨_,_ |⟨_,_ |⟨_,h⟩⟩⟩
   ·exact⟨(some x,none),rfl⟩
   ·exact⟨(none,some y),rfl⟩
   ·exact⟨(some x,some x),rfl⟩
   ·exact cA h
  exact bV .var<|bV .val<|Am h3 (by decide) (.sb b) λbU h4=>nx ⟨rfl,_,h4⟩
 subst he;refine bF hW.at_ λes h1 h2 h3=>?_;refine cz (hW.dk.fz h1 hW.nd hW.nc) λW2 cJ g2 D2 zz=>?_
 exact bX .var (q.out W2 σ wd w es cJ g2 h2 (D2.up ((by simp+arith only))))
noncomputable def blanks:List UInt8:=[32,9,13,11,12]
noncomputable def xC(l:List UInt8):Nat→Nat
 |0=>0
 |n+1=>if blanks.contains (l.getD n 0)then xC l n else n+1
noncomputable def El(l:List UInt8):List UInt8:=l.take (xC l l.length)
theorem dlt{a b:Nat}:decide ((a:Int)<b)=decide (a<b):=decide_eq_decide.2 dN
theorem aj9{l:List UInt8}(hl:l.length≤1000):Fn FT [.bytes l,.bytes blanks] σ (.bytes (El l)):=λQ q=>by
 refine yy λe Em aka=>gN (.call (.one .var) (.Pn (aR hl (by decide))))<|pP<|qG [9] (λf e ae=>∃n:Nat,n≤f∧n≤l.length∧xC l n=xC l l.length∧ae=σ∧e 9=some (.int n)) (n:=l.length) ⟨l.length,cP _,cP _,rfl,rfl,rfl⟩ λf e' ae s z W hW=>?_
 refine rU z λn nf nl hc aq e9=>?_;clear z;subst aq;have Em:=s.rd (j:=161) Em rfl
 have stop:xC l n=n→ah (bh (jW (af 161) (af 9))) az e' ae (bk Q):=λhs=>by
  unfold El at q;rw[←hc,hs]at q;exact bX (.upB (.var Em) (.var e9) hl) q
 induction n with
 |zero=>exact sA (.lZ (.cmp (.var e9) .val .gt)) (λg=>eP g) λo=>stop rfl
 |succ n=>
  refine sA (.pH (.to (.cmp (.var e9) .val .gt) (decide_eq_true (dN.2 (nU n)))) (.lp (.cmp (.item (.var Em) (.to (.bin (.var e9) .val .sub) (show CV.int (((n+1:Nat):Int)- 1)=.int n by congr 1;exact xW n)) (.kz nl hl)) (.var (s.rd (j:=128) aka rfl)) .iIB))) (λg=>?_) λg=>stop (by rw[xC,if_neg (by rw[g];exact gX)])
  replace hc:=(if_pos g).symm.trans hc
  exact Pw .val (bp<|hW (ey (kX n) nf) ⟨n,cP _,AF nl,hc,rfl,(show some (CV.int (((n+1:Nat):Int)- 1))=_ by congr 2;exact xW n)⟩) e9 .sub
noncomputable def iu(m:List UInt8):List (List UInt8):=(lA m [10]).map El
noncomputable def vc(n:Nat)(p:Nat→Bool):Nat→Nat→Nat
 |0,at_=>at_
 |f+1,at_=>if decide (at_<n)&&p at_ then vc n p f (at_+1)else at_
noncomputable def vd(rows:List (List UInt8)):Nat→Nat→Nat:=vc rows.length λi=>decide (rows.getD i []=[])
noncomputable def XA(rows:List (List UInt8)):Nat→Nat→Nat:=vc rows.length λi=>!decide (rows.getD i []=[])
theorem XB{t:TM}{Q:dy→aL→St→Prop}{n f a:Nat}{p:Nat→Bool}(ht:∀{e':aL} {i:Nat},cx [4] e e'→e' 4=some (.int i)→bM t e' σ (decide (i<n)&&p i))(ha:n<a+f)(h0:e 4=some (.int a))
  (q:∀e',cx [4] e e'→e' 4=some (.int (vc n p f a))→Q .next e' σ):jC t (ah (v7 4 .Add (au (.int 1))) az) e σ Q:=by
 refine qG [4] (λg e' ae=>ae=σ∧∃i:Nat,vc n p g i=vc n p f a∧n<i+g∧e' 4=some (.int i)) (n:=f) ⟨rfl,a,rfl,ha,h0⟩ λg e' ae s z W hW=>?_;obtain⟨rfl,i,hi,hn,e4⟩:=z
 refine sA (ht s e4) (λh=>?_) λh=>?_
 ·induction g with
  |zero=>rw[rI,decide_eq_true_eq]at h;exact absurd h.1 (Nat.lt_asymm hn)
  |succ g=>
   replace hi:=(if_pos h).symm.trans hi
   exact Pw .val (bp<|hW (kX g) ⟨rfl,i+1,hi,by exact l1 hn (by simp+arith only),rfl⟩) e4 .add
 ·have:i=vc n p f a:=by
   rw[←hi]
   induction g with
   |zero=>rfl
   |succ g=>exact(if_neg (by rw[h];exact gX)).symm
  exact q e' s (by rw[←this];exact e4)
theorem akb:∀n∈j7,(lA n.1 [10]).length≤5∧(∀p∈lA n.1 [10],p.length≤1000)∧
  (let r:=iu n.1;let s:=vd r 6 0;let t:=XA r (6- s) s;s≤t∧t≤r.length∧oz [32] ((r.drop s).take (t- s))=n.2):=by decide+kernel
theorem akc{m:List UInt8}(h1:(lA m [10]).length≤5)(h2:∀p∈lA m [10],p.length≤1000)(q:bI (∀ae a,ae a=some (.list ((iu m).map .bytes))→aF aS σ ae→Q (.loc a) ae)):FZ [.bytes m] [] σ Q:=by
 refine df<|fD<|me<|pK .var ⟨_,rfl⟩ (.one .val)<|PH rfl (by decide) h2 (aR h1 (by decide)) λa ao na ha P1=>iX ha λok bw=>wm CV.bytes (λp=>.bytes (El p)) (bw _ ha) (aR h1 (by decide)) (λp hp ce s hv=>.call (.two .var .glob) (aj9 (h2 p hp))) λb ay nb hb P2=>q.out ay b ?_ (P1.trans P2)
 rw[hb];unfold iu;rw[dp];rfl
theorem akd:∀n∈j7,n.2.length≤100:=by decide
theorem ake{m s:List UInt8}(hn:(m,s)∈j7)(q:bI (∀ae n,aF aS σ ae→Q (.tup [.bytes s,.int n]) ae)):F0 [.bytes m] [] σ Q:=by
 obtain⟨h1,h2,h3,h4,h5⟩:=akb _ hn;simp only at h1 h2 h3 h4 h5
 have cI:(iu m).length≤5:=by unfold iu;rw[aZ];exact h1
 refine qE λe alY=>vY<|cu (.one .var)<|akc h1 h2 ⟨λao ra gU P1=>bV .val ?_⟩
 have hl:((iu m).map CV.bytes).length≤1000:=by rw[aZ];exact aR cI (by decide)
 have An:∀{e':aL} {i:Nat},e' 76=some (.loc ra)→e' 4=some (.int i)→bM (aT .Lt (af 4) (aY eI (ag (af 76) ar))) e' ao (decide (i<(iu m).length)):=λKx h4=>
  .to (.cmp (.var h4) (.call (.one (.var Kx)) (.len hl gU)) .lt) (by rw[aZ];exact dlt)
 have tc:∀{e':aL} {i:Nat},e' 76=some (.loc ra)→e' 4=some (.int i)→i<(iu m).length→Ev (bc (af 76) (af 4)) e' ao (.bytes ((iu m).getD i [])):=λKx h4 hi=>
  .item (.var Kx) (.var h4) (.li (by rw[dM,dG,bS hi];rfl) hl gU)
 refine pP<|XB (n:=(iu m).length) (f:=6) (a:=0) (p:=λi=>decide ((iu m).getD i []=[])) (λs e4=>.and (An (s.rd (j:=76) rfl rfl) e4) λg=>.lp (.cmp (tc (s.rd (j:=76) rfl rfl) e4 (of_decide_eq_true g)) .val .t7)) (je cI (by decide)) rfl λe1 s1 e4=>gN (.var e4)<|
  pP<|XB (n:=(iu m).length) (f:=6- vd (iu m) 6 0) (p:=λi=>!decide ((iu m).getD i []=[])) (λs e4=>.and (An (s.rd (j:=76) (s1.rd (j:=76) rfl rfl) rfl) e4) λg=>.lp (.cmp (tc (s.rd (j:=76) (s1.rd (j:=76) rfl rfl) rfl) e4 (of_decide_eq_true g)) .val .B9)) ?_ e4 λe2 s2 (f4:e2 4=some (.int (XA (iu m) (6- vd (iu m) 6 0) (vd (iu m) 6 0):Nat)))=>?_
 ·have:=aR h3 h4
  exact(show(iu m).length<vd (iu m) 6 0+(6- vd (iu m) 6 0)from(ey (Y7 cI) (er (Nat.add_sub_of_le (aR this (cB cI rfl))))))
 have akf:e2 130=some (.int (vd (iu m) 6 0)):=s2.rd (j:=130) rfl rfl
 refine fD<|show b8 _ _ _ _ from jA<|yG .val ⟨_,rfl⟩<|dH<|ftX (.var (s2.rd (j:=76) (s1.rd (j:=76) rfl rfl) rfl)) (.var akf) (.var f4) gU h3 (by rw[aZ];exact h4) hl λl ay nl lG P2=>?_
 rw[←List.map_drop,←List.map_take]at lG
 refine BV (.join (by rw[h5];exact aR (akd _ hn) (by decide)) lG)<|dH<|bV (.var f4) ⟨by exact cG rfl,?_⟩
 rw[h5];exact q.out ay _ (P1.trans P2)
theorem akg{c pl el:Addr}{tree m s:List UInt8}(hc:bP σ c 391 cd (qZ tree pl al cl el m))(hn:(m,s)∈j7)(q:bI (∀ae,aF aS σ ae→Q (.bytes s) ae)):yd [.loc c] [] σ Q:=by
 exact df<|fD<|show bc _ _ _ _ _ from cu (.one (.attr .var .ins))<|ake hn ⟨λae n P=>bV .val<|itK .tup (q.out ae P)⟩
structure o8(σ:St)(c:Addr)(D:Cd):Prop where
 ex:∃cd tree pl al ad cl el p,bP σ c 391 cd (qZ tree pl al cl el D.note.1)∧mw σ al ad p∧p.name=D.bH.1
theorem o8.p0{c:Addr}(h:o8 σ c D)(p:aF aS σ ae):o8 ae c D:=by
 refine MK h.ex λcd tree pl al ad cl el pp h1 h2 h3=>?_;exact⟨cd,tree,pl,al,ad,cl,el,pp,h1.a7 p,h2.a7 p,h3⟩
noncomputable def ix(done:List Cd)(n:List UInt8):List (List UInt8):=(done.filter λD=>decide (D.bH.1=n)).map (λx=>x.note.2)
noncomputable abbrev nM:=List (List UInt8×Addr)
noncomputable def jb(es:nM):List (List UInt8×CV):=es.map λp=>(p.1,.loc p.2)
structure jc(bL σ:St)(da:Addr)(es:nM)(done ds:List Cd):Prop where
 p:aF aS bL σ
 d:σ da=some (.dB (jb es))
 nd:(es.map (λx=>x.1)).Nodup
 na:(es.map (λx=>x.2)).Nodup
 mem:∀n,n∈es.map (λx=>x.1)↔n∈ds.map (λx=>x.bH.1)
 at_:∀e∈es,σ e.2=some (.list ((ix done e.1).map .bytes))∧bL e.2=none
 o7:bL da=none
 len:es.length≤ds.length
theorem XC{es:nM}{n:List UInt8}:(bB (jb es) n=none∧n∉es.map (λx=>x.1))∨∃a,bB (jb es) n=some (.loc a)∧(n,a)∈es:=by
 induction es with
 |nil=>exact .inl ⟨rfl,by simp⟩
 |cons e es ih=>
  unfold bB jb at ih ⊢;rw[gB,rM]
  by_cases g:e.1=n
  ·right
   exact⟨e.2,by simp[g],by rw[←g];simp⟩
  ·have g':¬n=e.1:=λz=>g z.symm
   simp only[g,decide_false]
   rcases ih with⟨h1,h2⟩ |⟨a,h1,h2⟩
   ·left;exact⟨h1,by simp[g'];simpa using h2⟩
   ·right;exact⟨a,h1,by simp[h2]⟩
theorem akh(done:List Cd)(D:Cd)(n:List UInt8):ix (done++[D]) n=if D.bH.1=n then ix done n++[D.note.2]else ix done n:=by
 unfold ix;rw[Lu]
 by_cases h:D.bH.1=n
 ·simp[h]
 ·simp[h]
theorem aki{es:nM}{n:List UInt8}(h:n∉es.map (λx=>x.1)):bY (jb es) n (.loc a)=jb (es++[(n,a)]):=by
 unfold bY
 rw[if_neg]
 ·unfold jb;rw[cR];rfl
 ·intro z
  refine a9 (vw.1 z) λp hp e=>?_;refine a9 (dD.1 hp) λq hq aq=>?_;subst aq
  exact h (dD.2 ⟨q,hq,by simpa using e⟩)
theorem Ky{α β:Type}{f:α→β}:∀{l:List α} {x y:α},(l.map f).Nodup→x∈l→y∈l→f x=f y→x=y
 |z::l,x,y,hn,hx,hy,e=>by
  rw[gB,mN]at hn
  rcases eO.1 hx with rfl |Ck<;>rcases eO.1 hy with rfl |XD
  ·rfl
  ·exact absurd (e▸YT XD) hn.1
  ·exact absurd (e.symm▸YT Ck) hn.1
  ·exact Ky hn.2 Ck XD e
theorem XE{α β:Type}{f:α→β}{l:List α}{x:α}(h:(l.map f).Nodup)(n:f x∉l.map f):((l++[x]).map f).Nodup:=by
 rw[cR,nT]
 exact⟨h,mN.2 ⟨rJ,.nil⟩,λa ha b hb e=>n (by rw[←show b=f x from cL.1 hb,←e];exact ha)⟩
theorem akj{P:CV→St→Prop}{F:FM}{m:EM}{R:CV→St→Prop}(k:m e σ λx ao=>P x ao∧ms e ao λxs ay=>F (x::xs) [] ay R):bJ P F m ms e σ R:=k
theorem jc.ne{es:nM}{ds:List Cd}(h:jc bL σ da es done ds){p:List UInt8×Addr}(hp:p∈es):p.2≠da:=λz=>by
 have:=(h.at_ p hp).1;rw[z,h.d]at this;cases this
theorem jc.nx{es:nM}{ds:List Cd}(h:jc bL σ da es done ds)(P:aF aS σ ae):jc bL ae da es done ds:=
 ⟨h.p.trans P,P.at h.d,h.nd,h.na,h.mem,λe he=>⟨P.at (h.at_ e he).1,(h.at_ e he).2⟩,h.o7,h.len⟩
theorem XF{ds:List Cd}{n:List UInt8}:n∈(ds++[D]).map (λx=>x.bH.1)↔n∈ds.map (λx=>x.bH.1)∨n=D.bH.1:=by
 rw[cR,fY];exact or_congr .rfl cL
theorem jc.new{ay:St}{es:nM}(h:jc bL σ da es done done)(P:aF aS σ ao)(hn:σ na=none)(ha:ao na=some (.list []))(u:aF (one da) ao ay)(hd:ay da=some (.dB (jb (es++[(D.bH.1,na)]))))(g:D.bH.1∉es.map (λx=>x.1)):jc bL ay da (es++[(D.bH.1,na)]) done (done++[D]):=by
 refine⟨(h.p.trans P).sn u h.o7,hd,XE h.nd g,XE h.na λz=>?_,λn=>?_,λp hp=>?_,h.o7,?_⟩
 ·refine a9 (dD.1 z) λp hp e=>?_
  have:=(h.at_ p hp).1
  rw[e,hn]at this;exact bo this
 ·rw[XF,←h.mem n,cR,fY]
  exact or_congr .rfl cL
 ·rcases fY.1 hp with hp |hp
  ·exact⟨u.at (P.at (h.at_ p hp).1) (h.ne hp),(h.at_ p hp).2⟩
  ·rw[cL.1 hp]
   refine⟨?_,h.p.no hn⟩
   have:ix done D.bH.1=[]:=by
    unfold ix;rw[Ll.2 λE hE hh=>g ((h.mem _).2 (dD.2 ⟨E,hE,of_decide_eq_true hh⟩))]
    rfl
   rw[this]
   exact u.at ha λ(z:na=da)=>by rw[z,h.d]at hn;exact jP hn
 ·rw[bW,bW];exact iN h.len 1
theorem jc.old{es:nM}(h:jc bL σ da es done done)(g:D.bH.1∈es.map (λx=>x.1)):jc bL σ da es done (done++[D]):=
 ⟨h.p,h.d,h.nd,h.na,λn=>by rw[XF,←h.mem n];exact⟨.inl,λz=>z.elim id λz=>z▸g⟩,h.at_,h.o7,aR h.len (by rw[bW];exact mL ..)⟩
theorem jc.app{es:nM}(h:jc bL σ da es done (done++[D]))(g:(D.bH.1,a)∈es)(u:aF (one a) σ ae)(ha:ae a=some (.list ((ix done D.bH.1).map .bytes++[.bytes D.note.2]))):jc bL ae da es (done++[D]) (done++[D]):=by
 refine⟨h.p.sn u (h.at_ _ g).2,u.at h.d (h.ne g).symm,h.nd,h.na,h.mem,λp hp=>⟨?_,(h.at_ p hp).2⟩,h.o7,h.len⟩;rw[akh]
 by_cases e:D.bH.1=p.1
 ·rw[←Ky (f:=(λx=>x.1)) h.nd g hp e,if_pos rfl,cR];exact ha
 ·rw[if_neg e]
  exact u.at (h.at_ p hp).1 λz=>e (by rw[Ky (f:=(λx=>x.2)) h.na hp g z])
theorem akk{c:Addr}{es:nM}{K:dy→aL→St→Prop}(h:jc bL σ da es done done)(hl:done.length≤10)(hc:o8 bL c D)(hn:D.note∈j7)(e59:e 59=some (.loc da))(Ae:e 146=some (.loc c))
  (q:∀ae iG,jc bL ae da iG (done++[D]) (done++[D])→K .next e ae):
  ah (cw (bJ cD cN (bJ CK IH (af 59) (ag (bf 66 (bf 144 (af 146))) (ag (eList ar) ar))) (ag (bN 391 190 yd (af 146) ar) ar))) az e σ K:=by
 refine MK hc.ex λcd tree pl al ad cl el pp h1 h2 h3=>?_
 have wO:(jb es).length≤1000:=by unfold jb;rw[aZ];exact aR h.len (aR hl (by decide))
 have end_:∀{a:Addr} {iG:nM} {ay:St},(D.bH.1,a)∈iG→jc bL ay da iG done (done++[D])→ag (bN 391 190 yd (af 146) ar) ar e ay λxs aQ=>cN (.loc a::xs) [] aQ λo bU=>az e bU K:=λ{a iG ay} g L=>
  dH<|eX (.var Ae) (h1.a7 L.p).fi .nil<|akg (h1.a7 L.p) hn ⟨λaQ P3=>wg ((L.nx P3).at_ _ g).1 ?_ λbU h4 P4=>bp (q _ _ ((L.nx P3).app g P4 h4))⟩
 ·refine iA<|akj<|yG (.var e59) ⟨_,_,rfl,h.d⟩<|jX (.attr (.attr (.var Ae) (.ins (h1.a7 h.p))) (.ins (h2.a7 h.p) (congrArg (λn=>some (CV.bytes n)) h3)))<|dH<|dh .nil λna ao ve mx P1=>a3 (k:=.L) (l:=.B) (m:=.V) ⟨_,P1.at h.d,wO,?_⟩
  rcases XC (es:=es) (n:=D.bH.1)with⟨g,gn⟩ |⟨a,g,ga⟩
  ·exact⟨λo z=>(bo (g.symm.trans z)),λo=>⟨⟨_,_,rfl,GU mx λz=>by rw[z,h.d]at ve;cases ve⟩,end_ (kW _ (.head _)) (h.new P1 ve mx (.upd rfl) (by rw[eJ,aki gn]) gn)⟩⟩
  ·exact⟨λo z=>bt (g.symm.trans z)▸⟨⟨_,_,rfl,P1.at (h.at_ _ ga).1⟩,end_ ga ((h.nx P1).old (YT ga))⟩,λz=>jP (g.symm.trans z)⟩
 ·unfold ix
  rw[aZ,aZ]
  exact aR (EE _ _) (aR hl (by decide))
structure SN(ws:List (List UInt8))(done:List Cd):Prop where
 nd:ws.Nodup
 so:ws.Pairwise λx y=>i5 y x=false
 mem:∀n,n∈ws↔n∈done.map (λx=>x.bH.1)
theorem SN.uniq{ws XG:List (List UInt8)}{d:List Cd}(h:SN ws d)(h':SN XG d):ws=XG:=
 YF (λa b z z h1 h2=>T8 h2 h1) h.so h'.so ((alg h.nd h'.nd).2 λa=>(h.mem a).trans (h'.mem a).symm)
theorem akl{es:nM}{n:List UInt8}(h:n∈es.map (λx=>x.1)):∃a,bB (jb es) n=some (.loc a)∧(n,a)∈es:=by
 rcases XC (es:=es) (n:=n)with⟨_,g⟩ |g
 ·exact absurd h g
 ·exact g
theorem akm(p:aF aS σ ae)(h:ae a=some o):aF aS (upd σ a o) ae:=λb x e y=>by
 by_cases z:b=a
 ·rw[z,eJ]at e;rw[z,h];exact e
 ·rw[iU z]at e;exact p.at e
noncomputable abbrev Zs:=List (Addr×Cd)
noncomputable def zL(z:Zs):List CV:=z.map λp=>.loc p.1
noncomputable def zD(z:Zs):List Cd:=z.reverse.map (λx=>x.2)
theorem Kz{z:Zs}:(zD z).length=z.length:=by unfold zD;rw[aZ,EI]
theorem XH{z:Zs}(g8:σ cl=some (.list (zL z)))(h4:z.length≤4)(hc:∀p∈z,o8 σ p.1 p.2∧p.2.note∈j7)
  (q:∀(ae:St) (r:Addr) (ws:List (List UInt8)) (f:List UInt8→Addr),aF aS σ ae→SN ws (zD z)→ae r=some (.list (ws.map λn=>.tup [.bytes n,.loc (f n)]))→(∀n∈ws,ae (f n)=some (.list ((ix (zD z) n).map .bytes)))→Q (.loc r) ae):Bv [.loc cl] [] σ Q:=by
 refine qE λe KA=>cy<|cX λda ao o7 Ek P1=>wj<|Hh (.var (yx (by decide) KA)) (P1.at g8) (by unfold zL;rw[aZ];exact aR h4 (by decide)) λrl ay lK cI P2=>?_
 refine iX cI λok bw=>?_;have P:=P1.trans P2
 have hdr:da≠rl:=λe=>by rw[←e,Ek]at lK;exact jP lK
 unfold zL at cI ⊢;rw[←vt]at cI ⊢;have PB:aF aS σ (upd σ rl (.list (z.reverse.map λp=>.loc p.1))):=.new (P1.no lK);have PB2:=akm P cI
 have ndB:upd σ rl (.list (z.reverse.map λp=>.loc p.1)) da=none:=by rw[iU hdr];exact o7
 have hB:upd σ rl (.list (z.reverse.map λp=>.loc p.1)) rl=_:=eJ ..;generalize upd σ rl (.list (z.reverse.map λp=>.loc p.1))=KC at*
 have akn:∀{ae},aF aS KC ae→ok ae:=λp=>bw _ (by have:=p.at hB;unfold zL;rw[←vt];exact this)
 refine pN (xs:=z.reverse) [146] (λp=>.loc p.1) (λrest ae=>∃dz es,dz++rest=z.reverse∧jc KC ae da es (dz.map (λx=>x.2)) (dz.map (λx=>x.2))) ⟨[],[],rfl,⟨PB2,P2.at Ek,.nil,.nil,λn=>Iff.rfl,(λe he=>cA he),ndB,cP _⟩⟩ (λp rest e' ae s Ae z'=>?_) λe' ae s z'=>?_
 all_goals
  refine gH z' λdz es ez L=>?_
  refine⟨akn L.p,?_⟩
 ·intro K k
  have dl:(dz.map (λx=>x.2)).length≤10:=by
   have:=congrArg List.length ez;rw[bW,EI]at this
   rw[aZ];exact l2 h4 (el this) (by simp+arith only)
  refine xa (hc p (Zh.1 (by rw[←ez];exact kW _ (.head _)))) λh1 h2=>?_
  exact akk L dl (h1.p0 PB) h2 (s.rd (j:=59) rfl rfl) Ae λbU es4 L4=>k.nx ⟨dz++[p],es4,by rw[fJ];exact ez,by rw[cR];exact L4⟩
 ·rw[fj]at ez
  subst ez;have L:jc KC ae da es (zD z) (zD z):=L
  have ke:es.length≤4:=aR L.len (by rw[Kz];exact h4)
  refine fD<|me<|cu (.one (.var (s.rd (j:=59) rfl rfl)))<|.inr (.inl (a1 (k:=.L) ⟨_,L.d,by unfold jb;rw[aZ];exact aR ke (by decide),λws hp hs=>?_⟩))
  have p9:ws.Perm (es.map (λx=>x.1)):=by
   have:(jb es).map (λx=>x.1)=es.map (λx=>x.1):=by unfold jb;rw[dp];rfl
   rw[this]at hp;exact hp
  have hf:∀n∈ws,∃a,bB (jb es) n=some (.loc a)∧(n,a)∈es:=λn hn=>akl (p9.mem_iff.1 hn)
  have hf:∃f:List UInt8→Addr,∀n∈ws,bB (jb es) n=some (.loc (f n))∧(n,f n)∈es:=
   ⟨λn=>match bB (jb es) n with |some (.loc a)=>a |_=>0,λn hn=>by
    refine a9 (hf n hn) λa g1 g2=>?_
    show _=some (CV.loc (match bB (jb es) n with |some (.loc a)=>a |_=>0))∧(n,match bB (jb es) n with |some (.loc a)=>a |_=>0)∈es
    rw[g1];exact⟨rfl,g2⟩⟩
  obtain⟨f,hf⟩:=hf
  refine cX λsl fG KD u7 P5=>iX u7 λok bw=>wm CV.bytes (λn=>.tup [.bytes n,.loc (f n)]) (bw _ u7) (by rw[p9.length_eq,aZ];exact aR ke (by decide)) (λn hn ce sc te=>.tup (.two (.var te) (.item (.var (sc.rd (j:=59) (s.rd (j:=59) rfl rfl) rfl)) (.var te) (.dB (P5.at L.d) (hf n hn).1)))) λr fH nr hr P6=>?_
  exact q fH r ws f (PB.trans (L.p.trans (P5.trans P6))) ⟨p9.nodup_iff.2 L.nd,hs,λn=>by rw[p9.mem_iff];exact L.mem n⟩ hr λn hn=>P6.at (P5.at (L.at_ _ (hf n hn).2).1)
variable {z:Zs}
theorem XI{α:Type}{el:EM}{R:CV→St→Prop}{ok:St→Prop}{xs:List α}(f1 f2:α→CV)(g:α→CV)(o:ok σ)(hl:xs.length≤1000)
  (hb:∀x∈xs,∀ce,cx (iC raw) e ce→ce i=some (f1 x)→ce j=some (f2 x)→Ev el ce σ (g x))
  (k:∀l ae,σ l=none→ae l=some (.list (xs.map g))→aF aS σ ae→R (.loc l) ae)(yN:autoParam (i≠j) aK)(hi:autoParam ((iC raw).contains i=true) aA)(hj:autoParam ((iC raw).contains j=true) aA):hJ ok (eB [aName i,aName j]) de el (λacc aQ=>aQ.new (.list acc) R) (xs.map λx=>.tup [f1 x,f2 x]) (lB raw e) [] σ:=
 yP (λx=>.tup [f1 x,f2 x]) (λz=>true) g (λx ce=>ce i=some (f1 x)∧ce j=some (f2 x)) o (λx ce T s h=>⟨_,rfl,rfl,h _ ((s.set hi).set hj) ⟨by rw[ox yN];exact hH ..,hH ..⟩⟩) xs (λx hx ce s h=>⟨.GW,λz=>hb x hx ce s h.1 h.2⟩) _ [] (B3 raw e) (by rw[tv,mO];exact hl) (by rw[EH.2 λz z=>rfl];exact cX k)
theorem ako(done:List Cd)(n:List UInt8):(ix done n).length≤done.length:=by unfold ix;rw[aZ];exact EE _ _
noncomputable def tf(done:List Cd)(ws:List (List UInt8)):List (Int×List UInt8):=ws.map λn=>(-((ix done n).length:Int),n)
theorem KG:∀{l m:List (List UInt8)},l.Nodup→(∀x∈l,x∈m)→l.length≤m.length
 |[],_,_,_=>dE _
 |x::l,m,hn,hm=>by
  rw[mN]at hn;have hx:=hm x (.head _)
  have h1:=KG (m:=m.erase x) hn.2 λy hy=>(List.mem_erase_of_ne (λe=>hn.1 (by rw[←e];exact hy))).2 (hm y (.tail _ hy))
  rw[YE hx]at h1;exact Nat.add_le_of_le_sub (List.length_pos_of_mem hx) h1
theorem SN.akp{ws:List (List UInt8)}(h:SN ws (zD z))(h4:z.length≤4):ws.length≤4:=
 aR (KG h.nd λx hx=>(h.mem x).1 hx) (by rw[aZ,Kz];exact h4)
theorem En{ws:List (List UInt8)}:(tf done ws).length=ws.length:=by unfold tf;rw[aZ]
theorem js{n:Nat}(h:n≤4):n≤1000:=aR h (by decide)
theorem KH{n:List UInt8}(h4:z.length≤4):((ix (zD z) n).map CV.bytes).length≤1000:=by
 rw[aZ];exact aR (ako ..) (by rw[Kz];exact js h4)
theorem akq(g8:σ cl=some (.list (zL z)))(h4:z.length≤4)(hc:∀p∈z,o8 σ p.1 p.2∧p.2.note∈j7)
  (q:∀(ae:St) (r:Addr) (ws:List (List UInt8)) (ps:List (Int×List UInt8)),aF aS σ ae→SN ws (zD z)→ps.Perm (tf (zD z) ws)→ps.Pairwise (λx y=>oH y x=false)→ae r=some (.list (ps.map λp=>.tup [.int (-p.1),.bytes p.2]))→Q (.loc r) ae):Gu [.loc cl] [] σ Q:=by
 refine qE λe KA=>cy<|me<|cu (.one (.var KA))<|XH g8 h4 hc λao r1 ws f P1 sn Ao hf=>iX Ao λok bw=>?_;have g7:=sn.akp h4
 refine XI (λn=>.bytes n) (λn=>.loc (f n)) (λn=>mn (-((ix (zD z) n).length:Int),n)) (bw _ Ao) (js g7) (λn hn ce sc te akr=>.tup (.two (.neg (.to (.call (.one (.var akr)) (.len (KH h4) (hf n hn))) (by rw[aZ]))) (.var te))) λr2 ay nr2 KI P2=>?_
 have KI:ay r2=some (.list ((tf (zD z) ws).map mn)):=by rw[KI];unfold tf;rw[dp];rfl
 refine fD<|me<|cu (.one (.var (hH ..)))<|.inr (.inr (.inr (a1 (k:=.L) ⟨tf (zD z) ws,KI,by rw[En];exact g7,λps hp hs=>cX λr3 aQ nr3 zW P3=>iX zW λok bw=>?_⟩)))
 exact XI (λp:Int×List UInt8=>.int p.1) (λp=>.bytes p.2) (λp=>.tup [.int (-p.1),.bytes p.2]) (bw _ zW) (by rw[hp.length_eq,En];exact js g7) (λp hp ce sc aks te=>.tup (.two (.neg (.var aks)) (.var te))) λr4 bU nr4 Jq P4=>q bU r4 ws ps (P1.trans (P2.trans (P3.trans P4))) sn hp hs Jq
noncomputable abbrev PL:=List (List UInt8×Addr)
noncomputable def Ap(p:List UInt8×Addr):CV:=.tup [.bytes p.1,.loc p.2]
theorem KJ{n:Nat}:∀bs:List (List UInt8),m9 (DE σ (n+1)) (bs.map .bytes) (bs.map .bytes)
 |[]=>.nil
 |b::bs=>.cons DN.kz (KJ bs)
theorem XJ{h:List UInt8→List (List UInt8)}:∀(l1 l2:PL),l1.map (λx=>x.1)=l2.map (λx=>x.1)→(∀p∈l1,σ p.2=some (.list ((h p.1).map .bytes)))→(∀p∈l2,σ p.2=some (.list ((h p.1).map .bytes)))→(∀p∈l1,∀q∈l2,p.2≠q.2)→
  m9 (DE σ 4) (l1.map Ap) (l2.map Ap)
 |[],[],_,_,_,_=>.nil
 |[],_::_,e,_,_,_=>vE e
 |_::_,[],e,_,_,_=>og e
 |(x,a)::l1,(y,b)::l2,e,h1,h2,hd=>by
  obtain rfl:x=y:=xF e;exact .cons (DN.tup (.cons DN.kz (.cons (DN.ll (hd _ (.head _) _ (.head _)) (h1 _ (.head _)) (h2 _ (.head _)) (KJ _)) .nil))) (XJ l1 l2 (List.tail_eq_of_cons_eq e) (λp hp=>h1 p (.tail _ hp)) (λp hp=>h2 p (.tail _ hp)) λp hp q hq=>hd p (.tail _ hp) q (.tail _ hq))
theorem XK:∀l:List (Int×List UInt8),m9 (DE σ 4) (l.map mn) (l.map mn)
 |[]=>.nil
 |p::l=>.cons (DN.tup (.cons DN.int (.cons DN.kz .nil))) (XK l)
theorem akt(l:List (List UInt8)):(wL l).Nodup∧∀x,x∈wL l↔x∈l:=by
 have key:∀(l acc:List (List UInt8)),acc.Nodup→(l.foldl (λacc x=>if x∈acc then acc else acc++[x]) acc).Nodup∧∀x,x∈l.foldl (λacc x=>if x∈acc then acc else acc++[x]) acc↔x∈acc∨x∈l:=by
  intro l
  induction l with
  |nil=>intro acc h;exact⟨h,λx=>by simp⟩
  |cons y l ih=>
   intro acc h;rw[kh]
   by_cases hy:y∈acc
   ·rw[if_pos hy]
    obtain⟨a,b⟩:=ih acc h;refine⟨a,λx=>?_⟩;rw[b x,eO]
    constructor
    ·rintro(z |z)
     ·exact .inl z
     ·exact .inr (.inr z)
    ·rintro(z |z |z)
     ·exact .inl z
     ·subst z;exact .inl hy
     ·exact .inr z
   ·rw[if_neg hy]
    obtain⟨a,b⟩:=ih (acc++[y]) (by
     rw[nT]
     exact⟨h,by simp,λx hx z hz e=>hy (by simp at hz;rw[←hz,←e];exact hx)⟩)
    refine⟨a,λx=>?_⟩;rw[b x,fY,cL,eO,or_assoc]
 refine xa (key l [] .nil) λa b=>?_
 exact⟨a,λx=>by rw[wL,b x];simp⟩
noncomputable def cd0:Cd:=⟨[],0,none,([],[]),([],[])⟩
noncomputable def fV(Ds:List Cd)(k:Nat):Cd:=Ds.getD k cd0
theorem Eo{k:Nat}(h:k<Ds.length):Ds[k]?=some (fV Ds k):=by
 unfold fV;rw[dG,bS h];rfl
theorem zM{W:St}{A:gv}(w:fI W O is Ds){k:Nat}(hk:k<Ds.length):∃(i:Nat) (x:List UInt8) (c:Addr),is[k]?=some i∧O[i]?=some (x,lL,.loc c)∧o8 W c (fV Ds k)∧(fV Ds k).note∈j7:=by
 have hl:=w.len;have hi:is[k]?=some is[k]:=bS (ey hk (er hl));obtain⟨c,cd,pl,al,ad,cl,iJ,el,ti,H⟩:=w.comm k _ _ hi (Eo hk);exact⟨_,_,c,hi,H.at_,⟨_,_,_,_,_,_,_,_,H.c,H.a,rfl⟩,(w.ok k _ (Eo hk)).note⟩
theorem XM{k:Nat}(fT:σ tl=some (.list (Ds.map kR)))(n4:Ds.length≤4)(hk:k<Ds.length):It (.loc tl) (.int k) σ (kR (fV Ds k)):=
 .li (by rw[dM,Eo hk];rfl) (by rw[aZ];exact js n4) fT
theorem XN:It (kR D) (.int 2) σ (.bytes D.bH.1):=.tup
theorem aku:It (kR D) (.int 1) σ (.bytes D.note.2):=.tup
theorem XO{op:CmpOp}{R:CV→St→Prop}(k:m1 e σ λx ao=>m2 e ao λy ay=>wb op x y ay λb=>R (.bool b) ay):gM op m1 m2 e σ R:=k
noncomputable def rC(σ:St)(S:List UInt8→List (List UInt8))(ds:PL):Prop:=∀p∈ds,σ p.2=some (.list ((S p.1).map .bytes))
theorem rC.p{S:List UInt8→List (List UInt8)}{ds:PL}(h:rC σ S ds)(P:aF aS σ ae):rC ae S ds:=λp hp=>P.at (h p hp)
theorem rC.snoc{S:List UInt8→List (List UInt8)}{ds:PL}{n:List UInt8}(h:rC σ S ds)(k:σ a=some (.list ((S n).map .bytes))):rC σ S (ds++[(n,a)]):=λp hp=>by
 rcases fY.1 hp with hp |hp
 ·exact h p hp
 ·rw[cL.1 hp];exact k
theorem XQ{es:PL}{rest ws:List (List UInt8)}(h:es.map (λx=>x.1)++rest=ws)(h4:ws.length≤4):es.length≤4:=by
 rw[←h,bW,aZ]at h4;exact aR (mL ..) h4
theorem akv{A:gv}{row:List Nat}(S:eE σ A O)(w:fI σ O is Ds)(jE:σ il=some (.list (is.map mz)))(cI:σ rl=some (.list (row.map nI)))(fT:σ tl=some (.list (Ds.map kR)))
  (hr:∀k∈row,k<Ds.length)(r4:row.length≤4)(n4:Ds.length≤4)(q:bI (∀ae,aF aS σ ae→Q (.bool true) ae)):GD [.loc A.st,.loc il,.loc rl,.loc tl] [] σ Q:=by
 obtain⟨cf,XR⟩:∃cf:Nat→Addr,∀k,k<Ds.length→∃(i:Nat) (x:List UInt8),is[k]?=some i∧O[i]?=some (x,lL,.loc (cf k))∧o8 σ (cf k) (fV Ds k)∧(fV Ds k).note∈j7:=by
  have ex:∀k,∃c:Addr,k<Ds.length→∃(i:Nat) (x:List UInt8),is[k]?=some i∧O[i]?=some (x,lL,.loc c)∧o8 σ c (fV Ds k)∧(fV Ds k).note∈j7:=λk=>by
   by_cases hk:k<Ds.length
   ·refine Fp (zM (A:=A) w hk) λi x c h=>?_
    exact⟨c,λg=>⟨i,x,h⟩⟩
   ·exact⟨0,λh=>absurd h hk⟩
  exact⟨λk=>Classical.choose (ex k),λk=>Classical.choose_spec (ex k)⟩
 have ll:∀{α:Type} {f:Nat→α},(row.map f).length≤1000:=by intro α f;rw[aZ];exact js r4
 have z4:(row.map λk=>(cf k,fV Ds k)).length≤4:=by rw[aZ];exact r4
 have hz:zD (row.map λk=>(cf k,fV Ds k))=row.reverse.map (fV Ds):=by unfold zD;rw[←vt,dp];rfl
 refine df<|cy<|md nI (λk=>.loc (cf k)) (.li .var cI) (js r4) (λk hk ce s e1=>?_) λth ao nth KL P1=>?_
 ·refine jg (XR k (hr k hk)) λi x h1 h2 zz=>?_
  exact .jy (.var (s.rd (j:=131) rfl rfl)) S.s.fi (.one (.item (.var (s.rd (j:=14) rfl rfl)) (.var e1) (.li (v:=mz i) (by rw[dM,h1];rfl) (by rw[aZ,w.len];exact js n4) jE))) (JJ S h2)
 have KL:ao th=some (.list (zL (row.map λk=>(cf k,fV Ds k)))):=by unfold zL;rw[KL,dp];rfl
 have sP:∀p∈row.map λk=>(cf k,fV Ds k),o8 ao p.1 p.2∧p.2.note∈j7:=λp hp=>by
  refine a9 (dD.1 hp) λk hk aq=>?_;subst aq;obtain⟨i,x,_,_,h3,h4⟩:=XR k (hr k hk);exact⟨h3.p0 P1,h4⟩
 have KO:=P1.at cI;have KP:=P1.at fT;refine cy<|dh .nil λdu ay KQ XS P2=>wj<|jY<|dH<|jY<|dH<|md nI (λk=>.bytes (fV Ds k).bH.1) (.li .var (P2.at KO)) (js r4) (λk hk ce s e1=>.item (.item (.var (s.rd (j:=85) rfl rfl)) (.var e1) (XM (P2.at KP) n4 (hr k hk))) .val XN) λnl aQ XT KR P3=>?_;refine xa (akt (row.map λk=>(fV Ds k).bH.1)) λdn dm=>?_
 have lj:(wL (row.map λk=>(fV Ds k).bH.1)).length≤4:=aR (KG dn λx hx=>(dm x).1 hx) (by rw[aZ];exact r4)
 refine a1 (k:=.L) ⟨row.map λk=>(fV Ds k).bH.1,by rw[KR,dp];rfl,ll,cX λse bU nse sM P4=>.inr (.inr (.inl (a1 (k:=.L) ⟨_,sM,lj,λws hp hs=>cX λsl fG KD u7 P5=>iX u7 λok bw=>?_⟩)))⟩
 have sn:SN ws (zD (row.map λk=>(cf k,fV Ds k))):=⟨hp.nodup_iff.2 dn,hs,λn=>by rw[hz,hp.mem_iff,dm n,vt,vt,Zh,dp];rfl⟩
 have g7:ws.length≤4:=by rw[hp.length_eq];exact lj
 have Aq:=P3.trans (P4.trans P5);have akw:=P1.no KQ
 have XU:∀{b:Addr} {o:CO},ao b=some o→b≠du:=λh e=>by rw[e,KQ]at h;exact bo h
 have nds:sl≠du:=λe=>by
  have:=(P3.trans P4).at XS;rw[←e,KD]at this;exact bo this
 refine pN (xs:=ws) [66] CV.bytes (λrest ae=>∃ds:PL,ds.map (λx=>x.1)++rest=ws∧ae du=some (.list (ds.map Ap))∧rC ae (ix (zD (row.map λk=>(cf k,fV Ds k)))) ds∧(∀p∈ds,p.2≠du)∧aF (one du) fG ae) ⟨[],rfl,Aq.at XS,(λg h=>cA h),(λg h=>cA h),.refl _ _⟩ (λn rest e' fH s Ko z=>?_) λe' fH s z=>?_
 all_goals
  refine rU z λds ew hd qK zT P6=>?_;clear z
  refine⟨bw _ (P6.at u7 nds),?_⟩
 ·intro K kk
  have akx:=P6.at (Aq.at (P2.at KO)) (XU KO);have aky:=P6.at (Aq.at (P2.at KP)) (XU KP);refine iA<|yG (.var (s.rd (j:=8) rfl rfl)) ⟨_,_,rfl,hd⟩<|dH<|show b8 _ _ _ _ from jX (.var Ko)<|dH<|me<|Hh (.var (s.rd (j:=27) rfl rfl)) akx ll λrv nE nrv KS P7=>?_;rw[←vt]at KS
  refine iX KS λok7 KU=>Hs nI (λk=>decide ((fV Ds k).bH.1=n)) (λk=>.bytes (fV Ds k).note.2) (KU _ KS) (by rw[EI];exact js r4) (λk hk ce sc e1=>?_) λna sR ve mx P8=>⟨by exact cG rfl,?_⟩
  ·have T:=Ev.item (.var (sc.rd (j:=85) (s.rd (j:=85) rfl rfl) rfl)) (.var e1) (XM (P7.at aky) n4 (hr k (Zh.1 hk)))
   exact⟨.cmp (.item T .val XN) (.var (sc.rd (j:=66) Ko rfl)) .t7,λg=>.item T .val aku⟩
  ·have KW:=P7.trans P8
   have mx:sR na=some (.list ((ix (zD (row.map λk=>(cf k,fV Ds k))) n).map .bytes)):=by
    rw[mx,hz];unfold ix;rw[List.filter_map,dp,dp]
    rfl
   refine wg (KW.at hd) (by rw[aZ];exact js (XQ ew g7)) λuJ Ep u=>bp<|kk.nx ⟨ds++[(n,na)],by rw[cR,fJ];exact ew,by rw[Ep,cR];rfl,?_,λp hp=>?_,(P6.nx KW).trans u⟩
   ·have uI:na≠du:=λe=>by
     have:=P7.at hd;rw[←e,ve]at this;exact bo this
    exact rC.snoc (λp hp=>u.at (KW.at (qK p hp)) (zT p hp)) (u.at mx uI)
   ·rcases fY.1 hp with hp |hp
    ·exact zT p hp
    ·rw[cL.1 hp]
     intro e;have:=P7.at hd
     rw[←show na=du from e,ve]at this;exact bo this
 ·rw[fj]at ew
  have P06:aF aS σ fH:=(P1.trans (P2.trans Aq)).sn P6 akw;have XW:aF aS ao fH:=(P2.trans Aq).sn P6 KQ;have KX:∀p∈row.map λk=>(cf k,fV Ds k),o8 fH p.1 p.2∧p.2.note∈j7:=λp hp=>⟨(sP p hp).1.p0 XW,(sP p hp).2⟩;have XX:=XW.at KL
  have lj:ds.length≤4:=XQ (rest:=[]) (by rw[fj];exact ew) g7
  generalize(row.map λk=>(cf k,fV Ds k))=z at*;refine vZ<|v9<|me<|cu (.one (.var (s.rd (j:=132) rfl rfl)))<|XH XX z4 KX λnE r1 Er f P7 sn1 Ao hf=>iX Ao λok7 KU=>?_;obtain rfl:Er=ws:=sn1.uniq sn;refine B4 (λn=>.tup [.bytes n,.loc (f n)]) (λrest acc l0=>∃es:PL,es.map (λx=>x.1)++rest=Er∧acc=es.map Ap∧rC l0 (ix (zD z)) es∧(∀p∈es,nE p.2=none)∧aF aS nE l0) ⟨[],rfl,rfl,(λg h=>cA h),(λg h=>cA h),.refl _ _⟩ (js g7) (λn rest acc ae ce y hl sc vg=>?_) λacc ae y=>?_
  all_goals
   refine rU y λes Es g1 g2 g3 P8=>?_
   refine⟨KU _ (P8.at Ao),?_⟩
  ·intro KY ky
   have hfn:=P8.at (hf n (by rw[←Es];exact kW _ (.head _)))
   exact show b8 _ _ _ _ from jX (x:=.bytes n) (.item (.var vg) .val .tup)<|dH<|cu (vs:=[.loc (f n)]) (.one (.item (.var vg) .val .tup))<|a1 (k:=.L) ⟨_,.inl hfn,KH z4,cX λa σa na ha Pa=>⟨by exact cG rfl,ky _ _ ⟨es++[(n,a)],by rw[cR,fJ];exact Es,by rw[g1,cR];rfl,(g2.p Pa).snoc ha,λp hp=>(fY.1 hp).elim (g3 p) λhp=>by rw[cL.1 hp];exact P8.no na,P8.trans Pa⟩⟩⟩
  ·rw[fj]at Es
   refine cX λna uJ ve mx P9=>bV (.var (s.rd (j:=8) rfl rfl)) ?_;have Et:=P7.trans (P8.trans P9);have Ep:=Et.at hd;rw[g1]at mx
   refine⟨_,.HH mx Ep (XJ (h:=ix (zD z)) es ds (by rw[Es,ew]) (g2.p P9) (qK.p Et) (λp hp q hq e=>?_)),?_⟩
   ·have h2:=P7.at (qK q hq)
    rw[←e,g3 p hp]at h2;exact bo h2
   refine cy<|jY<|dH<|md Ap (λp=>mn (-((ix (zD z) p.1).length:Int),p.1)) (.li (.var (s.rd (j:=8) rfl rfl)) Ep) (js lj) (λp hp ce sc vg=>.tup (.two (.neg (.to (.call (.one (.item (.var vg) .val .tup)) (.len (KH z4) (qK.p Et p hp))) (by rw[aZ]))) (.item (.var vg) .val .tup))) λrc Dz nrc KZ zY=>?_
   have KZ:Dz rc=some (.list ((tf (zD z) Er).map mn)):=by
    rw[KZ];unfold tf;rw[←ew,dp,dp];rfl
   refine .inr (.inr (.inr (a1 (k:=.L) ⟨_,KZ,by rw[En];exact g7,λps dR hss=>cX λr5 H3 nr5 hr5 P11=>?_⟩)))
   have jo:ps.length≤1000:=by rw[dR.length_eq,En];exact js g7
   have K0:=Et.trans (zY.trans P11);refine fD<|XO<|me<|cu (.one (.var (s.rd (j:=132) rfl rfl)))<|akq (K0.at XX) z4 (λp hp=>⟨(KX p hp).1.p0 K0,(KX p hp).2⟩) λalZ r6 ws2 XY XZ sn2 uA IG X0=>iX X0 λok8 akz=>?_;obtain rfl:ws2=Er:=sn2.uniq sn;obtain rfl:XY=ps:=YF (λa b g g h1 h2=>af8 h2 h1) IG hss (uA.trans dR.symm);refine wm (λp:Int×List UInt8=>CV.tup [.int (-p.1),.bytes p.2]) (λp=>mn (-p.1,p.2)) (akz _ X0) jo (λp hp ce sc vg=>.call (.one (.var vg)) .tup) λr7 al0 nr7 hr7 X1=>?_;refine ac0 (λp:Int×List UInt8=>.int p.1) (λp=>.bytes p.2) (λp=>mn (-p.1,p.2)) (.li .var (X1.at (XZ.at hr5))) jo (λp hp ce sc h61 te=>.tup (.two (.neg (.var h61)) (.var te))) λr8 X2 nr8 hr8 X3=>?_;refine⟨_,.Qf (X3.at hr7) hr8 ?_,q.out X2 (P06.trans (K0.trans (XZ.trans (X1.trans X3))))⟩;have:=XK (σ:=X2) (XY.map λp=>(-p.1,p.2));rwa[dp]at this
theorem ne2{x y:Addr}(h:σ x=some o)(n:σ y=none):x≠y:=λe=>by rw[e,n]at h;exact bo h
theorem akA{W:St}{c:Addr}{T:Nat}{A:gv}(dk:Dk W σ d c T)(w:fI W O is Ds)(S:eE W A O)(n4:is.length≤4)
  (q:bI (∀(X:Wx) W' ae,X.A=A→X.O=O→X.is=is→X.Ds=Ds→X.d=d→X.c=c→aF aS W W'→aF aS σ ae→WS X W' ae T []→Q (.loc X.wk) ae)):eV 958 Gd [.loc A.st] [] σ Q:=
 pL λa wd ao na rB i1 P1=>by
  refine⟨_,_,rfl,rfl,?_⟩
  refine show Gc (eW vF [.loc a,.loc A.st,.tup []] λz=>none) ao (bk _)from fE .var rfl i1 λay i2 p2=>vW<|cX λsh aQ X4 jZ P3=>bV .var<|sk (i2.a7 P3) λbU i4 p4=>Ho .var<|yJ trivial<|
   vW<|cX λkn fG uK ij P5=>bV .var<|sk (i4.a7 P5) λfH i6 p6=>vW<|cX λlv nE Ar hlv P7=>bV .var<|sk (i6.a7 P7) λsR i8 p8=>bp ⟨rfl,?_⟩
  have Eu:=(ne2 i2.2 X4).symm;have knd:=(ne2 i4.2 uK).symm;have X5:=(ne2 i6.2 Ar).symm;have X6:=p6.at (P5.at (p4.at jZ Eu)) Eu;have X7:=p6.at ij knd;have akB:=p8.at (P7.at X6) Eu;have X8:aF aS σ ay:=P1.sn p2 rB;have X9:aF aS σ bU:=(X8.trans P3).sn p4 rB;have Yb:aF aS σ fH:=(X9.trans P5).sn p6 rB;have Yc:aF aS σ sR:=(Yb.trans P7).sn p8 rB;have Yd:=X8.no X4;have K1:=X9.no uK;have K2:=Yb.no Ar;refine cz ((dk.ext Yc).fz i8.1 (dk.new na).1 (dk.new na).2) λW1 ik zJ D1 b1=>?_;refine cz (D1.fz i8.2 (dk.new rB).1 (dk.new rB).2) λW2 cJ sS D2 b2=>?_;refine cz (D2.fz akB (dk.new Yd).1 (dk.new Yd).2) λW3 dU ha3 D3 b3=>?_;have PW:=ik.trans (cJ.trans dU)
  refine q.out ⟨A,O,is,Ds,a,wd,sh,kn,lv,d,c⟩ W3 sR rfl rfl rfl rfl rfl rfl PW Yc ⟨⟨w.up PW,S.p0 PW,n4,⟨dU.at (cJ.at zJ),dU.at sS⟩,ha3⟩,D3,⟨[],⟨p8.at (P7.at X7) knd,(λz h=>cA h),dE _⟩,.nil,λk v e=>bo e⟩,⟨p8.at hlv X5,(λz h=>cA h),dE _⟩,.nil,⟨?_,(dk.new K1).1,(dk.new K1).2⟩,⟨?_,(dk.new K2).1,(dk.new K2).2⟩,ne2 X7 Ar⟩
  ·show W3 kn=none
   rw[b3 _ (ne2 (p4.at jZ Eu) uK).symm,b2 _ knd,b1 _ (ne2 i4.1 uK).symm];exact dk.nw K1
  ·show W3 lv=none
   rw[b3 _ (ne2 X6 Ar).symm,b2 _ X5,b1 _ (ne2 i6.1 Ar).symm];exact dk.nw K2
set_option tactic.hygienic true
structure OW(n:Nat)(s:PS):Prop where
 nd:(s.o++s.w).Nodup
 lt:∀k∈s.o++s.w,k<n∧(s.f k).isSome=true
theorem OW.put{n p:Nat}{s:PS}(h:OW n s)(hp:p<n):OW n (dW sh s p):=by
 unfold dW
 split
 ·rename_i g
  simp only[rI,EA]at g
  have hn:p∉s.o++s.w:=λhm=>by have:=(h.lt p hm).2;rw[g.2]at this;exact eP this
  refine⟨?_,λk hk=>?_⟩
  ·show(s.o++(s.w++[p])).Nodup
   rw[←fJ,nT]
   exact⟨h.nd,by simp,λx hx y hy e=>hn (by simp at hy;rw[←hy,←e];exact hx)⟩
  ·have c4:k∈s.o++s.w∨k=p:=by
    have:k∈s.o++(s.w++[p]):=hk;simp at this ⊢
    rcases this with h1 |h1 |h1
    ·exact .inl (.inl h1)
    ·exact .inl (.inr h1)
    ·exact .inr h1
   show k<n∧(eM s.f p 1 k).isSome=true
   rcases c4 with c4 |rfl
   ·have:=h.lt k c4
    refine⟨this.1,?_⟩
    unfold eM;split
    ·rfl
    ·exact this.2
   ·exact⟨hp,by simp[eM]⟩
 ·exact h
theorem OW.step{row:Nat→List Nat}{n:Nat}{s:PS}(h:OW n s)(hr:∀k,∀j∈row k,j<k)(e:s.w≠[]):OW n (nK row t sh s):=by
 have hp:=xk (t:=t) e;unfold nK;generalize kT t s.w=p at*
 have hpn:=(h.lt p (by simp[hp])).1
 have h0:OW n ⟨s.w.filter (·≠p),s.o++[p],s.f⟩:=by
  have nd:=h.nd;rw[nT]at nd
  refine⟨?_,λk hk=>h.lt k ?_⟩
  ·show((s.o++[p])++s.w.filter (·≠p)).Nodup
   rw[fJ,nT]
   refine⟨nd.1,?_,λx hx y hy e=>nd.2.2 x hx y ?_ e⟩
   ·rw[List.singleton_append,mN]
    exact⟨by simp,nd.2.1.filter _⟩
   ·simp at hy
    rcases hy with rfl |hy
    ·exact hp
    ·exact hy.1
  ·have:k∈(s.o++[p])++s.w.filter (·≠p):=hk
   simp at this ⊢
   rcases this with h1 |rfl |h1
   ·exact .inl h1
   ·exact .inr hp
   ·exact .inr h1.1
 have key:∀(ps:List Nat) (s:PS),OW n s→(∀q∈ps,q<n)→OW n (ps.foldl (dW sh) s):=by
  intro ps
  induction ps with
  |nil=>intro s hs _;exact hs
  |cons q ps ih=>intro s hs hq;exact ih _ (hs.put (hq q (.head _))) λx hx=>hq x (.tail _ hx)
 exact key _ _ h0 λq hq=>by have:=hr p q hq;exact jN this hpn
theorem akC{row:Nat→List Nat}{n a:Nat}(ha:a<n)(hr:∀k,∀j∈row k,j<k):(j9 row t sh a).o.length≤n:=by
 have key:∀(f:Nat) (s:PS),OW n s→OW n (lQ row t sh f s):=by
  intro f
  induction f with
  |zero=>intro s hs;exact hs
  |succ f ih=>
   intro s hs
   by_cases e:s.w=[]
   ·rw[J6 e];exact hs
   ·rw[J7 e];exact ih _ (hs.step hr e)
 have h:=key 5 (dW sh gV a) (OW.put ⟨by simp[gV],λk hk=>by simp[gV]at hk⟩ ha)
 have nd:=h.nd;rw[nT]at nd
 exact oQ n _ nd.1 λx hx=>(h.lt x (by simp;exact .inl hx)).1
structure xD(X:Wx)(rows:List (List Nat))(times:List Nat)(counts:List (Option Nat)):Prop where
 r:∀k,X.row k=rows.getD k []
 t:∀k,X.time k=times.getD k 0
 c:∀k,X.cnt k=counts.getD k none
theorem xD.of{X:Wx}{rows:List (List Nat)}{times:List Nat}{counts:List (Option Nat)}(h:JB X.Ds rows times counts):xD X rows times counts:=by
 refine⟨λk=>?_,λk=>?_,λk=>?_⟩
 ·rw[←h.r];unfold Wx.row;rw[dG,dM]
 ·rw[←h.t];unfold Wx.time;rw[dG,dM]
 ·rw[←h.c];unfold Wx.cnt;rw[dG,dM]
theorem akD{rows:List (List Nat)}(h:xD X rows times counts)(w:Wi){k:Nat}(hk:X.Ds[k]?=some D):
  Ei w D.note.1 D.bH.1 D.bH.2 (rows.getD k []).length (times.getD k 0) (jL (counts.getD k none)) (if rows.getD k []=[]then[0]else(rows.getD k []).map λj=>jL (counts.getD j none))=kb X w k:=by
 have e1:X.note k=D.note:=by unfold Wx.note;rw[hk];rfl
 have e2:X.bH k=D.bH:=by unfold Wx.bH;rw[hk];rfl
 unfold Ei kb Kc;rw[e1,e2,h.r,h.t]
 have e3:gW X (some k)=jL (counts.getD k none):=by show jL (X.cnt k)=_;rw[h.c]
 have e4:(oldsOf (rows.getD k [])).map (gW X)=if rows.getD k []=[]then[0]else(rows.getD k []).map λj=>jL (counts.getD j none):=by
  unfold oldsOf
  split
  ·rfl
  ·rw[dp]
   refine pb λj z=>?_;show jL (X.cnt j)=_;rw[h.c]
 rw[e3,e4]
 generalize(if rows.getD k []=[]then[0]else(rows.getD k []).map λj=>jL (counts.getD j none))=l
 generalize jL (counts.getD k none)=m
 have e5:(l.all λx=>x !=m)=!decide (m∈l):=by
  rw[rL];simp only[iy,bne_iff_ne,mK,decide_eq_false_iff_not];exact⟨λh hm=>h m hm rfl,λh x hx e=>h (e▸hx)⟩
 rw[e5];cases qk w D.note.1<;>cases rz w D.bH.1 D.bH.2<;>cases oX w (times.getD k 0)<;>cases u5 w (rows.getD k []).length<;>rfl
set_option tactic.hygienic false
noncomputable def jd(e:aL)(l:List (Nat×CV)):Prop:=∀j v,l.lookup j=some v→e j=some v
theorem jd.set{l:List (Nat×CV)}{v:CV}(h:jd e l):jd (bz e i v) ((i,v)::l):=λj w g=>by
 by_cases z:j=i
 ·rw[kg,z,beq_self_eq_true,←z]at g;rw[z,hH];exact g
 ·rw[kg,beq_eq_false_iff_ne.2 z]at g;rw[ox z];exact h j w g
theorem jd.rd{l:List (Nat×CV)}{v:CV}(h:jd e l)(q:autoParam (l.lookup j=some v) aA):e j=some v:=h j v q
noncomputable def Ye(l:List (Nat×CV)):List (Nat×CV)→Prop
 |[]=>True
 |p::t=>l.lookup p.1=some p.2∧Ye l t
theorem jd.sub{l:List (Nat×CV)}(h:jd e l):∀{l':List (Nat×CV)},Ye l l'→jd e l'
 |[],_=>λo o g=>bo g
 |p::t,s=>λj w g=>by
  rw[kg]at g
  by_cases z:j=p.1
  ·rw[z,beq_self_eq_true]at g;cases g;rw[z];exact h _ _ s.1
  ·rw[beq_eq_false_iff_ne.2 z]at g;exact jd.sub h s.2 j w g
theorem Yg{F:FM}{mk:cV}{R:CV→St→Prop}(h:gp ms e σ xs)(h1:gp mk e σ ys)(k:F xs (is.zip ys) σ R):Cv F ms is mk e σ R:=h _ (h1 _ k)
theorem WS.draw{W:St}{T:Nat}(h:WS X W σ T ls)(D:Dk W ae X.d X.c T')(p:aF (two X.d X.c) σ ae):WS X W ae T' ls:=by
 refine bF h.kn λks h1 h2 h3=>?_;exact⟨h.f,D,⟨ks,h1.a7 p (λx=>x.elim h.fk.2.1 h.fk.2.2),h2,h3⟩,h.lv.a7 p (λx=>x.elim h.fl.2.1 h.fl.2.2),h.ln,h.fk,h.fl,h.sZ⟩
structure LF(X:Wx)(W:St)(w:Wi)(aa ad na fa il nO lR dX a:Addr)(hs O:List Nat):Prop where
 ask:bP W aa 163 ad (u0 w)
 na:W na=some (.list [cb X.is a])
 fa:W fa=some (.list (hs.map (cb X.is)))
 il:W il=some (.list (X.is.map mz))
 rw:W nO=some (.list (O.map nI))
 ft:W lR=some (.list ((O.filter (kb X w)).map nI))
 to:W dX=some (.list (X.Ds.map kR))
theorem LF.up{W:St}{w:Wi}{lR:Addr}{O:List Nat}(h:LF X W w aa ad na fa il nO lR dX a hs O)(p:aF aS W W'):LF X W' w aa ad na fa il nO lR dX a hs O:=
 ⟨h.ask.a7 p,p.at h.na,p.at h.fa,p.at h.il,p.at h.rw,p.at h.ft,p.at h.to⟩
theorem akE{k:Nat}(hk:k<is.length):(is.map mz)[k]?=some (cb is k):=by
 rw[dM,bS hk];show some (CV.bytes (fS is[k]))=some (CV.bytes (fS (is.getD k 0)));rw[dG,bS hk];rfl
theorem K3{k:Nat}(h:σ il=some (.list (is.map mz)))(n4:is.length≤4)(hk:k<is.length):It (.loc il) (.int k) σ (cb is k):=.li (akE hk) (by rw[aZ];exact js n4) h
theorem akF(is O:List Nat):O.map (cb is)=(O.map (dc is)).map CV.bytes:=by rw[dp];rfl
theorem Yh{W:St}{T:Nat}{L:List Nat}{s1 r:SM}{K m:EM}{Q:dy→aL→St→Prop}(n4:X.is.length≤4)(hL:∀k∈L,k<X.is.length)(l5:L.length≤5)(jE:W il=some (.list (X.is.map mz)))(Dx:e 14=some (.loc il))
  (hK:∀R:CV→St→Prop,(∀W1 ao jK oa,aF aS W W1→WS X W1 ao T jK→W1 oa=some (.list (L.map (cb X.is)))→R (.loc oa) ao)→K e σ R)
  (hm:∀W1 ao jK,aF aS W W1→WS X W1 ao T jK→∀R:CV→St→Prop,(∀l ay,ay l=some (.list (L.map nI))→aF aS ao ay→R (.loc l) ay)→m e ao R)
  (k:∀W1 ao jK,aF aS W W1→WS X W1 ao T jK→r e ao Q):
  ah (bC (aT .NotEq (aY sH (ag K ar)) (cT [(3,.local),(1,.local),(14,.free)] (bO m) (aName 1) de (bc (af 14) (af 1)))) s1 az) r e σ Q:=by
 have ll:(L.map (cb X.is)).length≤1000:=by rw[aZ];exact aR l5 (by decide)
 refine vZ<|v9<|jY<|dH<|hK _ λW1 ao jK oa P1 h1 ho=>a1 (k:=.L) ⟨_,.inl (h1.dk.fr.at ho),ll,cX λla ay lN c6 P2=>me<|hm W1 ay jK P1 (h1.ext P2) _ λl aQ hl P3=>iX hl λok bw=>?_⟩;have h3:=(h1.ext P2).ext P3
 refine wm nI (cb X.is) (bw _ hl) (aR l5 (by decide)) (λk hk ce s e1=>.item (.var (s.rd (j:=14) Dx rfl)) (.var e1) (K3 (h3.dk.fr.at (P1.at jE)) n4 (hL k hk))) λb bU nb hb P4=>?_
 exact⟨_,.HH (P4.at (P3.at c6)) hb (by rw[akF];exact KJ _),k W1 bU jK P1 (h3.ext P4)⟩
theorem akG{W:St}{T:Nat}{w:Wi}{lR:Addr}(h:WS X W σ T ls)(hT:T≤900)(ha:a<X.is.length)(uX:∀k∈hs,k<X.is.length)(lh:hs.length≤10)(R:xq X.row X.is.length [a] hs)
  (F:LF X W w aa ad na fa il nO lR dX a hs (j9 X.row (iK X) (kU X.row a hs) a).o)(E:jd e [(46,.loc X.d),(131,.loc X.A.st),(89,.loc X.wk),(67,.loc na),(10,.loc fa),(98,.loc aa),(11,.loc lR),(14,.loc il),(27,.loc nO),(85,.loc dX)])(q:∀ae,Q (.bool true) ae):Te e σ (bk Q):=by
 have ck:=Kf (row:=X.row) (t:=iK X) (sh:=kU X.row a hs) ha h.f.fh;have hln:=akC (row:=X.row) (t:=iK X) (sh:=kU X.row a hs) ha h.f.fh;have n4:=h.f.n4;have log:=λ(σ:St) (W:St) (T:Nat) (ls:List Nat) (most:Option Nat) (Q:CV→St→Prop) (h:WS X W σ T ls) (F:LF X W w aa ad na fa il nO lR dX a hs (j9 X.row (iK X) (kU X.row a hs) a).o)=>ajz (Q:=Q) (most:=most) h ha uX lh R F.ask F.na F.fa;generalize(j9 X.row (iK X) (kU X.row a hs) a).o=O at*;have K4:(O.filter (kb X w)).length≤5:=aR (EE _ _) ck.2;have Yi:∀k∈O.filter (kb X w),k<X.is.length:=λk hk=>ck.1 k (rK.1 hk).1
 refine Yh (T:=T) n4 Yi K4 F.il E.rd (λR k=>Yg (.cons (.var E.rd) (.three (.var E.rd) (.var E.rd) (.var E.rd))) (.one (.var E.rd)) ⟨_,_,_,_,_,_,rfl,.inl ⟨rfl,rfl⟩,log σ W T ls none _ h F ⟨λW1 ao jK oa g1 h1 P1 gz=>?_⟩⟩) (λW1 ao jK P1 h1 R k=>bV (.var E.rd) (k _ _ (h1.dk.fr.at (P1.at F.ft)) (.refl _ _))) λW1 ao jK P1 h1=>?_
 ·rw[WT,vy]at gz
  exact k _ _ _ _ g1.p h1 gz
 have F1:=F.up P1
 refine cy<|pJ .val<|cu (.two (.var E.rd) .val)<|nF h1.dk (aR hT (by decide)) (by decide) (by decide) ⟨λr ay hr D2 P2=>?_⟩
 have h2:=h1.draw D2 P2
 have hm:CV.int (1+(r:Int))=.int ((1+r:Nat):Int):=by rw[Int.natCast_add];rfl
 refine gP .add ?_;rw[hm];have E2:=E.set (i:=31) (v:=.int ((1+r:Nat):Int));generalize bz e 31 (.int ((1+r:Nat):Int))=e2 at*
 refine Yh (T:=T+1) (L:=(O.filter (kb X w)).take (1+r)) n4 (λk hk=>Yi k (List.mem_of_mem_take hk)) (aR (List.length_take_le' _ _) K4) F1.il E2.rd (λR k=>Yg (.cons (.var E2.rd) (.three (.var E2.rd) (.var E2.rd) (.var E2.rd))) (.two (.var E2.rd) (.var E2.rd)) ⟨_,_,_,_,_,_,rfl,.inr rfl,log ay W1 (T+1) jK (some (1+r)) _ h2 F1 ⟨λW3 aQ xt ob g3 h3 P3 Yj=>?_⟩⟩) (λW3 aQ xt P3 h3 R k=>Pt (.var E2.rd) (.var E2.rd)<|upL (h3.dk.fr.at (P3.at F1.ft)) (by rw[aZ];exact aR K4 (by decide)) λl bU nl hl P4=>k _ _ (by rw[hl,List.map_take]) P4) λW3 aQ xt P3 h3=>?_
 ·rw[WU _ _ _ _ (dE _),vy]at Yj
  exact k _ _ _ _ g3.p h3 Yj
 have F3:=F1.up P3;have fr:=h3.dk.fr;have wl:=h3.f.w.len
 exact fD<|cu (.cons (.var E2.rd) (.three (.var E2.rd) (.var E2.rd) (.var E2.rd)))<|akv (h3.f.S.p0 fr) (h3.f.w.up fr) (fr.at F3.il) (fr.at F3.rw) (fr.at F3.to) (λk hk=>by rw[←wl];exact ck.1 k hk) (aR hln n4) (by rw[←wl];exact n4) ⟨λuJ P9=>q uJ⟩
structure LG(X:Wx)(W:St)(w:Wi)(rl tl cl il dX wd:Addr)(rows:List (List Nat))(times:List Nat)(counts:List (Option Nat)):Prop where
 r:j6 W rl rows
 t:W tl=some (.list (times.map nI))
 c:W cl=some (.list (counts.map nH))
 il:W il=some (.list (X.is.map mz))
 to:W dX=some (.list (X.Ds.map kR))
 wd:∃es,W wd=some (.dS es)∧gi w es
theorem j6.up{W W':St}{rows:List (List Nat)}(h:j6 W l rows)(p:aF aS W W'):j6 W' l rows:=
 let⟨c9,h1,h2⟩:=h
 ⟨c9,p.at h1,h2.mono p⟩
section
variable{X:Wx}{W W':St}{w:Wi}{rl tl cl il dX wd:Addr}{rows:List (List Nat)}{times:List Nat}{counts:List (Option Nat)}
theorem LG.up(h:LG X W w rl tl cl il dX wd rows times counts)(p:aF aS W W'):LG X W' w rl tl cl il dX wd rows times counts:=
 ⟨h.r.up p,p.at h.t,p.at h.c,p.at h.il,p.at h.to,let⟨es,h1,h2⟩:=h.wd;⟨es,p.at h1,h2⟩⟩
end
structure LC(X:Wx)(rows:List (List Nat))(times:List Nat)(counts:List (Option Nat))(hs:List Nat):Prop where
 xo:xD X rows times counts
 rn:rows.length=X.is.length
 tn:times.length=rows.length
 cn:counts.length=rows.length
 n2:2≤rows.length
 n4:rows.length≤4
 hl:∀k∈hs,k<X.is.length
 lh:hs.length≤1
noncomputable abbrev lv(X:Wx)(rl tl cl il dX wd:Addr)(n:Nat):List (Nat×CV):=[(46,.loc X.d),(131,.loc X.A.st),(89,.loc X.wk),(76,.loc rl),(133,.loc tl),(147,.loc cl),(14,.loc il),(85,.loc dX),(92,.loc wd),(61,.int n)]
theorem Ew{n:Nat}(h:2≤n):CV.int ((n:Int)- 1)=.int ((n- 1:Nat):Int):=congrArg CV.int (L9 (AF h)).symm
theorem akH{es:List (Str×CV)}{k:Str}{o:Option CV}(h:bB es k=o)(hv:o.getD .none=x):(bB es k).getD .none=x:=by rw[h];exact hv
theorem akI{X:Wx}{W:St}{T:Nat}{w:Wi}{rl tl cl il dX wd hl:Addr}{rows:List (List Nat)}{times:List Nat}{counts:List (Option Nat)}(h:WS X W σ T ls)(hT:T≤900)
  (C:LC X rows times counts hs)(R:xq X.row X.is.length [rows.length- 1] hs)(G:LG X W w rl tl cl il dX wd rows times counts)(BE:W nO=some (.list ((j9 X.row (iK X) (kU X.row (rows.length- 1) hs) (rows.length- 1)).o.map nI)))(nQ:W hl=some (.list (hs.map nI)))
  (E:jd e ((27,.loc nO)::(155,.loc hl)::lv X rl tl cl il dX wd rows.length))(q:∀ae,Q (.bool true) ae):Tf e σ (bk Q):=by
 have n4:=h.f.n4;have n2:=C.n2
 have ha:rows.length- 1<X.is.length:=by rw[←C.rn];exact Fh (ey (by decide) n2) (by decide)
 have ck:=Kf (row:=X.row) (t:=iK X) (sh:=kU X.row (rows.length- 1) hs) ha h.f.fh
 have fh:∀k,∀j∈rows.getD k [],j<k:=λk j hj=>h.f.fh k j (by rw[C.xo.r];exact hj)
 have j8:∀k,(rows.getD k []).length≤4:=λk=>by rw[←C.xo.r];exact h.f.j8 k
 have wl:=h.f.w.len
 have fin:=λ(W' ae:St) (aa ad na fa lR:Addr) (e':aL) (h':WS X W' ae T ls) (F:LF X W' w aa ad na fa il nO lR dX (rows.length- 1) hs (j9 X.row (iK X) (kU X.row (rows.length- 1) hs) (rows.length- 1)).o)=>akG (e:=e') (Q:=Q) h' hT ha C.hl (aR C.lh (by decide)) R F
 generalize(j9 X.row (iK X) (kU X.row (rows.length- 1) hs) (rows.length- 1)).o=O at*;refine a9 G.wd λes eu D=>?_
 refine cy<|me<|bV (.var E.rd)<|iX (h.dk.fr.at BE) λok bw=>Hv nI (λrest acc ae=>∃done,done++rest=O∧acc=(done.filter (kb X w)).map nI∧aF aS σ ae) ⟨[],rfl,rfl,.refl _ _⟩ (aR ck.2 (by decide)) (λj rest acc ae ce z qU sc e1=>?_) λacc ae z=>?_
 all_goals
  refine bF z λdone g1 g2 P=>?_
  refine⟨bw _ (P.at (h.dk.fr.at BE)),?_⟩
 ·intro KY KN ky kn
  have hj:j<X.is.length:=ck.1 j (by rw[←g1];exact kW _ (.head _))
  have hD:=Eo (Ds:=X.Ds) (k:=j) (by rw[←wl];exact hj)
  have fr:=h.dk.fr.trans P
  refine BW<|cu (.cons (.var (sc.rd (j:=92) E.rd rfl)) (.cons (.var e1) (.cons (.var (sc.rd (j:=76) E.rd rfl)) (.three (.var (sc.rd (j:=133) E.rd rfl)) (.var (sc.rd (j:=147) E.rd rfl)) (.var (sc.rd (j:=85) E.rd rfl))))))<|
   ajP (fr.at eu) D (G.r.up fr) (fr.at G.t) (fr.at G.c) (fr.at G.to) C.n4 C.tn C.cn (by rw[C.rn,wl]) hD fh j8 ⟨λay P2=>⟨_,rfl,?_⟩⟩
  rw[akD C.xo w hD]
  have I:∀l:List Nat,[j].filter (kb X w)=l→∃As,As++rest=O∧acc++l.map nI=(As.filter (kb X w)).map nI∧aF aS σ ay:=λl hl=>⟨done++[j],by rw[fJ];exact g1,by rw[g2,Lu,hl,cR],P.trans P2⟩
  cases hf:kb X w j with
  |true=>exact bV (.var e1) (ky _ _ (I [j] (by rw[mM,if_pos hf];rfl)))
  |false=>exact kn _ (by have:=I [] (by rw[mM,if_neg (by rw[hf];exact gX)];rfl);rwa[E8,fj]at this)
 ·rw[fj]at g1
  subst g1;rw[g2];refine cX λlR ay eP hft P2=>?_;have hp:=h.ext P;refine cz ((hp.ext P2).fz hft (hp.nx eP)) λW2 cJ sO h2 b2=>?_;have Yk:=h2.dk.fr.at (cJ.at eu);have E2:=E.set (i:=11) (v:=.loc lR);generalize bz e 11 (.loc lR)=e2 at*;have tc:∀{k:Str} {o:Option CV} {x:CV},bB es k=o→o.getD .none=x→Ev (bJ sG si (af 92) (ag (au (.str k)) ar)) e2 ay x:=λh1 h2=>.to (.pw (.var E2.rd) ⟨_,_,rfl,Yk⟩ (.one .val) (.get Yk)) (akH h1 h2)
  refine cy<|cu (.cons (tc D.g (by cases w.g<;>rfl)) (.cons (tc D.a (by cases w.a<;>rfl)) (.three (tc D.b (by cases w.b<;>rfl)) (tc D.p (by cases w.p<;>rfl)) (tc D.m (by cases w.m<;>rfl)))))<|ajp (w:=w) ⟨λaa ad aQ na nd ia P3=>?_⟩
  refine cz ((h2.ext P3).sW ia (h2.nx na) (h2.nx nd)) λW3 dU ia3 h3 b3=>?_;have PW:=cJ.trans dU;have E3:=E2.set (i:=98) (v:=.loc aa);generalize bz e2 98 (.loc aa)=e3 at*;refine vY<|dh (.one (.item (.var E3.rd) (.to (.bin (.var E3.rd) .val .sub) (Ew n2)) (K3 (h3.dk.fr.at (PW.at G.il)) n4 ha))) λnl bU XT KR P4=>?_;refine cz ((h3.ext P4).fz KR (h3.nx XT)) λW4 mF akJ h4 b4=>?_;have Yl:=PW.trans mF
  refine md nI (cb X.is) (.li (.var E3.rd) (h4.dk.fr.at (Yl.at nQ))) (aR C.lh (by decide)) (λk hk ce s e1=>.item (.var (s.rd (j:=14) E3.rd rfl)) (.var e1) (K3 (h4.dk.fr.at (Yl.at G.il)) n4 (C.hl k hk))) λfl fG nfl vb P5=>?_
  refine cz ((h4.ext P5).fz vb (h4.nx nfl)) λW5 lM akK h5 b5=>?_;have K6:=mF.trans lM;have vh:=PW.trans K6;exact fin W5 fG aa ad nl fl lR _ h5 ⟨ia3.a7 K6,lM.at akJ,akK,vh.at G.il,vh.at BE,(dU.trans K6).at sO,vh.at G.to⟩ (E3.set.set.sub ⟨rfl,rfl,rfl,rfl,rfl,rfl,rfl,rfl,rfl,rfl,trivial⟩) q
theorem K7(rows:List (List Nat)):(fw rows).length=rows.length:=by
 unfold fw;rw[Kp];exact mO _
theorem akL(rows:List (List Nat)):∀j x,x∈(fw rows).getD j []→x≤j:=
 Kq _ _ λj x hx=>cA hx
theorem Ym:∀(rows:List (List Nat)) {acc:List (List Nat)},(∀j,(acc.getD j []).Nodup)→∀j,((rows.foldl o6 acc).getD j []).Nodup
 |[],_,h=>h
 |r::rows,acc,h=>Ym rows λj=>by
  unfold o6;rw[dG]
  by_cases hj:j<acc.length
  ·rw[xE hj,←dG];exact h j
  ·rw[Ez (EW hj)]
   cases j- acc.length with
   |zero=>exact List.nodup_range.filter _
   |succ i=>exact .nil
theorem Yn{rows:List (List Nat)}{k:Nat}(h:j6 σ l rows)(n4:rows.length≤4)(hk:k<rows.length):∃a,It (.loc l) (.int k) σ (.loc a)∧σ a=some (.list ((rows.getD k []).map nI)):=by
 obtain⟨c9,hl,RI⟩:=h
 have oW:k<c9.length:=by rw[RI.len];exact hk
 refine⟨c9[k],.li (by rw[dM,bS oW];rfl) (by rw[aZ,RI.len];exact js n4) hl,?_⟩
 rw[RI.at_ k _ _ (bS oW) (bS hk),dG,bS hk];rfl
theorem akM{l:List Nat}:(l.map nI).isEmpty=decide (l=[]):=by cases l<;>rfl
theorem akN{p:Nat→Bool}:decide (hs.filter p=[])=hs.all λk=>!p k:=
 rL.2 (by rw[decide_eq_true_eq,Ll,iy];exact forall₂_congr λk z=>by cases p k<;>decide)
theorem akO{W:St}{T:Nat}{w:Wi}{fo hl:Addr}{rows:List (List Nat)}(h:WS X W σ T ls)(hT:T≤900)
  (C:LC X rows times counts hs)(ok:lJ rows)(hh:hs∈Al rows.length)(G:LG X W w rl tl cl il dX wd rows times counts)(ee:j6 W fo (fw rows))(nQ:W hl=some (.list (hs.map nI)))
  (E:jd e ((187,.loc fo)::(155,.loc hl)::lv X rl tl cl il dX wd rows.length))(q:∀ae,Q (.bool true) ae):IV e σ (bk Q):=by
 have n2:=C.n2;have n4:=C.n4;refine xa (ajV ok n2 n4 hh) λR0 jZ=>?_;have er:X.row=λk=>rows.getD k []:=funext C.xo.r
 have et:iK X=λk=>(times.getD k 0:Int):=funext λk=>by show(X.time k:Int)=_;rw[C.xo.t]
 rw[←er,C.rn]at R0;rw[←er]at jZ;have akP:kU X.row (rows.length- 1) hs=λk=>decide (k∈Aj rows hs):=funext jZ
 have fh:∀k,∀j∈rows.getD k [],j<k:=λk j hj=>h.f.fh k j (by rw[C.xo.r];exact hj)
 have j8:∀k,(rows.getD k []).length≤4:=λk=>by rw[←C.xo.r];exact h.f.j8 k
 have n1:rows.length- 1<rows.length:=Fh (ey (by decide) n2) (by decide)
 have Yo:(fw rows).length≤4:=by rw[K7];exact n4
 refine a9 (Yn (ee.up h.dk.fr) Yo (k:=rows.length- 1) (by rw[K7];exact n1)) λra rit gU=>?_
 have hLn:((fw rows).getD (rows.length- 1) []).length≤4:=
  aR (oQ rows.length _ (Ym rows (acc:=[]) (λo=>E6) _) λx hx=>je (akL rows _ x hx) n1) n4
 have akQ:Aj rows hs=((fw rows).getD (rows.length- 1) []).filter λx=>hs.all λk=>!((fw rows).getD k []).contains x:=rfl;generalize(fw rows).getD (rows.length- 1) []=L at*;refine cy<|me<|bV (.item (.var E.rd) (.to (.bin (.var E.rd) .val .sub) (Ew n2)) rit)<|iX gU λny bw=>Hv nI (λrest acc ae=>∃done,done++rest=L∧acc=(done.filter λx=>hs.all λk=>!((fw rows).getD k []).contains x).map nI∧aF aS σ ae) ⟨[],rfl,rfl,.refl _ _⟩ (js hLn) (λx rest acc ae ce z qU sc e2=>?_) λacc ae z=>?_
 all_goals
  refine bF z λdone g1 g2 P=>?_
  refine⟨bw _ (P.at gU),?_⟩
 ·intro KY KN ky kn
  have fr:=h.dk.fr.trans P
  refine v9<|Ht nI (λk=>((fw rows).getD k []).contains x) nI (.li (.var (sc.rd (j:=155) E.rd rfl)) (fr.at nQ)) (aR C.lh (by decide)) (λk hk mc s' e1=>?_) λfa ay qh mD P2=>dh .nil λfb aQ nfb hfb P3=>⟨_,.Qg (P3.at mD) hfb,?_⟩
  ·refine a9 (Yn (ee.up fr) Yo (k:=k) (by rw[K7,C.rn];exact C.hl k hk)) λrk rr I6=>?_
   exact⟨.to (.cmp (.var (s'.rd (j:=2) e2 rfl)) (.item (.var (s'.rd (j:=187) (sc.rd (j:=187) E.rd rfl) rfl)) (.var e1) rr) (.mem (.ns I6))) (List.contains_eq_mem ..).symm,λo=>.var e1⟩
  ·rw[akM,akN]
   have I:∀l:List Nat,([x].filter λx=>hs.all λk=>!((fw rows).getD k []).contains x)=l→∃As,As++rest=L∧acc++l.map nI=(As.filter λx=>hs.all λk=>!((fw rows).getD k []).contains x).map nI∧aF aS σ aQ:=λl hl=>⟨done++[x],by rw[fJ];exact g1,by rw[g2,Lu,hl,cR],P.trans (P2.trans P3)⟩
   cases hf:hs.all λk=>!((fw rows).getD k []).contains x with
   |true=>exact bV (.var e2) (ky _ _ (I [x] (by rw[mM,if_pos hf];rfl)))
   |false=>exact kn _ (by have:=I [] (by rw[mM,if_neg (by rw[hf];exact gX)];rfl);rwa[E8,fj]at this)
 ·rw[fj]at g1
  subst g1;rw[g2,←akQ];refine cX λsl ay KD akR P2=>?_;have h2:=(h.ext P).ext P2;have E2:=E.set (i:=126) (v:=.loc sl);generalize bz e 126 (.loc sl)=e2 at*;refine cy<|jY<|jX (.var E2.rd)<|jX (.var E2.rd)<|jX (.var E2.rd)<|dH<|dh (.one (.to (.bin (.var E2.rd) .val .sub) (Ew n2))) λal aQ Jw qU P3=>?_;have h3:=h2.ext P3;have fr:=h3.dk.fr;refine ajG (a:=rows.length- 1) (G.r.up fr) (fr.at G.t) (P3.at akR) qU n4 C.tn n1 fh j8 ⟨λbU oa nJ gz P4=>?_⟩;rw[←er,←et,←akP]at gz;refine cz ((h3.ext P4).fz gz (h3.nx nJ)) λW4 mF akS h4 b4=>?_
  exact akI (hl:=hl) h4 hT C (by rw[←C.rn]at R0 ⊢;exact R0) (G.up mF) akS (mF.at nQ) (E2.set.sub ⟨rfl,rfl,rfl,rfl,rfl,rfl,rfl,rfl,rfl,rfl,rfl,rfl,trivial⟩) q
structure LH(X:Wx)(rows:List (List Nat))(times:List Nat)(counts:List (Option Nat)):Prop where
 xo:xD X rows times counts
 rn:rows.length=X.is.length
 tn:times.length=rows.length
 cn:counts.length=rows.length
 n2:2≤rows.length
 n4:rows.length≤4
theorem eiX{t:TM}{R:CV→St→Prop}(k:t e σ λv ao=>match v with |true=>m1 e ao R |false=>m2 e ao R):eH t m1 m2 e σ R:=by
 unfold eH;rw[BS];exact k
theorem akT{W:St}{T:Nat}{w:Wi}{fo:Addr}{rows:List (List Nat)}(h:WS X W σ T ls)(hT:T≤800)
  (C:LH X rows times counts)(ok:lJ rows)(G:LG X W w rl tl cl il dX wd rows times counts)(ee:j6 W fo (fw rows))
  (E:jd e ((187,.loc fo)::(203,.bool kn)::lv X rl tl cl il dX wd rows.length))(q:∀ae,Q (.bool true) ae):Tg e σ (bk Q):=by
 have n2:=C.n2;have n4:=C.n4
 have fin:∀(hs:List Nat) {T':Nat} {hl:Addr} {ae ao:St},WS X W ae T' ls→T'≤900→hs∈Al rows.length→ae hl=none→ao hl=some (.list (hs.map nI))→aF aS ae ao→IV (bz e 155 (.loc hl)) ao (bk Q):=by
  intro hs T' hl ae ao h' zI hh vi nQ P1;refine cz ((h'.ext P1).fz nQ (h'.nx vi)) λW2 cJ K9 h2 b2=>?_
  have hm:(∀k∈hs,k<X.is.length)∧hs.length≤1:=by
   unfold Al at hh
   rcases eO.1 hh with rfl |hh
   ·exact⟨(λz h=>cA h),dE _⟩
   ·refine a9 (dD.1 hh) λk hk aq=>?_;subst aq
    exact⟨λj hj=>by rw[cL.1 hj,←C.rn];exact ey (E7.1 hk) (A2 ..),cP _⟩
  exact akO h2 zI ⟨C.xo,C.rn,C.tn,C.cn,n2,n4,hm.1,hm.2⟩ ok hh (G.up cJ) (ee.up cJ) K9 (E.set.sub ⟨rfl,rfl,rfl,rfl,rfl,rfl,rfl,rfl,rfl,rfl,rfl,rfl,trivial⟩) q
 refine cy ?_
 induction kn with
 |true=>exact yF (.lZ (.not (b:=true) (.val (.var E.rd))))<|dh .nil λhl ao vi nQ P1=>fin [] h (aR hT (by decide)) (.head _) vi nQ P1
 |false=>
  refine eiX<|Px (.not (b:=false) (.val (.var E.rd)))<|Pz<|v9<|cu (.two (.var E.rd) .val)<|nF h.dk (aR hT (by decide)) (by decide) (by decide) ⟨λr ao hr D1 P1=>bV .val<|we .eq ?_⟩
  have h1:=h.draw D1 P1
  cases decide ((r:Int)=0)with
  |true=>
   refine show eList _ _ _ _ from dH<|cu (.two (.var E.rd) (.to (.bin (.var E.rd) .val .sub) (Ew n2)))<|nF h1.dk (lz hT rfl) (dN.2 (Nat.sub_pos_of_lt n2)) (dN.2 (je (aR (A2 ..) n4) (by decide))) ⟨λj ay hj D2 P2=>⟨by exact cG rfl,cX λhl aQ vi nQ P3=>?_⟩⟩
   exact fin [j] (h1.draw D2 P2) (lz (iN hT _) rfl) (.tail _ (dD.2 ⟨j,E7.2 (dN.1 hj),rfl⟩)) vi nQ P3
  |false=>exact dh .nil λhl ao vi nQ P1=>fin [] h1 (qn (aR hT (by decide))) (.head _) vi nQ P1
theorem WS.Yp{T:Nat}:∀(as:List Addr) {W:St},WS X W σ T ls→(∀a∈as,∃o,σ a=some o)→(∀a∈as,Nx X a)→∃W',aF aS W W'∧(∀a∈as,W' a=σ a)∧WS X W' σ T ls
 |[],W,h,_,_=>⟨W,.refl _ _,(λz h=>cA h),h⟩
 |a::as,W,h,ho,hn=>by
  refine xe (ho a (.head _)) λo ha=>?_;refine cz (h.fz ha (hn a (.head _))) λW1 P1 g1 h1 zz=>?_;refine bF (WS.Yp as h1 (λb hb=>ho b (.tail _ hb)) (λb hb=>hn b (.tail _ hb))) λW2 P2 g2 h2=>?_;refine⟨W2,P1.trans P2,λb hb=>?_,h2⟩
  rcases eO.1 hb with rfl |hb
  ·rw[ha];exact P2.at g1
  ·exact g2 b hb
theorem akU{m:EM}{A:AM}{r:SM}{Q:dy→aL→St→Prop}(k:m e σ λv ao=>A v e ao λe' ae=>r e' ae Q):ah (aP m A) r e σ Q:=k
theorem akV{W:St}{c:Addr}{T:Nat}{rows:List (List Nat)}(h:Dk W σ d c T)(hT:T≤700)(hw:way<4)(hN:W 1003=some (.ro m6))(hP:W 1007=some (.ro m7))
  (hR:j6 W rl rows)(ok:lJ rows)(n2:2≤rows.length)(n4:rows.length≤4)(oP:W tl=some (.list (times.map nI)))(to:wX rows.length times)(g8:W cl=some (.list (counts.map nH)))(co:JA rows.length counts)
  (E:jd e [(46,.loc d),(76,.loc rl),(133,.loc tl),(147,.loc cl),(61,.int rows.length),(32,.int way),(203,.bool kn)])(q:∀ae,Q (.bool true) ae):IW e σ (bk Q):=by
 refine akU<|cu (.cons (.var E.rd) (.three (.var E.rd) (.var E.rd) (.var E.rd)))<|aib h (cB hT rfl) hN hP hR ok rfl n4 oP to g8 co ⟨λW1 ao A O is Ds il dX ik Yq S wo jE Km D1=>⟨_,rfl,rfl,?_⟩⟩;have E2:=((E.set (i:=131) (v:=.loc A.st)).set (i:=14) (v:=.loc il)).set (i:=85) (v:=.loc dX);show Th (bz (bz (bz e 131 (.loc A.st)) 14 (.loc il)) 85 (.loc dX)) ao (bk Q);generalize bz (bz (bz e 131 (.loc A.st)) 14 (.loc il)) 85 (.loc dX)=e2 at*;have Ex:times.length=rows.length:=to.1
 have Yr:is.length=rows.length:=by rw[Yq.len,←wo.r,aZ]
 refine Pr<|cu (.cons (.var E2.rd) (.three (.var E2.rd) (.var E2.rd) (.var E2.rd)))<|aj8 D1 (lz hT rfl) hw (ik.at oP) (λz=>by rw[z]at Ex;rw[←Ex]at n2;exact tL n2) (by rw[Ex];exact n4) ⟨λW2 ay wd w es cJ eu ke D2=>?_⟩
 refine cu (.one (.var E2.rd))<|akA D2 (Yq.up cJ) (S.p0 cJ) (by rw[Yr];exact n4) ⟨λX W3 aQ a1 a2 a3 a4 a5 a6 dU P3 h3=>?_⟩
 subst a1 a2 a3 a4 a5 a6;have Ys:=ik.trans (cJ.trans dU);have xo:=xD.of wo
 have fh:∀k,∀j∈rows.getD k [],j<k:=λk j hj=>h3.f.fh k j (by rw[xo.r];exact hj)
 refine cu (.one (.var E2.rd))<|aj1 ((hR.up Ys).up h3.dk.fr) n4 fh ⟨λbU fo fA ta akW ee Ey P4=>?_⟩;have h4:=h3.ext P4
 obtain⟨W5,lM,g5,h5⟩:=WS.Yp (fo::fA) h4 (λa ha=>by
  rcases eO.1 ha with rfl |ha
  ·exact⟨_,ee⟩
  ·refine xe (YL ha) λi hi=>?_
   exact⟨_,Ey.at_ i a _ hi (bS (by rw[←Ey.len];exact(iL.1 hi).1))⟩) λa ha=>by
  rcases eO.1 ha with rfl |ha
  ·exact h3.nx ta
  ·exact h3.nx (akW a ha)
 have hR5:j6 W5 fo (fw rows):=⟨fA,by rw[g5 fo (.head _)];exact ee,Ey.len,λk a r h1 h2=>by rw[g5 a (.tail _ (tj h1))];exact Ey.at_ k a r h1 h2⟩
 have vh:=Ys.trans lM;have Yt:=cJ.trans (dU.trans lM);exact akT (kn:=kn) (w:=w) (fo:=fo) (wd:=wd) h5 (lz (iN hT _) rfl) ⟨xo,Yr.symm,Ex,co.1,n2,n4⟩ ok ⟨hR.up vh,vh.at oP,vh.at g8,Yt.at jE,Yt.at Km,es,(dU.trans lM).at eu,ke⟩ hR5 (((E2.set (i:=92)).set (i:=89)).set (i:=187)|>.sub ⟨rfl,rfl,rfl,rfl,rfl,rfl,rfl,rfl,rfl,rfl,rfl,rfl,trivial⟩) q
theorem akX{v:CV}(h:[CV.int 0,.int 1,.int 1,.int 2,.none][i]?=some v):∃o:Option Nat,v=nH o∧∀m,o=some m→m<3:=by
 have hm:=tj h
 have f:∀k:Nat,k<3→∃o:Option Nat,CV.int k=nH o∧∀m,o=some m→m<3:=λk hk=>⟨some k,rfl,λm h=>by obtain rfl:=bt h;exact hk⟩
 rcases eO.1 hm with rfl |hm
 ·exact f 0 (by decide)
 rcases eO.1 hm with rfl |hm
 ·exact f 1 (by decide)
 rcases eO.1 hm with rfl |hm
 ·exact f 1 (by decide)
 rcases eO.1 hm with rfl |hm
 ·exact f 2 (by decide)
 rw[cL.1 hm];exact⟨none,rfl,λz h=>bo h⟩
theorem akY{W:St}{c:Addr}{T:Nat}{rows:List (List Nat)}(h:Dk W σ d c T)(hT:T≤600)(hw:way<4)(hN:W 1003=some (.ro m6))(hP:W 1007=some (.ro m7))
  (hR:j6 W rl rows)(ok:lJ rows)(n2:2≤rows.length)(n4:rows.length≤4)(ij:kn=true→rows.length=4)(oP:W tl=some (.list (times.map nI)))(to:wX rows.length times)
  (E:jd e [(46,.loc d),(76,.loc rl),(133,.loc tl),(61,.int rows.length),(32,.int way),(203,.bool kn)])(q:∀ae,Q (.bool true) ae):Ti e σ (bk Q):=by
 have fin:∀(counts:List (Option Nat)) {T':Nat} {cl:Addr} {ae ao:St},Dk W ae d c T'→T'≤700→JA rows.length counts→ae cl=none→ao cl=some (.list (counts.map nH))→aF aS ae ao→IW (bz e 147 (.loc cl)) ao (bk Q):=by
  intro counts T' cl ae ao h' zI co rh g8 P1;refine cz ((h'.ext P1).fz g8 (h'.new rh).1 (h'.new rh).2) λW2 cJ K9 h2 b2=>?_;exact akV h2 zI hw (cJ.at hN) (cJ.at hP) (hR.up cJ) ok n2 n4 (cJ.at oP) to K9 co (E.set.sub ⟨rfl,rfl,rfl,rfl,rfl,rfl,rfl,trivial⟩) q
 refine cy ?_
 induction kn with
 |true=>exact BU (.val (.var E.rd))<|dh (.cons .val (.three .val .val .val)) λcl ao rh g8 P1=>fin [some 1,some 2,some 1,some 1] h (aR hT (by decide)) ⟨(ij rfl).symm,λm hm=>(by decide:∀x∈[some 1,some 2,some 1,some 1],x.getD 0<3) (some m) hm⟩ rh g8 P1
 |false=>
  obtain⟨c9,cI,RI⟩:=id hR;have gh:=RI.len
  refine yF (.val (.var E.rd))<|me<|bV (.var E.rd)<|iX (h.fr.at cI) λny bw=>B4 CV.loc (λrest acc ae=>∃cs:List (Option Nat),acc=cs.map nH∧cs.length+rest.length=c9.length∧(∀m,some m∈cs→m<3)∧Dk W ae d c (T+cs.length)) ⟨[],rfl,mO _,(λy h=>cA h),h⟩ (by rw[gh];exact js n4) (λa rest acc ae ce z qU sc e1=>?_) λacc ae z=>?_
  all_goals
   refine cz z λcs g1 g2 g3 D=>?_
   refine⟨bw _ (D.fr.at cI),?_⟩
  ·intro KY ky
   refine jY<|jX (.var (sc.rd (j:=46) E.rd rfl))<|dH<|dh (.cons .val (.cons .val (.three .val .val .val))) λpa aQ Eb q8 P3=>zF (D.ext P3) (l4 hT n4 (el gh) (el g2) (by simp+arith only)) (.inl ⟨q8,(D.new Eb).2⟩) (by decide) (by decide) ⟨λi v bU hv D4 P4=>?_⟩
   refine a9 (akX hv) λo aq ho=>?_;subst aq
   refine ky _ _ ⟨cs++[o],by rw[g1,cR];rfl,by rw[bW,←g2];show _+1+_=_+(_+1);exact AW ..,λm hm=>?_,by rw[bW];exact D4⟩
   rcases fY.1 hm with hm |hm
   ·exact g3 m hm
   ·exact ho m (cL.1 hm).symm
  ·rw[g1]
   exact cX λcl ao rh g8 P1=>fin cs D (by rw[tv]at g2;exact l4 hT n4 (el gh) (el g2) (by simp+arith only)) ⟨g2.trans gh,g3⟩ rh g8 P1
theorem Yu{W:St}{c:Addr}{T:Nat}{rows:List (List Nat)}(h:Dk W σ d c T)(hT:T≤500)(hw:way<4)(hN:W 1003=some (.ro m6))(hP:W 1007=some (.ro m7))
  (hR:j6 W rl rows)(ok:lJ rows)(n2:2≤rows.length)(n4:rows.length≤4)(ij:kn=true→rows.length=4)
  (E:jd e [(46,.loc d),(76,.loc rl),(32,.int way),(203,.bool kn)])(q:∀ae,Q (.bool true) ae):Tj e σ (bk Q):=by
 obtain⟨c9,cI,RI⟩:=id hR
 have An:Ev (aY eI (ag (af 76) ar)) e σ (.int rows.length):=.to (.call (.one (.var E.rd)) (.len (by rw[aZ,RI.len];exact js n4) (h.fr.at cI))) (by rw[aZ,RI.len])
 exact acU<|bV An<|cu (.two (.var E.rd) An)<|ahK h (aR hT (by decide)) (AF n2) n4 ⟨λtl times W2 ay to cJ oP D2=>akY D2 (iN (aR hT (by decide:500≤595)) 5) hw (cJ.at hN) (cJ.at hP) (hR.up cJ) ok n2 n4 ij oP to (E.set.set.sub ⟨rfl,rfl,rfl,rfl,rfl,rfl,trivial⟩) q⟩
noncomputable def rows0:List (List Nat):=[[],[0],[0],[1,2]]
theorem akZ:lJ rows0:=λk r h=>by
 have key:∀k,k<4→rows0.getD k []∈uF k:=by decide+kernel
 have:=key k (iL.1 h).1;rwa[dG,h]at this
theorem ak0{W:St}{c:Addr}{T:Nat}(h:Dk W σ d c T)(hT:T≤100)(hN:W 1003=some (.ro m6))(hP:W 1007=some (.ro m7))
  (rA:e 46=some (.loc d))(q:∀ae,Q (.bool true) ae):Tn e σ (bk Q):=by
 refine vY<|cu (.two (.var rA) .val)<|nF h (aR hT (by decide)) (by decide) (by decide) ⟨λway ao ak1 D1 P1=>XO<|cu (.two (.var rA) .val)<|nF D1 (qn (aR hT (by decide))) (by decide) (by decide) ⟨λr ay hr D2 P2=>bV .val<|we .eq ?_⟩⟩
 generalize decide ((r:Int)=0)=kn
 have E:jd (bz (bz e 203 (.bool kn)) 32 (.int way)) [(32,.int way),(203,.bool kn),(46,.loc d)]:=jd.set (jd.set λj v g=>by
  rw[kg]at g
  by_cases z:j=46
  ·rw[z,beq_self_eq_true]at g;cases g;rw[z];exact rA
  ·rw[beq_eq_false_iff_ne.2 z]at g;exact bo g)
 generalize bz (bz e 203 (.bool kn)) 32 (.int way)=e2 at*;have hw:way<4:=dN.1 ak1;refine cy ?_
 induction kn with
 |true=>
  refine BU (.val (.var E.rd))<|show eList _ _ _ _ from jA<|dh .nil λa0 s0 n0 h0 p0=>jA<|dh (.one .val) λa1 s1 n1 h1 p1=>jA<|dh (.one .val) λa2 s2 n2 h2 p2=>dH<|dh (.two .val .val) λa3 s3 n3 h3 p3=>⟨by exact cG rfl,cX λrl s4 n4 h4 p4=>?_⟩
  refine cz ((D2.ext p0).fz h0 (D2.new n0).1 (D2.new n0).2) λW0 P0 g0 d0 zz=>?_;obtain⟨W1,Q1,g1,d1,_⟩:=(d0.ext p1).fz h1 (d0.new n1).1 (d0.new n1).2;obtain⟨W2,Q2,g2,d2,_⟩:=(d1.ext p2).fz h2 (d1.new n2).1 (d1.new n2).2;obtain⟨W3,Q3,g3,d3,_⟩:=(d2.ext p3).fz h3 (d2.new n3).1 (d2.new n3).2;obtain⟨W4,Q4,g4,d4,_⟩:=(d3.ext p4).fz h4 (d3.new n4).1 (d3.new n4).2;have Yv:=Q3.trans Q4;have Yw:=Q2.trans Yv;have Yx:=Q1.trans Yw;have PW:=P0.trans Yx
  refine Yu (rows:=rows0) d4 (iN (aR hT (by decide:100≤498)) 2) hw (PW.at hN) (PW.at hP) ⟨[a0,a1,a2,a3],g4,rfl,λk a r ha hr=>?_⟩ akZ (by decide) (by decide) (λo=>rfl) (E.set.sub ⟨rfl,rfl,rfl,rfl,trivial⟩) q
  match k with
  |0=>obtain rfl:=bt ha;obtain rfl:=bt hr;exact Yx.at g0
  |1=>obtain rfl:=bt ha;obtain rfl:=bt hr;exact Yw.at g1
  |2=>obtain rfl:=bt ha;obtain rfl:=bt hr;exact Yv.at g2
  |3=>obtain rfl:=bt ha;obtain rfl:=bt hr;exact Q4.at g3
  |k+4=>exact bo hr
 |false=>
  exact yF (.val (.var E.rd))<|cu (.two (.var E.rd) .val)<|ahC D2 (iN (aR hT (by decide:100≤898)) 2) ⟨λrl rows W3 aQ ok n2 n4 dU hR D3=>Yu (kn:=false) D3 (iN (aR hT (by decide:100≤478)) 22) hw (dU.at hN) (dU.at hP) hR ok n2 n4 (λh=>eP h) (E.set.sub ⟨rfl,rfl,rfl,rfl,trivial⟩) q⟩
theorem acH{s:Addr}{vs:List Int}(hs:σ s=some (.ro (vs.map .int)))(hl:vs.length≤100)(hN:σ 1003=some (.ro m6))(hP:σ 1007=some (.ro m7))(q:∀ae,Q (.bool true) ae):O6 [.loc s] [] σ Q:=
 qE λe al1=>cy<|cu (.one .var)<|ahL hs hl ⟨λd c W ao PW D=>ak0 D (dE _) (PW.at hN) (PW.at hP) (hH ..) q⟩
set_option tactic.hygienic true
noncomputable def YP(_:cM)(h:Heap):Prop:=∃K:Frag,K.In h∧tU K=seen
theorem acA:importsNone qv=true:=by kernel_rfl
structure Pd(K:Frag):Prop where
 r:∀r∈rows,Bh K r.1 r.2.2.1 r.2.2.2=true∧x9 K r.1=bd r.2.1
 f:∀p∈yo,O7 K p=true
 m:∀p∈yp,Pb K p=true
 i:∀p∈yq,Pc K p=true
 l:nsIn K nV (fK "law")=some (some (.ref 1039))
 g:∀p∈tP,FF K p.1=some p.2
 d:∀d∈x8,FG K d.1=some d.2
 n:pD K 1003=some m6
 p:pD K 1007=some m7
theorem acB(e:tU K=seen):Pd K:=by
 refine xa (k0 e) λe1 e=>?_;refine xa (k0 e) λe2 e=>?_;refine xa (k0 e) λe3 e=>?_;refine xa (List.append_inj e rfl) λe4 e=>?_;refine xa (List.cons.inj e) λe5 e=>?_;refine xa (List.cons.inj e) λe6 e=>?_;obtain⟨e1,o5⟩:=cK.1 (show obs K=true from e1);obtain⟨e1,o4⟩:=cK.1 e1;obtain⟨e1,o3⟩:=cK.1 e1;obtain⟨o1,o2⟩:=cK.1 e1;exact⟨λr hr=>⟨iy.1 o1 r hr,YZ.1 e2 r hr⟩,iy.1 o2,iy.1 o3,iy.1 o4,beq_iff_eq.1 o5,YZ.1 e3,YZ.1 e4,e5,e6⟩
noncomputable def Pe(Z:Pd K)(w:cM)(h:Heap)(mg mb:Str→Option ak)(X:K.In h)(g:h.Ns nV mg)(b:h.Ns Fk mb)(nl:h.NoLimit)(bl:∀x:Str,x≠"__name__"→mb x=Mk x)(sy:∃o,h.get? vC=some o):Cx where
 prog:=PySem.Challenge.rw_nt0316_01.row.prog
 w:=w
 H0:=h
 K:=K
 mg:=mg
 mb:=mb
 jV:=X
 ng:=g
 nb:=b
 GI:=nl
 blt:=bl
 sys:=sy
 fld:=λC i hm=>by
  have:=Z.f _ hm;refine xa (cK.1 this) λg h7=>?_;refine xa (cK.1 g) λg h6=>?_;refine xa (cK.1 g) λg h5=>?_;refine xa (cK.1 g) λg h4=>?_;refine xa (cK.1 g) λg h3=>?_;refine xa (cK.1 g) λh1 h2=>?_;refine⟨cG h1,h2,h3,?_,n9 h5,h6,n9 h7⟩
  split at h4
  ·rename_i a e;exact⟨a,e,h4⟩
  ·cases h4
 BB:=λC i f hm=>by
  have:=Z.m _ hm;refine xa (cK.1 this) λg h5=>?_;refine xa (cK.1 g) λg h4=>?_;refine xa (cK.1 g) λg h3=>?_;refine xa (cK.1 g) λh1 h2=>?_;exact⟨cG h1,h2,n9 h3,h4,h5⟩
 FJ:=λC f hm=>by
  have:=Z.i _ hm;refine xa (cK.1 this) λg h4=>?_;refine xa (cK.1 g) λg h3=>?_;refine xa (cK.1 g) λh1 h2=>?_;exact⟨h1,n9 h2,h3,h4⟩
theorem acC{h:Heap}{mg mb:Str→Option ak}(X:K.In h)(g:h.Ns nV mg)(bl:∀x:Str,x≠"__name__"→mb x=Mk x)(e:FF K i=some x):∃v,(mg (nm i)=some v∨(mg (nm i)=none∧mb (nm i)=some v))∧aV h x v:=by
 refine a9 (vm.1 e) λo e1 e=>?_;refine a9 (vm.1 e) λv e2 e=>?_;refine a9 (tg.1 e) λy zz aq=>?_;subst aq;refine⟨v,?_,y.2 h X⟩
 induction o with
 |some u=>cases e2;exact .inl (mg_of X g e1)
 |none=>
  by_cases z:nm i="__name__"
  ·rw[if_pos z]at e2;cases e2
  ·rw[if_neg z]at e2;exact .inr ⟨mg_none_of X g e1,(bl _ z).trans e2⟩
theorem GJ{h:Heap}{a:Nat}(X:K.In h)(e:pD K a=some xs):∃items n,h.get? a=some (listOf items n)∧aN h xs items.toList:=by
 refine a9 (vm.1 e) λp zz e=>?_;exact⟨_,_,X _ _ p.2,Np e X⟩
noncomputable def vP(la:Addr)(vs:List Int):St:=λb=>if b=1003 then some (.ro m6)else if b=1007 then some (.ro m7)else if b=la then some (.ro (vs.map .int))else none
theorem acD{h:Heap}{is:List Int}(r:IntsAre vs is):aN h (is.map .int) vs:=by
 induction r with
 |nil=>exact .nil
 |cons n t _ ih=>exact .cons (.int _ _) ih
theorem acE{h:Heap}{is:List Int}(h1:aN h (.tup xs::ys) vs)(h2:aN h (is.map .int) vs):False:=by
 refine jg h1.iT λv ws aq r1 zz=>?_;subst aq
 induction is with
 |nil=>exact nomatch h2.jU
 |cons i is=>
  obtain⟨v',_,e,r2,_⟩:=aN.iT h2;obtain⟨a,_,_,rfl,_⟩:=r1.jl;refine xe r2.bZ λt aq=>?_;subst aq;exact nomatch e
theorem Pf{b:Addr}{vs:List Int}(e:vP la vs b=some o):(b=1003∧o=.ro m6)∨(b=1007∧o=.ro m7)∨(b=la∧o=.ro (vs.map .int)):=by
 unfold vP at e
 split at e
 ·exact .inl ⟨‹_›,(bt e).symm⟩
 split at e
 ·exact .inr (.inl ⟨‹_›,(bt e).symm⟩)
 split at e
 ·exact .inr (.inr ⟨‹_›,(bt e).symm⟩)
 ·cases e
theorem acF{c:Cx}{is:List Int}{n:Nat}(h1:pD c.K 1003=some m6)(h2:pD c.K 1007=some m7)(h3:c.H0.get? la=some (listOf vs.toArray n))(qC:aN c.H0 (is.map .int) vs):Rel c (vP la is) c.H0:=
 ⟨λz z e=>e,λb o e=>by
  rcases Pf e with⟨rfl,rfl⟩ |⟨rfl,rfl⟩ |⟨rfl,rfl⟩
  ·refine gH (GJ c.jV h1) λitems n h1 h2=>?_
   exact⟨⟨_,h1⟩,items,n,h1,h2⟩
  ·refine gH (GJ c.jV h2) λitems n h1 h2=>?_
   exact⟨⟨_,h1⟩,items,n,h1,h2⟩
  ·exact⟨⟨_,h3⟩,vs.toArray,n,h3,qC⟩⟩
theorem Pg{h:Heap}{is:List Int}{n:Nat}(X:K.In h)(e:pD K a=some (.tup xs::ys))(h3:h.get? la=some (listOf vs.toArray n))(qC:aN h (is.map .int) vs):la≠a:=λq=>by
 subst q;refine gH (GJ X e) λitems n h1 h2=>?_;rw[h1]at h3;cases h3;exact acE h2 qC
theorem acG{c:Cx}(hK:tS c)(G:x5 c)(hs:s.heap=c.H0){is:List Int}{n:Nat}(h1:pD c.K 1003=some m6)(h2:pD c.K 1007=some m7)(h3:c.H0.get? la=some (listOf vs.toArray n))(qC:aN c.H0 (is.map .int) vs)(hl:is.length≤100):
  bx c.M callerA (call (.ref 1039) [.ref la] []) (cC c (vP la is) s λx z=>x=.bool true) s:=
 have n1:=Pg c.jV h1 h3 qC;have n2:=Pg c.jV h2 h3 qC
 lY.toF (@aco _ ⟨G,hK⟩) (A:=callerA) (σ:=vP la is) (s:=s) (xs:=[.loc la]) (vs:=[.ref la]) (kx:=[]) (kv:=[]) ⟨by decide+kernel,by decide+kernel,rfl⟩ (hs▸acF h1 h2 h3 qC) (.cons (.loc la) .nil) .nil
  (acH (vs:=is) (by unfold vP;rw[if_neg n1,if_neg n2,if_pos rfl]) hl rfl rfl λz=>rfl)
theorem Ph:(defOf qv (fK "law")).isSome=true:=by kernel_rfl
noncomputable def dk:=(defOf qv (fK "law")).get Ph
theorem acI:dk.1.name=fK "law":=by kernel_rfl
theorem acJ:defOf qv PySem.Challenge.rw_nt0316_01.row.name=some (dk.1,dk.2):=(Option.some_get Ph).symm
theorem acK:PySem.Challenge.rw_nt0316_01.row.prog.theDef PySem.Challenge.rw_nt0316_01.row.name=some (dk.1.params,dk.1.body,dk.1.scope):=by kernel_rfl
theorem acL:kwWritten? dk.1.params.kwonlyargs dk.1.params.kw_defaults=some dk.2:=by kernel_rfl
set_option maxHeartbeats 0 in
theorem tt:PySem.Challenge.rw_nt0316_01.Holds:=by
 w_on
 refine holds_law acM λalC=>?_
 refine hoG (q:=qv) (loose:=BA) (Yf:=λs=>tU (fragOf s.heap)) (Ya:=λy=>seen) (YP:=YP) (N:=8000) acv (λw s e=>⟨_,acq _,e⟩) (λ_ _ _ ⟨K,X,e⟩ k=>⟨K,X.keeps k,e⟩) acJ acK acL (λy=>recFacts_nil rfl) (by rfl) (by first |assumption |decide+kernel) (by decide+kernel) ⟨rfl,rfl,rfl,rfl,rfl,by decide+kernel⟩ ?hw ?hc
 case hw=>w_witness2
 intro w cg bq mg mb G Y a Pj GL args vals as BC BD GN g7 hlo;refine cps λG9 g9=>?_;have acN:mg (ax "law")=some (.ref a):=acI▸Pj;clear Pj;obtain⟨K,X,e⟩:=Y;have Z:=acB e;clear e;have T:=G.T
 wrow_args BC BD GN g7 hlo
 rename_i is _ _ _ _ _ _ _ la vs _ hL ra w1 r0 hI BE hlen alD;have NS:=T.seer acA
 have sy:∃o,bq.heap.get? vC=some o:=by
  obtain⟨mm,⟨o,es,ep,ho,_⟩,_⟩:=NS.mods;exact⟨o,ho⟩
 have ha:a=1039:=by
  have e:=mg_of X T.g Z.l;rw[acN]at e;cases e;rfl
 subst ha
 have c6:∃n,bq.heap.get? la=some (listOf vs.toArray n):=by
  obtain⟨ol,rZ,g8,nl,lj⟩:=hL;rw[show ofPy (PyData.list (List.map PyData.int is))=WData.list _ from rfl]at w1
  cases w1 with
  |list e _=>
   rw[rZ]at e;cases e;cases lj;exact⟨_,rZ⟩
 obtain⟨n,h3⟩:=c6;have qC:aN bq.heap (is.map .int) vs:=acD hI;have GK:x5 (Pe Z w bq.heap mg mb X T.g T.b T.nolimit T.builtins sy):=λi x hl=>acC X T.g T.builtins (Z.g _ (lookup_mem hl));refine g9 ?_
 have run:=acG (c:=Pe Z w bq.heap mg mb X T.g T.b T.nolimit T.builtins sy) ⟨Z.r,Z.d⟩ GK (s:=bq) rfl Z.n Z.p h3 qC (by omega)
 refine fB run λv s' z=>?_;obtain⟨x,ae,r,wn,rfl⟩:=z;cases r
 refine⟨.inl ⟨.bool true,.bool true,[],rfl,λy=>rfl,.bool _,(by kernel_rfl),λy=>⟨.nil,by simp⟩⟩,.of_keep λb o e=>wn.ext.keep b o e λx hx=>?_,wn.os,.of_eq (wn.gens.trans GL)⟩
 rcases Pf hx with⟨_,rfl⟩ |⟨_,rfl⟩ |⟨_,rfl⟩<;>rfl
end Internal
theorem PySem.Challenge.cw_nt0316_01_holds : PySem.Challenge.rw_nt0316_01.Holds :=
  Internal.tt
