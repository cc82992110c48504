/- A part of the proof that Folded holds; no condition. -/
import Derived.Deep.QuietTactic
import Derived.BigQuiet
import Derived.Shelf.Strings.Cut
import Derived.Shelf.Strings.Prefix
import Derived.Shelf.Small.Strs
import Derived.Test.YtkgohmcmmcpigabGreatDoorW05
import Derived.Test.YtkgohmcmmcpigabGreatDoorW06
set_option linter.all false
set_option maxHeartbeats 4000000
set_option maxRecDepth 100000
namespace Go.Proofs.YtkgohmcmmcpigabGreatDoor
open Go
open Go.Lib renaming hid->AI,size_eq->SR,indexByte->SY,cut->Tr,toList_data->Tu,hasPrefix->TY
open _root_.List renaming mem_singleton->SC,range'->SE,size_toArray->T7,append_toArray->T8,length_nil->T9,length_cons->Tc,push_toArray->Td,length_drop->Te,cons_append->Tf,nil_append->Ti,mem_cons_self->Tl,length_take->Tx,getD_eq_getElem?_getD->TC,getElem?_cons_zero->TI,drop_eq_nil_of_le->TJ,mem_cons_of_mem->TQ,take_succ_cons->TR,mem_cons->TX,drop_eq_getElem_cons->U0,getElem?_eq_getElem->U4,getElem?_cons_succ->U6,take_zero->Ue,getElem?_toArray->Uf,range'_append_1->Uh,not_mem_nil->Un,all_eq_true->Uo
open Go renaming World->SD,Value->SH,execOp->Tm,Program->Ts,Frame->TK,callFunc->U5,Goroutine->Uk
open _root_.Nat renaming le_refl->SF,reduceSub->Tn,reduceAdd->Tp,le_trans->Tt,lt_or_ge->Tw,lt_irrefl->Tz,zero_le->TD,lt_of_lt_of_le->TV,le_of_lt->Uj,lt_succ_self->Um
open Go.Act renaming eval->SJ,put->T6
open Go.IntKind renaming wrap_i64->SN,i64->Sw,u64->Sz,u8->SW
open Go.Extern renaming find->SO,findNext->Tv
open _root_.Array renaming getElem_push_lt->SP,replicate_succ->SQ,replicate_zero->SV,getElem?_eq_some_iff->SZ,getElem?_push_lt->Tk,getElem?_eq_getElem->Tq,size->Ty,replicate->TF,getElem?_push->TU,size_push->U8,mem_iff_getElem?->U9,ext_getElem?->Ul,ofFn->Uv
open Go.World renaming cell?->T0,size_setCell->Tb,setCell->TW
open _root_.Option renaming map_eq_some_iff->T4,isSome_iff_exists->U3
open _root_.Ne renaming symm->T5
open Go.Frame renaming enter->TE,finish_at->Us
open _root_.UInt8 renaming toNat_inj->TP
open Go.Calls renaming quiet_of_same->TS
open Go.Value renaming bool->SG,ownBlock->Ua,int->AS,pointer->Sv,string->Sy,nilIface->SI,chan->SU,tuple->Tj,agg->TL,iface->Ud
open _root_.Bool renaming or_eq_true->Ut,eq_iff_iff->Uu
open Go.Obj renaming cells->Sx,chan->SS,coro->TH
open Go.Code renaming seq->Su,cond->SL,block->SX,region->Ta,loop->TZ
open Go.Ending renaming returned->SK
open Go.Item renaming inRegion->SM,code->Tg,inBlock->U2,inLoop->Ub
open Go.FrameMode renaming returning->Th,panicking->Ug
open Go.Fn renaming func->TG
open Go.Exit renaming normal->TN,ret->U1
open Go.CallKind renaming deferred->U7
section
open Go.RowKit
def lB:List Nat:=[99,100,134,135,136,137,138,139,140,32,141,158,159,160,51,172,173,174,72,185,188,190,191,192,193]
def bB:Nat->Option Code:=only lB
noncomputable abbrev PB:Ts:=alt Tryz.prog bB
def PB.func{f fn}(a:Tryz.prog.funcs[f]?=some fn)(h:lB.contains f=true):PB.funcs[f]?=some fn:=ry a (bP h)
@[go_sem] theorem PB.call{f}(args w)(h:22411256696355337635018245919571293222376615422615126802432>>>f%2=1):(U5 f args).run PB w= .ok (.enter f args) w:=I2 (n:=512) (by kernel_rfl) args w h
def Only(q:Nat)(w a:SD):Prop:=a.heap.size=w.heap.size/\∀b,b≠q->a.heap[b]?=w.heap[b]?
def Only.refl(q w):Only q w w:=⟨rfl,λ_ _=>rfl⟩
def Only.trans{q a b c}(h:Only q a b)(e:Only q b c):Only q a c:=⟨e.1.trans h.1,λx d=>(e.2 x d).trans (h.2 x d)⟩
def Only.set(q w i v):Only q w (w.setCell ⟨q,i,none⟩ v):=⟨Tb w _ v,λb a=>Below.heap_setCell w _ v b a⟩
def eu{w q S i}(h:a7 w q 77 (words S))(a:i<4):w.cell? ⟨q,i,none⟩=some (AS Sz (wz S i)):=by
 have:=h.cell i;rw[this];match i,a with
 |0,_=>rfl
 |1,_=>rfl
 |2,_=>rfl
 |3,_=>rfl
def yd{w q S T i}(h:a7 w q 77 (words S))(b:i<4)(a:∀j,j≠i->wz T j=wz S j):a7 (w.setCell ⟨q,i,none⟩ (AS Sz (wz T i))) q 77 (words T):=by
 have:=h.bI i (AS Sz (wz T i));have e:(words S).setIfInBounds i (AS Sz (wz T i))=words T:=by
  match i,b with
  |0,_=>simp[words,a 1,a 2,a 3]
  |1,_=>simp[words,a 0,a 2,a 3]
  |2,_=>simp[words,a 0,a 1,a 3]
  |3,_=>simp[words,a 0,a 1,a 2]
 rw[e]at this;omega
def add_any(q a g:Nat)(S w)(N:a<=255)(P:g<=255)(C:a7 w q 77 (words S)):
 Calls PB 137 #[Sv (some ⟨q,0,none⟩),AS SW a,AS SW g] w λe A=>e=SK (Tj #[])/\a7 A q 77 (words (jd S a g))/\Only q w A:=by
 go_enter PB.func Tryz.func137 (by decide),Tryz.ntmps137
 go_wp2;go_loopw [6] (λc wr=>∃k:Nat,(a<=k/\(k<=g+1\/k=a))/\k<=256/\c=AS Sw k/\a7 wr q 77 (words λx=>S x||decide (a<=x)&&decide (x<k))/\Only q w wr) λc _=>256- (intOf c).toNat
 case atStart=>
  refine⟨a,⟨SF _,.inr rfl⟩,by omega,rfl,?_,.refl ..⟩;have:(λx=>S x||decide (a<=x)&&decide (x<a))=S:=by
   funext x
   have:¬ (a<=x/\x<a):=by omega
   simp;omega
  rw[this];exact C
 case round=>
  obtain⟨k,F,K,rfl,b,y⟩:=hrel;generalize s:(λx=>S x||decide (a<=x)&&decide (x<k))=f at b;obtain⟨i,j,v,rfl⟩:∃i j,j<64/\k=64*i+j:=⟨k/64,k%64,Nat.mod_lt _ (by decide),by omega⟩;have d:=AI b;have p:=AI y;have m:=AI s;by_cases E:64*i+j<=g
  .have h:i<4:=by omega
   have Q:∀i,wr.frozen? ⟨q,i,none⟩=false:=b.frozen;have H:wr.cell? ⟨q,i,none⟩=some (AS Sz (wz f i)):=eu b h;have L:((64:Int)*i+j)/64=i:=by omega
   have M:bits .and Sw (64*i+j) 63=j:=by
    have:=bits_mask Sw 63 (by decide) λn R G=>by rw[SN];omega 6 (by decide) ((64:Int)*i+j) (by omega) (by omega)
    have t:(2:Int)^6=64:=rfl;rw[t,show(64:Int)-1=63 from rfl]at this;rw[this];omega
   have I:bits .or Sz (wz f i) (IntKind.u64.wrap (2^j))=wz (ins f (64*i+j)) i:=by
    have t:(2:Int)^j=((2^j:Nat):Int):=by norm_cast
    have D:(2:Nat)^j<2^64:=Nat.pow_lt_pow_right (by decide) v;rw[t,wraps_u64 _ (Int.natCast_nonneg _) (by exact_mod_cast D),G4 f i j v]
   go_wp2;go_region
   go_wp2;go_roundw
   case rel=>
    have b:=d.out;have y:=p.out;have s:=m.out;refine⟨64*i+j+1,⟨by omega,.inl (by omega)⟩,by omega,by push_cast;rfl,?_,y.trans (.set q wr i _)⟩;have r:(λx=>S x||decide (a<=x)&&decide (x<64*i+j+1))=ins f (64*i+j):=by
     rw[<- s];funext x;simp only[ins];cases S x
     .simp only[Bool.false_or];rw[Uu];simp;omega
     .simp
    rw[r];exact yd b h λB u=>s8 f i B j v u
   case measure=>simp[intOf];omega
  .go_wp2;go_end0
   refine⟨rfl,?_,p.out⟩;have r:jd S a g=f:=by
    rw[<- m.out];funext x;simp only[jd];cases S x
    .simp only[Bool.false_or];rw[Uu];simp;omega
    .simp
   rw[r];exact d.out
def tA:∀n:Nat,n<256->bits .and SW (n:Int) 2=if n/2%2=1 then 2 else 0:=by decide+kernel
def Dr:∀n:Nat,n<256->bits .and SW (n:Int) 1=if n%2=1 then 1 else 0:=by decide+kernel
def kL(S:cS):SH:=TL #[AS Sz (wz S 0),AS Sz (wz S 1),AS Sz (wz S 2),AS Sz (wz S 3)]
def iR(s:ByteArray)(p:Nat)(b:Nat)(c:Nat)(a:Bool):Array SH:=#[Sy s,AS Sw p,AS SW b,SU (some c),SG a]
def Iy:(PB.info? 77).map (·.size)=some 4:=by kernel_rfl
def FL:∃n e,PB.underlying 77=some (.array n e):=⟨_,_,(congrFun (aK ..) _).trans Tryz.underlying77⟩
def tE{fn p}(h:fn.results=#[.cell p 77]){R a w g b c e f}(l:a.tmps.getD p undef=Sv (some ⟨g,0,none⟩))(i:a7 w g 77 #[b,c,e,f])(k:a.defers=[])
 (m:R (SK (TL #[b,c,e,f])) w):bodyPost PB fn R U1 a w:=by
 have⟨n,d,j⟩:=FL;exact bodyPost_ret (results_cell_row h a.tmps w g _ _ _ _ l i j rfl Iy) k m
def Kp.alloc2(w o p):Kp w.heap.size [] w ((w.alloc o).alloc p):=((Kp.refl w).alloc (SF _) o).alloc (SF _) p
def sP(x c s p a b S w)(f:a<256)(d:a7 w x 220 (iR s p a c b)):
 Calls PB 139 #[Sv (some ⟨x,0,none⟩),kL S] w λe j=>e=SK (kL (if a/2%2=1 then del S 10 else S))/\Kp w.heap.size [] w j:=by
 have l:w.cell? ⟨x,2,none⟩=some (AS SW a):=d.cell 2;have i:=d.lt;have g:=AI d;unfold kL;by_cases h:a/2%2=1
 .have k:bits .and SW (a:Int) 2=2:=by rw[tA a f,if_pos h]
  have m:=N5 S;simp only[if_pos h,nM S 1 (by decide),nM S 2 (by decide),nM S 3 (by decide)];go_enter PB.func Tryz.func139 (by decide),Tryz.ntmps139
  go_wp2;exact tE rfl rfl (a7.new2 ..) rfl ⟨rfl,.alloc2 ..⟩
 .have k:bits .and SW (a:Int) 2=0:=by rw[tA a f,if_neg h]
  simp only[if_neg h];go_enter PB.func Tryz.func139 (by decide),Tryz.ntmps139
  go_wp2;exact tE rfl rfl (a7.new2 ..) rfl ⟨rfl,.alloc2 ..⟩
def wS(x c s p f a S w)(b:a7 w x 220 (iR s p f c a)):
 Calls PB 141 #[Sv (some ⟨x,0,none⟩),kL S] w λe g=>e=SK (kL (if a then pm S else S))/\Kp w.heap.size [] w g:=by
 have j:w.cell? ⟨x,4,none⟩=some (SG a):=b.cell 4;have h:=b.lt;have d:=AI b;unfold kL;cases a with
 |true=>
  have i:=Lz S;simp only[if_true,mw S 0 (by decide),mw S 2 (by decide),mw S 3 (by decide)];go_enter PB.func Tryz.func141 (by decide),Tryz.ntmps141
  go_wp2;exact tE rfl rfl (a7.new2 ..) rfl ⟨rfl,.alloc2 ..⟩
 |false=>
  simp only[if_neg Bool.false_ne_true];go_enter PB.func Tryz.func141 (by decide),Tryz.ntmps141
  go_wp2;exact tE rfl rfl (a7.new2 ..) rfl ⟨rfl,.alloc2 ..⟩
def Jk(c:Nat)(w):Calls PB 134 #[AS SW c] w λe h=>e=SK (AS Sw (fG c))/\h=w:=by
 unfold fG;by_cases f:c=40
 .subst f;go_enter PB.func Tryz.func134 (by decide),Tryz.ntmps134;go_wp2;go_ret;exact⟨rfl,rfl⟩
 by_cases a:c=41
 .subst a;go_enter PB.func Tryz.func134 (by decide),Tryz.ntmps134;go_wp2;go_ret;exact⟨rfl,rfl⟩
 by_cases d:c=124
 .subst d;go_enter PB.func Tryz.func134 (by decide),Tryz.ntmps134;go_wp2;go_ret;exact⟨rfl,rfl⟩
 by_cases g:c=94
 .subst g;go_enter PB.func Tryz.func134 (by decide),Tryz.ntmps134;go_wp2;go_ret;exact⟨rfl,rfl⟩
 by_cases b:c=36
 .subst b;go_enter PB.func Tryz.func134 (by decide),Tryz.ntmps134;go_wp2;go_ret;exact⟨rfl,rfl⟩
 rw[if_neg f,if_neg a,if_neg d,if_neg g,if_neg b];have k:(c:Int)≠40:=by omega
 have i:(c:Int)≠41:=by omega
 have l:(c:Int)≠124:=by omega
 have m:(c:Int)≠94:=by omega
 have j:(c:Int)≠36:=by omega
 go_enter PB.func Tryz.func134 (by decide),Tryz.ntmps134
 go_wp2;go_ret;exact⟨rfl,rfl⟩
def chk(Q:Ts)(l:List Nat)(p:Nat->Func->Bool):Bool:=l.all λf=>match Q.funcs[f]? with |some a=>p f a|none=>true
def AW{l f}(h:only l f=none):f∈l:=by
 simp_all[only]
def oC{Q l p}(h:chk Q l p=true){f fn}(b:Q.funcs[f]?=some fn)(a:only l f=none):p f fn=true:=by
 simp[chk]at h;have:=h f (AW a);rw[b]at this;omega
def O0{Q:Ts}{p}(h:Q.funcs.all p=true){f:Nat}{fn}(a:Q.funcs[f]?=some fn):p fn=true:=by
 grind
def fa(l):gS (only l):=λf c h=>by
 unfold only at h;grind
def qZ:∀(f:Nat) fn,Tryz.prog.funcs[f]?=some fn->(fn.name== "runtime.NumGoroutine")=false:=λf fn a=>by
 have h:Tryz.prog.funcs.all (λfn=> ! fn.name== "runtime.NumGoroutine")=true:=by kernel_rfl
 have:=O0 h a;simpa using this
section
variable[aD]{l:List Nat}
def sj(k:Tryz.prog.follows .staticDataAhead=true)(m:chk Tryz.prog l (λf fn=>match fn.body with |some c=>cT c&& (readies c).isEmpty|none=>true)=true)
 (t:∀f fn,Tryz.prog.funcs[f]?=some fn->only l f=none->fn.body.isNone=true->Tv fn=none/\∀e,SO fn=some e->∀args,bU (alt Tryz.prog (only l)) true false (e args)):bz (alt Tryz.prog (only l)):=by
 have j:=λf=> @ft Tryz.prog (only l) f
 have i:∀(f:Nat)(fn:Func),(alt Tryz.prog (only l)).funcs[f]?=some fn->(∃b,fn.body=some (.refuse b))\/only l f=none/\Tryz.prog.funcs[f]?=some fn:=λf fn a=>by
  rw[j]at a;obtain⟨g,p,rfl⟩:=T4.1 a;cases d:only l f with
  |some c=>
   obtain⟨b,rfl⟩:=fa l f c d;simp_all[ax]
  |none=>exact .inr ⟨rfl,p.trans (congrArg some (by unfold ax;rw[d]))⟩
 refine{wait:=λg p=> ?_,data:=k,num:=λf fn a=> ?_,next:=λf fn a q=>by grind,ext:=λf fn a q e s args=> ?_,nogo:=λf fn c a n=> ?_};unfold Program.stepOf;rw[Array.findIdx?_eq_none_iff];intro fn r;have⟨f,a⟩:=U9.1 r;rcases i f fn a with⟨b,h⟩|⟨d,a⟩<;>first |simp[h,readies]|(have:=oC m a d;cases n:fn.body<;>simp_all)
 rcases i f fn a with⟨b,h⟩|⟨d,a⟩<;>first |(rw[j]at a;obtain⟨g,p,rfl⟩:=T4.1 a;rw[j5];exact qZ f g p)|exact qZ f fn a
 rcases i f fn a with⟨b,h⟩|⟨d,a⟩
 rw[h]at q;cases q;exact(t f fn a d q).2 e s args;rcases i f fn a with⟨b,h⟩|⟨d,a⟩<;>first |(rw[h]at n;cases n;rfl)|(have:=oC m a d;rw[n]at this;rw[Bool.and_eq_true]at this;exact this.1)
end
section
attribute [local instance] dJ
def KY:bz PA:=by
 refine sj (by kernel_rfl) (by kernel_rfl) λf a c b e=> ?_
 have h:chk Tryz.prog [76,77,101,102,142,143,161,175,75] (λf a=>a.body.isSome)=true:=by kernel_rfl
 have:=oC h c b;cases d:a.body<;>simp_all
instance Pk(P a):∀n b,bU P true false (Extern.Bytes.loadBytes a n b):=by
 intro n;induction n generalizing a with
 |zero=>intro b;show bU P true false (pure b);exact zq2
 |succ n c=>
  intro b;refine @aX _ _ _ _ _ _ _ _ zq2 λv=> ?_
  split;exact c ..;exact zq2
instance OC(P v):bU P true false (Extern.Bytes.bytesOf v):=by
 cases v;case string s=>show bU P true false (pure s);exact zq2
 case slice a n c=>
  cases a with
  |none=>show bU P true false (pure ByteArray.empty);exact zq2
  |some a=>show bU P true false (Extern.Bytes.loadBytes a n .empty);exact zq2
 all_goals
  show bU P true false (stuck _);exact zq2
instance P4(P v):bU P true false (Extern.Bytes.asByte v):=by
 cases v;case int k n=>
  cases k;case u8=>show bU P true false (pure _);exact zq2
  all_goals
   show bU P true false (stuck _);exact zq2
 all_goals
  show bU P true false (stuck _);exact zq2
instance P2(P):bU P true false Extern.BytealgIndex.maxLen:=by
 unfold Extern.BytealgIndex.maxLen;exact zq2
theorem zs(P args):bU P true false (Extern.BytealgIndexByte.indexByte args):=by
 obtain⟨_|⟨b,_|⟨c,_|⟨d,l⟩⟩⟩⟩:=args;case cons.cons.nil=>
  refine @aX _ _ _ _ _ _ _ _ zq2 λ_=> ?_
  refine @aX _ _ _ _ _ _ _ _ zq2 λ_=> ?_
  split <;>exact zq2
 all_goals
  show bU P true false (stuck _);exact zq2
theorem HD(P args):bU P true false (Extern.BytealgIndex.index args):=by
 obtain⟨_|⟨b,_|⟨c,_|⟨d,l⟩⟩⟩⟩:=args;case cons.cons.nil=>
  refine @aX _ _ _ _ _ _ _ _ zq2 λ_=> ?_
  refine @aX _ _ _ _ _ _ _ _ zq2 λ_=> ?_
  refine @aX _ _ _ _ _ _ _ _ zq2 λ_=> ?_
  repeat' (first |exact zq2|split)
 all_goals
  show bU P true false (stuck _);exact zq2
def lD:SO Tryz.f72=some Extern.BytealgIndexByte.indexByte:=by kernel_rfl
def find_index:SO Tryz.f190=some Extern.BytealgIndex.index:=by kernel_rfl
def qu:Tv Tryz.f72=none:=by kernel_rfl
def wC:Tv Tryz.f190=none:=by kernel_rfl
def td{f fn}(b:Tryz.prog.funcs[f]?=some fn)(a:bB f=none)(c:fn.body.isNone=true):fn=Tryz.f72\/fn=Tryz.f190:=by
 have h:chk Tryz.prog lB λf fn=>fn.body.isSome||f==72||f==190=true:=by kernel_rfl
 have:=oC h b a;simp[Ut]at this;rcases this with(h|rfl)|rfl<;>simp_all
def KX:bz PB:=by
 refine sj (by kernel_rfl) (by kernel_rfl) λf h d c g=> ?_
 rcases td d c g with rfl|rfl<;>first |(refine⟨qu,λe b a=> ?_⟩;rw[lD]at b;cases b;exact zs ..)|(refine⟨wC,λe b a=> ?_⟩;rw[find_index]at b;cases b;exact HD ..)
end
instance Pr(P a):∀n b,Nf P (Extern.Bytes.loadBytes a n b):=by
 intro n;induction n generalizing a with
 |zero=>intro b;show Nf P (pure b);exact zq2
 |succ n c=>
  intro b;refine @dl _ _ _ _ _ zq2 λv=> ?_
  split;exact c ..;exact zq2
instance OO(P v):Nf P (Extern.Bytes.bytesOf v):=by
 cases v;case string s=>show Nf P (pure s);exact zq2
 case slice a n c=>
  cases a with
  |none=>show Nf P (pure ByteArray.empty);exact zq2
  |some a=>show Nf P (Extern.Bytes.loadBytes a n .empty);exact zq2
 all_goals
  show Nf P (stuck _);exact zq2
instance P8(P v):Nf P (Extern.Bytes.asByte v):=by
 cases v;case int k n=>
  cases k;case u8=>show Nf P (pure _);exact zq2
  all_goals
   show Nf P (stuck _);exact zq2
 all_goals
  show Nf P (stuck _);exact zq2
instance P7(P):Nf P Extern.BytealgIndex.maxLen:=by
 unfold Extern.BytealgIndex.maxLen;exact zq2
theorem Bj(P args):Nf P (Extern.BytealgIndexByte.indexByte args):=by
 obtain⟨_|⟨b,_|⟨c,_|⟨d,l⟩⟩⟩⟩:=args;case cons.cons.nil=>
  refine @dl _ _ _ _ _ zq2 λ_=> ?_
  refine @dl _ _ _ _ _ zq2 λ_=> ?_
  split <;>exact zq2
 all_goals
  show Nf P (stuck _);exact zq2
theorem K7(P args):Nf P (Extern.BytealgIndex.index args):=by
 obtain⟨_|⟨b,_|⟨c,_|⟨d,l⟩⟩⟩⟩:=args;case cons.cons.nil=>
  refine @dl _ _ _ _ _ zq2 λ_=> ?_
  refine @dl _ _ _ _ _ zq2 λ_=> ?_
  refine @dl _ _ _ _ _ zq2 λ_=> ?_
  repeat' (first |exact zq2|split)
 all_goals
  show Nf P (stuck _);exact zq2
def uy:bM:=[(53,19)]
def KW(a):l4 Tryz.prog a:=N1 (by kernel_rfl) a
def lA:List Nat:=[76,77,101,102,142,143,161,175,75]
def Eb{f fn}(b:Tryz.prog.funcs[f]?=some fn)(a:bA f=none)(d:fn.body.isNone=true):False:=by
 have h:chk Tryz.prog lA (λf fn=>fn.body.isSome)=true:=by kernel_rfl
 have:=oC h b a;cases c:fn.body<;>simp_all
def DG{l a d}(h:chk Tryz.prog l (λf fn=>match fn.body with |some c=>a.any (·.1==f)||codeOk Tryz.prog a d f c|none=>true)=true)(e:(l.all λf=>(Tryz.prog.inits.idxOf? f).isNone)=true):th Tryz.prog (only l) a d:=by
 refine⟨λf fn c g b i j=> ?_,λf b=> ?_⟩;have:=oC h g b;grind
 rw[Uo]at e;simpa using e f (AW b)
section
attribute [local instance] dJ
def Pz:mS Tryz.prog bA uy false where
 apt:=⟨qZ,λf d b a c=>(Eb b a c).elim⟩
 nf:=⟨λf d b a c=>(Eb b a c).elim⟩
 prog:=DG (l:=lA) (by kernel_rfl) (by kernel_rfl)
 zero:=KW
 tame:=KY
def Py:mS Tryz.prog bB [] true where
 apt:=⟨qZ,λf i c d g=>by
  rcases td c d g with rfl|rfl
  .exact⟨qu,_,lD,λh j D _=>zr⟩
  .exact⟨wC,_,find_index,λh j D F=>Hq F⟩⟩
 nf:=⟨λf i c d g e b P a=>by
  rcases td c d g with rfl|rfl
  .rw[lD]at b;cases b;exact Bj P a
  .rw[find_index]at b;cases b;exact K7 P a⟩
 prog:=DG (l:=lB) (by kernel_rfl) (by kernel_rfl)
 zero:=KW
 tame:=KX
end
end
section
open Go.Extern
section
variable[aD]{Q:Ts}{J:Nat->Func->Func}{g m n d:Bool}
class X1[aD](Q:Ts)(J:Nat->Func->Func)(g m n d:Bool):Prop where
 x1_0:∀h,Al Q J g m n true d (Rtype.ofHandle h)
 x1_1:∀t,Al Q J g m n true d (Rtype.handle t)
 x1_2:∀s t,Al Q J g m n true d (Rtype.noPack s t)
 x1_3:∀t,Al Q J g m n true d (Rtype.under t)
 x1_4:∀t,Al Q J g m n true d (Rtype.hasName t)
 x1_5:∀α s k,Al Q J g m n true d (ReflectliteValue.valueError (α:=α) s k)
 x1_6:∀s t,Al Q J g m n true d (Rtype.noPackNamed s t)
 x1_7:∀s t,Al Q J g m n true d (Rtype.noPackMethods s t)
instance:X1 Q J g m n d:=by
 constructor;case x1_6|x1_7=>
  intro s t;refine aP (by simp[nU]) ?_;refine aP (by simp[nU]) ?_;exact zq2
 all_goals
  intros
  first |unfold Rtype.ofHandle|unfold Rtype.handle|unfold Rtype.noPack|unfold Rtype.under|unfold Rtype.hasName|unfold ReflectliteValue.valueError
  repeat' (first
   |(with_reducible refine aP ?_ ?_)
   |(simp[nU])
   |(with_reducible refine aB ?_ λ_=> ?_)
   |exact zq2
   |split)
attribute [instance] X1.x1_0 X1.x1_1 X1.x1_2 X1.x1_3 X1.x1_4 X1.x1_5 X1.x1_6 X1.x1_7
class X2[aD](Q:Ts)(J:Nat->Func->Func)(g m n d:Bool):Prop where
 x2_0:∀t,Al Q J g m n true d (Rtype.spelt t)
 x2_1:∀t,Al Q J g m n true d (Rtype.kind t)
 x2_2:∀t,Al Q J g m n true d (Rtype.elem? t)
 x2_3:∀t u,Al Q J g m n true d (Rtype.implements t u)
 x2_4:∀t u,Al Q J g m n true d (Rtype.directlyAssignable t u)
 x2_5:∀t,Al Q J g m n true d (ReflectliteType.toType t)
 x2_6:∀t a f k,Al Q J g m n true d (ReflectliteValue.isNil t a f k)
instance:X2 Q J g m n d:=by
 constructor;all_goals
  intros
  first |unfold Rtype.spelt|unfold Rtype.kind|unfold Rtype.elem? |unfold Rtype.implements|unfold Rtype.directlyAssignable|unfold ReflectliteType.toType|unfold ReflectliteValue.isNil
  repeat' (first
   |(with_reducible refine aB ?_ λ_=> ?_)
   |exact zq2
   |split)
attribute [instance] X2.x2_0 X2.x2_1 X2.x2_2 X2.x2_3 X2.x2_4 X2.x2_5 X2.x2_6
instance(v):Al Q J g m n true d (ReflectliteType.ofRtype v):=by
 cases v;case agg l=>
  obtain⟨_|⟨h,_|⟨a,l⟩⟩⟩:=l;case cons.nil=>
   exact aB (s:=Rtype.ofHandle h) zq2 λt=>aB (s:=Rtype.noPack _ t) zq2 λ_=>eR
  all_goals exact(zq2:Al Q J g m n true d (stuck _))
 all_goals exact(zq2:Al Q J g m n true d (stuck _))
instance(v):Al Q J g m n true d (ReflectliteValue.partsAny v):=by
 cases v;case agg l=>
  obtain⟨_|⟨h,_|⟨p,_|⟨c,_|⟨b,l⟩⟩⟩⟩⟩:=l;case cons.cons.cons.nil=>
   cases c;case int k i=>
    cases k;case u64=>
     rcases i with(_|c)|c
     exact eR;all_goals
      cases p;case pointer a=>
       cases a;case some a=>exact aB (s:=Rtype.ofHandle h) zq2 λt=>eR
       all_goals exact(zq2:Al Q J g m n true d (stuck _))
      all_goals exact(zq2:Al Q J g m n true d (stuck _))
    all_goals exact(zq2:Al Q J g m n true d (stuck _))
   all_goals exact(zq2:Al Q J g m n true d (stuck _))
  all_goals exact(zq2:Al Q J g m n true d (stuck _))
 all_goals exact(zq2:Al Q J g m n true d (stuck _))
class X3[aD](Q:Ts)(J:Nat->Func->Func)(g m n d:Bool):Prop where
 x3_0:∀t,Al Q J g m n true d (ReflectliteType.elem t)
 x3_1:∀t u,Al Q J g m n true d (ReflectliteType.implements_ t u)
 x3_2:∀t u,Al Q J g m n true d (ReflectliteType.assignableTo t u)
 x3_3:∀t a f,Al Q J g m n true d (ReflectliteValue.mk t a f)
 x3_4:∀v,Al Q J g m n true d (ReflectliteValue.parts v)
instance:X3 Q J g m n d:=by
 constructor;all_goals
  intros
  first |unfold ReflectliteType.elem|unfold ReflectliteType.implements_|unfold ReflectliteType.assignableTo|unfold ReflectliteValue.mk|unfold ReflectliteValue.parts
  repeat' (first
   |(with_reducible refine aB ?_ λ_=> ?_)
   |exact zq2
   |split)
attribute [instance] X3.x3_0 X3.x3_1 X3.x3_2 X3.x3_3 X3.x3_4
instance IG(v):Al Q J g m n true d (ReflectliteValue.unpack v):=by
 unfold ReflectliteValue.unpack;repeat' (first
  |exact zq2
  |split)
instance PR(t a f k):Al Q J g m n true d (ReflectliteValue.elem t a f k):=by
 unfold ReflectliteValue.elem;repeat' (first
  |(with_reducible refine aB ?_ λ_=> ?_)
  |exact zq2
  |split)
theorem IH(a):Al Q J g m n true d (ReflectliteType.typeOf a):=by
 obtain⟨_|⟨v,_|⟨b,l⟩⟩⟩:=a;case cons.nil=>
  cases v;case nilIface=>exact eR
  case iface t v=>exact(zq2:Al Q J g m n true d (ReflectliteType.toType t))
  all_goals exact(zq2:Al Q J g m n true d (stuck _))
 all_goals exact(zq2:Al Q J g m n true d (stuck _))
theorem MS(a):Al Q J g m n true d (ReflectliteValue.set a):=by
 obtain⟨_|⟨v,_|⟨x,_|⟨c,l⟩⟩⟩⟩:=a;case cons.cons.nil=>
  refine aB zq2 λa=> ?_
  refine aB zq2 λb=> ?_
  repeat' (first
   |(with_reducible refine aB ?_ λ_=> ?_)
   |exact zq2
   |split)
 all_goals exact(zq2:Al Q J g m n true d (stuck _))
theorem MR{z f}(h:Al Q J g m n true d z)(e:∀t a b c,Al Q J g m n true d (f t a b c))(a):Al Q J g m n true d (ReflectliteValue.methodAny z f a):=by
 obtain⟨_|⟨v,_|⟨i,l⟩⟩⟩:=a;case cons.nil=>
  refine aB zq2 λb=> ?_
  split <;>first |exact h|exact e ..
 all_goals exact(zq2:Al Q J g m n true d (stuck _))
theorem Ln{z f}(h:Al Q J g m n true d z)(e:∀t a b c,Al Q J g m n true d (f t a b c))(a):Al Q J g m n true d (ReflectliteValue.method z f a):=by
 obtain⟨_|⟨v,_|⟨i,l⟩⟩⟩:=a;case cons.nil=>
  refine aB zq2 λb=> ?_
  split <;>first |exact h|exact e ..
 all_goals exact(zq2:Al Q J g m n true d (stuck _))
theorem OX{f}(b:∀t,Al Q J g m n true d (f t))(a):Al Q J g m n true d (ReflectliteType.method f a):=by
 obtain⟨_|⟨v,_|⟨c,l⟩⟩⟩:=a;case cons.nil=>exact aB zq2 b
 all_goals exact(zq2:Al Q J g m n true d (stuck _))
theorem O9{f}(e:∀t,Al Q J g m n true d (f t))(a):Al Q J g m n true d (ReflectliteType.abiMethod f a):=by
 obtain⟨_|⟨v,_|⟨h,l⟩⟩⟩:=a;case cons.nil=>
  exact aB zq2 λb=>aB zq2 λc=>e _
 all_goals exact(zq2:Al Q J g m n true d (stuck _))
theorem IJ{s f}(e:∀t u,Al Q J g m n true d (f t u))(a):Al Q J g m n true d (ReflectliteType.relation s f a):=by
 obtain⟨_|⟨v,_|⟨x,_|⟨c,l⟩⟩⟩⟩:=a;case cons.cons.nil=>
  cases x;case nilIface=>exact(zq2:Al Q J g m n true d (panicString _))
  case iface t u=>
   refine aB zq2 λb=> ?_
   repeat' (first
    |exact zq2)
  all_goals exact(zq2:Al Q J g m n true d (stuck _))
 all_goals exact(zq2:Al Q J g m n true d (stuck _))
end
def gg{b}{s:Sem SH}(h:∀L Q a g d,@Al L _ Q a g true false true d s):(∀a,Sm b a s)/\(∀P,Hu P s)/\∀[aD] P,bU P true false s:=
 ⟨λa=>⟨(@mr fo _ _ _ _ _ _ _ _ (h _ _ a false false).al).1⟩,λ_=>⟨(@mr fo _ _ _ _ _ _ _ _ (h _ _ (λ_ f=>f) false true).al).2.1 rfl⟩,λ_=>⟨xe (h _ _ (λ_ f=>f) true true).al⟩⟩
end
section
open Go.RowKit
def lH:List Nat:=[19,20,28,13,18,35,30,50,71,68,69,70,96,97,98,208,219,221,222,214,53,36,54,78,79,80,103,104,144,145,146,162,163,164,165,166,167,176,177,186,187,189,133,240,235,95,233,67,65,66,251,253,248,250,236,238,239,241,229,234,232,254,256,242,244,245,247,246,64,252,249,237,230,255,243,49,63,62,94,130,131,93,132,129,156,157,29,31,14,16,11,12,48,39,40,38,55,37,81,106,82,105,107,108,109,147,148,3,15,4,9,17,33,86,34,52,56,83,45,46,60,58,85,84,25,26,32,51,72,73]
@[reducible] noncomputable def fI:aD:=K0 Tryz.prog.globals.size
abbrev bH:Nat->Option Code:=only lH
noncomputable abbrev PH:Ts:=alt Tryz.prog bH
def Bv:SO Tryz.f68=some λargs=>Extern.ReflectliteValue.unpack (args.getD 0 (Tj #[])):=by kernel_rfl
def Fs:SO Tryz.f69=some (Extern.ReflectliteValue.methodAny (Extern.ReflectliteValue.valueError "reflectlite.Value.Type" 0) λt _ _ _=>Extern.ReflectliteType.toType t):=by kernel_rfl
def Dc:SO Tryz.f70=some (Extern.ReflectliteValue.method (Extern.ReflectliteValue.valueError "reflectlite.Value.IsNil" 0) Extern.ReflectliteValue.isNil):=by kernel_rfl
def Dd:SO Tryz.f96=some Extern.ReflectliteType.typeOf:=by kernel_rfl
def Ft:SO Tryz.f97=some (Extern.ReflectliteValue.method (Extern.ReflectliteValue.valueError "reflectlite.Value.Elem" 0) Extern.ReflectliteValue.elem):=by kernel_rfl
def HX:SO Tryz.f98=some Extern.ReflectliteValue.set:=by kernel_rfl
def Fw:SO Tryz.f208=some (Extern.ReflectliteType.abiMethod λt=>do pure (AS SW (<- Extern.Rtype.kind t))):=by kernel_rfl
def Bu:SO Tryz.f219=some (Extern.ReflectliteType.relation "AssignableTo" Extern.ReflectliteType.assignableTo):=by kernel_rfl
def Fv:SO Tryz.f221=some (Extern.ReflectliteType.method Extern.ReflectliteType.elem):=by kernel_rfl
def Fu:SO Tryz.f222=some (Extern.ReflectliteType.relation "Implements" Extern.ReflectliteType.implements_):=by kernel_rfl
def wU:SO Tryz.f129=some (Extern.Atomic.loadT (.int .u32)):=by kernel_rfl
def wT:SO Tryz.f156=some Extern.Atomic.storeT:=by kernel_rfl
def i5:SO Tryz.f73=some Extern.AbiNoEscape.same:=by kernel_rfl
section
variable[aD]{Q:Ts}{J:Nat->Func->Func}{g m n d:Bool}
theorem KP(t a):Al Q J g m n true d (Extern.Atomic.loadT t a):=by
 obtain⟨_|⟨v,_|⟨e,l⟩⟩⟩:=a;case cons.nil=>
  refine aB zq2 λb=> ?_
  refine aB zq2 λc=> ?_
  repeat' (first |exact zq2|split)
 all_goals exact(zq2:Al Q J g m n true d (stuck _))
theorem II(a):Al Q J g m n true d (Extern.Atomic.storeT a):=by
 obtain⟨_|⟨v,_|⟨x,_|⟨e,l⟩⟩⟩⟩:=a;case cons.cons.nil=>
  refine aB zq2 λb=> ?_
  refine aB zq2 λc=> ?_
  exact zq2
 all_goals exact(zq2:Al Q J g m n true d (stuck _))
theorem i3{n':Bool}:∀(n:Nat) a acc,Al Q J g m n' true d (Extern.Bytes.loadBytes a n acc)
 |0,a,acc=>(zq2:Al Q J g m n' true d (pure acc))
 |n+1,a,acc=>by
  unfold Extern.Bytes.loadBytes;refine aB zq2 λv=> ?_
  split
  .exact i3 n ..
  .exact zq2
theorem l3(a):Al Q J g m n true d (Extern.BytealgIndexByte.indexByte a):=by
 obtain⟨_|⟨v,_|⟨x,_|⟨e,l⟩⟩⟩⟩:=a;case cons.cons.nil=>
  refine aB (?_:Al Q J g m n true d (Extern.Bytes.bytesOf v)) λb=>aB (?_:Al Q J g m n true d (Extern.Bytes.asByte x)) λc=> ?_
  .unfold Extern.Bytes.bytesOf;split <;>first |exact zq2|exact i3 ..
  .unfold Extern.Bytes.asByte;split <;>exact zq2
  .split <;>exact zq2
 all_goals exact(zq2:Al Q J g m n true d (stuck _))
theorem nc(a):Al Q J g m n true d (Extern.AbiNoEscape.same a):=by
 obtain⟨_|⟨v,_|⟨e,l⟩⟩⟩:=a;case cons.nil=>exact(zq2:Al Q J g m n true d (pure v))
 all_goals exact(zq2:Al Q J g m n true d (stuck _))
end
def N2:List Nat:=[129,156,68,69,70,96,97,98,208,219,221,222,72,73]
def Iz{f fn}(b:Tryz.prog.funcs[f]?=some fn)(a:bH f=none)(d:fn.body.isNone=true):f∈N2:=by
 have h:chk Tryz.prog lH (λf fn=>fn.body.isSome||N2.contains f)=true:=by kernel_rfl
 have:=oC h b a;rw[Ut]at this;rcases this with h|h
 cases c:fn.body<;>simp_all;simpa using h
def y4{f fn}(i:Tryz.prog.funcs[f]?=some fn)(k:bH f=none)(m:fn.body.isNone=true):Tv fn=none/\∀e,SO fn=some e->∀args,(∀b,Sm Tryz.prog b (e args))/\(∀P,Hu P (e args))/\∀[aD] P,bU P true false (e args):=by
 have h:=Iz i k m;have a:∀{g:Func}{c:Array SH->Sem SH},Tryz.prog.funcs[f]?=some g->Tv g=none->SO g=some c->(∀args,(∀b,Sm Tryz.prog b (c args))/\(∀P,Hu P (c args))/\∀[aD](P:Ts),bU P true false (c args))->Tv fn=none/\∀e,SO fn=some e->∀args,(∀b,Sm Tryz.prog b (e args))/\(∀P,Hu P (e args))/\∀[aD](P:Ts),bU P true false (e args):=λj l n p=>by
  rw[i]at j;cases j;refine⟨l,λe d=> ?_⟩;rw[n]at d;cases d;exact p
 unfold N2 at h;simp only[TX,Un,or_false]at h;rcases h with rfl|rfl|rfl|rfl|rfl|rfl|rfl|rfl|rfl|rfl|rfl|rfl|rfl|rfl
 exact a Tryz.func129 (by kernel_rfl) wU λargs=>gg λ_ _ _ _ _=>KP ..
 exact a Tryz.func156 (by kernel_rfl) wT λargs=>gg λ_ _ _ _ _=>II _
 exact a Tryz.func68 (by kernel_rfl) Bv λargs=>gg λ_ _ _ _ _=>IG _
 exact a Tryz.func69 (by kernel_rfl) Fs λargs=>gg λ_ _ _ _ _=>MR zq2 (λ_ _ _ _=>zq2) _
 exact a Tryz.func70 (by kernel_rfl) Dc λargs=>gg λ_ _ _ _ _=>Ln zq2 (λ_ _ _ _=>zq2) _
 exact a Tryz.func96 (by kernel_rfl) Dd λargs=>gg λ_ _ _ _ _=>IH _
 exact a Tryz.func97 (by kernel_rfl) Ft λargs=>gg λ_ _ _ _ _=>Ln zq2 (λ_ _ _ _=>zq2) _
 exact a Tryz.func98 (by kernel_rfl) HX λargs=>gg λ_ _ _ _ _=>MS _
 exact a Tryz.func208 (by kernel_rfl) Fw λargs=>gg λ_ _ _ _ _=>O9 (λ_=>zq2) _
 exact a Tryz.func219 (by kernel_rfl) Bu λargs=>gg λ_ _ _ _ _=>IJ (λ_ _=>zq2) _
 exact a Tryz.func221 (by kernel_rfl) Fv λargs=>gg λ_ _ _ _ _=>OX (λ_=>zq2) _
 exact a Tryz.func222 (by kernel_rfl) Fu λargs=>gg λ_ _ _ _ _=>IJ (λ_ _=>zq2) _
 exact a Tryz.func72 (by kernel_rfl) lD λargs=>gg λ_ _ _ _ _=>l3 _
 exact a Tryz.func73 (by kernel_rfl) i5 λargs=>gg λ_ _ _ _ _=>nc _
section
attribute [local instance] fI
def OA:bz PH:=sj (by kernel_rfl) (by kernel_rfl) λf h c d b=>⟨(y4 c d b).1,λe g a=>((y4 c d b).2 e g a).2.2 _⟩
def Co:∀g,aD.lim<=g->Tryz.prog.stepOf g=none:=by
 have h:Tryz.prog.funcs.all (λb=>match b.body with |some c=>(readies c).all (· <Tryz.prog.globals.size)|none=>true)=true:=by kernel_rfl
 intro g e;unfold Program.stepOf;rw[Array.findIdx?_eq_none_iff];intro b a;have⟨f,j⟩:=U9.1 a;have:=O0 h j;cases d:b.body with
 |none=>simp
 |some c=>
  rw[d]at this;rw[Uo]at this;show(Option.map readies (some c)).any (λx=>x.contains g)=false;simp only[Option.map_some,Option.any_some];rw[Bool.eq_false_iff];intro i;exact absurd (of_decide_eq_true (this g (by simpa using i))) (Nat.not_lt.2 e)
def Oy:Twin Tryz.prog bH where
 wait:=Co
 data:=by kernel_rfl
 begin:=λf d c j b=>by
  have h:Tryz.prog.inits.all (λf=>match Tryz.prog.funcs[f]? with |some c=>c.body.isSome|none=>true)=true:=by kernel_rfl
  simp_all
 next:=λf c d b g=>(y4 d b g).1
 ext:=λf c d b g e i a=>((y4 d b g).2 e i a).1 _
def ek:On Tryz.prog bH where
 twin:=Oy
 tame:=OA
 refuse:=fa lH
 quiet:=λh=>h
 hush:=⟨λf l i b=>by
  rw[@ft Tryz.prog bH f]at i;obtain⟨g,j,rfl⟩:=T4.1 i;cases d:bH f with
  |some c=>
   simp_all[ax]
  |none=>
   have e:ax bH f g=g:=pS d;rw[e]at b ⊢;exact⟨(y4 j d b).1,λe k a=>((y4 j d b).2 e k a).2.1 _⟩⟩
end
def drop_at(s:ByteArray)(k h):s.data.toList.drop k=s[k]::s.data.toList.drop (k+1):=by
 rw[U0 (by simpa using h)];rfl
def drop_end(s:ByteArray)(k)(h:s.size<=k):s.data.toList.drop k=[]:=TJ (by simpa using h)
def wt(s w)(hs:s.size<=4294967280):
 Calls PB 173 #[Sy s] w λe j=>e=SK (Tj #[AS Sw (iJ s.data.toList).1,SG (iJ s.data.toList).2])/\j=w:=by
 go_enter PB.func Tryz.func173 (by decide),Tryz.ntmps173
 go_wp2;go_loopw [4,8] (λv i l=>∃k n:Nat,k<=s.size/\n<=21/\v=AS Sw n/\i=AS Sw k/\l=w/\r9 0 s.data.toList=r9 n (s.data.toList.drop k)) λ_ i _=>s.size- (intOf i).toNat
 case atStart=>exact⟨0,0,TD _,by decide,rfl,rfl,rfl,rfl⟩
 case round=>
  obtain⟨k,n,p,m,rfl,rfl,rfl,b⟩:=hrel;by_cases d:k<s.size
  .rw[drop_at s k d,r9]at b;have a:=AI b;have q:=s[k].toNat_lt;have g:=AI (Tw s[k].toNat 48);have h:=AI (Tw 57 s[k].toNat);go_wp2;case roundEnd=>
    rename_i c r;have b:=a.out;rw[if_neg (by omega)]at b;refine⟨⟨k+1,min (10*n+(s[k].toNat-48)) 21,by omega,Nat.min_le_right ..,?_,by push_cast;rfl,trivial,b⟩,by simp[intOf];omega⟩;congr 1;omega
   all_goals
    go_ret2
    rw[if_pos (by omega)]at a;simp[iJ,a.out]
  .have a:=AI b;go_wp2;all_goals
    rename_i c;go_ret2
    have b:=a.out;rw[drop_end s k (by omega),r9]at b;have e:iJ s.data.toList=(n,!s.data.toList.isEmpty&&decide (n<=20)):=by unfold iJ;rw[b]
    have g:decide ((n:Int)<=20)=decide (n<=20):=by rw[decide_eq_decide];omega
    rw[Tu]at c;refine⟨?_,rfl⟩;rw[e];try rw[Tu,g]
    try simp[c]
def PB.Nj:Go.Shelf.Ren:=⟨λ|145=>172|217=>51|219=>188|220=>185|224=>191|225=>190|266=>72|267=>192|314=>193|n=>n,λ|3=>3|4=>4|5=>5|9=>9|46=>196|51=>66|59=>287|146=>310|n=>n,λ|1=>1|n=>n⟩
def PB.lays145:Go.Proofs.Lays.n145 PB PB.Nj:= {
 mixed:=by kernel_rfl
 f145:=(PB.func Tryz.func172 (by decide)).trans (congrArg some (by kernel_rfl))
 f217:=(PB.func Tryz.func51 (by decide)).trans (congrArg some (by kernel_rfl))
 f219:=(PB.func Tryz.func188 (by decide)).trans (congrArg some (by kernel_rfl))
 f220:=(PB.func Tryz.func185 (by decide)).trans (congrArg some (by kernel_rfl))
 f224:=(PB.func Tryz.func191 (by decide)).trans (congrArg some (by kernel_rfl))
 f225:=(PB.func Tryz.func190 (by decide)).trans (congrArg some (by kernel_rfl))
 f266:=(PB.func Tryz.func72 (by decide)).trans (congrArg some (by kernel_rfl))
 f267:=(PB.func Tryz.func192 (by decide)).trans (congrArg some (by kernel_rfl))
 f314:=(PB.func Tryz.func193 (by decide)).trans (congrArg some (by kernel_rfl))
 t3:=(congrFun (aK ..) _).trans Tryz.underlying3
 a3:=λw=>(dP ..).trans (Tryz.isAgg3 w)
 z3:=λw=>(dk ..).trans (Tryz.sizeOf3 w)
 v3:=λw=>(cz ..).trans (Tryz.zeroValue3 w)
 t4:=(congrFun (aK ..) _).trans Tryz.underlying4
 a4:=λw=>(dP ..).trans (Tryz.isAgg4 w)
 z4:=λw=>(dk ..).trans (Tryz.sizeOf4 w)
 v4:=λw=>(cz ..).trans (Tryz.zeroValue4 w)
 t5:=(congrFun (aK ..) _).trans Tryz.underlying5
 a5:=λw=>(dP ..).trans (Tryz.isAgg5 w)
 z5:=λw=>(dk ..).trans (Tryz.sizeOf5 w)
 v5:=λw=>(cz ..).trans (Tryz.zeroValue5 w)
 t9:=(congrFun (aK ..) _).trans Tryz.underlying9
 a9:=λw=>(dP ..).trans (Tryz.isAgg9 w)
 z9:=λw=>(dk ..).trans (Tryz.sizeOf9 w)
 v9:=λw=>(cz ..).trans (Tryz.zeroValue9 w)
 t46:=(congrFun (aK ..) _).trans Tryz.underlying196
 a46:=λw=>(dP ..).trans (Tryz.isAgg196 w)
 z46:=λw=>(dk ..).trans (Tryz.sizeOf196 w)
 v46:=λw=>(cz ..).trans (Tryz.zeroValue196 w)
 t51:=(congrFun (aK ..) _).trans Tryz.underlying66
 a51:=λw=>(dP ..).trans (Tryz.isAgg66 w)
 z51:=λw=>(dk ..).trans (Tryz.sizeOf66 w)
 v51:=λw=>(cz ..).trans (Tryz.zeroValue66 w)
 t59:=(congrFun (aK ..) _).trans Tryz.underlying287
 a59:=λw=>(dP ..).trans (Tryz.isAgg287 w)
 z59:=λw=>(dk ..).trans (Tryz.sizeOf287 w)
 v59:=λw=>(cz ..).trans (Tryz.zeroValue287 w)
 t146:=(congrFun (aK ..) _).trans Tryz.underlying310
 a146:=λw=>(dP ..).trans (Tryz.isAgg310 w)
 z146:=λw=>(dk ..).trans (Tryz.sizeOf310 w)
 v146:=λw=>(cz ..).trans (Tryz.zeroValue310 w)
 g1:=by kernel_rfl}
def PB.Nk:Go.Shelf.Ren:=⟨λ|137=>32|217=>51|266=>72|n=>n,λ|3=>3|5=>5|9=>9|n=>n,λ|n=>n⟩
def PB.lays137:Go.Proofs.Lays.n137 PB PB.Nk:= {
 mixed:=by kernel_rfl
 f137:=(PB.func Tryz.func32 (by decide)).trans (congrArg some (by kernel_rfl))
 f217:=(PB.func Tryz.func51 (by decide)).trans (congrArg some (by kernel_rfl))
 f266:=(PB.func Tryz.func72 (by decide)).trans (congrArg some (by kernel_rfl))
 t3:=(congrFun (aK ..) _).trans Tryz.underlying3
 a3:=λw=>(dP ..).trans (Tryz.isAgg3 w)
 z3:=λw=>(dk ..).trans (Tryz.sizeOf3 w)
 v3:=λw=>(cz ..).trans (Tryz.zeroValue3 w)
 t5:=(congrFun (aK ..) _).trans Tryz.underlying5
 a5:=λw=>(dP ..).trans (Tryz.isAgg5 w)
 z5:=λw=>(dk ..).trans (Tryz.sizeOf5 w)
 v5:=λw=>(cz ..).trans (Tryz.zeroValue5 w)
 t9:=(congrFun (aK ..) _).trans Tryz.underlying9
 a9:=λw=>(dP ..).trans (Tryz.isAgg9 w)
 z9:=λw=>(dk ..).trans (Tryz.sizeOf9 w)
 v9:=λw=>(cz ..).trans (Tryz.zeroValue9 w)}
def PB.OK:Go.Shelf.Ren:=⟨λ|99=>159|206=>174|n=>n,λ|3=>3|4=>4|9=>9|n=>n,λ|n=>n⟩
def PB.lays99:Go.Proofs.Lays.n99 PB PB.OK:= {
 mixed:=by kernel_rfl
 f99:=(PB.func Tryz.func159 (by decide)).trans (congrArg some (by kernel_rfl))
 f206:=(PB.func Tryz.func174 (by decide)).trans (congrArg some (by kernel_rfl))
 t3:=(congrFun (aK ..) _).trans Tryz.underlying3
 a3:=λw=>(dP ..).trans (Tryz.isAgg3 w)
 z3:=λw=>(dk ..).trans (Tryz.sizeOf3 w)
 v3:=λw=>(cz ..).trans (Tryz.zeroValue3 w)
 t4:=(congrFun (aK ..) _).trans Tryz.underlying4
 a4:=λw=>(dP ..).trans (Tryz.isAgg4 w)
 z4:=λw=>(dk ..).trans (Tryz.sizeOf4 w)
 v4:=λw=>(cz ..).trans (Tryz.zeroValue4 w)
 t9:=(congrFun (aK ..) _).trans Tryz.underlying9
 a9:=λw=>(dP ..).trans (Tryz.isAgg9 w)
 z9:=λw=>(dk ..).trans (Tryz.sizeOf9 w)
 v9:=λw=>(cz ..).trans (Tryz.zeroValue9 w)}
def ext_list(s:ByteArray)(a b):(s.extract a b).data.toList=(s.data.toList.drop a).take (b-a):=by rw[Lib.extract_eq]
def ow(s:ByteArray)(a):(s.extract a s.size).data.toList=s.data.toList.drop a:=by
 rw[ext_list];grind [Te,SR]
def xW(s)(c:Nat)(w):Calls PB 32 #[Sy s,AS SW c] w λe a=>e=SK (AS Sw (SY s.data.toList c.toUInt8))/\a=w:=Any.strings_IndexByte PB.lays137 s c w
def DY(s a m w)(hs:s.size<4294967281)(b:w.cell? ⟨1,0,none⟩=some (AS Sw m)):
 Calls PB 172 #[Sy s,Sy a] w λe c=>e=SK (Tj #[Sy ⟨(Tr s.data.toList a.data.toList).1.toArray⟩,Sy ⟨(Tr s.data.toList a.data.toList).2.1.toArray⟩,SG (Tr s.data.toList a.data.toList).2.2])/\∃n,c=w.drewN n:=Any.strings_Cut PB.lays145 s a m w hs b
def M7(s p w):Calls PB 159 #[Sy s,Sy p] w λe a=>e=SK (SG (TY s.data.toList p.data.toList))/\a=w:=Any.strings_HasPrefix PB.lays99 s p w
def xK{x c s}{p q b:Nat}{a w}(h:a7 w x 220 (iR s p b c a)):a7 (w.setCell ⟨x,1,none⟩ (AS Sw q)) x 220 (iR s q b c a):=h.bI 1 _
def Ds(l:List UInt8):(⟨l.toArray⟩:ByteArray).size=l.length:=by rw[SR]
def FM(x c s p fl n w m)(hs:s.size<=1000)(hp:p<=s.size)(hm:w.cell? ⟨1,0,none⟩=some (AS Sw m))(D:a7 w x 220 (iR s p fl c n)):
 Calls PB 158 #[Sv (some ⟨x,0,none⟩)] w λe g=>e=SK (Tj #[AS Sw (dU (s.data.toList.drop p)).1,AS Sw (dU (s.data.toList.drop p)).2.1,SG (dU (s.data.toList.drop p)).2.2.1])/\
  a7 g x 220 (iR s (p+(dU (s.data.toList.drop p)).2.2.2) fl c n)/\Kp w.heap.size [x] w g:=by
 have c0:w.cell? ⟨x,0,none⟩=some (Sy s):=D.cell 0;have c1:w.cell? ⟨x,1,none⟩=some (AS Sw p):=D.cell 1;have f0:∀i,w.frozen? ⟨x,i,none⟩=false:=D.frozen;have hI:∀w,Calls PB 32 #[Sy (s.extract p s.size),AS SW 125] w λe g=>e=SK (AS Sw (SY (s.data.toList.drop p) 125))/\g=w:=λw=>by
  rw[<- ow];exact xW (s.extract p s.size) 125 w
 have hB':=AI D;have hss:=SR s;generalize hl:s.data.toList.drop p=b at hI ⊢;have hlen:p+b.length=s.size:=by rw[<- hl,Te];omega
 unfold dU;by_cases hi:SY b 125<0
 .rw[if_pos hi];have A:=AI hI;clear hI D hm hss;go_enter PB.func Tryz.func158 (by decide),Tryz.ntmps158
  go_wp2;go_quiet (first |(go_at_call 32;refine TS (A.out _)))
  go_wp2;go_ret3
  exact⟨rfl,hB'.out,.refl _⟩
 .have hk:=HE hi;have⟨k,z⟩:∃k:Nat,SY b 125=k:=⟨(SY b 125).toNat,by omega⟩;rw[if_neg hi];rw[z]at hk ⊢;simp only[z]at hI;rw[Int.toNat_natCast]at hk ⊢;have h:(s.extract p (p+k)).data.toList=b.take k:=by rw[ext_list,hl,Nat.add_sub_cancel_left]
  have hC:∀u:SD,u.cell? ⟨1,0,none⟩=some (AS Sw m)->Calls PB 172 #[Sy (s.extract p (p+k)),Sy ⟨#[44]⟩] u λe g=>e=SK (Tj #[Sy ⟨(Tr (b.take k) [44]).1.toArray⟩,Sy ⟨(Tr (b.take k) [44]).2.1.toArray⟩,SG (Tr (b.take k) [44]).2.2])/\∃m,g=u.drewN m:=λu hu=>by
   have:=DY (s.extract p (p+k)) ⟨#[44]⟩ m u (by rw[SR,h,Tx];omega) hu;rw[h]at this;exact this
  have hcl:(Tr (b.take k) [44]).1.length<=1000/\(Tr (b.take k) [44]).2.1.length<=1000:=by
   unfold Tr;split
   .simp only[Tx,Te];omega
   .simp only[Tx,T9];omega
  generalize hcu:Tr (b.take k) [44]=cu at hC hcl ⊢;have⟨lo,f,two⟩:=cu;dsimp only at hC hcl ⊢;have v:=AI λw=>wt ⟨lo.toArray⟩ w (by rw[Ds];omega)
  have hN2:=AI λw=>wt ⟨f.toArray⟩ w (by rw[Ds];omega)
  generalize hpk:p+k=q at hC h;have hw:IntKind.i64.wrap ((p:Int)+k)=(q:Int):=by rw[SN];omega
  have hpq:p<=q:=by omega
  have hqs:q<=s.size:=by omega
  have⟨j,hj⟩:∃j,j=k+1:=⟨_,rfl⟩;have hwk:IntKind.i64.wrap ((k:Int)+1)=(j:Int):=by rw[SN];omega
  have hwp:IntKind.i64.wrap ((p:Int)+(j:Int))=((p+j:Nat):Int):=by rw[SN];omega
  rw[<- hj];clear hj;have A:=AI hI;have hC2:=AI hC;have hm2:=AI hm;clear hI z hi hC D hm h hss hl hlen hk hcu;have hpk':=AI hpk;have c0_w:=c0;have c1_w:=c1;have f0_w:=f0;have M_w:=hm2;have B_w:=hB';have K_w:=AI (Kp.refl (B:=w.heap.size) (X:=[x]) w);have e0:(none:Option Nat)=none:=rfl;go_enter PB.func Tryz.func158 (by decide),Tryz.ntmps158
  go_wp2;go_quiet (first |(go_at_call 32;refine TS (A.out _)))
  go_wp2;have C:(w.drewN nq).cell? ⟨x,0,none⟩=some _:=c0_w;have y:(w.drewN nq).cell? ⟨x,1,none⟩=some _:=c1_w;have t:∀i,(w.drewN nq).frozen? ⟨x,i,none⟩=false:=f0_w;have l:=AI (show(w.drewN nq).cell? ⟨1,0,none⟩=some _ from M_w.out);have B_w1:=AI (show a7 (w.drewN nq) x .. from B_w.out);have K_w1:=AI (K_w.out.drewN nq);generalize w.drewN nq=E at *;go_quiet (first |(go_at_call 172;refine Calls.quiet_of (hC2.out _ l.out)))
  have c0_w2:(E.drewN nq).cell? ⟨x,0,none⟩=some _:=C;have c1_w2:(E.drewN nq).cell? ⟨x,1,none⟩=some _:=y;have f0_w2:∀i,(E.drewN nq).frozen? ⟨x,i,none⟩=false:=t;have M_w2:=AI (show(E.drewN nq).cell? ⟨1,0,none⟩=some _ from l.out);have B_w2:=AI (show a7 (E.drewN nq) x .. from B_w1.out);have K_w2:=AI (K_w1.out.drewN nq);generalize E.drewN nq=w2 at *;have hE:=AI (And.intro (xK (q:=p+j) B_w2.out) (K_w2.out.setCell (p:=⟨x,1,none⟩) (λ_=>SC.2 rfl) (AS Sw ((p+j:Nat):Int))));cases two with
  |false=>
   go_wp2_with (first |(go_at_call 173;refine(v.out _).mono ?_;rintro e g ⟨rfl,rfl⟩)|fail)
   go_ret3
   exact⟨rfl,hE.out⟩
  |true=>
   by_cases hh:f=[]
   .subst hh;go_wp2_with (first |(go_at_call 173;refine(v.out _).mono ?_;rintro e g ⟨rfl,rfl⟩)|fail)
    go_ret3
    exact⟨rfl,hE.out⟩
   .have hne:f.isEmpty=false:=by cases f with |nil=>exact absurd rfl hh|cons a r=>rfl
    have hh':=AI hh;go_wp2_with (first |(go_at_call_of 173 (Value.string ⟨lo.toArray⟩);refine(v.out _).mono ?_;rintro e g ⟨rfl,rfl⟩)|(go_at_call_of 173 (Value.string ⟨f.toArray⟩);refine(hN2.out _).mono ?_;rintro e g ⟨rfl,rfl⟩)|fail)
    all_goals
     go_ret3
     refine⟨?_,hE.out⟩;first |rfl|(simp_all;done)
def tc(l:List UInt8):SH:=Sy ⟨l.toArray⟩
def jb:List SH:=eN.flatMap λx=>[tc x.1,tc x.2]
def nC(w:SD):Prop:=∃t a,w.heap[2]?=some (Sx jb.toArray t a)
def vg(k:Nat):ByteArray:=⟨(eN.getD k ([],[])).1.toArray⟩
def vf(k:Nat):ByteArray:=⟨(eN.getD k ([],[])).2.toArray⟩
def Is(w):∀k:Nat,k<12->(Instr.index 292 (TL jb.toArray) (AS Sw (k:Int))).run PB w= .ok (TL #[Sy (vg k),Sy (vf k)]) w:=λk a=>match k,a with|0,_=>by kernel_rfl|1,_=>by kernel_rfl|2,_=>by kernel_rfl|3,_=>by kernel_rfl|4,_=>by kernel_rfl|5,_=>by kernel_rfl|6,_=>by kernel_rfl|7,_=>by kernel_rfl|8,_=>by kernel_rfl|9,_=>by kernel_rfl|10,_=>by kernel_rfl|11,_=>by kernel_rfl
def KF:∀k,k<12->(vf k).size%2=0/\(vf k).size<=8:=by decide+kernel
def KD(a k)(b:k<12):(eN.drop k).find? λx=>x.1==a=if(vg k).data.toList=a then some ((vg k).data.toList,(vf k).data.toList)else(eN.drop (k+1)).find? λx=>x.1==a:=by
 have c:k<eN.length:=b;have e:eN.drop k=((vg k).data.toList,(vf k).data.toList)::eN.drop (k+1):=by
  rw[U0 c];grind [vg,vf]
 rw[e];by_cases h:(vg k).data.toList=a;simp[h];grind
def MZ(r:Option (cS×Nat))(x b:Nat)(s:ByteArray)(p f c:Nat)(a:Bool)(w:SD)(e:Ending)(d:SD):Prop:=match r with|none=>e=SK (SG false)/\Kp w.heap.size [] w d|some y=>e=SK (SG true)/\a7 d x 220 (iR s (p+y.2) f c a)/\a7 d b 77 (words y.1)/\Kp w.heap.size [x,b] w d
def Iu(x c b s p fl C S rest w m)(hs:s.size<=1000)(hp:p+rest.size<=s.size)(hr:2<=rest.size)
 (hm:w.cell? ⟨1,0,none⟩=some (AS Sw m)) (hc:nC w) (hB:a7 w x 220 (iR s p fl c C)) (hb:a7 w b 77 (words S)) (hxb:x≠b):
 Calls PB 160 #[Sv (some ⟨x,0,none⟩),Sv (some ⟨b,0,none⟩),Sy rest] w λe t=>MZ (jE S rest.data.toList) x b s p fl c C w e t:=by
 have c0:w.cell? ⟨x,0,none⟩=some (Sy s):=hB.cell 0;have c1:w.cell? ⟨x,1,none⟩=some (AS Sw p):=hB.cell 1;have f0:∀i,w.frozen? ⟨x,i,none⟩=false:=hB.frozen;have hC:∀u:SD,u.cell? ⟨1,0,none⟩=some (AS Sw m)->Calls PB 172 #[Sy (rest.extract 2 rest.size),Sy ⟨#[58,93]⟩] u λe t=>e=SK (Tj #[Sy ⟨(Tr (rest.data.toList.drop 2) [58,93]).1.toArray⟩,Sy ⟨(Tr (rest.data.toList.drop 2) [58,93]).2.1.toArray⟩,SG (Tr (rest.data.toList.drop 2) [58,93]).2.2])/\∃m,t=u.drewN m:=λu hu=>by
  have:=DY (rest.extract 2 rest.size) ⟨#[58,93]⟩ m u (by rw[SR,ow,Te,<- SR];omega) hu;rw[ow]at this;exact this
 have hsz:=SR rest;generalize a:jE S rest.data.toList=res;unfold jE at a;dsimp only at a;generalize G:Tr (rest.data.toList.drop 2) [58,93]=cu at hC a;obtain⟨E,aft,ok⟩:=cu;dsimp only at hC a;have hnm:ok=true->E.length+4<=rest.size:=λh=>by
  subst h;have:=DW (rest.data.toList.drop 2) [58,93] (by rw[G]);rw[G]at this;simp only[Te,Tc,T9]at this;omega
 have h1b:1<rest.size:=by omega
 have hg1:rest.data.toList.getD 1 0=rest[1]'h1b:=by
  rw[TC,U4 (by omega)];rfl
 rw[hg1]at a;have hC2:=AI hC;have hm2:=AI hm;have hB2:=AI hB;have hb2:=AI hb;have hc2:=AI hc;have hcu2:=AI G;have h1z:(1:Int)<(rest.size:Int):=by omega
 clear hC hm hB hb hc G hsz hg1;by_cases h1:rest[1]=58
 .have h1n:rest[1].toNat=58:=by rw[h1];rfl
  cases ok with
  |false=>
   rw[if_pos (.inr rfl)]at a;subst a;go_enter PB.func Tryz.func160 (by decide),Tryz.ntmps160
   go_wp2_with (first |(go_at_call 172;refine(hC2.out _ hm2.out).mono ?_;rintro e t ⟨rfl,n1,rfl⟩)|fail)
   go_ret;exact⟨rfl,(Kp.refl w).drewN n1⟩
  |true=>
   rw[if_neg (by simp[h1])]at a;replace a:=AI a;obtain⟨tt,fr,hg⟩:=hc2.out;have D:=λk hk w=>Is w k hk
   generalize hcv:jb.toArray=cv at hg D;have hu:=(congrFun (aK Tryz.prog bB) 292).trans Tryz.underlying292;have hsz:(PB.info? 292).map (·.size)=some cv.size:=by rw[<- hcv];kernel_rfl
   clear hcv;have hix:=AI D;clear D;go_enter PB.func Tryz.func160 (by decide),Tryz.ntmps160
   go_wp2_with (first |(go_at_call 172;refine(hC2.out _ hm2.out).mono ?_;rintro e t ⟨rfl,n1,rfl⟩)|(refine wpList_load_row rfl 292 _ rfl 2 rfl tt _ fr _ hg hu rfl hsz ?_)|fail)
   have B1:=AI (show a7 (w.drewN n1) x .. from hB2.out);have b1:=AI (show a7 (w.drewN n1) b .. from hb2.out);have K1:=AI ((Kp.refl (B:=w.heap.size) (X:=[]) w).drewN n1);have hz1:(w.drewN n1).heap.size=w.heap.size:=rfl;clear c0 c1 f0 hc2 hm2 hC2 hg;generalize w.drewN n1=w1 at *;go_loopw [28] (λi wr=>∃k:Nat,k<=12/\i=AS Sw k/\Kp w.heap.size [] w wr/\eN.find? λx=>x.1==E=(eN.drop k).find? λx=>x.1==E) λi _=>12- (intOf i).toNat
   case atStart=>exact⟨0,by omega,rfl,K1.out,rfl⟩
   case round=>
    obtain⟨k,hk,rfl,hK,hf⟩:=hrel;by_cases l:k<12
    .rw[KD E k l]at hf;have hx:=hix.out k l;have hki:(k:Int)<12:=by omega
     have H:=AI (KF k l);have g:=AI hK;clear hK;generalize hN:vg k=N at *;generalize hR:vf k=R at *;have hN2:=AI hN;have hR2:=AI hR;by_cases hn:N.data.toList=E
     .rw[if_pos hn]at hf;have hn':(N.toList==E)=true:=by rw[Tu];simpa using hn
      have A:=AI hf;have hD:a7 (wr.alloc (Sx #[Sy N,Sy R] 291)) wr.heap.size 291 #[Sy N,Sy R]:=a7.new ..;have K:=g.out.alloc (SF _) (Sx #[Sy N,Sy R] 291);have I:=hb2.out.lt;have hxl:=hB2.out.lt;have hwl:=g.out.1;replace hD:=AI hD;have hbd:=AI (hb2.out.kp K I (by simp));replace K:=AI (K.mono (SF _) (X':=[b]) λx hx=>by cases hx);replace I:=AI I;replace hxl:=AI hxl;replace hwl:=AI hwl;go_wp2;generalize wr.alloc (Sx #[Sy N,Sy R] 291)=w2 at *;generalize wr.heap.size=d at *;go_loopw [12] (λi wi=>∃j:Nat,j<=R.size/\j%2=0/\i=AS Sw j/\a7 wi d 291 #[Sy N,Sy R]/\(∃S',a7 wi b 77 (words S')/\px S' (R.data.toList.drop j)=px S R.data.toList)/\Kp w.heap.size [b] w wi) λi _=>R.size- (intOf i).toNat
      case atStart=>exact⟨0,by omega,rfl,rfl,hD.out,⟨S,hbd.out,rfl⟩,K.out⟩
      case round=>
       obtain⟨j,hj,v,rfl,z,⟨S',n,f⟩,r⟩:=hrel;have cD:wr.cell? ⟨d,1,none⟩=some (Sy R):=z.cell 1;by_cases l:j<R.size
       .have hlt2:j+1<R.size:=by have:=H.out;omega
        rw[drop_at R j l,drop_at R (j+1) hlt2,px]at f;have h1i:(j:Int)<(R.size:Int):=by omega
        have hw2':IntKind.i64.wrap ((j:Int)+2)=((j+2:Nat):Int):=by have:=H.out;rw[SN];omega
        have⟨j1,hj1⟩:∃j1,j1=j+1:=⟨_,rfl⟩;have hlt3:j1<R.size:=by omega
        have h2i:(j1:Int)<(R.size:Int):=by omega
        have hw1:IntKind.i64.wrap ((j:Int)+1)=(j1:Int):=by have:=H.out;rw[SN];omega
        have hRj:R[j+1]=R[j1]:=by subst hj1;rfl
        rw[hRj]at f;have hA:=AI λu(hu:a7 u b 77 (words S'))=>add_any b R[j].toNat R[j1].toNat S' u (by have:=R[j].toNat_lt;omega) (by have:=R[j1].toNat_lt;omega) hu
        clear hRj hj1 hlt2;replace n:=AI n;replace z:=AI z;replace r:=AI r;replace f:=AI f;replace v:=AI v;go_wp2;go_still_tail 10,by kernel_rfl
        change wpList _ _ _ _ _ wr.drew;go_wp2_with (first |(go_at_call 137;refine(hA.out wr.drew n.out).mono ?_;rintro e t ⟨rfl,hb',hO⟩)|fail)
        go_roundw
        case rel=>
         have hdb:d≠b:=by have:=hwl.out;have:=I.out;omega
         have hD':a7 t d 291 #[Sy N,Sy R]:=(hO.2 d hdb).trans z.out;have hK':Kp w.heap.size [b] w t:=by
          refine r.out.trans ⟨Nat.le_of_eq hO.1.symm,λy _ hy=>hO.2 y λe=>hy (e▸SC.2 rfl)⟩
         have hh:∃i:Nat,i<=R.size/\i%2=0/\AS Sw ((j:Int)+2)=AS Sw (i:Int)/\a7 t d 291 #[Sy N,Sy R]/\(∃S2,a7 t b 77 (words S2)/\px S2 (R.data.toList.drop i)=px S R.data.toList)/\Kp w.heap.size [b] w t:=⟨j+2,by have:=H.out;have:=v.out;omega,by have:=v.out;omega,by push_cast;rfl,hD',⟨_,hb',f.out⟩,hK'⟩;first |exact hh|((repeat apply Exists.intro);exact⟨hh,rfl⟩)
        case measure=>simp[intOf];omega
       .have hjR:R.data.toList.drop j=[]:=drop_end R j (by omega);rw[hjR]at f;have hS2:S'=px S R.data.toList:=f;rw[hS2]at n;have hBx:=hB2.out.kp r hxl.out (by simpa using hxb);have c1:wr.cell? ⟨x,1,none⟩=some (AS Sw p):=hBx.cell 1;have f1:∀i,wr.frozen? ⟨x,i,none⟩=false:=hBx.frozen;have hnl:=hnm trivial;have⟨n4,hn4⟩:∃n4,n4=E.length+4:=⟨_,rfl⟩;have⟨pn,hpn⟩:∃pn,pn=p+n4:=⟨_,rfl⟩;have hw3:IntKind.i64.wrap ((E.length:Int)+4)=(n4:Int):=by rw[SN];omega
        have hw4:IntKind.i64.wrap ((p:Int)+(n4:Int))=(pn:Int):=by rw[SN];omega
        have hBx2:=AI (xK (q:=pn) hBx);have hbi2:=AI (n.far (p:=⟨x,1,none⟩) (λe=>hxb e.symm) (AS Sw (pn:Int)));have hKi2:=AI ((r.mono (SF _) (X':=[x,b]) λy hy _=>TQ _ hy).setCell (p:=⟨x,1,none⟩) (λ_=>Tl) (AS Sw (pn:Int)));have hr:=a.out;rw[A.out]at hr;replace hr:=AI hr;have hp4:=AI (hpn.trans (congrArg (p+ ·) hn4));have hnlt:¬ (j:Int)<(R.size:Int):=by omega
        clear hS2 f z hjR hx n r hBx hnm hnl hn4 hpn hs hp l hj v;go_wp2;go_ret;rw[<- hr.out];refine⟨rfl,?_,hbi2.out,hKi2.out⟩;show a7 _ x 220 (iR s (p+(E.length+4)) fl c C);rw[<- hp4.out];exact hBx2.out
     .rw[if_neg hn]at hf;have hn':(N.toList==E)=false:=by rw[Tu];simpa using hn
      have A:=AI hf;go_wp2;case roundEnd=>exact⟨⟨k+1,by omega,by push_cast;rfl,g.out.alloc (SF _) _,A.out⟩,by simp[intOf];omega⟩
    .have hd:eN.drop k=[]:=by
      obtain rfl:k=12:=by omega
      rfl
     rw[hd]at hf;have A:=AI hf;have g:=AI hK;go_wp2;go_ret;have hr:=a.out;rw[A.out]at hr;first
      |exact⟨rfl,g.out⟩
      |(rw[<- hr];exact⟨rfl,g.out⟩)
 .rw[if_pos (.inl h1)]at a;subst a;have h1':rest[1].toNat≠58:=λh=>h1 (by rw[<- TP];exact h)
  have h1':((rest[1].toNat:Int)=58)=False:=eq_false (by omega);go_enter PB.func Tryz.func160 (by decide),Tryz.ntmps160
  go_wp2_with (first |(go_at_call 172;refine(hC2.out _ hm2.out).mono ?_;rintro e t ⟨rfl,n1,rfl⟩)|fail)
  go_ret;exact⟨rfl,(Kp.refl w).drewN n1⟩
end
section
open Go.RowKit
attribute [local instance] dJ
variable{T:bz PB}
structure eK where
 x:Nat
 r:Nat
 cap:Nat
 rc:Nat
 tm:Bool
 m:Int
 s:ByteArray
 fl:Nat
 fold:Bool
structure SB(E:eK)(w:SD)(p:Nat)(F:Array SH):Prop where
 blk:a7 w E.x 220 (iR E.s p E.fl E.r E.fold)
 chan:∃sd,w.heap[E.r]?=some (SS E.cap F false sd E.rc E.tm)
 max:w.cell? ⟨1,0,none⟩=some (AS Sw E.m)
 cls:nC w
def eK.l(E:eK):List UInt8:=E.s.data.toList
def eK.ln(E:eK):Bool:=decide (E.fl/2%2=1)
section
variable{E:eK}{w w':SD}{p:Nat}{F:Array SH}
def SB.af(h:SB E w p F)(a:w'.heap=w.heap):SB E w' p F:=⟨h.blk.af a,by rw[a];exact h.chan,by unfold T0 at *;rw[a];exact h.max,by unfold nC at *;rw[a];exact h.cls⟩
def SB.lt(h:SB E w p F):E.x<w.heap.size/\E.r<w.heap.size/\E.x≠E.r:=by
 have⟨b,a⟩:=h.chan;exact⟨h.blk.lt,(SZ.1 a).1,h.blk.xT a⟩
def iq{w w':SD}{b}(h:w'.heap[b]?=w.heap[b]?)(i):w'.cell? ⟨b,i,none⟩=w.cell? ⟨b,i,none⟩:=by simp[T0,h]
def SB.max_lt(h:SB E w p F):1<w.heap.size:=by
 have:=h.max;grind [T0]
def SB.kY(h:SB E w p F):2<w.heap.size:=by
 have⟨t,a,h⟩:=h.cls<;>grind
def SB.keep(h:SB E w p F)(d:w'.heap[E.x]?=w.heap[E.x]?)(b:w'.heap[E.r]?=w.heap[E.r]?)(a:w'.heap[1]?=w.heap[1]?)(c:w'.heap[2]?=w.heap[2]?):SB E w' p F:=
 ⟨d.trans h.blk,by rw[b];exact h.chan,by rw[iq a];exact h.max,by unfold nC at *;rw[c];exact h.cls⟩
def SB.kp(h:SB E w p F){X}(a:Kp w.heap.size X w w')(e:E.x∉X)(c:E.r∉X)(b:1∉X)(d:2∉X):SB E w' p F:=
 h.keep (a.2 _ h.lt.1 e) (a.2 _ h.lt.2.1 c) (a.2 _ h.max_lt b) (a.2 _ h.kY d)
def SB.push(h:SB E w p F){c}(f:E.x≠E.r)(e:1≠E.r/\2≠E.r)(v):SB E (ay w E.r (SS E.cap (F.push v) false c E.rc E.tm)) p (F.push v):=by
 have a:∀b,b≠E.r->(ay w E.r (SS E.cap (F.push v) false c E.rc E.tm)).heap[b]?=w.heap[b]?:=λb g=>by
  show(w.heap.setIfInBounds E.r _)[b]?=_;rw[Array.getElem?_setIfInBounds_ne (T5 g)]
 have⟨i,d⟩:=h.chan;exact⟨(a _ f).trans h.blk,⟨c,rq d⟩,by rw[iq (a _ e.1)];exact h.max,by have:=h.cls;simp_all[nC]⟩
def SB.tL(h:SB E w p F):1≠E.r/\2≠E.r:=by
 have⟨d,b⟩:=h.chan;refine⟨λe=> ?_,λe=> ?_⟩;have:=h.max;simp_all[T0]
 have⟨t,c,a⟩:=h.cls<;>grind
end
def PB.send{a o x y}(r v)(h:o.op= .send x y)(b:a x=SU (some r))(c:a y=v)(u):
 (Tm a o).run PB u= .ok (.comm #[{chan:=SU (some r),send:=some v,zero:=Tj #[]}] true .send) u:=by
 simp_all[Tm]
def Av{E w p F}(S c)(h:SB E w p F)(v:F.size<E.cap):
 cb (aH T) 138 #[Sv (some ⟨E.x,0,none⟩),kL S,AS Sw c] w λe l=>e=SK (Tj #[])/\SB E l p (F.push (Tok.val 0 (iI c S)))/\Kp w.heap.size [E.r] w l:=by
 refine bu trivial (λl h=>nomatch h.1) (PB.func Tryz.func138 (by decide)) rfl ?_;simp only[Tryz.ntmps138,T7,Tc,T9,Tp,Tn,SQ,SV,Td,T8,Ti,Tf];unfold kL;refine ac λK j=> ?_
 refine ag λk n=> ?_
 have b:=AI (h.af n);have q:=AI ((Kp.refl (B:=w.heap.size) (X:=[E.r]) w).af n);have u:=congrArg Ty n;go_wp2;refine j.out _ _ ?_;have g:=AI (b.out.keep (w':=k.alloc (Sx #[AS Sz (wz S 0),AS Sz (wz S 1),AS Sz (wz S 2),AS Sz (wz S 3)] 77)) (Below.heap_alloc _ _ _ b.out.lt.1) (Below.heap_alloc _ _ _ b.out.lt.2.1) (Below.heap_alloc _ _ _ b.out.max_lt) (Below.heap_alloc _ _ _ b.out.kY));have s:=AI (q.out.alloc (SF _) (Sx #[AS Sz (wz S 0),AS Sz (wz S 1),AS Sz (wz S 2),AS Sz (wz S 3)] 77));have t:=AI (a7.new k 77 #[AS Sz (wz S 0),AS Sz (wz S 1),AS Sz (wz S 2),AS Sz (wz S 3)]);rw[u]at t;generalize k.alloc _=z at *;refine li 7 (by kernel_rfl) (by kernel_rfl) λK j f d=> ?_
 simp only[TR,Ue];have r:=g.out.blk.af d;have a:=t.out.af d;have D:f.cell? ⟨E.x,3,none⟩=some (SU (some E.r)):=r.cell 3;have y:f.cell? ⟨w.heap.size,0,none⟩=some _:=a.cell 0;have A:f.cell? ⟨w.heap.size,1,none⟩=some _:=a.cell 1;have G:f.cell? ⟨w.heap.size,2,none⟩=some _:=a.cell 2;have x:f.cell? ⟨w.heap.size,3,none⟩=some _:=a.cell 3;repeat still_step
 refine wpStill_nil (j.out _ ?_);have⟨C,i⟩:=g.out.chan;have m:=g.out.lt.2.2;refine mh (rest:=[]) rfl rfl (PB.send E.r _ rfl rfl rfl) i v ?_;refine az ?_;simp only[T6];refine bodyPost_end (results_none rfl ..) rfl ⟨rfl,g.out.push m g.out.tL _,s.out.ay (λ_=>SC.2 rfl) _⟩
def Sent(E:eK)(F:Array SH)(w a:SD)(X:List Nat)(y:mP):Prop:=∃e,SB E a y.p (F.push (Tok.val e y.t))/\(∀q,y.wr=some q->a7 a e 124 #[AS Sw q.2,AS Sw q.1]/\w.heap.size<=e)/\Kp w.heap.size X w a
def Sent.af{E F w w' d X y}(h:Sent E F w w' X y)(a:d.heap=w'.heap):Sent E F w d X y:=by
 have⟨e,f,c,g⟩:=h;exact⟨e,f.af a,λq b=>⟨(c q b).1.af a,(c q b).2⟩,g.af a⟩
def nF{E w p F}(k a)(h:SB E w p F)(z:F.size<E.cap):
 cb (aH T) 140 #[Sv (some ⟨E.x,0,none⟩),AS Sw k,AS Sw a] w λe x=>e=SK (SG false)/\Sent E F w x [E.r] (ez k a p):=by
 refine bu trivial (λx h=>nomatch h.1) (PB.func Tryz.func140 (by decide)) rfl ?_;simp only[Tryz.ntmps140,T7,Tc,T9,Tp,Tn,SQ,SV,Td,T8,Ti,Tf];refine ac λK r=> ?_
 refine ag λH b=> ?_
 have C:=AI (h.af b);have u:=AI ((Kp.refl (B:=w.heap.size) (X:=[E.r]) w).af b);have D:=congrArg Ty b;go_wp2;refine r.out _ _ ?_;refine ac λK r=> ?_
 refine ao ?_;show aV _ _ _ (SE 0 (10+1)) ..;refine aW 0 10 1 (λN A d b=> ?_) (by decide);simp only[zq1];have c:=AI (C.out.af b);have t:=AI (u.out.af b);have f:=(congrArg Ty b).trans D;have L:d.cell? ⟨E.x,3,none⟩=some (SU (some E.r)):=c.out.blk.cell 3;go_wp2;refine A.out _ _ ?_;have g:=AI (c.out.keep (w':=d.alloc (Sx #[AS Sw a,AS Sw k] 124)) (Below.heap_alloc _ _ _ c.out.lt.1) (Below.heap_alloc _ _ _ c.out.lt.2.1) (Below.heap_alloc _ _ _ c.out.max_lt) (Below.heap_alloc _ _ _ c.out.kY));have s:=AI (t.out.alloc (SF _) (Sx #[AS Sw a,AS Sw k] 124));have y:=AI (a7.new d 124 #[AS Sw a,AS Sw k]);have⟨n,j⟩:=g.out.chan;have i:=g.out.lt.2.2;refine mh (rest:=[]) rfl rfl (PB.send E.r _ rfl rfl rfl) j z ?_;refine az ?_;simp only[T6];refine r.out _ _ ?_;rw[f]at y;have v:Sent E F w (ay (d.alloc (Sx #[AS Sw a,AS Sw k] 124)) E.r (SS E.cap (F.push (Tok.val w.heap.size (Fy a))) false (n+1) E.rc E.tm)) [E.r] (ez k a p):=by
  refine⟨w.heap.size,g.out.push i g.out.tL _,λq G=> ?_,s.out.ay (λ_=>SC.2 rfl) _⟩;cases G;exact⟨y.out.ay λe=>by have:=c.out.lt.2.1;rw[f]at this;omega _,SF _⟩
 have v:=AI v;show cL _ _ _ _ (ay (d.alloc (Sx #[AS Sw a,AS Sw k] 124)) E.r (SS E.cap (F.push (Tok.val w.heap.size (Fy a))) false (n+1) E.rc E.tm));generalize ay (d.alloc (Sx #[AS Sw a,AS Sw k] 124)) E.r (SS E.cap (F.push (Tok.val w.heap.size (Fy a))) false (n+1) E.rc E.tm)=M at *;refine ag λI l=> ?_
 have m:=AI (v.out.af l);go_wp2;go_ret;exact⟨rfl,m.out⟩
def FW(c b:SH)(a:Act):Prop:=a.defers=[]/\a.tmps.size=46/\a.tmps.getD 0 undef=c/\a.tmps.getD 7 undef=b
def FW.out{b c a}(h:FW b c a):∃u:Nat->SH,a= {tmps:=(b::u 1::u 2::u 3::u 4::u 5::u 6::c::u 8::u 9::u 10::u 11::u 12::u 13::u 14::u 15::u 16::u 17::u 18::u 19::u 20::u 21::u 22::u 23::u 24::u 25::u 26::u 27::u 28::u 29::u 30::u 31::u 32::u 33::u 34::u 35::u 36::u 37::u 38::u 39::u 40::u 41::u 42::u 43::u 44::u 45::[]).toArray,defers:=[]}:=by
 have⟨e,f,rfl,rfl⟩:=h;have⟨d,g⟩:=a;subst e;exact⟨λi=>d.getD i undef,congrArg (λt=>({tmps:=t,defers:=[]}:Act)) (dp 46 d f)⟩
def SB.xc{E w p F}(h:SB E w p F):E.x≠1/\E.x≠2:=by
 refine⟨λe=> ?_,λe=> ?_⟩<;>first |(have a:=h.blk;rw[e]at a;have:=a.cell 0;rw[h.max]at this;cases this)|(have⟨t,d,b⟩:=h.cls;have a:=h.blk;simp only[e,a7,b]at a;cases congrArg (λo=>match o with |some (Sx c ..)=>c.size|_=>0) a)
def PV(E:eK)(F:Array SH)(w:SD)(y:mP)(a:Act)(b:SD):Prop:=
 FW (Sv (some ⟨E.x,0,none⟩)) (Sv (some ⟨w.heap.size,0,none⟩)) a/\∃e,SB E b y.p F/\a7 b w.heap.size 164 #[AS Sw y.t.kind,AS Sw y.t.at_,AS Sz y.t.b0,AS Sz y.t.b1,AS Sz y.t.b2,AS Sz y.t.b3,AS Sw y.t.least,AS Sw y.t.most,Sv (gH e y.t.bad)]/\
  (∀q,y.wr=some q->a7 b e 124 #[AS Sw q.2,AS Sw q.1]/\w.heap.size<=e/\e<b.heap.size)/\Kp w.heap.size [E.x] w b
def OJ{E w}{p:Nat}{F}(c:Nat)(f)(hc:c=42\/c=43\/c=63\/c=123)(hp:p=f+1)(hs:E.s.size<=1000)(hps:p<=E.s.size)(h:SB E w p F)(hF:F.size<E.cap):
 cb (aH T) 135 #[Sv (some ⟨E.x,0,none⟩),AS SW c,AS Sw f] w λe w'=>e=SK (SG (dS c f (E.l.drop p)).more)/\Sent E F w w' [E.x,E.r] (dS c f (E.l.drop p)):=by
 refine bu trivial (λw' h=>nomatch h.1) (PB.func Tryz.func135 (by decide)) rfl ?_;simp only[Tryz.ntmps135,T7,Tc,T9,Tp,Tn,SQ,SV,Td,T8,Ti,Tf];refine ac λK hK=> ?_
 refine ag λw0 A=> ?_
 have H1:=AI (h.af A);have hK1:=AI ((Kp.refl (B:=w.heap.size) (X:=[E.x]) w).af A);have hz:=congrArg Ty A;clear A h;go_wp2;refine hK.out _ _ ?_;clear hK K;refine ac λK hK=> ?_
 refine ag λw1 A=> ?_
 have I:=AI (H1.out.af A);have hK2:=AI (hK1.out.af A);have H:=(congrArg Ty A).trans hz;clear A H1 hK1 hz;go_wp2;refine hK.out _ _ ?_;clear hK K;have H3:=AI (I.out.keep (w':=w1.alloc (Sx #[AS Sw 7,AS Sw f,AS Sz 0,AS Sz 0,AS Sz 0,AS Sz 0,AS Sw 0,AS Sw (-1),Sv none] 164)) (Below.heap_alloc _ _ _ I.out.lt.1) (Below.heap_alloc _ _ _ I.out.lt.2.1) (Below.heap_alloc _ _ _ I.out.max_lt) (Below.heap_alloc _ _ _ I.out.kY));have hK3:=AI (hK2.out.alloc (SF _) (Sx #[AS Sw 7,AS Sw f,AS Sz 0,AS Sz 0,AS Sz 0,AS Sz 0,AS Sw 0,AS Sw (-1),Sv none] 164));have R:=a7.new w1 164 #[AS Sw 7,AS Sw f,AS Sz 0,AS Sz 0,AS Sz 0,AS Sz 0,AS Sw 0,AS Sw (-1),Sv none];rw[H]at R;replace R:=AI R;have Q:=AI (H▸I.out.lt.1);have D:=AI (H▸I.out.lt.2.1);have Z:=AI (H▸I.out.max_lt);have hcx:=AI (H▸I.out.kY);have hxm:=AI I.out.xc.1;have hxc:=AI I.out.xc.2;clear I hK2 H;generalize w1.alloc (Sx #[AS Sw 7,AS Sw f,AS Sz 0,AS Sz 0,AS Sz 0,AS Sz 0,AS Sw 0,AS Sw (-1),Sv none] 164)=w2 at *;clear w0 w1;refine bQ (PV E F w (dS c f (E.l.drop p))) ?_ ?_
 .refine ag λs A=> ?_
  have P:=AI (H3.out.af A);have hK4:=AI (hK3.out.af A);have g:=AI (R.out.af A);clear H3 hK3 R A;have fD:∀i,s.frozen? ⟨w.heap.size,i,none⟩=false:=g.out.frozen;have d6:s.cell? ⟨w.heap.size,6,none⟩=some _:=g.out.cell 6;have d7:s.cell? ⟨w.heap.size,7,none⟩=some _:=g.out.cell 7;have d:∀i(v:SH) u,∀b,b<w.heap.size->(TW u ⟨w.heap.size,i,none⟩ v).heap[b]?=u.heap[b]?:=λi v u b hb=>Below.heap_setCell u _ v b λe=>by dsimp only at e;omega
  have n:∀i(v:SH),SB E (s.setCell ⟨w.heap.size,i,none⟩ v) p F/\Kp w.heap.size [E.x] w (s.setCell ⟨w.heap.size,i,none⟩ v):=λi v=>⟨P.out.keep (d i v s _ Q.out) (d i v s _ D.out) (d i v s _ Z.out) (d i v s _ hcx.out),hK4.out.setCell (λh=>absurd h (Tz _)) v⟩
  replace n:=AI n;replace d:=AI d;rcases hc with rfl|rfl|rfl|rfl
  .go_wp2;refine⟨?_,0,hp▸P.out,g.out,λq N=>(by cases N),hK4.out⟩;exact⟨rfl,rfl,rfl,rfl⟩
  .go_wp2;refine⟨?_,0,show SB E _ (f+1) F from hp▸(n.out ..).1,g.out.bI 6 (AS Sw 1),λq N=>(by cases N),(n.out ..).2⟩;exact⟨rfl,rfl,rfl,rfl⟩
  .go_wp2;refine⟨?_,0,show SB E _ (f+1) F from hp▸(n.out ..).1,g.out.bI 7 (AS Sw 1),λq N=>(by cases N),(n.out ..).2⟩;exact⟨rfl,rfl,rfl,rfl⟩
  .have hBd:=AI λu(hu:u.heap=s.heap)=>FM E.x E.r E.s p E.fl E.fold u E.m hs hps (by unfold T0;rw[hu];exact P.out.max) (P.out.blk.af hu)
   have hy:dS 123 f (E.l.drop p)=⟨od f (dU (E.l.drop p)).1 (dU (E.l.drop p)).2.1 !(dU (E.l.drop p)).2.2.1,if(dU (E.l.drop p)).2.2.1 then none else some (7,(f:Int)),(dU (E.l.drop p)).2.2.1,p+(dU (E.l.drop p)).2.2.2⟩:=by
    rw[hp];rfl
   rw[hy];unfold eK.l at *;generalize dU (E.s.data.toList.drop p)=bd at *;obtain⟨G,C,ok,nb⟩:=bd;dsimp only at hBd ⊢;have hAft:=AI (λj(z:a7 j E.x 220 (iR E.s (p+nb) E.fl E.r E.fold))(l:Kp s.heap.size [E.x] s j)=>(show SB E j (p+nb) F/\Kp w.heap.size [E.x] w j/\a7 j w.heap.size 164 _/\w.heap.size<j.heap.size from by
    have hxr:=P.out.lt.2.2;obtain⟨sd,hch⟩:=P.out.chan;have hd:=g.out.lt;have k1:=l.2 _ P.out.lt.2.1 (by simpa using T5 hxr);have k2:=l.2 _ P.out.max_lt (by simpa usingλe=>hxm.out e.symm);have k3:=l.2 _ P.out.kY (by simpa usingλe=>hxc.out e.symm);have k4:=l.2 _ hd (by have:=Q.out;simp;omega);have hcl:=P.out.cls;exact⟨⟨z,⟨sd,k1.trans hch⟩,by rw[iq k2];exact P.out.max,by unfold nC at *;rw[k3];exact hcl⟩,hK4.out.trans (l.mono (Uj hd) λy hy _=>hy),k4.trans g.out,TV hd l.1⟩))
   cases ok with
   |true=>
    go_wp2_with (first |(go_at_call 158;refine(hBd.out s rfl).mono ?_;rintro e j ⟨rfl,z,l⟩;obtain⟨x,S,r,L5⟩:=hAft.out j z l;have d6:j.cell? ⟨w.heap.size,6,none⟩=some _:=r.cell 6;have d7:j.cell? ⟨w.heap.size,7,none⟩=some _:=r.cell 7;have fD:∀i,j.frozen? ⟨w.heap.size,i,none⟩=false:=r.frozen;replace x:=AI x;replace S:=AI S;replace r:=AI r;clear z l)|fail)
    have hP:=SB.keep (w':=(j.setCell ⟨w.heap.size,6,none⟩ (AS Sw G)).setCell ⟨w.heap.size,7,none⟩ (AS Sw C)) x.out ((d.out _ _ _ _ Q.out).trans (d.out _ _ _ _ Q.out)) ((d.out _ _ _ _ D.out).trans (d.out _ _ _ _ D.out)) ((d.out _ _ _ _ Z.out).trans (d.out _ _ _ _ Z.out)) ((d.out _ _ _ _ hcx.out).trans (d.out _ _ _ _ hcx.out));refine⟨?_,0,hP,(r.out.bI 6 (AS Sw G)).bI 7 (AS Sw C),λq N=>(by cases N),(S.out.setCell (λh=>absurd h (Tz _)) _).setCell (λh=>absurd h (Tz _)) _⟩;exact⟨rfl,rfl,rfl,rfl⟩
   |false=>
    go_wp2_with (first |(go_at_call 158;refine(hBd.out s rfl).mono ?_;rintro e j ⟨rfl,z,l⟩;obtain⟨x,S,r,L5⟩:=hAft.out j z l;have d6:j.cell? ⟨w.heap.size,6,none⟩=some _:=r.cell 6;have d7:j.cell? ⟨w.heap.size,7,none⟩=some _:=r.cell 7;have d8:j.cell? ⟨w.heap.size,8,none⟩=some _:=r.cell 8;have fD:∀i,j.frozen? ⟨w.heap.size,i,none⟩=false:=r.frozen;replace x:=AI x;replace S:=AI S;replace r:=AI r;clear z l)|fail)
    generalize hW:((j.setCell ⟨w.heap.size,8,none⟩ (Sv (some ⟨j.heap.size,0,none⟩))).setCell ⟨w.heap.size,6,none⟩ (AS Sw G)).setCell ⟨w.heap.size,7,none⟩ (AS Sw C)=W;have hWs:W.heap.size=j.heap.size:=by rw[<- hW,Tb,Tb,Tb]
    have hWb:∀b,b<w.heap.size->W.heap[b]?=j.heap[b]?:=λb hb=>by rw[<- hW,d.out _ _ _ b hb,d.out _ _ _ b hb,d.out _ _ _ b hb]
    have hWD:a7 W w.heap.size 164 _:=hW▸((r.out.bI 8 (Sv (some ⟨j.heap.size,0,none⟩))).bI 6 (AS Sw G)).bI 7 (AS Sw C);have hWK:Kp w.heap.size [E.x] w W:=hW▸((S.out.setCell (λh=>absurd h (Tz _)) _).setCell (λh=>absurd h (Tz _)) _).setCell (λh=>absurd h (Tz _)) _;have hA:∀b,b<w.heap.size->(W.alloc (Sx #[AS Sw f,AS Sw 7] 124)).heap[b]?=j.heap[b]?:=λb hb=>(Below.heap_alloc _ _ _ (by omega)).trans (hWb b hb)
    refine⟨?_,j.heap.size,show SB E _ (f+1+nb) F from hp▸x.out.keep (hA _ Q.out) (hA _ D.out) (hA _ Z.out) (hA _ hcx.out),hWD.alloc _,λq N=> ?_,hWK.alloc (SF _) _⟩
    .exact⟨rfl,rfl,rfl,rfl⟩
    .cases N;refine⟨?_,Uj L5,by simp[hWs]⟩;rw[<- hWs];exact a7.new ..
 .intro a s ⟨hfr,e,x,r,hE5,S⟩;obtain⟨u,rfl⟩:=hfr.out;have hyk:∃k0 a0,(dS c f (E.l.drop p)).t.kind=k0/\(dS c f (E.l.drop p)).t.at_=a0:=⟨_,_,rfl,rfl⟩;have L:(dS c f (E.l.drop p)).more= !(dS c f (E.l.drop p)).t.bad:=by
   unfold dS;repeat(first |split |rfl)
   dsimp only[od];cases(dU (E.l.drop p)).2.2.1<;>rfl
  generalize dS c f (E.l.drop p)=y at *;have⟨⟨k,ta,b0,G,C,b3,le,mo,m⟩,wr,more,yp⟩:=y;dsimp only at x r hE5 L ⊢;replace x:=AI x;replace r:=AI r;replace hE5:=AI hE5;replace S:=AI S;refine ac λM hM=> ?_
  refine li 5 (by kernel_rfl) (by kernel_rfl) λK hK j he4=> ?_
  simp only[TR,Ue];have hB4:=x.out.blk.af he4;have g:=r.out.af he4;have c3:j.cell? ⟨E.x,3,none⟩=some (SU (some E.r)):=hB4.cell 3;have d0:j.cell? ⟨w.heap.size,0,none⟩=some _:=g.cell 0;have d1:j.cell? ⟨w.heap.size,1,none⟩=some _:=g.cell 1;have d2:j.cell? ⟨w.heap.size,2,none⟩=some _:=g.cell 2;have d3:j.cell? ⟨w.heap.size,3,none⟩=some _:=g.cell 3;have d4:j.cell? ⟨w.heap.size,4,none⟩=some _:=g.cell 4;have d5:j.cell? ⟨w.heap.size,5,none⟩=some _:=g.cell 5;have d6:j.cell? ⟨w.heap.size,6,none⟩=some _:=g.cell 6;have d7:j.cell? ⟨w.heap.size,7,none⟩=some _:=g.cell 7;have d8:j.cell? ⟨w.heap.size,8,none⟩=some _:=g.cell 8;repeat still_step
  refine wpStill_nil (hK.out _ ?_);have⟨sd,hch⟩:=x.out.chan;have hxr:=x.out.lt.2.2;have hdr:w.heap.size≠E.r:=λe=>by have:=D.out;omega
  have hFv:Tok.val e ⟨k,ta,b0,G,C,b3,le,mo,m⟩=TL #[AS Sw k,AS Sw ta,AS Sz b0,AS Sz G,AS Sz C,AS Sz b3,AS Sw le,AS Sw mo,Sv (gH e m)]:=rfl;refine mh (rest:=[]) (v:=Tok.val e ⟨k,ta,b0,G,C,b3,le,mo,m⟩) rfl rfl (PB.send E.r _ rfl rfl ?_) hch hF ?_
  .rfl
  refine az ?_;simp only[T6];refine hM.out _ _ ?_;have hS:Sent E F w (ay s E.r (SS E.cap (F.push (Tok.val e ⟨k,ta,b0,G,C,b3,le,mo,m⟩)) false (sd+1) E.rc E.tm)) [E.x,E.r] ⟨⟨k,ta,b0,G,C,b3,le,mo,m⟩,wr,more,yp⟩:=by
   refine⟨e,x.out.push hxr x.out.tL _,λq N=> ?_,(S.out.mono (SF _) λy hy _=>by rw[SC.1 hy];exact Tl).ay λ_=>by simp _⟩;have⟨h1,h2,h3⟩:=hE5.out q N;exact⟨h1.ay λe'=>by have:=D.out;omega _,h2⟩
  have hD:=AI (r.out.ay hdr (SS E.cap (F.push (Tok.val e ⟨k,ta,b0,G,C,b3,le,mo,m⟩)) false (sd+1) E.rc E.tm));replace hS:=AI hS;show cL _ _ _ _ (ay s E.r (SS E.cap (F.push (Tok.val e ⟨k,ta,b0,G,C,b3,le,mo,m⟩)) false (sd+1) E.rc E.tm));generalize ay s E.r (SS E.cap (F.push (Tok.val e ⟨k,ta,b0,G,C,b3,le,mo,m⟩)) false (sd+1) E.rc E.tm)=j at *;refine ag λw5 he5=> ?_
  have hS5:=AI (hS.out.af he5);have d8:w5.cell? ⟨w.heap.size,8,none⟩=some (Sv (gH e m)):=(hD.out.af he5).cell 8;subst L;cases m with
  |true=>
   replace d8:w5.cell? ⟨w.heap.size,8,none⟩=some (Sv (some ⟨e,0,none⟩)):=d8;go_wp2;go_ret;exact⟨rfl,hS5.out⟩
  |false=>
   replace d8:w5.cell? ⟨w.heap.size,8,none⟩=some (Sv none):=d8;go_wp2;go_ret;exact⟨rfl,hS5.out⟩
def xg(f e d c b:SH)(a:Act):Prop:=a.defers=[]/\a.tmps.size=153/\a.tmps.getD 0 undef=f/\a.tmps.getD 1 undef=e/\a.tmps.getD 5 undef=d/\a.tmps.getD 6 undef=c/\a.tmps.getD 7 undef=b
def xg.out{d g e f b a}(h:xg d g e f b a):∃u:Nat->SH,a= {tmps:=(d::g::u 2::u 3::u 4::e::f::b::u 8::u 9::u 10::u 11::u 12::u 13::u 14::u 15::u 16::u 17::u 18::u 19::u 20::u 21::u 22::u 23::u 24::u 25::u 26::u 27::u 28::u 29::u 30::u 31::u 32::u 33::u 34::u 35::u 36::u 37::u 38::u 39::u 40::u 41::u 42::u 43::u 44::u 45::u 46::u 47::u 48::u 49::u 50::u 51::u 52::u 53::u 54::u 55::u 56::u 57::u 58::u 59::u 60::u 61::u 62::u 63::u 64::u 65::u 66::u 67::u 68::u 69::u 70::u 71::u 72::u 73::u 74::u 75::u 76::u 77::u 78::u 79::u 80::u 81::u 82::u 83::u 84::u 85::u 86::u 87::u 88::u 89::u 90::u 91::u 92::u 93::u 94::u 95::u 96::u 97::u 98::u 99::u 100::u 101::u 102::u 103::u 104::u 105::u 106::u 107::u 108::u 109::u 110::u 111::u 112::u 113::u 114::u 115::u 116::u 117::u 118::u 119::u 120::u 121::u 122::u 123::u 124::u 125::u 126::u 127::u 128::u 129::u 130::u 131::u 132::u 133::u 134::u 135::u 136::u 137::u 138::u 139::u 140::u 141::u 142::u 143::u 144::u 145::u 146::u 147::u 148::u 149::u 150::u 151::u 152::[]).toArray,defers:=[]}:=by
 have⟨k,j,rfl,rfl,rfl,rfl,rfl⟩:=h;have⟨c,l⟩:=a;subst k;exact⟨λi=>c.getD i undef,congrArg (λt=>({tmps:=t,defers:=[]}:Act)) (dp 153 c j)⟩
structure C1(E:eK)(F:Array SH)(B b:Nat)(w0:SD)(at_:Nat)(nt:Bool)(y:mP)(f:Nat)(w:SD)(p:Nat)(first:Bool)(S:cS):Prop where
 sb:SB E w p F
 blk:a7 w b 77 (words S)
 kp:Kp B [E.x] w0 w
 lt:B<=b
 ple:p<=E.s.size
 eq:jk E.ln E.fold E.l nt at_ f first S p=some y
def Od(E:eK)(F:Array SH)(B b:Nat)(g:SD)(d:Nat)(e:Bool)(y:mP)(f:Nat)(a:Act)(w:SD):Prop:=
 ∃p c S,xg (Sv (some ⟨E.x,0,none⟩)) (AS Sw d) (Sv (some ⟨b,0,none⟩)) (SG e) (SG c) a/\C1 E F B b g d e y f w p c S
def Sent.from{E F w w1 w' y}(h:Sent E F w1 w' [E.r] y)(c:Kp w.heap.size [E.x] w w1):Sent E F w w' [E.x,E.r] y:=by
 have⟨e,g,d,i⟩:=h;have a:=c.1;exact⟨e,g,λq f=>⟨(d q f).1,Tt a (d q f).2⟩,(c.mono (SF _) λx b _=>by simp[SC.1 b]).trans (i.mono a λx b _=>by simp[SC.1 b])⟩
def rC(E:eK)(F:Array SH)(w:SD)(y:mP)(e:Ending)(a:SD):Prop:=e=SK (SG y.more)/\Sent E F w a [E.x,E.r] y
def C1.af{E F B b e a d y f w w' p first S}(h:C1 E F B b e a d y f w p first S)(c:w'.heap=w.heap):C1 E F B b e a d y f w' p first S:=
 ⟨h.sb.af c,h.blk.af c,h.kp.af c,h.lt,h.ple,h.eq⟩
def SB.move{E w}{p q:Nat}{F}(h:SB E w p F):SB E (w.setCell ⟨E.x,1,none⟩ (AS Sw (q:Int))) q F:=by
 have c:=h.xc;have d:∀b,b≠E.x->(w.setCell ⟨E.x,1,none⟩ (AS Sw q)).heap[b]?=w.heap[b]?:=λb c=>Below.heap_setCell w _ _ b c
 have⟨e,a⟩:=h.chan;have f:=h.cls;exact⟨xK h.blk,⟨e,(d _ (T5 h.lt.2.2)).trans a⟩,by rw[iq (d _ (T5 c.1))];exact h.max,by simp_all[T5,nC]⟩
def Oc(E:eK)(F:Array SH)(w:SD)(b:Nat)(f:Bool)(e:SH)(d:Nat)(a:Act)(c:SD):Prop:=
 xg (Sv (some ⟨E.x,0,none⟩)) (AS Sw b) (Sv (some ⟨w.heap.size,0,none⟩)) (SG f) e a/\SB E c d F/\a7 c w.heap.size 77 (words co)/\Kp w.heap.size [E.x] w c
def l7(g f e c b d:SH)(a:Act):Prop:=a.defers=[]/\a.tmps.size=153/\a.tmps.getD 0 undef=g/\a.tmps.getD 1 undef=f/\a.tmps.getD 5 undef=e/\a.tmps.getD 6 undef=c/\a.tmps.getD 7 undef=b/\a.tmps.getD 8 undef=d
def l7.out{d j g e b f a}(h:l7 d j g e b f a):∃u:Nat->SH,a= {tmps:=(d::j::u 2::u 3::u 4::g::e::b::f::u 9::u 10::u 11::u 12::u 13::u 14::u 15::u 16::u 17::u 18::u 19::u 20::u 21::u 22::u 23::u 24::u 25::u 26::u 27::u 28::u 29::u 30::u 31::u 32::u 33::u 34::u 35::u 36::u 37::u 38::u 39::u 40::u 41::u 42::u 43::u 44::u 45::u 46::u 47::u 48::u 49::u 50::u 51::u 52::u 53::u 54::u 55::u 56::u 57::u 58::u 59::u 60::u 61::u 62::u 63::u 64::u 65::u 66::u 67::u 68::u 69::u 70::u 71::u 72::u 73::u 74::u 75::u 76::u 77::u 78::u 79::u 80::u 81::u 82::u 83::u 84::u 85::u 86::u 87::u 88::u 89::u 90::u 91::u 92::u 93::u 94::u 95::u 96::u 97::u 98::u 99::u 100::u 101::u 102::u 103::u 104::u 105::u 106::u 107::u 108::u 109::u 110::u 111::u 112::u 113::u 114::u 115::u 116::u 117::u 118::u 119::u 120::u 121::u 122::u 123::u 124::u 125::u 126::u 127::u 128::u 129::u 130::u 131::u 132::u 133::u 134::u 135::u 136::u 137::u 138::u 139::u 140::u 141::u 142::u 143::u 144::u 145::u 146::u 147::u 148::u 149::u 150::u 151::u 152::[]).toArray,defers:=[]}:=by
 have⟨k,l,rfl,rfl,rfl,rfl,rfl,rfl⟩:=h;have⟨c,m⟩:=a;subst k;exact⟨λi=>c.getD i undef,congrArg (λt=>({tmps:=t,defers:=[]}:Act)) (dp 153 c l)⟩
def zD(h g f d c e b:SH)(a:Act):Prop:=a.defers=[]/\a.tmps.size=153/\a.tmps.getD 0 undef=h/\a.tmps.getD 1 undef=g/\a.tmps.getD 5 undef=f/\a.tmps.getD 6 undef=d/\a.tmps.getD 7 undef=c/\a.tmps.getD 8 undef=e/\a.tmps.getD 55 undef=b
def zD.out{k e c d f j b a}(h:zD k e c d f j b a):∃u:Nat->SH,a= {tmps:=(k::e::u 2::u 3::u 4::c::d::f::j::u 9::u 10::u 11::u 12::u 13::u 14::u 15::u 16::u 17::u 18::u 19::u 20::u 21::u 22::u 23::u 24::u 25::u 26::u 27::u 28::u 29::u 30::u 31::u 32::u 33::u 34::u 35::u 36::u 37::u 38::u 39::u 40::u 41::u 42::u 43::u 44::u 45::u 46::u 47::u 48::u 49::u 50::u 51::u 52::u 53::u 54::b::u 56::u 57::u 58::u 59::u 60::u 61::u 62::u 63::u 64::u 65::u 66::u 67::u 68::u 69::u 70::u 71::u 72::u 73::u 74::u 75::u 76::u 77::u 78::u 79::u 80::u 81::u 82::u 83::u 84::u 85::u 86::u 87::u 88::u 89::u 90::u 91::u 92::u 93::u 94::u 95::u 96::u 97::u 98::u 99::u 100::u 101::u 102::u 103::u 104::u 105::u 106::u 107::u 108::u 109::u 110::u 111::u 112::u 113::u 114::u 115::u 116::u 117::u 118::u 119::u 120::u 121::u 122::u 123::u 124::u 125::u 126::u 127::u 128::u 129::u 130::u 131::u 132::u 133::u 134::u 135::u 136::u 137::u 138::u 139::u 140::u 141::u 142::u 143::u 144::u 145::u 146::u 147::u 148::u 149::u 150::u 151::u 152::[]).toArray,defers:=[]}:=by
 have⟨m,l,rfl,rfl,rfl,rfl,rfl,rfl,rfl⟩:=h;have⟨g,n⟩:=a;subst m;exact⟨λi=>g.getD i undef,congrArg (λt=>({tmps:=t,defers:=[]}:Act)) (dp 153 g l)⟩
def zC(g f e h c d b:SH)(a:Act):Prop:=a.defers=[]/\a.tmps.size=153/\a.tmps.getD 0 undef=g/\a.tmps.getD 1 undef=f/\a.tmps.getD 5 undef=e/\a.tmps.getD 6 undef=h/\a.tmps.getD 7 undef=c/\a.tmps.getD 8 undef=d/\a.tmps.getD 91 undef=b
def zC.out{k e c g f j b a}(h:zC k e c g f j b a):∃u:Nat->SH,a= {tmps:=(k::e::u 2::u 3::u 4::c::g::f::j::u 9::u 10::u 11::u 12::u 13::u 14::u 15::u 16::u 17::u 18::u 19::u 20::u 21::u 22::u 23::u 24::u 25::u 26::u 27::u 28::u 29::u 30::u 31::u 32::u 33::u 34::u 35::u 36::u 37::u 38::u 39::u 40::u 41::u 42::u 43::u 44::u 45::u 46::u 47::u 48::u 49::u 50::u 51::u 52::u 53::u 54::u 55::u 56::u 57::u 58::u 59::u 60::u 61::u 62::u 63::u 64::u 65::u 66::u 67::u 68::u 69::u 70::u 71::u 72::u 73::u 74::u 75::u 76::u 77::u 78::u 79::u 80::u 81::u 82::u 83::u 84::u 85::u 86::u 87::u 88::u 89::u 90::b::u 92::u 93::u 94::u 95::u 96::u 97::u 98::u 99::u 100::u 101::u 102::u 103::u 104::u 105::u 106::u 107::u 108::u 109::u 110::u 111::u 112::u 113::u 114::u 115::u 116::u 117::u 118::u 119::u 120::u 121::u 122::u 123::u 124::u 125::u 126::u 127::u 128::u 129::u 130::u 131::u 132::u 133::u 134::u 135::u 136::u 137::u 138::u 139::u 140::u 141::u 142::u 143::u 144::u 145::u 146::u 147::u 148::u 149::u 150::u 151::u 152::[]).toArray,defers:=[]}:=by
 have⟨m,l,rfl,rfl,rfl,rfl,rfl,rfl,rfl⟩:=h;have⟨d,n⟩:=a;subst m;exact⟨λi=>d.getD i undef,congrArg (λt=>({tmps:=t,defers:=[]}:Act)) (dp 153 d l)⟩
def zA(h g e f c d b:SH)(a:Act):Prop:=a.defers=[]/\a.tmps.size=153/\a.tmps.getD 0 undef=h/\a.tmps.getD 1 undef=g/\a.tmps.getD 5 undef=e/\a.tmps.getD 6 undef=f/\a.tmps.getD 7 undef=c/\a.tmps.getD 8 undef=d/\a.tmps.getD 116 undef=b
def zA.out{d e c k f j b a}(h:zA d e c k f j b a):∃u:Nat->SH,a= {tmps:=(d::e::u 2::u 3::u 4::c::k::f::j::u 9::u 10::u 11::u 12::u 13::u 14::u 15::u 16::u 17::u 18::u 19::u 20::u 21::u 22::u 23::u 24::u 25::u 26::u 27::u 28::u 29::u 30::u 31::u 32::u 33::u 34::u 35::u 36::u 37::u 38::u 39::u 40::u 41::u 42::u 43::u 44::u 45::u 46::u 47::u 48::u 49::u 50::u 51::u 52::u 53::u 54::u 55::u 56::u 57::u 58::u 59::u 60::u 61::u 62::u 63::u 64::u 65::u 66::u 67::u 68::u 69::u 70::u 71::u 72::u 73::u 74::u 75::u 76::u 77::u 78::u 79::u 80::u 81::u 82::u 83::u 84::u 85::u 86::u 87::u 88::u 89::u 90::u 91::u 92::u 93::u 94::u 95::u 96::u 97::u 98::u 99::u 100::u 101::u 102::u 103::u 104::u 105::u 106::u 107::u 108::u 109::u 110::u 111::u 112::u 113::u 114::u 115::b::u 117::u 118::u 119::u 120::u 121::u 122::u 123::u 124::u 125::u 126::u 127::u 128::u 129::u 130::u 131::u 132::u 133::u 134::u 135::u 136::u 137::u 138::u 139::u 140::u 141::u 142::u 143::u 144::u 145::u 146::u 147::u 148::u 149::u 150::u 151::u 152::[]).toArray,defers:=[]}:=by
 have⟨m,l,rfl,rfl,rfl,rfl,rfl,rfl,rfl⟩:=h;have⟨g,n⟩:=a;subst m;exact⟨λi=>g.getD i undef,congrArg (λt=>({tmps:=t,defers:=[]}:Act)) (dp 153 g l)⟩
def fV(k:Nat)(S:cS):cS:=λx=>if x<64*k then !S x else S x
def Kw(S):fV 0 S=S:=by rfl
def Cd(S i)(h:i<4):wz (fV 4 S) i=wz (comp S) i:=nL (by
 grind [fV,comp])
def zG(S i):bits .xor Sz 18446744073709551615 (wz (fV i S) i)=wz (fV (i+1) S) i:=by
 rw[LA];refine nL ?_;grind [fV,comp]
def vw(S i j)(h:j≠i):wz (fV (i+1) S) j=wz (fV i S) j:=nL (by
 intro k b;simp[fV];by_cases a:64*j+k<64*i;rw[if_pos a,if_pos (by omega)];grind)
def Ej(S):words (fV 4 S)=words (comp S):=by
 simp[Cd,words]
structure cH(E:eK)(F:Array SH)(b:Nat)(w0 w:SD)(p:Nat)(S:cS):Prop where
 sb:SB E w p F
 blk:a7 w b 77 (words S)
 kp:Kp w0.heap.size [E.x] w0 w
 le:w0.heap.size<=b
def cH.af{E F b c w w' p S}(h:cH E F b c w p S)(a:w'.heap=w.heap):cH E F b c w' p S:=⟨h.sb.af a,h.blk.af a,h.kp.af a,h.le⟩
def cH.ne{E F b f w p S}(h:cH E F b f w p S):b≠E.x/\b≠E.r/\b≠1/\b≠2:=by
 have d:=h.blk;refine⟨λe=> ?_,λe=> ?_,λe=> ?_,λe=> ?_⟩;have a:=h.sb.blk;simp_all[a7]
 have⟨i,a⟩:=h.sb.chan;simp_all[a7]
 rw[e]at d;have:=d.cell 0;rw[h.sb.max]at this;cases this;have⟨t,g,a⟩:=h.sb.cls;rw[e]at d;rw[d]at a;cases congrArg (λo=>match o with |some (Sx c ..)=>c.size|_=>0) a
def cH.move{E F b a w}{p q:Nat}{S}(h:cH E F b a w p S):cH E F b a (w.setCell ⟨E.x,1,none⟩ (AS Sw (q:Int))) q S:=
 ⟨h.sb.move,h.blk.far h.ne.1 _,h.kp.setCell (λ_=>SC.2 rfl) _,h.le⟩
def cH.only {E F b c w w' p S S'}(h:cH E F b c w p S)(a:Only b w w')(g:a7 w' b 77 (words S')):cH E F b c w' p S':=by
 have⟨d,f,k,e⟩:=h.ne;refine⟨h.sb.keep (a.2 _ (T5 d)) (a.2 _ (T5 f)) (a.2 _ (T5 k)) (a.2 _ (T5 e)),g,⟨by rw[a.1];exact h.kp.1,λy j i=> ?_⟩,h.le⟩;have:=h.le;exact(a.2 y (by omega)).trans (h.kp.2 y j i)
theorem cH.call{E F b c w d p S}(h:cH E F b c w p S)(a:Kp w.heap.size [] w d):cH E F b c d p S:=
 ⟨h.sb.kp a (by simp) (by simp) (by simp) (by simp),h.blk.kp a h.blk.lt (by simp),h.kp.trans (a.mono h.kp.1 λy e _=>by cases e),h.le⟩
theorem GI
 {c1 c2 c3 c4 c5 c6 c7 c10 c11 c12 cA c24 cB c27 cC cD i i1 i2 o1 o2 o3 o4} (hc:(Tryz.f136).body=some (Su c1 (Su c2 (Su c3 (Su c4 (Su c5 (SX i (TZ (Su (SX i1 (Su c7 (SX i2 (Su c10 (SL o1 c11 (Su c12 (SL o2 cA (Su c24 (SL o3 cB (Su c27 (SL o4 cC cD))))))))))) c6)))))))))
 {E F w} {t:Nat} {H a w7 p v7 v8 S b Q} (hs:E.s.size<=1000) (hp:p<E.s.size) (hF:F.size<E.cap) (hfl:E.fl<256)
 (B:l7 (Sv (some ⟨E.x,0,none⟩)) (AS Sw t) (Sv (some ⟨b,0,none⟩)) (SG H) v7 v8 a) (hI:cH E F b w w7 p S)
 (X:∀a g,bodyPost PB Tryz.f136 (rC E F w ⟨iI t (uK E.ln E.fold H S),none,true,p+1⟩) U1 a g->Q U1 a g):
 cL (aH T) cA Q a w7:=by
 cases hc;obtain⟨u,rfl⟩:=B.out;refine ac λK R=> ?_
 refine ag λw8 v=> ?_
 have m:=AI (hI.af v);have hw1:IntKind.i64.wrap ((p:Int)+1)=((p+1:Nat):Int):=by rw[SN];omega
 have c1:w8.cell? ⟨E.x,1,none⟩=some (AS Sw p):=m.out.sb.blk.cell 1;have f1:∀i,w8.frozen? ⟨E.x,i,none⟩=false:=m.out.sb.blk.frozen;go_wp2;refine R.out _ _ ?_;replace m:=m.out.move (q:=p+1);generalize hW:TW .. =w9;replace m:cH E F b w w9 (p+1) S:=hW▸m;replace m:=AI m;have⟨d,s⟩:∃d,d=if E.fold then pm S else S:=⟨_,rfl⟩
 replace s:=AI s;refine ac λK R=> ?_
 refine ag λG v=> ?_
 replace m:=AI (m.out.af v);have A:∀u:SD,u.heap=G.heap->Calls PB 141 #[Sv (some ⟨E.x,0,none⟩),TL #[AS Sz (wz S 0),AS Sz (wz S 1),AS Sz (wz S 2),AS Sz (wz S 3)]] u λe g=>e=SK (TL #[AS Sz (wz d 0),AS Sz (wz d 1),AS Sz (wz d 2),AS Sz (wz d 3)])/\Kp u.heap.size [] u g:=λu hu=>by
  have:=wS E.x E.r E.s (p+1) E.fl E.fold S u (m.out.sb.blk.af hu);rw[<- s.out]at this;exact this
 replace A:=AI A;have b0:G.cell? ⟨b,0,none⟩=some _:=m.out.blk.cell 0;have b1:G.cell? ⟨b,1,none⟩=some _:=m.out.blk.cell 1;have b2:G.cell? ⟨b,2,none⟩=some _:=m.out.blk.cell 2;have b3:G.cell? ⟨b,3,none⟩=some _:=m.out.blk.cell 3;go_wp2_with (first |(go_at_call 141;refine(A.out G rfl).mono ?_;rintro e g ⟨rfl,D⟩;have n:=AI (m.out.call D);have fD:∀i,g.frozen? ⟨b,i,none⟩=false:=n.out.blk.frozen;have b0':g.cell? ⟨b,0,none⟩=some _:=n.out.blk.cell 0;have b1':g.cell? ⟨b,1,none⟩=some _:=n.out.blk.cell 1;have b2':g.cell? ⟨b,2,none⟩=some _:=n.out.blk.cell 2;have b3':g.cell? ⟨b,3,none⟩=some _:=n.out.blk.cell 3;clear D)|fail)
 refine R.out _ _ ?_;have hO:=(((Only.set b g 0 (AS Sz (wz d 0))).trans (.set b _ 1 (AS Sz (wz d 1)))).trans (.set b _ 2 (AS Sz (wz d 2)))).trans (.set b _ 3 (AS Sz (wz d 3)));have hB:=(((n.out.blk.bI 0 (AS Sz (wz d 0))).bI 1 (AS Sz (wz d 1))).bI 2 (AS Sz (wz d 2))).bI 3 (AS Sz (wz d 3));have P:=AI (n.out.only (S':=d) hO hB);generalize TW .. =wb at P ⊢;refine bQ (λa' g=>l7 (Sv (some ⟨E.x,0,none⟩)) (AS Sw t) (Sv (some ⟨b,0,none⟩)) (SG H) v7 v8 a'/\cH E F b w g (p+1) (uK E.ln E.fold H S)) ?_ ?_
 .refine ag λwc v=> ?_
  replace P:=AI (P.out.af v);cases H with
  |false=>
   go_wp2;refine⟨?_,?_⟩
   .exact⟨rfl,rfl,rfl,rfl,rfl,rfl,rfl,rfl⟩
   .have e:uK E.ln E.fold false S=d:=by rw[s.out];rfl
    rw[e];exact P.out
  |true=>
   go_wp2;go_loopw [74] (λc wr=>∃k:Nat,k<=4/\c=AS Sw k/\cH E F b w wr (p+1) (fV k d)) λc _=>4- (intOf c).toNat
   case atStart=>exact⟨0,by omega,rfl,by rw[Kw];exact P.out⟩
   case round=>
    obtain⟨k,D,rfl,z⟩:=hrel;by_cases I:k<4
    .have f0:∀i,wr.frozen? ⟨b,i,none⟩=false:=z.blk.frozen;have c0:wr.cell? ⟨b,k,none⟩=some (AS Sz (wz (fV k d) k)):=eu z.blk I;have e3:bits .xor Sz (if IntKind.u64.signed=true then -1 else IntKind.u64.max) (wz (fV k d) k)=wz (fV (k+1) d) k:=zG d k;have hki:(k:Int)<4:=by omega
     replace z:=AI z;go_wp2;go_roundw
     case rel=>
      have hb:=yd (T:=fV (k+1) d) z.out.blk I λj hj=>vw d k j hj
      refine⟨k+1,by omega,by push_cast;rfl,z.out.only (.set b wr k _) hb⟩
     case measure=>simp[intOf];omega
    .obtain rfl:k=4:=by omega
     have h:cH E F b w wr (p+1) (comp d):=z.only (Only.refl b wr) (by have:=z.blk;rwa [Ej]at this);replace h:=AI h;have⟨l,y⟩:∃l,l=if E.fl/2%2=1 then del (comp d) 10 else comp d:=⟨_,rfl⟩
     replace y:=AI y;have C:∀u:SD,u.heap=wr.heap->Calls PB 139 #[Sv (some ⟨E.x,0,none⟩),TL #[AS Sz (wz (comp d) 0),AS Sz (wz (comp d) 1),AS Sz (wz (comp d) 2),AS Sz (wz (comp d) 3)]] u λe g=>e=SK (TL #[AS Sz (wz l 0),AS Sz (wz l 1),AS Sz (wz l 2),AS Sz (wz l 3)])/\Kp u.heap.size [] u g:=λu hu=>by
      have:=sP E.x E.r E.s (p+1) E.fl E.fold (comp d) u hfl (h.out.sb.blk.af hu);rw[<- y.out]at this;exact this
     replace C:=AI C;have b0:wr.cell? ⟨b,0,none⟩=some _:=h.out.blk.cell 0;have b1:wr.cell? ⟨b,1,none⟩=some _:=h.out.blk.cell 1;have b2:wr.cell? ⟨b,2,none⟩=some _:=h.out.blk.cell 2;have b3:wr.cell? ⟨b,3,none⟩=some _:=h.out.blk.cell 3;go_wp2_with (first |(go_at_call 139;refine(C.out wr rfl).mono ?_;rintro e g ⟨rfl,D⟩;have n:=AI (h.out.call D);have fD:∀i,g.frozen? ⟨b,i,none⟩=false:=n.out.blk.frozen;have b0':g.cell? ⟨b,0,none⟩=some _:=n.out.blk.cell 0;have b1':g.cell? ⟨b,1,none⟩=some _:=n.out.blk.cell 1;have b2':g.cell? ⟨b,2,none⟩=some _:=n.out.blk.cell 2;have b3':g.cell? ⟨b,3,none⟩=some _:=n.out.blk.cell 3;clear D)|fail)
     have hO:=(((Only.set b g 0 (AS Sz (wz l 0))).trans (.set b _ 1 (AS Sz (wz l 1)))).trans (.set b _ 2 (AS Sz (wz l 2)))).trans (.set b _ 3 (AS Sz (wz l 3)));have hB:=(((n.out.blk.bI 0 (AS Sz (wz l 0))).bI 1 (AS Sz (wz l 1))).bI 2 (AS Sz (wz l 2))).bI 3 (AS Sz (wz l 3));refine⟨?_,?_⟩
     .exact⟨rfl,rfl,rfl,rfl,rfl,rfl,rfl,rfl⟩
     .have e:uK E.ln E.fold true S=l:=by
       rw[y.out,s.out];unfold uK eK.ln;simp only[if_true,decide_eq_true_eq]
      rw[e];exact n.out.only (S':=l) hO hB
 .intro a wc ⟨B,hI⟩;obtain⟨u,rfl⟩:=B.out;have⟨W,M⟩:∃W,W=uK E.ln E.fold H S:=⟨_,rfl⟩;rw[<- M]at hI X;clear M;replace X:=AI X;replace hI:=AI hI;refine ac λK R=> ?_
  refine ao ?_;show aV _ _ _ (SE 0 (3+1)) ..;refine aW 0 3 1 (λN hN Z v=> ?_) (by decide);simp only[zq1];replace hI:=AI (hI.out.af v);have b0:Z.cell? ⟨b,0,none⟩=some _:=hI.out.blk.cell 0;have b1:Z.cell? ⟨b,1,none⟩=some _:=hI.out.blk.cell 1;have b2:Z.cell? ⟨b,2,none⟩=some _:=hI.out.blk.cell 2;have b3:Z.cell? ⟨b,3,none⟩=some _:=hI.out.blk.cell 3;go_wp2;refine hN.out _ _ ?_;refine bF (f:=138) (i:=3) (rest:=[]) rfl rfl λu=>by simp[go_sem];rfl trivial (Av W t hI.out.sb hF) (λu we hr=> ?_) λch we hr=>by cases hr.1
  have⟨hr1,hr2,hr3⟩:=hr;cases hr1;refine az (R.out _ _ ?_);simp only[T6,zq0];have L:Sent E F w we [E.x,E.r] ⟨iI t W,none,true,p+1⟩:=by
   have hle:=hI.out.kp.1;exact⟨0,hr2,λq hq=>(by cases hq),(hI.out.kp.mono (SF _) λx hx _=>by rw[SC.1 hx];exact Tl).trans (hr3.mono hle λx hx _=>by rw[SC.1 hx];simp)⟩
  replace L:=AI L;refine ag λwf v=> ?_
  replace L:=AI (L.out.af v);go_wp2;refine X.out _ _ ?_;go_ret;exact⟨rfl,L.out⟩
def cH.both{E F b f w d p q S g}(h:cH E F b f w p S)(c:Kp w.heap.size [E.x,b] w d)(m:a7 d E.x 220 (iR E.s q E.fl E.r E.fold))(l:a7 d b 77 (words g)):cH E F b f d q g:=by
 have⟨u,i,n,k⟩:=h.ne;have a:=h.sb.xc;have s:=c.2 _ h.sb.kY (by simp[T5 a.2,T5 k]);refine⟨⟨m,by rw[c.2 _ h.sb.lt.2.1 (by simp[T5 h.sb.lt.2.2,T5 i])];exact h.sb.chan,by rw[iq (c.2 _ h.sb.max_lt (by simp[T5 a.1,T5 n]))];exact h.sb.max,by have:=h.sb.cls;simp_all[nC]⟩,l,⟨Tt h.kp.1 c.1,λy j e=> ?_⟩,h.le⟩;have r:=h.le;have t:=h.kp.1;exact(c.2 y (by omega) (by grind)).trans (h.kp.2 y j e)
theorem GJ
 {c1 c2 c3 c4 c5 c6 c7 M X H cA G cB Z cC cD i i1 i2 o1 o2 o3 o4} (hc:(Tryz.f136).body=some (Su c1 (Su c2 (Su c3 (Su c4 (Su c5 (SX i (TZ (Su (SX i1 (Su c7 (SX i2 (Su M (SL o1 X (Su H (SL o2 cA (Su G (SL o3 cB (Su Z (SL o4 cC cD))))))))))) c6)))))))))
 {E F w} {s:Nat} {nt a I p v7 S b R y Q} (hs:E.s.size<=1000) (hF:F.size<E.cap) (P:2<=R.size) (D:p+R.size<=E.s.size)
 (W:l7 (Sv (some ⟨E.x,0,none⟩)) (AS Sw s) (Sv (some ⟨b,0,none⟩)) (SG nt) v7 (Sy R) a) (hI:cH E F b w I p S)
 (z:jE S R.data.toList=none->y=ez 5 p p)
 (k:∀a g,jE S R.data.toList=none->bodyPost PB Tryz.f136 (rC E F w y) U1 a g->Q U1 a g)
 (j:∀x,jE S R.data.toList=some x->∀a g,l7 (Sv (some ⟨E.x,0,none⟩)) (AS Sw s) (Sv (some ⟨b,0,none⟩)) (SG nt) v7 (Sy R) a->cH E F b w g (p+x.2) x.1->Q TN a g):
 cL (aH T) cB Q a I:=by
 cases hc;obtain⟨u,rfl⟩:=W.out;have d:=AI λu(A:World.heap u=I.heap)=>Iu E.x E.r b E.s p E.fl E.fold S R u E.m hs D P (by have:=hI.sb.max;unfold T0 at *;rw[A];exact this) (by have:=hI.sb.cls;unfold nC at *;rw[A];exact this) (hI.sb.blk.af A) (hI.blk.af A) (T5 hI.ne.1)
 replace hI:=AI hI;cases n:jE S R.data.toList with
 |none=>
  rw[n]at d k z;have z:=z rfl;subst z;refine ac λK t=> ?_
  refine ag λC c=> ?_
  have h:=AI (hI.out.af c);go_wp2_with (first |(go_at_call 160;refine((AI (d.out C c)).out).mono ?_;rintro e g ⟨rfl,hk⟩;replace h:=AI (h.out.call hk);clear hk)|fail)
  refine t.out _ _ ?_;refine bG rfl ?_;replace k:=λa g=>k a g trivial
  replace k:=AI k;refine ac λK t=> ?_
  refine ao ?_;show aV _ _ _ (SE 0 (5+2)) ..;refine aW 0 5 2 (λN j wb c=> ?_) (by decide);simp only[zq1];have B:=AI (h.out.af c);have c1_9:wb.cell? ⟨E.x,1,none⟩=some (AS Sw p):=B.out.sb.blk.cell 1;go_wp2;refine j.out _ _ ?_;refine bF (f:=140) (i:=5) (rest:=SE 6 (1+0)) rfl rfl λu=>by simp[go_sem] trivial (nF 5 p B.out.sb hF) (λu wz q=> ?_) λch wz q=>by cases q.1
  obtain⟨L,q⟩:=q;cases L;have v:=AI (q.from B.out.kp);simp only[T6,zq0];refine aW 6 1 0 (λN j wy c=> ?_) (by decide);simp only[zq1];replace v:=AI (v.out.af c);go_wp2;refine j.out _ _ (az (t.out _ _ ?_));refine ag λwx c=> ?_
  replace v:=AI (v.out.af c);go_wp2;refine k.out _ _ ?_;go_ret;exact⟨rfl,v.out⟩
 |some x=>
  rw[n]at d j;refine ac λK t=> ?_
  refine ag λC c=> ?_
  have h:=AI (hI.out.af c);go_wp2_with (first |(go_at_call 160;refine((AI (d.out C c)).out).mono ?_;rintro e g ⟨rfl,r,m,l⟩;replace h:=AI (h.out.both l r m);clear r m l)|fail)
  exact t.out _ _ (bK rfl (fS ((j x rfl) _ _ ⟨rfl,rfl,rfl,rfl,rfl,rfl,rfl,rfl⟩ h.out)))
theorem GH
 {c1 c2 c3 c4 c5 c6 c7 L M D cA P cB W cC cD i i1 i2 o1 o2 o3 o4} (hc:(Tryz.f136).body=some (Su c1 (Su c2 (Su c3 (Su c4 (Su c5 (SX i (TZ (Su (SX i1 (Su c7 (SX i2 (Su L (SL o1 M (Su D (SL o2 cA (Su P (SL o3 cB (Su W (SL o4 cC cD))))))))))) c6)))))))))
 {E F w} {n:Nat} {nt a X p v7 S b R y Q} (hs:E.s.size<=1000) (hF:F.size<E.cap) (hR0 hR2) (hRp:p+R.size<=E.s.size)
 (H:l7 (Sv (some ⟨E.x,0,none⟩)) (AS Sw n) (Sv (some ⟨b,0,none⟩)) (SG nt) v7 (Sy R) a) (hI:cH E F b w X p S)
 (B:R[2].toNat<R[0].toNat->y=ez 6 p p)
 (v:∀a j,R[2].toNat<R[0].toNat->bodyPost PB Tryz.f136 (rC E F w y) U1 a j->Q U1 a j)
 (l:¬ R[2].toNat<R[0].toNat->∀a j,l7 (Sv (some ⟨E.x,0,none⟩)) (AS Sw n) (Sv (some ⟨b,0,none⟩)) (SG nt) v7 (Sy R) a->cH E F b w j (p+3) (jd S R[0].toNat R[2].toNat)->Q TN a j):
 cL (aH T) cC Q a X:=by
 cases hc;obtain⟨u,rfl⟩:=H.out;have h0z:(0:Int)<(R.size:Int):=by omega
 have h2z:(2:Int)<(R.size:Int):=by omega
 have hb0:=R[0].toNat_lt;have hb2:=R[2].toNat_lt;have hA:=AI λ(u:SD)(hu:a7 u b 77 (words S))=>add_any b R[0].toNat R[2].toNat S u (by omega) (by omega) hu
 replace hI:=AI hI;refine ac λK x=> ?_
 by_cases h:R[2].toNat<R[0].toNat
 .have B:=B h;subst B;have v:=λa j=>v a j h
  have g:(R[2].toNat:Int)<(R[0].toNat:Int):=by exact_mod_cast h
  refine ac λK2 k=> ?_
  refine ag λs d=> ?_
  have c:=AI (hI.out.af d);go_quiet (fail)
  refine k.out _ _ ?_;replace c:=AI (c.out.af (w':=s.drewN nq) rfl);generalize s.drewN nq=w9 at *;refine bG (by simp[SJ,g]) ?_;replace v:=AI v;refine ac λK x=> ?_
  refine ao ?_;show aV _ _ _ (SE 0 (5+2)) ..;refine aW 0 5 2 (λN l z d=> ?_) (by decide);simp only[zq1];have A:=AI (c.out.af d);have Z:z.cell? ⟨E.x,1,none⟩=some (AS Sw p):=A.out.sb.blk.cell 1;go_wp2;refine l.out _ _ ?_;refine bF (f:=140) (i:=5) (rest:=SE 6 (1+0)) rfl rfl λu=>by simp[go_sem] trivial (nF 6 p A.out.sb hF) (λu wz r=> ?_) λch wz r=>by cases r.1
  obtain⟨I,r⟩:=r;cases I;have t:=AI (r.from A.out.kp);simp only[T6,zq0];refine aW 6 1 0 (λN l wy d=> ?_) (by decide);simp only[zq1];replace t:=AI (t.out.af d);go_wp2;refine l.out _ _ (az (x.out _ _ ?_));refine ag λwx d=> ?_
  replace t:=AI (t.out.af d);go_wp2;refine v.out _ _ ?_;go_ret;exact⟨rfl,t.out⟩
 .have l:=l h;have g:¬ (R[2].toNat:Int)<(R[0].toNat:Int):=by exact_mod_cast h
  have hw3:IntKind.i64.wrap ((p:Int)+3)=((p+3:Nat):Int):=by rw[SN];omega
  refine ac λK2 k=> ?_
  refine ag λs d=> ?_
  have c:=AI (hI.out.af d);go_quiet (fail)
  refine k.out _ _ ?_;replace c:=AI (c.out.af (w':=s.drewN nq) rfl);generalize s.drewN nq=w9 at *;refine bK (by simp[SJ,g]) (fS ?_);refine x.out _ _ ?_;refine ac λK x=> ?_
  refine ag λC d=> ?_
  replace c:=AI (c.out.af d);go_still_tail 4,by kernel_rfl
  change wpList _ _ _ _ _ C.drew;go_wp2_with (first |(go_at_call 137;refine(hA.out C.drew c.out.blk).mono ?_;rintro e j ⟨rfl,m,hO⟩;replace c:=AI (cH.only (w:=C.drew) (c.out.af rfl) hO m);clear m hO)|fail)
  refine x.out _ _ ?_;refine ag λz d=> ?_
  replace c:=AI (c.out.af d);have c1:z.cell? ⟨E.x,1,none⟩=some (AS Sw p):=c.out.sb.blk.cell 1;have f1:∀i,z.frozen? ⟨E.x,i,none⟩=false:=c.out.sb.blk.frozen;go_wp2;refine l _ _ ?_ ?_
  .exact⟨rfl,rfl,rfl,rfl,rfl,rfl,rfl,rfl⟩
  .exact c.out.move (q:=p+3)
theorem LR
 {x c2 c3 c4 Z P C g l s X m cB r N v i G i2 o1 L o3 M} (hc:(Tryz.f136).body=some (Su x (Su c2 (Su c3 (Su c4 (Su Z (SX i (TZ (Su (SX G (Su C (SX i2 (Su g (SL o1 l (Su s (SL L X (Su m (SL o3 cB (Su r (SL M N v))))))))))) P)))))))))
 {E F w} {f:Nat} {t a A p z S b R Q} (hs:E.s.size<=1000) (hF:F.size<E.cap) (hR0) (hRp:p+R.size<=E.s.size)
 (j:l7 (Sv (some ⟨E.x,0,none⟩)) (AS Sw f) (Sv (some ⟨b,0,none⟩)) (SG t) z (Sy R) a) (hI:cH E F b w A p S)
 (W:∀a k,l7 (Sv (some ⟨E.x,0,none⟩)) (AS Sw f) (Sv (some ⟨b,0,none⟩)) (SG t) z (Sy R) a->cH E F b w k (p+1) (jd S R[0].toNat R[0].toNat)->Q TN a k):
 cL (aH T) v Q a A:=by
 cases hc;obtain⟨u,rfl⟩:=j.out;have h0z:(0:Int)<(R.size:Int):=by omega
 have D:=R[0].toNat_lt;have I:IntKind.i64.wrap ((p:Int)+1)=((p+1:Nat):Int):=by rw[SN];omega
 replace hI:=AI hI;refine ac λK hK=> ?_
 refine ag λh n=> ?_
 have c:=AI (hI.out.af n);go_still_tail 4,by kernel_rfl
 change wpList _ _ _ _ _ h.drew;go_wp2_with (first |(go_at_call 137;refine((AI λ(u:SD)(H:a7 u b 77 (words S))=>add_any b R[0].toNat R[0].toNat S u (by omega) (by omega) H).out h.drew c.out.blk).mono ?_;rintro e k ⟨rfl,d,y⟩;replace c:=AI (cH.only (w:=h.drew) (c.out.af rfl) y d);clear d y)|fail)
 refine hK.out _ _ ?_;refine ag λB n=> ?_
 replace c:=AI (c.out.af n);have x:B.cell? ⟨E.x,1,none⟩=some (AS Sw p):=c.out.sb.blk.cell 1;have f1:∀i,B.frozen? ⟨E.x,i,none⟩=false:=c.out.sb.blk.frozen;go_wp2;exact W _ _ ⟨rfl,rfl,rfl,rfl,rfl,rfl,rfl,rfl⟩ (c.out.move (q:=p+1))
def BT(R:ByteArray)(i:Nat)(h):R.data.toList[i]?=some R[i]:=by
 rw[U4 (by simpa using h)];rfl
def zw{a b:UInt8}{n}(c:(b.toNat:Int)=n)(h:a≠b):((a.toNat:Int)=n)=False:=eq_false λe=>h (by rw[<- TP];omega)
def GG
 {c1 c2 c3 c4 c5 c6 c7 c10 c11 c12 cA c24 cB c27 cC cD i i1 i2 o1 o2 o3 o4} (hc:(Tryz.f136).body=some (Su c1 (Su c2 (Su c3 (Su c4 (Su c5 (SX i (TZ (Su (SX i1 (Su c7 (SX i2 (Su c10 (SL o1 c11 (Su c12 (SL o2 cA (Su c24 (SL o3 cB (Su c27 (SL o4 cC cD))))))))))) c6)))))))))
 {E F w} {g:Nat} {z y f a0 M p first S id} (hs:E.s.size<=1000) (hF:F.size<E.cap) (hfl:E.fl<256)
 (hfr:xg (Sv (some ⟨E.x,0,none⟩)) (AS Sw g) (Sv (some ⟨w.heap.size,0,none⟩)) (SG z) (SG first) a0) (hI:C1 E F w.heap.size w.heap.size w g z y f M p first S):
 cL (aH T) (Su (SX i1 (Su c7 (SX i2 (Su c10 (SL o1 c11 (Su c12 (SL o2 cA (Su c24 (SL o3 cB (Su c27 (SL o4 cC cD))))))))))) c6) (Exit.then (λn j=>∃m,m<f/\Od E F w.heap.size w.heap.size w g z y m n j) (Exit.inBlock id (bodyPost PB Tryz.f136 (rC E F w y)))) a0 M:=by
 have hcA:=λa M p v7 v8 S b Q=> @GI T _ _ _ _ _ _ _ _ _ _ _ _ _ _ _ _ _ _ _ _ _ _ _ hc E F w g z a M p v7 v8 S b Q hs
 have hcB:=λa M p v7 S b R y Q=> @GJ T _ _ _ _ _ _ _ _ _ _ _ _ _ _ _ _ _ _ _ _ _ _ _ hc E F w g z a M p v7 S b R y Q hs hF
 have hcC:=λa M p v7 S b R y Q=> @GH T _ _ _ _ _ _ _ _ _ _ _ _ _ _ _ _ _ _ _ _ _ _ _ hc E F w g z a M p v7 S b R y Q hs hF
 have hcD:=λa M p v7 S b R Q=> @LR T _ _ _ _ _ _ _ _ _ _ _ _ _ _ _ _ _ _ _ _ _ _ _ hc E F w g z a M p v7 S b R Q hs hF
 replace hcA:=AI hcA;replace hcB:=AI hcB;replace hcC:=AI hcC;replace hcD:=AI hcD;cases hc;obtain⟨u,rfl⟩:=hfr.out;refine ac λK6 hK6=> ?_
 refine ec ?_;refine ac λK I=> ?_
 refine ag λw8 D=> ?_
 have B:=AI (hI.af D);have c0:w8.cell? ⟨E.x,0,none⟩=some (Sy E.s):=B.out.sb.blk.cell 0;have c1:w8.cell? ⟨E.x,1,none⟩=some (AS Sw p):=B.out.sb.blk.cell 1;have hple:=B.out.ple;clear D hI;go_quiet (fail)
 refine I.out _ _ ?_;clear I K c0 c1;replace B:=AI (B.out.af (w':=w8.drewN nq) rfl);generalize w8.drewN nq=w9 at *;clear w8 nq M;have A:(E.s.extract p E.s.size).data.toList=E.l.drop p:=ow ..;have hRs:(E.s.extract p E.s.size).size=E.s.size-p:=by rw[SR,A,Te];unfold eK.l;rw[<- SR]
 generalize E.s.extract p E.s.size=R at *;have c:=B.out.eq;cases f with
 |zero=>cases c
 |succ f=>
 unfold jk at c;cases hl:E.l.drop p with
 |nil=>
  rw[hl]at c A;cases c;have D:R.toList.isEmpty=true:=by rw[Tu,A];rfl
  clear hRs hple;replace A:=AI A;replace hl:=AI hl;refine ec ?_;refine ac λK I=> ?_
  refine ag λwa W=> ?_
  replace B:=AI (B.out.af W);clear W;go_wp2;refine I.out _ _ ?_;clear I K;refine bG rfl ?_;refine ac λK I=> ?_
  refine ao ?_;show aV _ _ _ (SE 0 (2+2)) ..;refine aW 0 2 2 (λN hN wb D=> ?_) (by decide);simp only[zq1];have I9:=AI (B.out.af D);have c1_9:wb.cell? ⟨E.x,1,none⟩=some (AS Sw p):=I9.out.sb.blk.cell 1;clear D B;go_wp2;refine hN.out _ _ ?_;clear hN N c1_9;refine bF (f:=140) (i:=2) (rest:=SE 3 (1+0)) rfl rfl λu=>by simp[go_sem] trivial (nF 4 g I9.out.sb hF) (λu wz hr=> ?_) λch wz hr=>by cases hr.1
  obtain⟨hr1,hr⟩:=hr;cases hr1;have hS:=AI (hr.from I9.out.kp);clear hr;simp only[T6,zq0];refine aW 3 1 0 (λN hN wy D=> ?_) (by decide);simp only[zq1];replace hS:=AI (hS.out.af D);clear D;go_wp2;refine hN.out _ _ (az (I.out _ _ ?_));clear hN N I K;refine ag λwx D=> ?_
  replace hS:=AI (hS.out.af D);clear D;go_wp2;go_ret;exact⟨rfl,hS.out⟩
 |cons a r=>
  rw[hl]at c;have hlen:=rl hl;rw[hl]at A;dsimp only at c;have hrl:r.length+1=R.size:=by rw[SR,A];rfl
  have h0:0<R.size:=by omega
  have l:R[0]=a:=by
   have:=BT R 0 h0;rw[A]at this;simpa using this.symm
  have v:∀h:1<R.size,r.getD 0 0=R[1]:=λh=>by
   have:=BT R 1 h;rw[A]at this;simp only[U6]at this;rw[TC,this];rfl
  have G:∀h:2<R.size,r.getD 1 0=R[2]:=λh=>by
   have:=BT R 2 h;rw[A]at this;simp only[U6]at this;rw[TC,this];rfl
  have hRp:p+R.size<=E.s.size:=by omega
  have hEl:E.l.length=E.s.size:=by unfold eK.l;rw[<- SR]
  have q:∀n j p' S',l7 (Sv (some ⟨E.x,0,none⟩)) (AS Sw g) (Sv (some ⟨w.heap.size,0,none⟩)) (SG z) (SG first) (Sy R) n->cH E F w.heap.size w j p' S'->p'<=E.s.size->jk E.ln E.fold E.l z g f false S' p'=some y->K6 n j:=λn j p' S' d k hp' hq=>by
   refine hK6.out _ _ ?_;obtain⟨u,rfl⟩:=d.out;refine ag λw2 he2=> ?_
   have hE2:=AI (k.af he2);clear he2;go_wp2;refine⟨f,Um f,p',false,S',?_,⟨hE2.out.sb,hE2.out.blk,hE2.out.kp,hE2.out.le,hp',hq⟩⟩;exact⟨rfl,rfl,rfl,rfl,rfl,rfl,rfl⟩
  replace q:=AI q;have IE:=AI (⟨B.out.sb,B.out.blk,B.out.kp,B.out.lt⟩:cH E F w.heap.size w w9 p S);clear B;have D:R.toList.isEmpty=false:=by rw[Tu,A];rfl
  have h0z:(0:Int)<(R.size:Int):=by omega
  replace A:=AI A;replace hl:=AI hl;replace c:=AI c;refine ec ?_;refine ac λK I=> ?_
  refine ag λwa W=> ?_
  replace IE:=AI (IE.out.af W);clear W;go_wp2;refine I.out _ _ ?_;clear I K;refine bK rfl ?_;have hlast:=AI (show p<E.s.size from by omega);by_cases hA:a=93/\first=false
  .obtain⟨hA1,hA2⟩:=hA;have c:=c.out;rw[if_pos ⟨hA1,hA2⟩]at c;cases c;subst hA2;have L:(R[0].toNat:Int)=93:=by rw[l,hA1];rfl
   refine bQ (λn j=>zD (Sv (some ⟨E.x,0,none⟩)) (AS Sw g) (Sv (some ⟨w.heap.size,0,none⟩)) (SG z) (SG false) (Sy R) (SG true) n/\cH E F w.heap.size w j p S) ?_ ?_
   .refine ag λwb H=> ?_
    replace IE:=AI (IE.out.af H);clear H l v G;go_wp2;refine⟨?_,IE.out⟩;exact⟨rfl,rfl,rfl,rfl,rfl,rfl,rfl,rfl,rfl⟩
   .intro n wb ⟨d,k⟩;obtain⟨u,rfl⟩:=d.out;refine bG rfl ?_;refine hcA.out _ wb p (SG false) (Sy R) S w.heap.size _ hlast.out hF hfl ?_ k λa j h=>h
    exact⟨rfl,rfl,rfl,rfl,rfl,rfl,rfl,rfl⟩
  have c:=c.out;rw[if_neg hA]at c;refine bQ (λn j=>zD (Sv (some ⟨E.x,0,none⟩)) (AS Sw g) (Sv (some ⟨w.heap.size,0,none⟩)) (SG z) (SG first) (Sy R) (SG false) n/\cH E F w.heap.size w j p S) ?_ ?_
  .refine ag λwb H=> ?_
   replace IE:=AI (IE.out.af H);by_cases C:a=93
   .have L:(R[0].toNat:Int)=93:=by rw[l,C];rfl
    have hf1:first=true:=by
     cases first
     .exact absurd ⟨C,rfl⟩ hA
     .rfl
    subst hf1;clear H c l v G hA C;go_wp2;refine⟨?_,IE.out⟩;exact⟨rfl,rfl,rfl,rfl,rfl,rfl,rfl,rfl,rfl⟩
   .have L:((R[0].toNat:Int)=93)=False:=zw (b:=93) rfl (l▸C);clear H c l v G hA C;go_wp2;refine⟨?_,IE.out⟩;exact⟨rfl,rfl,rfl,rfl,rfl,rfl,rfl,rfl,rfl⟩
  intro n wb ⟨d,k⟩;obtain⟨u,rfl⟩:=d.out;replace k:=AI k;refine bK rfl ?_;have t:∀(h:1<R.size)(w:SD),Calls PB 32 #[Sy ⟨#[58,46,61]⟩,AS SW R[1].toNat] w λe j=>e=SK (AS Sw (SY [58,46,61] R[1]))/\j=w:=λh w=>by
   have:=xW ⟨#[58,46,61]⟩ R[1].toNat w;rw[show R[1].toNat.toUInt8=R[1]from by simp]at this;exact this
  replace t:=AI t;by_cases hB:0<r.length/\a=91/\0<=SY [58,46,61] (r.getD 0 0)
  .obtain⟨hB1,hB2,hB3⟩:=hB;rw[if_pos ⟨hB1,hB2,hB3⟩]at c;have Z:1<R.size:=by omega
   rw[v Z]at hB3;have X:(1:Int)<(R.size:Int):=by omega
   have e91:(R[0].toNat:Int)=91:=by rw[l,hB2];rfl
   have t:=AI (t.out Z);replace c:=AI c;refine bQ (λn j=>zC (Sv (some ⟨E.x,0,none⟩)) (AS Sw g) (Sv (some ⟨w.heap.size,0,none⟩)) (SG z) (SG first) (Sy R) (SG true) n/\cH E F w.heap.size w j p S) ?_ ?_
   .refine ag λwc hec=> ?_
    replace k:=AI (k.out.af hec);generalize SY [58,46,61] R[1]=ix at *;go_wp2_with (first |(go_at_call 32;refine(t.out _).mono ?_;rintro e j ⟨rfl,rfl⟩)|fail)
    refine⟨?_,k.out⟩;exact⟨rfl,rfl,rfl,rfl,rfl,rfl,rfl,rfl,rfl⟩
   .intro n wc ⟨d,k⟩;obtain⟨u,rfl⟩:=d.out;refine bG rfl ?_;have c:=c.out;rw[<- A.out]at c;refine hcB.out _ wc p (SG first) S w.heap.size R y _ (by omega) hRp ?_ k (λhn=> ?_) (λa j _ h=>h) λx hx a j P s=> ?_
    .exact⟨rfl,rfl,rfl,rfl,rfl,rfl,rfl,rfl⟩
    .rw[hn]at c;exact(Option.some.inj c).symm
    .rw[hx]at c;have h5:=yq hx (by rw[A.out];simp;omega);have h6:R.data.toList.length=R.size:=(SR R).symm;exact q.out _ _ _ _ P s (by omega) c
  rw[if_neg hB]at c;refine bQ (λn j=>zC (Sv (some ⟨E.x,0,none⟩)) (AS Sw g) (Sv (some ⟨w.heap.size,0,none⟩)) (SG z) (SG first) (Sy R) (SG false) n/\cH E F w.heap.size w j p S) ?_ ?_
  .refine ag λwc hec=> ?_
   replace k:=AI (k.out.af hec);replace c:=AI c;by_cases Z:1<R.size
   .have X:(1:Int)<(R.size:Int):=by omega
    by_cases C:a=91
    .have e91:(R[0].toNat:Int)=91:=by rw[l,C];rfl
     have hB3:¬ 0<=SY [58,46,61] R[1]:=λh=>hB ⟨by omega,C,by rw[v Z];exact h⟩
     have t:=AI (t.out Z);generalize SY [58,46,61] R[1]=ix at *;go_wp2_with (first |(go_at_call 32;refine(t.out _).mono ?_;rintro e j ⟨rfl,rfl⟩)|fail)
     refine⟨⟨rfl,rfl,rfl,rfl,rfl,rfl,rfl,rfl,?_⟩,k.out⟩;show SG _=_;simp;omega
    .have e91:((R[0].toNat:Int)=91)=False:=zw (b:=91) rfl (l▸C);clear hec l v G hA hB C;go_wp2;refine⟨?_,k.out⟩;exact⟨rfl,rfl,rfl,rfl,rfl,rfl,rfl,rfl,rfl⟩
   .have X:¬ (1:Int)<(R.size:Int):=by omega
    go_wp2;refine⟨?_,k.out⟩;exact⟨rfl,rfl,rfl,rfl,rfl,rfl,rfl,rfl,rfl⟩
  intro n wc ⟨d,s⟩;obtain⟨u,rfl⟩:=d.out;replace k:=AI s;refine bK rfl ?_;by_cases hC:1<r.length/\r.getD 0 0=45/\r.getD 1 0≠93
  .obtain⟨hC1,hC2,hC3⟩:=hC;rw[if_pos ⟨hC1,hC2,hC3⟩]at c;have h2:2<R.size:=by omega
   have Z:1<R.size:=by omega
   rw[v Z]at hC2;rw[G h2]at hC3 c;have X:(1:Int)<(R.size:Int):=by omega
   have h2z:(2:Int)<(R.size:Int):=by omega
   have e45:(R[1].toNat:Int)=45:=by rw[hC2];rfl
   have L:((R[2].toNat:Int)=93)=False:=zw (b:=93) rfl hC3;rw[<- l]at c;replace c:=AI c;refine bQ (λn j=>zA (Sv (some ⟨E.x,0,none⟩)) (AS Sw g) (Sv (some ⟨w.heap.size,0,none⟩)) (SG z) (SG first) (Sy R) (SG true) n/\cH E F w.heap.size w j p S) ?_ ?_
   .refine ag λwd hed=> ?_
    replace k:=AI (k.out.af hed);go_wp2;refine⟨⟨rfl,rfl,rfl,rfl,rfl,rfl,rfl,rfl,?_⟩,k.out⟩;show SG _=_;simp[L]
   .intro n wd ⟨d,k⟩;obtain⟨u,rfl⟩:=d.out;refine bG rfl ?_;have c:=c.out;refine hcC.out _ wd p (SG first) S w.heap.size R y _ h0 h2 hRp ?_ k (λhn=> ?_) (λa j _ h=>h) λhx a j P s=> ?_
    .exact⟨rfl,rfl,rfl,rfl,rfl,rfl,rfl,rfl⟩
    .rw[if_pos hn]at c;exact(Option.some.inj c).symm
    .rw[if_neg hx]at c;exact q.out _ _ _ _ P s (by omega) c
  rw[if_neg hC,<- l]at c;refine bQ (λn j=>zA (Sv (some ⟨E.x,0,none⟩)) (AS Sw g) (Sv (some ⟨w.heap.size,0,none⟩)) (SG z) (SG first) (Sy R) (SG false) n/\cH E F w.heap.size w j p S) ?_ ?_
  .refine ag λwd hed=> ?_
   replace k:=AI (k.out.af hed);replace c:=AI c;by_cases h2:2<R.size
   .have h2z:(2:Int)<(R.size:Int):=by omega
    have Z:1<R.size:=by omega
    have X:(1:Int)<(R.size:Int):=by omega
    by_cases C:R[1]=45
    .have e45:(R[1].toNat:Int)=45:=by rw[C];rfl
     have L:(R[2].toNat:Int)=93:=by
      have:r.getD 1 0=93:=Classical.byContradiction λh=>hC ⟨by omega,by rw[v Z];exact C,h⟩
      rw[G h2]at this;rw[this];rfl
     go_wp2;refine⟨?_,k.out⟩;exact⟨rfl,rfl,rfl,rfl,rfl,rfl,rfl,rfl,rfl⟩
    .have e45:((R[1].toNat:Int)=45)=False:=zw (b:=45) rfl C;go_wp2;refine⟨?_,k.out⟩;exact⟨rfl,rfl,rfl,rfl,rfl,rfl,rfl,rfl,rfl⟩
   .have h2z:¬ (2:Int)<(R.size:Int):=by omega
    go_wp2;refine⟨?_,k.out⟩;exact⟨rfl,rfl,rfl,rfl,rfl,rfl,rfl,rfl,rfl⟩
  intro n wd ⟨d,s⟩;obtain⟨u,rfl⟩:=d.out;refine bK rfl ?_;refine hcD.out _ wd p (SG first) S w.heap.size R _ h0 hRp ?_ s λa j P s=> ?_
  .exact⟨rfl,rfl,rfl,rfl,rfl,rfl,rfl,rfl⟩
  .exact q.out _ _ _ _ P s (by omega) c
def OD{E w p F}(l)(hs:E.s.size<=1000)(D:p<=E.s.size)(h:SB E w p F)(hF:F.size<E.cap)(L:E.fl<256){y}(s:ET E.ln E.fold E.l l p=some y):
 cb (aH T) 136 #[Sv (some ⟨E.x,0,none⟩),AS Sw l] w (rC E F w y):=by
 refine bu trivial (λw' h=>nomatch h.1) (PB.func Tryz.func136 (by decide)) rfl ?_;simp only[Tryz.ntmps136,T7,Tc,T9,Tp,Tn,SQ,SV,Td,T8,Ti,Tf];refine ac λK n=> ?_
 refine ag λw0 b=> ?_
 have H1:=AI (h.af b);have M:=AI ((Kp.refl (B:=w.heap.size) (X:=[E.x]) w).af b);have hz:=congrArg Ty b;go_wp2;refine n.out _ _ ?_;refine ac λK n=> ?_
 refine ag λx b=> ?_
 have v:=AI (H1.out.af b);have hK2:=AI (M.out.af b);have hz2:=(congrArg Ty b).trans hz;go_wp2;refine n.out _ _ ?_;have H3:=AI (v.out.keep (w':=x.alloc (Sx #[AS Sz 0,AS Sz 0,AS Sz 0,AS Sz 0] 77)) (Below.heap_alloc _ _ _ v.out.lt.1) (Below.heap_alloc _ _ _ v.out.lt.2.1) (Below.heap_alloc _ _ _ v.out.max_lt) (Below.heap_alloc _ _ _ v.out.kY));have Z:=AI (hK2.out.alloc (SF _) (Sx #[AS Sz 0,AS Sz 0,AS Sz 0,AS Sz 0] 77));have q:a7 (x.alloc (Sx #[AS Sz 0,AS Sz 0,AS Sz 0,AS Sz 0] 77)) w.heap.size 77 (words co):=by
  rw[<- hz2];unfold words;simp only[qd];exact a7.new x 77 #[AS Sz 0,AS Sz 0,AS Sz 0,AS Sz 0]
 replace q:=AI q;generalize x.alloc _=w2 at *;have hP:∀u,Calls PB 159 #[Sy (E.s.extract p E.s.size),Sy ⟨#[94]⟩] u λe w'=>e=SK (SG (TY (E.l.drop p) [94]))/\w'=u:=λu=>by
  have:=M7 (E.s.extract p E.s.size) ⟨#[94]⟩ u;rw[ow]at this;exact this
 unfold ET at s;dsimp only at s;have G:TY (E.l.drop p) [94]=true->p+1<=E.s.size:=λh=>by
  have:=qw h;unfold eK.l at this;rwa [<- SR]at this
 generalize hnt:TY (E.l.drop p) [94]=z at *;have⟨r,g⟩:∃r,r=if z=true then p+1 else p:=⟨_,rfl⟩
 rw[<- g]at s;have j:r<=E.s.size:=by
  rw[g];split
  .next hn=>exact G hn
  .exact D
 replace hP:=AI hP;replace s:=AI s;refine ac λK n=> ?_
 refine ag λt b=> ?_
 have P:=AI (H3.out.af b);have hK4:=AI (Z.out.af b);have hD4:=AI (q.out.af b);have c0:t.cell? ⟨E.x,0,none⟩=some (Sy E.s):=P.out.blk.cell 0;have c1:t.cell? ⟨E.x,1,none⟩=some (AS Sw p):=P.out.blk.cell 1;replace g:=AI g;replace j:=AI j;go_quiet (first |(go_at_call 159;refine TS (hP.out _)))
 refine n.out _ _ ?_;have H5:=AI (P.out.af (w':=t.drewN nq) rfl);have W:=AI (hK4.out.af (w':=t.drewN nq) rfl);have Q:=AI (hD4.out.af (w':=t.drewN nq) rfl);generalize t.drewN nq=w4 at *;refine bQ (Oc E F w l z undef r) ?_ ?_
 .refine ag λI b=> ?_
  have k:=AI (H5.out.af b);have d:=AI (W.out.af b);have c:=AI (Q.out.af b);have c1:I.cell? ⟨E.x,1,none⟩=some (AS Sw p):=k.out.blk.cell 1;have f1:∀i,I.frozen? ⟨E.x,i,none⟩=false:=k.out.blk.frozen;have hw1:IntKind.i64.wrap ((p:Int)+1)=((p+1:Nat):Int):=by rw[SN];omega
  cases z with
  |true=>
   go_wp2;have H:r=p+1:=g.out;have hlx:=k.out.lt.1;have hne:w.heap.size≠E.x:=λe=>by have A:=c.out;have R:=k.out.blk;rw[e]at A;unfold a7 at A R;rw[A]at R;cases R
   refine⟨?_,?_,c.out.far hne _,d.out.setCell (λ_=>SC.2 rfl) _⟩
   .exact⟨rfl,rfl,rfl,rfl,rfl,rfl,rfl⟩
   .rw[H];exact k.out.move
  |false=>
   go_wp2;have H:r=p:=g.out;refine⟨?_,H▸k.out,c.out,d.out⟩;exact⟨rfl,rfl,rfl,rfl,rfl,rfl,rfl⟩
 .intro a I ⟨m,k,c,d⟩;obtain⟨u,rfl⟩:=m.out;replace k:=AI k;replace c:=AI c;replace d:=AI d;refine ac λK n=> ?_
  refine ag λw6 b=> ?_
  have H7:=AI (k.out.af b);have hK7:=AI (d.out.af b);have C:=AI (c.out.af b);go_wp2;refine n.out _ _ ?_;refine ec ?_;refine m9 (Od E F w.heap.size w.heap.size w l z y) (E.l.length+1) ⟨r,true,co,?_,H7.out,C.out,hK7.out,SF _,j.out,s.out⟩ ?_
  .exact⟨rfl,rfl,rfl,rfl,rfl,rfl,rfl⟩
  .intro f a w7 ⟨p7,first,S,m,hI⟩;exact GG rfl hs hF L m hI
def xk(b c d:SH)(a:Act):Prop:=a.defers=[]/\a.tmps.size=134/\a.tmps.getD 0 undef=b/\a.tmps.getD 3 undef=c/\a.tmps.getD 4 undef=d
def xk.out{e d b a}(h:xk e d b a):∃u:Nat->SH,a= {tmps:=(e::u 1::u 2::d::b::u 5::u 6::u 7::u 8::u 9::u 10::u 11::u 12::u 13::u 14::u 15::u 16::u 17::u 18::u 19::u 20::u 21::u 22::u 23::u 24::u 25::u 26::u 27::u 28::u 29::u 30::u 31::u 32::u 33::u 34::u 35::u 36::u 37::u 38::u 39::u 40::u 41::u 42::u 43::u 44::u 45::u 46::u 47::u 48::u 49::u 50::u 51::u 52::u 53::u 54::u 55::u 56::u 57::u 58::u 59::u 60::u 61::u 62::u 63::u 64::u 65::u 66::u 67::u 68::u 69::u 70::u 71::u 72::u 73::u 74::u 75::u 76::u 77::u 78::u 79::u 80::u 81::u 82::u 83::u 84::u 85::u 86::u 87::u 88::u 89::u 90::u 91::u 92::u 93::u 94::u 95::u 96::u 97::u 98::u 99::u 100::u 101::u 102::u 103::u 104::u 105::u 106::u 107::u 108::u 109::u 110::u 111::u 112::u 113::u 114::u 115::u 116::u 117::u 118::u 119::u 120::u 121::u 122::u 123::u 124::u 125::u 126::u 127::u 128::u 129::u 130::u 131::u 132::u 133::[]).toArray,defers:=[]}:=by
 have⟨g,f,rfl,rfl,rfl⟩:=h;have⟨c,j⟩:=a;subst g;exact⟨λi=>c.getD i undef,congrArg (λt=>({tmps:=t,defers:=[]}:Act)) (dp 134 c f)⟩
def cH.sent{E F b d w c p S at_}(h:cH E F b d w p S)(e:SB E c p (F.push (Tok.val 0 (iI at_ S))))(f:Kp w.heap.size [E.r] w c):Sent E F d c [E.x,E.r] ⟨iI at_ S,none,true,p⟩:=⟨0,e,λq g=>(by cases g),(h.kp.mono (SF _) λx a _=>by simp[SC.1 a]).trans (f.mono h.kp.1 λx a _=>by simp[SC.1 a])⟩
def cH.fresh{E F a w p}(h:SB E w p F)(b:Kp a.heap.size [E.x] a w):cH E F w.heap.size a (w.alloc (Sx #[AS Sz 0,AS Sz 0,AS Sz 0,AS Sz 0] 77)) p co:=by
 refine⟨h.keep (Below.heap_alloc _ _ _ h.lt.1) (Below.heap_alloc _ _ _ h.lt.2.1) (Below.heap_alloc _ _ _ h.max_lt) (Below.heap_alloc _ _ _ h.kY),?_,b.alloc (SF _) _,b.1⟩;simp[words,qd];exact a7.new w 77 #[AS Sz 0,AS Sz 0,AS Sz 0,AS Sz 0]
theorem Hf
 {c0 c1 c4 c5 c6 c7 c8 c11 M Z cS1 cS2 r t z v cM c16 P W L c20 H c22 c23 X cX cY i o1 o2 o3 o4 o5 o6} (hc:(Tryz.f100).body=some (Su c0 (Su (Su c1 (SL o1 M Z)) (Su c4 (Su c5 (Su c6 (Su (Su c7 (Su c8 (SL o2 cS1 cS2))) (Su (Su c11 (SX i (Su cM (SL o3 c16 (Su P (SL o4 W (Su L (SL o5 (Su c20 (Su H (Su c22 c23))) (Su X (SL o6 cX cY)))))))))) (Su r (Su t (Su z v)))))))))))
 {E F w} {k c:Nat} {a w7 p y Q} (hs:E.s.size<=1000) (hF:F.size<E.cap) (hc8:c<256)
 (I:xk (Sv (some ⟨E.x,0,none⟩)) (AS Sw k) (AS SW c) a) (G:SB E w7 p F) (h:Kp w.heap.size [E.x] w w7)
 (hy:y=⟨iI k (yP E.fold (jd co c c)),none,true,p⟩)
 (hQ:∀a n,bodyPost PB Tryz.f100 (rC E F w y) U1 a n->Q U1 a n):
 cL (aH T) (Su r (Su t (Su z v))) Q a w7:=by
 cases hc;subst hy;replace hQ:=AI hQ;obtain⟨u,rfl⟩:=I.out;refine ac λK D=> ?_
 refine ag λw8 g=> ?_
 replace G:=G.af g;replace h:=h.af g;have d:=AI (cH.fresh G h);clear g G h;go_wp2;refine D.out _ _ ?_;generalize w8.alloc _=w9 at d ⊢;generalize w8.heap.size=b at d ⊢;refine ac λK D=> ?_
 refine ag λwa g=> ?_
 replace d:=AI (d.out.af g);go_wp2_with (first |(go_at_call 137;refine((AI λ(u:SD)(R:a7 u b 77 (words co))=>add_any b c c co u (by omega) (by omega) R).out wa d.out.blk).mono ?_;rintro e n ⟨rfl,s,hO⟩;replace d:=AI (d.out.only hO s);clear s hO)|fail)
 refine D.out _ _ ?_;generalize m:jd co c c=S at d ⊢;replace m:=AI m;have j:∀u:SD,u.heap=n.heap->Calls PB 141 #[Sv (some ⟨E.x,0,none⟩),TL #[AS Sz (wz S 0),AS Sz (wz S 1),AS Sz (wz S 2),AS Sz (wz S 3)]] u λe n=>e=SK (TL #[AS Sz (wz (yP E.fold S) 0),AS Sz (wz (yP E.fold S) 1),AS Sz (wz (yP E.fold S) 2),AS Sz (wz (yP E.fold S) 3)])/\Kp u.heap.size [] u n:=λu R=>wS E.x E.r E.s p E.fl E.fold S u (d.out.sb.blk.af R)
 replace j:=AI j;generalize l:yP E.fold S=S1 at j ⊢;replace l:=AI l;refine ac λK D=> ?_
 refine ao ?_;show aV _ _ _ (SE 0 (5+1)) ..;refine aW 0 5 1 (λN hN B g=> ?_) (by decide);simp only[zq1];replace d:=AI (d.out.af g);have b0:B.cell? ⟨b,0,none⟩=some _:=d.out.blk.cell 0;have b1:B.cell? ⟨b,1,none⟩=some _:=d.out.blk.cell 1;have b2:B.cell? ⟨b,2,none⟩=some _:=d.out.blk.cell 2;have b3:B.cell? ⟨b,3,none⟩=some _:=d.out.blk.cell 3;go_wp2_with (first |(go_at_call 141;refine((AI (j.out B g)).out).mono ?_;rintro e w2 ⟨rfl,hk⟩;have Iw:=AI (d.out.call hk);clear hk)|fail)
 refine hN.out _ _ ?_;have C:cH E F b w w2 p S:=Iw.out;refine bF (f:=138) (i:=5) (rest:=[]) rfl rfl λu=>by simp[go_sem];rfl trivial (Av S1 k Iw.out.sb hF) (λu we hr=> ?_) λch we hr=>by cases hr.1
 have⟨hr1,hr2,hr3⟩:=hr;cases hr1;refine az (D.out _ _ ?_);simp only[T6,zq0];have A:Sent E F w we [E.x,E.r] ⟨iI k S1,none,true,p⟩:=by
  exact⟨0,hr2,λq hq=>(by cases hq),(C.kp.mono (SF _) λx hx _=>by rw[SC.1 hx];exact Tl).trans (hr3.mono C.kp.1 λx hx _=>by rw[SC.1 hx];simp)⟩
 replace A:=AI A;refine ag λwf g=> ?_
 replace A:=AI (A.out.af g);go_wp2;refine hQ.out _ _ ?_;go_ret;exact⟨rfl,by rw[m.out,l.out];exact A.out⟩
theorem JP
 {c0 c1 c4 c5 c6 c7 c8 c11 cE1 W cS1 cS2 H c34 I c36 cM c16 L P c19 s n C v R cX cY i o1 o2 o3 o4 o5 o6} (hc:(Tryz.f100).body=some (Su c0 (Su (Su c1 (SL o1 cE1 W)) (Su c4 (Su c5 (Su c6 (Su (Su c7 (Su c8 (SL o2 cS1 cS2))) (Su (Su c11 (SX i (Su cM (SL o3 c16 (Su L (SL o4 P (Su c19 (SL o5 (Su s (Su n (Su C v))) (Su R (SL o6 cX cY)))))))))) (Su H (Su c34 (Su I c36)))))))))))
 {E F w} {j:Nat} {v4 a Z p y Q} (hs:E.s.size<=1000) (hF:F.size<E.cap) (hfl:E.fl<256)
 (hfr:xk (Sv (some ⟨E.x,0,none⟩)) (AS Sw j) v4 a) (D:SB E Z p F) (g:Kp w.heap.size [E.x] w Z)
 (hy:y=⟨iI j (wH E.ln (jd co 0 255)),none,true,p⟩)
 (hQ:∀a m,bodyPost PB Tryz.f100 (rC E F w y) U1 a m->Q U1 a m):
 cL (aH T) (Su s (Su n (Su C v))) Q a Z:=by
 cases hc;subst hy;replace hQ:=AI hQ;obtain⟨u,rfl⟩:=hfr.out;refine ac λK A=> ?_
 refine ag λw8 d=> ?_
 replace D:=D.af d;replace g:=g.af d;have c:=AI (cH.fresh D g);clear d D g;go_wp2;refine A.out _ _ ?_;generalize w8.alloc _=w9 at c ⊢;generalize w8.heap.size=b at c ⊢;refine ac λK A=> ?_
 refine ag λwa d=> ?_
 replace c:=AI (c.out.af d);go_wp2_with (first |(go_at_call 137;refine((AI λ(u:SD)(M:a7 u b 77 (words co))=>add_any b 0 255 co u (by omega) (by omega) M).out wa c.out.blk).mono ?_;rintro e m ⟨rfl,B,hO⟩;replace c:=AI (c.out.only hO B);clear B hO)|fail)
 refine A.out _ _ ?_;generalize l:jd co 0 255=S at c ⊢;replace l:=AI l;have h:∀u:SD,u.heap=m.heap->Calls PB 139 #[Sv (some ⟨E.x,0,none⟩),TL #[AS Sz (wz S 0),AS Sz (wz S 1),AS Sz (wz S 2),AS Sz (wz S 3)]] u λe m=>e=SK (TL #[AS Sz (wz (wH E.ln S) 0),AS Sz (wz (wH E.ln S) 1),AS Sz (wz (wH E.ln S) 2),AS Sz (wz (wH E.ln S) 3)])/\Kp u.heap.size [] u m:=λu M=>by
  have:=sP E.x E.r E.s p E.fl E.fold S u hfl (c.out.sb.blk.af M);have e:(if E.fl/2%2=1 then del S 10 else S)=wH E.ln S:=by
   unfold wH eK.ln;simp only[decide_eq_true_eq]
  rw[e]at this;exact this
 replace h:=AI h;generalize k:wH E.ln S=S1 at h ⊢;replace k:=AI k;refine ac λK A=> ?_
 refine ao ?_;show aV _ _ _ (SE 0 (5+1)) ..;refine aW 0 5 1 (λN hN t d=> ?_) (by decide);simp only[zq1];replace c:=AI (c.out.af d);have b0:t.cell? ⟨b,0,none⟩=some _:=c.out.blk.cell 0;have b1:t.cell? ⟨b,1,none⟩=some _:=c.out.blk.cell 1;have b2:t.cell? ⟨b,2,none⟩=some _:=c.out.blk.cell 2;have b3:t.cell? ⟨b,3,none⟩=some _:=c.out.blk.cell 3;go_wp2_with (first |(go_at_call 139;refine((AI (h.out t d)).out).mono ?_;rintro e w2 ⟨rfl,hk⟩;have Iw:=AI (c.out.call hk);clear hk)|fail)
 refine hN.out _ _ ?_;have z:cH E F b w w2 p S:=Iw.out;refine bF (f:=138) (i:=5) (rest:=[]) rfl rfl λu=>by simp[go_sem];rfl trivial (Av S1 j Iw.out.sb hF) (λu we X=> ?_) λch we X=>by cases X.1
 have⟨hr1,G,hr3⟩:=X;cases hr1;refine az (A.out _ _ ?_);simp only[T6,zq0];have r:Sent E F w we [E.x,E.r] ⟨iI j S1,none,true,p⟩:=by
  exact⟨0,G,λq hq=>(by cases hq),(z.kp.mono (SF _) λx hx _=>by rw[SC.1 hx];exact Tl).trans (hr3.mono z.kp.1 λx hx _=>by rw[SC.1 hx];simp)⟩
 replace r:=AI r;refine ag λwf d=> ?_
 replace r:=AI (r.out.af d);go_wp2;refine hQ.out _ _ ?_;go_ret;exact⟨rfl,by rw[l.out,k.out];exact r.out⟩
def Of(b d e c:SH)(a:Act):Prop:=a.defers=[]/\a.tmps.size=134/\a.tmps.getD 0 undef=b/\a.tmps.getD 3 undef=d/\a.tmps.getD 4 undef=e/\a.tmps.getD 5 undef=c
def Of.out{e d b f a}(h:Of e d b f a):∃u:Nat->SH,a= {tmps:=(e::u 1::u 2::d::b::f::u 6::u 7::u 8::u 9::u 10::u 11::u 12::u 13::u 14::u 15::u 16::u 17::u 18::u 19::u 20::u 21::u 22::u 23::u 24::u 25::u 26::u 27::u 28::u 29::u 30::u 31::u 32::u 33::u 34::u 35::u 36::u 37::u 38::u 39::u 40::u 41::u 42::u 43::u 44::u 45::u 46::u 47::u 48::u 49::u 50::u 51::u 52::u 53::u 54::u 55::u 56::u 57::u 58::u 59::u 60::u 61::u 62::u 63::u 64::u 65::u 66::u 67::u 68::u 69::u 70::u 71::u 72::u 73::u 74::u 75::u 76::u 77::u 78::u 79::u 80::u 81::u 82::u 83::u 84::u 85::u 86::u 87::u 88::u 89::u 90::u 91::u 92::u 93::u 94::u 95::u 96::u 97::u 98::u 99::u 100::u 101::u 102::u 103::u 104::u 105::u 106::u 107::u 108::u 109::u 110::u 111::u 112::u 113::u 114::u 115::u 116::u 117::u 118::u 119::u 120::u 121::u 122::u 123::u 124::u 125::u 126::u 127::u 128::u 129::u 130::u 131::u 132::u 133::[]).toArray,defers:=[]}:=by
 have⟨j,g,rfl,rfl,rfl,rfl⟩:=h;have⟨c,k⟩:=a;subst j;exact⟨λi=>c.getD i undef,congrArg (λt=>({tmps:=t,defers:=[]}:Act)) (dp 134 c g)⟩
def Oh(c d e b:SH)(a:Act):Prop:=a.defers=[]/\a.tmps.size=134/\a.tmps.getD 0 undef=c/\a.tmps.getD 3 undef=d/\a.tmps.getD 4 undef=e/\a.tmps.getD 115 undef=b
def Oh.out{f e c b a}(h:Oh f e c b a):∃u:Nat->SH,a= {tmps:=(f::u 1::u 2::e::c::u 5::u 6::u 7::u 8::u 9::u 10::u 11::u 12::u 13::u 14::u 15::u 16::u 17::u 18::u 19::u 20::u 21::u 22::u 23::u 24::u 25::u 26::u 27::u 28::u 29::u 30::u 31::u 32::u 33::u 34::u 35::u 36::u 37::u 38::u 39::u 40::u 41::u 42::u 43::u 44::u 45::u 46::u 47::u 48::u 49::u 50::u 51::u 52::u 53::u 54::u 55::u 56::u 57::u 58::u 59::u 60::u 61::u 62::u 63::u 64::u 65::u 66::u 67::u 68::u 69::u 70::u 71::u 72::u 73::u 74::u 75::u 76::u 77::u 78::u 79::u 80::u 81::u 82::u 83::u 84::u 85::u 86::u 87::u 88::u 89::u 90::u 91::u 92::u 93::u 94::u 95::u 96::u 97::u 98::u 99::u 100::u 101::u 102::u 103::u 104::u 105::u 106::u 107::u 108::u 109::u 110::u 111::u 112::u 113::u 114::b::u 116::u 117::u 118::u 119::u 120::u 121::u 122::u 123::u 124::u 125::u 126::u 127::u 128::u 129::u 130::u 131::u 132::u 133::[]).toArray,defers:=[]}:=by
 have⟨j,g,rfl,rfl,rfl,rfl⟩:=h;have⟨d,k⟩:=a;subst j;exact⟨λi=>d.getD i undef,congrArg (λt=>({tmps:=t,defers:=[]}:Act)) (dp 134 d g)⟩
def Og(c d e b:SH)(a:Act):Prop:=a.defers=[]/\a.tmps.size=134/\a.tmps.getD 0 undef=c/\a.tmps.getD 3 undef=d/\a.tmps.getD 4 undef=e/\a.tmps.getD 55 undef=b
def Og.out{d f c b a}(h:Og d f c b a):∃u:Nat->SH,a= {tmps:=(d::u 1::u 2::f::c::u 5::u 6::u 7::u 8::u 9::u 10::u 11::u 12::u 13::u 14::u 15::u 16::u 17::u 18::u 19::u 20::u 21::u 22::u 23::u 24::u 25::u 26::u 27::u 28::u 29::u 30::u 31::u 32::u 33::u 34::u 35::u 36::u 37::u 38::u 39::u 40::u 41::u 42::u 43::u 44::u 45::u 46::u 47::u 48::u 49::u 50::u 51::u 52::u 53::u 54::b::u 56::u 57::u 58::u 59::u 60::u 61::u 62::u 63::u 64::u 65::u 66::u 67::u 68::u 69::u 70::u 71::u 72::u 73::u 74::u 75::u 76::u 77::u 78::u 79::u 80::u 81::u 82::u 83::u 84::u 85::u 86::u 87::u 88::u 89::u 90::u 91::u 92::u 93::u 94::u 95::u 96::u 97::u 98::u 99::u 100::u 101::u 102::u 103::u 104::u 105::u 106::u 107::u 108::u 109::u 110::u 111::u 112::u 113::u 114::u 115::u 116::u 117::u 118::u 119::u 120::u 121::u 122::u 123::u 124::u 125::u 126::u 127::u 128::u 129::u 130::u 131::u 132::u 133::[]).toArray,defers:=[]}:=by
 have⟨g,j,rfl,rfl,rfl,rfl⟩:=h;have⟨e,k⟩:=a;subst g;exact⟨λi=>e.getD i undef,congrArg (λt=>({tmps:=t,defers:=[]}:Act)) (dp 134 e j)⟩
def Lu(d e f c b:SH)(a:Act):Prop:=a.defers=[]/\a.tmps.size=134/\a.tmps.getD 0 undef=d/\a.tmps.getD 3 undef=e/\a.tmps.getD 4 undef=f/\a.tmps.getD 55 undef=c/\a.tmps.getD 56 undef=b
def Lu.out{e f d b c a}(h:Lu e f d b c a):∃u:Nat->SH,a= {tmps:=(e::u 1::u 2::f::d::u 5::u 6::u 7::u 8::u 9::u 10::u 11::u 12::u 13::u 14::u 15::u 16::u 17::u 18::u 19::u 20::u 21::u 22::u 23::u 24::u 25::u 26::u 27::u 28::u 29::u 30::u 31::u 32::u 33::u 34::u 35::u 36::u 37::u 38::u 39::u 40::u 41::u 42::u 43::u 44::u 45::u 46::u 47::u 48::u 49::u 50::u 51::u 52::u 53::u 54::b::c::u 57::u 58::u 59::u 60::u 61::u 62::u 63::u 64::u 65::u 66::u 67::u 68::u 69::u 70::u 71::u 72::u 73::u 74::u 75::u 76::u 77::u 78::u 79::u 80::u 81::u 82::u 83::u 84::u 85::u 86::u 87::u 88::u 89::u 90::u 91::u 92::u 93::u 94::u 95::u 96::u 97::u 98::u 99::u 100::u 101::u 102::u 103::u 104::u 105::u 106::u 107::u 108::u 109::u 110::u 111::u 112::u 113::u 114::u 115::u 116::u 117::u 118::u 119::u 120::u 121::u 122::u 123::u 124::u 125::u 126::u 127::u 128::u 129::u 130::u 131::u 132::u 133::[]).toArray,defers:=[]}:=by
 have⟨k,j,rfl,rfl,rfl,rfl,rfl⟩:=h;have⟨g,l⟩:=a;subst k;exact⟨λi=>g.getD i undef,congrArg (λt=>({tmps:=t,defers:=[]}:Act)) (dp 134 g j)⟩
structure l9(E:eK)(F:Array SH)(w0 w:SD)(p:Nat):Prop where
 sb:SB E w p F
 kp:Kp w0.heap.size [E.x] w0 w
def l9.af{E F a w w' p}(h:l9 E F a w p)(b:w'.heap=w.heap):l9 E F a w' p:=⟨h.sb.af b,h.kp.af b⟩
def l9.move{E F a w}{p q:Nat}(h:l9 E F a w p):l9 E F a (w.setCell ⟨E.x,1,none⟩ (AS Sw (q:Int))) q:=⟨h.sb.move,h.kp.setCell (λ_=>SC.2 rfl) _⟩
def Sent.Li{E F w c d y}(h:Sent E F c d [E.x,E.r] y)(i:Kp w.heap.size [E.x] w c):Sent E F w d [E.x,E.r] y:=by
 have⟨e,j,f,k⟩:=h;have a:=i.1;exact⟨e,j,λq g=>⟨(f q g).1,Tt a (f q g).2⟩,(i.mono (SF _) λx b _=>by simp[SC.1 b]).trans (k.mono a λx b _=>b)⟩
def l9.sent{E F a w p sd k at_ more}(h:l9 E F a w p):Sent E F a (ay w E.r (SS E.cap (F.push (Tok.val 0 (ly k at_))) false sd E.rc E.tm)) [E.x,E.r] ⟨ly k at_,none,more,p⟩:=
 ⟨0,h.sb.push h.sb.lt.2.2 h.sb.tL _,λq c=>(by cases c),(h.kp.mono (SF _) λx b _=>by simp[SC.1 b]).ay λ_=>by simp _⟩
def nO{a b:UInt8}{n}(c:(b.toNat:Int)=n)(h:a≠b):(a.toNat:Int)≠n:=λe=>h (by rw[<- TP];omega)
def Hg
 {c0 R c4 c5 c6 c7 c8 c11 cE1 cE2 cS1 cS2 c33 c34 c35 c36 cM c16 c17 c18 c19 c20 c21 c22 c23 c24 cX cY i o1 o2 o3 o4 o5 o6} (hc:(Tryz.f100).body=some (Su c0 (Su (Su R (SL o1 cE1 cE2)) (Su c4 (Su c5 (Su c6 (Su (Su c7 (Su c8 (SL o2 cS1 cS2))) (Su (Su c11 (SX i (Su cM (SL o3 c16 (Su c17 (SL o4 c18 (Su c19 (SL o5 (Su c20 (Su c21 (Su c22 c23))) (Su c24 (SL o6 cX cY)))))))))) (Su c33 (Su c34 (Su c35 c36)))))))))))
 {E F w y p} (hs:E.s.size<=1000) (hF:F.size<E.cap) (hfl:E.fl<256) (hps:p<=E.s.size) (h:SB E w p F) (l:eB E.ln E.fold E.l p=some y) {us} (hus:us=List.replicate 133 undef):
 cL (aH T) (Su c0 (Su (Su R (SL o1 cE1 cE2)) (Su c4 (Su c5 (Su c6 (Su (Su c7 (Su c8 (SL o2 cS1 cS2))) (Su (Su c11 (SX i (Su cM (SL o3 c16 (Su c17 (SL o4 c18 (Su c19 (SL o5 (Su c20 (Su c21 (Su c22 c23))) (Su c24 (SL o6 cX cY)))))))))) (Su c33 (Su c34 (Su c35 c36)))))))))) (bodyPost PB Tryz.f100 (rC E F w y)) {tmps:=#[Sv (some ⟨E.x,0,none⟩)]++TF (134-1) undef,defers:=[]} w:=by
 have hT:=λat_ c a w7 p y Q=> @Hf T _ _ _ _ _ _ _ _ _ _ _ _ _ _ _ _ _ _ _ _ _ _ _ _ _ _ _ _ _ _ _ _ _ _ _ hc E F w at_ c a w7 p y Q hs hF
 have hD:=λat_ v a w7 p y Q=> @JP T _ _ _ _ _ _ _ _ _ _ _ _ _ _ _ _ _ _ _ _ _ _ _ _ _ _ _ _ _ _ _ _ _ _ _ hc E F w at_ v a w7 p y Q hs hF hfl
 replace hT:=AI hT;replace hD:=AI hD;cases hc;simp only[T7,Tc,T9,Tp,Tn,SQ,SV,Td,T8,Ti,Tf];clear hus us;have g:=AI (⟨h,Kp.refl w⟩:l9 E F w w p);clear h;refine ac (λK m=> ?_);refine ag (λw1 j=> ?_);replace g:=AI (g.out.af j);clear j;go_wp2;refine m.out _ _ ?_;clear m K;refine ac (λK1 L=> ?_);refine ac (λK m=> ?_);refine ag (λw2 j=> ?_);replace g:=AI (g.out.af j);have c0:w2.cell? ⟨E.x,0,none⟩=some (Sy E.s):=g.out.sb.blk.cell 0;have R:w2.cell? ⟨E.x,1,none⟩=some (AS Sw p):=g.out.sb.blk.cell 1;clear j;go_quiet (fail)
 refine m.out _ _ ?_;clear m K c0 R;replace g:=AI (g.out.af (w':=w2.drewN nq) rfl);generalize w2.drewN nq=w3 at *;clear w2 nq w1;unfold eB at l;by_cases hpe:p=E.s.size
 .have hd:E.l.drop p=[]:=by
   refine TJ ?_;unfold eK.l;rw[<- SR,hpe];exact SF _
  rw[hd]at l;cases l;have z:(p:Int)=(E.s.size:Int):=by omega
  refine bG (by simp[SJ,z]) ?_;clear hd hpe z;refine ac (λM hM=> ?_);refine li 9 (by kernel_rfl) (by kernel_rfl) λK m w4 he4=> ?_
  simp only[TR,Ue];have R:w4.cell? ⟨E.x,1,none⟩=some (AS Sw p):=(g.out.sb.blk.af he4).cell 1;have c3:w4.cell? ⟨E.x,3,none⟩=some (SU (some E.r)):=(g.out.sb.blk.af he4).cell 3;clear he4;repeat still_step
  refine wpStill_nil (m.out _ ?_);clear m K R c3;obtain⟨sd,X⟩:=g.out.sb.chan;refine mh (rest:=[]) (v:=Tok.val 0 (ly 0 p)) rfl rfl (PB.send E.r _ rfl rfl ?_) X hF ?_
  .rfl
  refine az ?_;simp only[T6];refine hM.out _ _ ?_;clear hM M;have s:=AI (g.out.sent (sd:=sd+1) (k:=0) (at_:=p) (more:=false));clear X g;show cL _ _ _ _ (ay w3 E.r (SS E.cap (F.push (Tok.val 0 (ly 0 p))) false (sd+1) E.rc E.tm));generalize ay w3 E.r (SS E.cap (F.push (Tok.val 0 (ly 0 p))) false (sd+1) E.rc E.tm)=w5 at *;refine ag λw6 j=> ?_
  replace s:=AI (s.out.af j);clear j;go_wp2;go_ret;exact⟨rfl,s.out⟩
 have hlt:p<E.s.size:=by omega
 have hd:E.l.drop p=E.s[p]::E.l.drop (p+1):=drop_at E.s p hlt;rw[hd]at l;dsimp only at l;have z:¬ (p:Int)=(E.s.size:Int):=by omega
 refine bK (by simp[SJ,z]) (fS ?_);refine L.out _ _ ?_;clear L K1 hpe z hd;have hp0:(p:Int)<(E.s.size:Int):=by omega
 have hc8:=E.s[p].toNat_lt;generalize hcc:E.s[p]=c at l hc8;replace l:=AI l;refine bQ (λG B=>xk (Sv (some ⟨E.x,0,none⟩)) (AS Sw p) undef G/\l9 E F w B p) ?_ ?_
 .refine ag λw4 j=> ?_
  replace g:=AI (g.out.af j);have R:w4.cell? ⟨E.x,1,none⟩=some (AS Sw p):=g.out.sb.blk.cell 1;clear j;go_wp2;refine⟨?_,g.out⟩;exact⟨rfl,rfl,rfl,rfl,rfl⟩
 intro a w4 ⟨r,C⟩;clear g;have g:=AI C;clear C;obtain⟨u,rfl⟩:=r.out;refine bQ (λG B=>xk (Sv (some ⟨E.x,0,none⟩)) (AS Sw p) (AS SW c.toNat) G/\l9 E F w B p) ?_ ?_
 .refine ag λw5 j=> ?_
  replace g:=AI (g.out.af j);have c0:w5.cell? ⟨E.x,0,none⟩=some (Sy E.s):=g.out.sb.blk.cell 0;clear j;subst hcc;go_wp2;refine⟨?_,g.out⟩;exact⟨rfl,rfl,rfl,rfl,rfl⟩
 intro a w5 ⟨r,C⟩;clear g;have g:=AI C;clear C;obtain⟨u,rfl⟩:=r.out;replace hcc:=AI hcc;have hw1:IntKind.i64.wrap ((p:Int)+1)=((p+1:Nat):Int):=by rw[SN];omega
 refine bQ (λG B=>xk (Sv (some ⟨E.x,0,none⟩)) (AS Sw p) (AS SW c.toNat) G/\l9 E F w B (p+1)) ?_ ?_
 .refine ag λw6 j=> ?_
  replace g:=AI (g.out.af j);have R:w6.cell? ⟨E.x,1,none⟩=some (AS Sw p):=g.out.sb.blk.cell 1;have f1:∀i,w6.frozen? ⟨E.x,i,none⟩=false:=g.out.sb.blk.frozen;clear j;go_wp2;refine⟨?_,g.out.move (q:=p+1)⟩;exact⟨rfl,rfl,rfl,rfl,rfl⟩
 intro a w6 ⟨r,C⟩;clear g hw1;have g:=AI C;clear C;obtain⟨u,rfl⟩:=r.out;have hSg:=AI λw=>Jk c.toNat w
 refine ac λK1 L=> ?_
 refine bQ (λG B=>Of (Sv (some ⟨E.x,0,none⟩)) (AS Sw p) (AS SW c.toNat) (AS Sw (fG c.toNat)) G/\l9 E F w B (p+1)) ?_ ?_
 .refine ag λw7 j=> ?_
  replace g:=AI (g.out.af j);clear j;generalize fG c.toNat=sk at *;go_wp2_with (first |(go_at_call 134;refine(hSg.out _).mono ?_;rintro e B ⟨rfl,rfl⟩)|fail)
  refine⟨?_,g.out⟩;exact⟨rfl,rfl,rfl,rfl,rfl,rfl⟩
 intro a w7 ⟨r,C⟩;clear g hSg;have g:=AI C;clear C;obtain⟨u,rfl⟩:=r.out;by_cases W:0<=fG c.toNat
 .have l:=l.out;rw[if_pos W]at l;cases l;generalize fG c.toNat=sk at *;refine ac λK m=> ?_
  refine ag λw8 j=> ?_
  replace g:=AI (g.out.af j);clear j;go_wp2;refine m.out _ _ ?_;clear m K;refine bG (by simp[SJ,W]) ?_;refine ac λK m=> ?_
  refine ao ?_;show aV _ _ _ (SE 0 (7+1)) ..;refine aW 0 7 1 (λN D w9 j=> ?_) (by decide);simp only[zq1];replace g:=AI (g.out.af j);have c3:w9.cell? ⟨E.x,3,none⟩=some (SU (some E.r)):=g.out.sb.blk.cell 3;clear j;go_wp2;refine D.out _ _ ?_;clear D N c3;obtain⟨sd,X⟩:=g.out.sb.chan;refine mh (rest:=[]) (v:=Tok.val 0 (ly sk p)) rfl rfl (PB.send E.r _ rfl rfl ?_) X hF ?_
  .rfl
  refine az ?_;simp only[T6];refine m.out _ _ ?_;clear m K;have s:=AI (g.out.sent (sd:=sd+1) (k:=sk) (at_:=p) (more:=true));clear X g;show cL _ _ _ _ (ay w9 E.r (SS E.cap (F.push (Tok.val 0 (ly sk p))) false (sd+1) E.rc E.tm));generalize ay w9 E.r (SS E.cap (F.push (Tok.val 0 (ly sk p))) false (sd+1) E.rc E.tm)=wa at *;refine ag λwb j=> ?_
  replace s:=AI (s.out.af j);clear j;go_wp2;go_ret;exact⟨rfl,s.out⟩
 replace l:=AI (by have:=l.out;rw[if_neg W]at this;exact this);have hsg':¬ 0<=fG c.toNat:=W;generalize fG c.toNat=sk at *;refine ac λK m=> ?_
 refine ag λw8 j=> ?_
 replace g:=AI (g.out.af j);clear j;go_wp2;refine m.out _ _ ?_;clear m K;refine bK (by simp[SJ,hsg']) (fS ?_);refine L.out _ _ ?_;clear L K1 W hsg';refine ac λK1 L=> ?_
 refine bQ (λG B=>Og (Sv (some ⟨E.x,0,none⟩)) (AS Sw p) (AS SW c.toNat) (AS SW c.toNat) G/\l9 E F w B (p+1)) ?_ ?_
 .refine ag λw9 j=> ?_
  replace g:=AI (g.out.af j);clear j;go_wp2;refine⟨?_,g.out⟩;exact⟨rfl,rfl,rfl,rfl,rfl,rfl⟩
 intro a w9 ⟨r,C⟩;clear g;have g:=AI C;clear C;obtain⟨u,rfl⟩:=r.out;have hEl:E.l.length=E.s.size:=by unfold eK.l;rw[<- SR]
 refine ec ?_;have hcn:∀n:Nat,n<256->((c.toNat:Int)=(n:Int)↔c=n.toUInt8):=λn hn=>by
  rw[<- TP];have:n.toUInt8.toNat=n:=by simp;omega
  rw[this];omega
 by_cases t:c=42\/c=43\/c=63\/c=123
 .have l:=l.out;rw[if_pos t]at l;cases l;refine bQ (λG B=>Lu (Sv (some ⟨E.x,0,none⟩)) (AS Sw p) (AS SW c.toNat) (AS SW c.toNat) (SG true) G/\l9 E F w B (p+1)) ?_ ?_
  .refine ag λwa j=> ?_
   replace g:=AI (g.out.af j);clear j hcn;rcases t with rfl|rfl|rfl|rfl
   all_goals
    go_wp2;refine⟨?_,g.out⟩;exact⟨rfl,rfl,rfl,rfl,rfl,rfl,rfl⟩
  intro a wa ⟨r,C⟩;clear g;have g:=AI C;clear C;obtain⟨u,rfl⟩:=r.out;have hrep':c.toNat=42\/c.toNat=43\/c.toNat=63\/c.toNat=123:=by
   rcases t with rfl|rfl|rfl|rfl
   .exact .inl rfl
   .exact .inr (.inl rfl)
   .exact .inr (.inr (.inl rfl))
   .exact .inr (.inr (.inr rfl))
  refine bG rfl ?_;have hRp:=AI λ(u:SD)(hu:SB E u (p+1) F)=>OJ (T:=T) c.toNat p hrep' rfl hs (by omega) hu hF
  clear t hrep' hcn;refine ac λK m=> ?_
  refine ao ?_;show aV _ _ _ (SE 0 (3+2)) ..;refine aW 0 3 2 (λN D wd j=> ?_) (by decide);simp only[zq1];have P:=AI (g.out.af j);clear j g;go_wp2;refine D.out _ _ ?_;clear D N;refine bF (f:=135) (i:=3) (rest:=SE 4 (1+0)) rfl rfl λu=>by simp[go_sem] trivial (hRp.out _ P.out.sb) (λu wz x=> ?_) λch wz x=>by cases x.1
  obtain⟨H,x⟩:=x;cases H;have s:=AI (x.Li P.out.kp);clear x;simp only[T6,zq0];refine aW 4 1 0 (λN D wy j=> ?_) (by decide);simp only[zq1];replace s:=AI (s.out.af j);clear j;go_wp2;refine D.out _ _ (az (m.out _ _ ?_));clear D N m K;refine ag λwx j=> ?_
  replace s:=AI (s.out.af j);clear j;go_wp2;go_ret;exact⟨rfl,s.out⟩
 replace l:=AI (by have:=l.out;rw[if_neg t]at this;exact this);refine bQ (λG B=>Lu (Sv (some ⟨E.x,0,none⟩)) (AS Sw p) (AS SW c.toNat) (AS SW c.toNat) (SG false) G/\l9 E F w B (p+1)) ?_ ?_
 .refine ag λwa j=> ?_
  replace g:=AI (g.out.af j);have S:(c.toNat:Int)≠42:=nO (b:=42) rfl λh=>t (.inl h)
  have e2:(c.toNat:Int)≠43:=nO (b:=43) rfl λh=>t (.inr (.inl h))
  have e3:(c.toNat:Int)≠63:=nO (b:=63) rfl λh=>t (.inr (.inr (.inl h)))
  have e4:(c.toNat:Int)≠123:=nO (b:=123) rfl λh=>t (.inr (.inr (.inr h)))
  clear j hcn t;go_wp2;refine⟨⟨rfl,rfl,rfl,rfl,rfl,rfl,?_⟩,g.out⟩;show SG _=_;simp[e4]
 intro a wa ⟨r,C⟩;clear g t;have g:=AI C;clear C;obtain⟨u,rfl⟩:=r.out;refine bK rfl ?_;by_cases h91:c=91
 .subst h91;replace l:=AI (by have:=l.out;rw[if_pos rfl]at this;exact this);refine ac λK m=> ?_
  refine ag λwb j=> ?_
  replace g:=AI (g.out.af j);clear j hcn;go_wp2;refine m.out _ _ ?_;clear m K;refine bG rfl ?_;have hSt:=AI λ(u:SD)(hu:SB E u (p+1) F)=>OD (T:=T) p hs (by omega) hu hF hfl l.out
  refine ac λK m=> ?_
  refine ao ?_;show aV _ _ _ (SE 0 (2+2)) ..;refine aW 0 2 2 (λN D wd j=> ?_) (by decide);simp only[zq1];have P:=AI (g.out.af j);clear j g;go_wp2;refine D.out _ _ ?_;refine bF (f:=136) (i:=2) (rest:=SE 3 (1+0)) rfl rfl λu=>by simp[go_sem] trivial (hSt.out _ P.out.sb) (λu wz x=> ?_) λch wz x=>by cases x.1
  obtain⟨H,x⟩:=x;cases H;have s:=AI (x.Li P.out.kp);simp only[T6,zq0];refine aW 3 1 0 (λN D wy j=> ?_) (by decide);simp only[zq1];replace s:=AI (s.out.af j);go_wp2;refine D.out _ _ (az (m.out _ _ ?_));refine ag λwx j=> ?_
  replace s:=AI (s.out.af j);go_wp2;go_ret;exact⟨rfl,s.out⟩
 replace l:=AI (by have:=l.out;rw[if_neg h91]at this;exact this);refine ac λK m=> ?_
 refine ag λwb j=> ?_
 replace g:=AI (g.out.af j);have S:(c.toNat:Int)≠91:=nO (b:=91) rfl h91;go_wp2;refine m.out _ _ ?_;refine bK (by simp[SJ,S]) ?_;by_cases h46:c=46
 .subst h46;replace l:=AI (by have:=l.out;rw[if_pos rfl]at this;exact this);refine ac λK m=> ?_
  refine ag λwc j=> ?_
  replace g:=AI (g.out.af j);go_wp2;refine m.out _ _ ?_;refine bG rfl ?_;have l:=l.out;refine hD.out p (AS SW ((46:UInt8).toNat:Int)) _ _ (p+1) y _ ?_ g.out.sb g.out.kp (Option.some.inj l).symm λa B h=>h
  exact⟨rfl,rfl,rfl,rfl,rfl⟩
 replace l:=AI (by have:=l.out;rw[if_neg h46]at this;exact this);refine ac λK m=> ?_
 refine ag λwc j=> ?_
 replace g:=AI (g.out.af j);have S:(c.toNat:Int)≠46:=nO (b:=46) rfl h46;go_wp2;refine m.out _ _ ?_;refine bK (by simp[SJ,S]) ?_;by_cases h92:c=92
 .subst h92;replace l:=AI (by have:=l.out;rw[if_pos rfl]at this;exact this);refine ac λK m=> ?_
  refine ag λwd j=> ?_
  replace g:=AI (g.out.af j);go_wp2;refine m.out _ _ ?_;refine bG rfl ?_;refine ac λK2 hK2=> ?_
  refine ac λK m=> ?_
  refine ag λw2 j=> ?_
  replace g:=AI (g.out.af j);have c0:w2.cell? ⟨E.x,0,none⟩=some (Sy E.s):=g.out.sb.blk.cell 0;have R:w2.cell? ⟨E.x,1,none⟩=some (AS Sw ((p+1:Nat):Int)):=g.out.sb.blk.cell 1;obtain⟨A,I⟩:∃A,A=p+1:=⟨_,rfl⟩;rw[<- I]at R;replace I:=AI I;go_quiet (fail)
  refine m.out _ _ ?_;replace g:=AI (g.out.af (w':=w2.drewN nq) rfl);generalize w2.drewN nq=w3 at *;rw[<- I.out]at g l;have hp1s:A<=E.s.size:=by have:=I.out;omega
  by_cases hpe:A=E.s.size
  .have hd:E.l.drop A=[]:=TJ (by rw[hEl,hpe];exact SF _);have z:(A:Int)=(E.s.size:Int):=by omega
   have Z:y=ez 2 p A:=by
    have hy2:=l.out;rw[hd]at hy2;rw[(Option.some.inj hy2).symm,I.out]
   subst Z;refine bG (by simp[SJ,z]) ?_;refine ac λK m=> ?_
   refine ao ?_;show aV _ _ _ (SE 0 (2+2)) ..;refine aW 0 2 2 (λN D wb j=> ?_) (by decide);simp only[zq1];have P:=AI (g.out.af j);go_wp2;refine D.out _ _ ?_;refine bF (f:=140) (i:=2) (rest:=SE 3 (1+0)) rfl rfl λu=>by simp[go_sem] trivial (nF 2 p P.out.sb hF) (λu wz x=> ?_) λch wz x=>by cases x.1
   obtain⟨H,x⟩:=x;cases H;have s:=AI (x.from P.out.kp);simp only[T6,zq0];refine aW 3 1 0 (λN D wy j=> ?_) (by decide);simp only[zq1];replace s:=AI (s.out.af j);go_wp2;refine D.out _ _ (az (m.out _ _ ?_));refine ag λwx j=> ?_
   replace s:=AI (s.out.af j);go_wp2;go_ret;exact⟨rfl,s.out⟩
  have hlt1:A<E.s.size:=by omega
  have hd:E.l.drop A=E.s[A]::E.l.drop (A+1):=drop_at E.s A hlt1;have l:=l.out;rw[hd]at l;dsimp only at l;have z:¬ (A:Int)=(E.s.size:Int):=by omega
  refine bK (by simp[SJ,z]) (fS ?_);refine hK2.out _ _ ?_;have hp2:(A:Int)<(E.s.size:Int):=by omega
  have hd8:=E.s[A].toNat_lt;generalize hdd:E.s[A]=d at l hd8;replace l:=AI l;refine bQ (λG B=>xk (Sv (some ⟨E.x,0,none⟩)) (AS Sw p) (AS SW d.toNat) G/\l9 E F w B A) ?_ ?_
  .refine ag λw5 j=> ?_
   replace g:=AI (g.out.af j);have c0:w5.cell? ⟨E.x,0,none⟩=some (Sy E.s):=g.out.sb.blk.cell 0;have R:w5.cell? ⟨E.x,1,none⟩=some (AS Sw A):=g.out.sb.blk.cell 1;subst hdd;go_quiet (fail)
   refine⟨?_,g.out.af (w':=w5.drewN nq) rfl⟩;exact⟨rfl,rfl,rfl,rfl,rfl⟩
  intro a w5 ⟨r,C⟩;have g:=AI C;obtain⟨u,rfl⟩:=r.out;replace hdd:=AI hdd;have hw1:IntKind.i64.wrap ((A:Int)+1)=((A+1:Nat):Int):=by rw[SN];omega
  refine bQ (λG B=>xk (Sv (some ⟨E.x,0,none⟩)) (AS Sw p) (AS SW d.toNat) G/\l9 E F w B (A+1)) ?_ ?_
  .refine ag λw6 j=> ?_
   replace g:=AI (g.out.af j);have R:w6.cell? ⟨E.x,1,none⟩=some (AS Sw A):=g.out.sb.blk.cell 1;have f1:∀i,w6.frozen? ⟨E.x,i,none⟩=false:=g.out.sb.blk.frozen;go_wp2;refine⟨?_,g.out.move (q:=A+1)⟩;exact⟨rfl,rfl,rfl,rfl,rfl⟩
  intro a w6 ⟨r,C⟩;have g:=AI C;obtain⟨u,rfl⟩:=r.out;refine ac λK2 hK2=> ?_
  by_cases h3:49<=d.toNat/\d.toNat<=57
  .have Z:y=ez 3 p (A+1):=by
    have hy2:=l.out;rw[if_pos h3]at hy2;rw[(Option.some.inj hy2).symm,I.out]
   subst Z;have S:(49:Int)<=(d.toNat:Int):=by omega
   have e2:(d.toNat:Int)<=57:=by omega
   refine ac λK m=> ?_
   refine ag λw7 j=> ?_
   replace g:=AI (g.out.af j);go_wp2;refine m.out _ _ ?_;refine bG (by simp[SJ,S,e2]) ?_;refine ac λK m=> ?_
   refine ao ?_;show aV _ _ _ (SE 0 (2+2)) ..;refine aW 0 2 2 (λN D wb j=> ?_) (by decide);simp only[zq1];have P:=AI (g.out.af j);go_wp2;refine D.out _ _ ?_;refine bF (f:=140) (i:=2) (rest:=SE 3 (1+0)) rfl rfl λu=>by simp[go_sem] trivial (nF 3 p P.out.sb hF) (λu wz x=> ?_) λch wz x=>by cases x.1
   obtain⟨H,x⟩:=x;cases H;have s:=AI (x.from P.out.kp);simp only[T6,zq0];refine aW 3 1 0 (λN D wy j=> ?_) (by decide);simp only[zq1];replace s:=AI (s.out.af j);go_wp2;refine D.out _ _ (az (m.out _ _ ?_));refine ag λwx j=> ?_
   replace s:=AI (s.out.af j);go_wp2;go_ret;exact⟨rfl,s.out⟩
  replace l:=AI (by have:=l.out;rw[if_neg h3]at this;exact this);refine bQ (λG B=>Oh (Sv (some ⟨E.x,0,none⟩)) (AS Sw p) (AS SW d.toNat) (SG false) G/\l9 E F w B (A+1)) ?_ ?_
  .refine ag λw7 j=> ?_
   replace g:=AI (g.out.af j);by_cases h4:49<=d.toNat
   .have S:(49:Int)<=(d.toNat:Int):=by omega
    have e2:¬ (d.toNat:Int)<=57:=by omega
    go_wp2;refine⟨⟨rfl,rfl,rfl,rfl,rfl,?_⟩,g.out⟩;show SG _=_;simp[S,e2]
   .have S:¬ (49:Int)<=(d.toNat:Int):=by omega
    go_wp2;refine⟨⟨rfl,rfl,rfl,rfl,rfl,?_⟩,g.out⟩;show SG _=_;simp[S]
  intro a w7 ⟨r,C⟩;have g:=AI C;obtain⟨u,rfl⟩:=r.out;refine bK rfl (fS ?_);refine hK2.out _ _ ?_;have hIx:∀(w:SD),Calls PB 32 #[Sy ⟨#[40,41,91,46,94,36,92,124,42,43,63,123,93,125]⟩,AS SW d.toNat] w λe B=>e=SK (AS Sw (SY Km d))/\B=w:=λw=>by
   have:=xW ⟨#[40,41,91,46,94,36,92,124,42,43,63,123,93,125]⟩ d.toNat w;rw[show d.toNat.toUInt8=d from by simp]at this;exact this
  replace hIx:=AI hIx;generalize hix:SY Km d=ix at *;refine ac λK m=> ?_
  refine ag λw8 j=> ?_
  replace g:=AI (g.out.af j);go_wp2_with (first |(go_at_call 32;refine(hIx.out _).mono ?_;rintro e B ⟨rfl,rfl⟩)|fail)
  refine m.out _ _ ?_;have l:=l.out;by_cases h5:ix<0
  .have Z:y=ez 2 p (A+1):=by
    rw[if_pos h5]at l;rw[(Option.some.inj l).symm,I.out]
   subst Z;refine bG (by simp[SJ,h5]) ?_;refine ac λK m=> ?_
   refine ao ?_;show aV _ _ _ (SE 0 (2+2)) ..;refine aW 0 2 2 (λN D wb j=> ?_) (by decide);simp only[zq1];have P:=AI (g.out.af j);go_wp2;refine D.out _ _ ?_;refine bF (f:=140) (i:=2) (rest:=SE 3 (1+0)) rfl rfl λu=>by simp[go_sem] trivial (nF 2 p P.out.sb hF) (λu wz x=> ?_) λch wz x=>by cases x.1
   obtain⟨H,x⟩:=x;cases H;have s:=AI (x.from P.out.kp);simp only[T6,zq0];refine aW 3 1 0 (λN D wy j=> ?_) (by decide);simp only[zq1];replace s:=AI (s.out.af j);go_wp2;refine D.out _ _ (az (m.out _ _ ?_));refine ag λwx j=> ?_
   replace s:=AI (s.out.af j);go_wp2;go_ret;exact⟨rfl,s.out⟩
  rw[if_neg h5]at l;refine bK (by simp[SJ];omega) (fS ?_);refine L.out _ _ ?_;refine hT.out p d.toNat _ _ (A+1) y _ hd8 ?_ g.out.sb g.out.kp ?_ λa B h=>h
  .exact⟨rfl,rfl,rfl,rfl,rfl⟩
  .rw[(Option.some.inj l).symm,I.out]
 replace l:=AI (by have:=l.out;rw[if_neg h92]at this;exact this);refine ac λK m=> ?_
 refine ag λwd j=> ?_
 replace g:=AI (g.out.af j);have S:(c.toNat:Int)≠92:=nO (b:=92) rfl h92;go_wp2;refine m.out _ _ ?_;refine bK (by simp[SJ,S]) (fS ?_);refine L.out _ _ ?_;have l:=l.out;refine hT.out p c.toNat _ _ (p+1) y _ hc8 ?_ g.out.sb g.out.kp (Option.some.inj l).symm λa B h=>h
 exact⟨rfl,rfl,rfl,rfl,rfl⟩
def Ny{E F w y p}(hs:E.s.size<=1000)(c:F.size<E.cap)(b:E.fl<256)(a:p<=E.s.size)(h:SB E w p F)(d:eB E.ln E.fold E.l p=some y):
 cb (aH T) 100 #[Sv (some ⟨E.x,0,none⟩)] w (rC E F w y):=
 bu trivial (λe h=>nomatch h.1) (PB.func Tryz.func100 (by decide)) rfl (Hg rfl hs c b a h d rfl)
def zU{t}(h:t.bad=false)(e a):Tok.val e t=Tok.val a t:=by
 simp_all[Tok.val,gH]
structure nE(E:eK)(ob xb:Nat)(w:SD):Prop where
 o:w.cell? ⟨ob,0,none⟩=some (SU (some E.r))
 x:w.cell? ⟨xb,0,none⟩=some (Sv (some ⟨E.x,0,none⟩))
def nE.af{E ob xb w w'}(h:nE E ob xb w)(a:w'.heap=w.heap):nE E ob xb w':=⟨by simp[T0,a];exact h.o,by simp[T0,a];exact h.x⟩
def cell_lt{w:SD}{b i v}(h:w.cell? ⟨b,i,none⟩=some v):b<w.heap.size:=by
 grind [T0]
def nE.kp{E b a w w'}(h:nE E b a w){X}(c:Kp w.heap.size X w w')(e:b∉X)(d:a∉X):nE E b a w':=
 ⟨(iq (c.2 _ (cell_lt h.o) e) 0).trans h.o,(iq (c.2 _ (cell_lt h.x) d) 0).trans h.x⟩
def PE(a:Array TypeId)(b:TypeId)(c:Array Bool)(r:Nat):Deferred:= {target:= .builtin .close a b c,args:=#[SU (some r)]}
def Lq(E:eK)(d e:Nat)(a:Act):Prop:=∃i h g b c f,a= {tmps:=#[Sv (some ⟨d,0,none⟩),Sv (some ⟨e,0,none⟩),i,h,g],defers:=[PE b c f E.r]}
structure Lp(E:eK)(ob xb:Nat)(all:List Tok)(wr:Option (Int×Int))(w0:SD)(n:Nat)(w:SD):Prop where
 box:nE E ob xb w
 kp:Kp w0.heap.size [E.x,E.r] w0 w
 go:∃p F done rest,SB E w p F/\p<=E.s.size/\F.size+n<=E.cap/\F.toList=done.map (Tok.val 0)/\(∀t∈done,t.bad=false)/\ew E.ln E.fold E.l n p=some (rest,wr)/\all=done++rest
structure Lr(E:eK)(all:List Tok)(wr:Option (Int×Int))(w0:SD)(w:SD):Prop where
 kp:Kp w0.heap.size [E.x,E.r] w0 w
 go:∃p F e,SB E w p F/\F.toList=all.map (Tok.val e)/\∀q,wr=some q->a7 w e 124 #[AS Sw q.2,AS Sw q.1]/\w0.heap.size<=e
theorem Gd{E s m j G w}(hs:E.s.size<=1000)(hcap:E.s.size+1<=E.cap)(hfl:E.fl<256)(h:SB E w 0 #[])(hb:nE E s m w)(ho:s∉[E.x,E.r])(hx:m∉[E.x,E.r])
 (Z:ew E.ln E.fold E.l (E.l.length+1) 0=some (j,G)) {c} (hc:(Tryz.f99).body=some c):
 cL (aH T) c (λe a W=>e=TN/\Lq E s m a/\Lr E j G w W) {tmps:=#[Sv (some ⟨s,0,none⟩),Sv (some ⟨m,0,none⟩)]++TF (5-2) undef,defers:=[]} w:=by
 cases hc;have S:E.l.length=E.s.size:=by rfl
 simp only[T7,Tc,T9,Tp,Tn,SQ,SV,Td,T8,Ti,Tf];have I0:Lp E s m j G w (E.l.length+1) w:=⟨hb,Kp.refl w,0,#[],[],j,h,TD _,by rw[S];grind,rfl,(λt h=>by cases h),Z,rfl⟩;refine bQ (λa W=>Lq E s m a/\Lp E s m j G w (E.l.length+1) W) ?_ ?_;refine ag λw1 D=> ?_
 have A:Lp E s m j G w (E.l.length+1) w1:=by
  have⟨p,F,d,r,h1,h2⟩:=I0.go;exact⟨I0.box.af D,I0.kp.af D,p,F,d,r,h1.af D,h2⟩
 have c0:w1.cell? ⟨s,0,none⟩=some (SU (some E.r)):=A.box.o;replace A:=AI A;go_wp2;exact⟨⟨_,_,_,_,_,_,rfl⟩,A.out⟩;intro a w1 ⟨hfr,L⟩;refine ec ?_;refine m9 (λn a W=>Lq E s m a/\Lp E s m j G w n W) (E.l.length+1) ⟨hfr,L⟩ ?_;rintro n a w2 ⟨⟨u2,u3,u4,ats,ty,cs,rfl⟩,L⟩;have⟨p,F,M,rest,hB,hp,hF,v,b,g,z⟩:=L.go;cases n with
 |zero=>cases g
 |succ n=>
 unfold ew at g;have⟨y,hy,hp1,hp2,hp3,X⟩:=ib E.ln E.fold E.l p (by rw[S];omega);rw[hy]at g;have k:=AI L.box;have l:=AI L.kp;refine ac λK hK=> ?_
 refine ac λK2 hK2=> ?_
 refine ao ?_;show aV _ _ _ (SE 0 (1+1)) ..;refine aW 0 1 1 (λN hN w3 D=> ?_) (by decide);simp only[zq1];replace hB:=AI (hB.af D);replace k:=AI (k.out.af D);replace l:=AI (l.out.af D);have c1:w3.cell? ⟨m,0,none⟩=some (Sv (some ⟨E.x,0,none⟩)):=k.out.x;replace g:=AI g;replace z:=AI z;replace v:=AI v;replace b:=AI b;go_wp2;refine hN.out _ _ ?_;refine bF (f:=100) (i:=1) (rest:=[]) rfl rfl λu=>by simp[go_sem] trivial (Ny hs (by omega) hfl hp hB.out hy) (λu we hr=> ?_) λch we hr=>by cases hr.1
 have⟨hr1,e,P,R,I⟩:=hr;cases hr1;refine az (hK2.out _ _ ?_);simp only[T6,zq0];have C:Kp w.heap.size [E.x,E.r] w we:=l.out.trans (I.mono l.out.1 λx hx _=>hx);cases hm:y.more with
 |true=>
  have B:=g.out;rw[if_pos hm,T4]at B;have⟨⟨ts,wr'⟩,Q,heq⟩:=B;obtain⟨rfl,rfl⟩:=heq;have hyb:y.t.bad=false:=by rw[X.bad,X.wrn hm];rfl
  refine bG (by simp[SJ]) (fS ?_);refine hK.out _ _ ?_;refine ec (fS ?_);refine⟨n,Um n,⟨_,_,_,_,_,_,rfl⟩,k.out.kp I ho hx,C,y.p,F.push (Tok.val e y.t),M++[y.t],ts,P,by omega,by grind,?_,λt H=> ?_,Q,by rw[z.out];simp⟩;rw[Array.toList_push,v.out,List.map_append,zU hyb e 0];rfl;rcases List.mem_append.1 H with H|H
  exact b.out t H;grind
 |false=>
  rw[if_neg (by rw[hm];simp)]at g;obtain⟨rfl,rfl⟩:=g;refine bK (by simp[SJ]) (J0 ?_);refine⟨rfl,⟨_,_,_,_,_,_,rfl⟩,C,y.p,F.push (Tok.val e y.t),e,P,?_,λq hq=>⟨(R q hq).1,Tt l.out.1 (R q hq).2⟩⟩;rw[Array.toList_push,v.out,z.out,List.map_append];congr 1
  exact List.map_congr_left λt H=>zU (b.out t H) 0 e
def BV:TK:= {(default:TK)with fn:=99,kind:=U7}
noncomputable def kZ:TK:= {(default:TK)with fn:=Tryz.prog.funcs.size,mode:=Ug [goexitEntry]}
def rX(E:eK)(ob xb:Nat)(all:List Tok)(wr:Option (Int×Int))(b:TK)(c:SD)(g:Uk)(w:SD):Prop:=
 ∃a,g=bO {BV.at a []with mode:=Th} [kZ,b]/\Lq E ob xb a/\Lr E all wr c w
def Gc{E ob xb all wr w D0}(hs:E.s.size<=1000)(d:E.s.size+1<=E.cap)(f:E.fl<256)(h:SB E w 0 #[])(j:nE E ob xb w)(i:ob∉[E.x,E.r])(m:xb∉[E.x,E.r])
 (b:ew E.ln E.fold E.l (E.l.length+1) 0=some (all,wr)):
 (aH T).H (rX E ob xb all wr D0 w) (bO {kZ with defers:=[{target:= .fn (TG 99) #[Sv (some ⟨ob,0,none⟩),Sv (some ⟨xb,0,none⟩)],args:=#[]}]} [D0]) w:=by
 have⟨c,n⟩:∃c,(Tryz.f99).body=some c:=⟨_,rfl⟩;have a:TE PB 99 #[Sv (some ⟨ob,0,none⟩),Sv (some ⟨xb,0,none⟩)] U7=BV.at {tmps:=#[Sv (some ⟨ob,0,none⟩),Sv (some ⟨xb,0,none⟩)]++TF (5-2) undef,defers:=[]} [Tg c]:=by
  have r:=PB.func Tryz.func99 (by decide);simp_all[TE,Frame.at,BV]
 refine(aH T).one (fr':=TE PB 99 #[Sv (some ⟨ob,0,none⟩),Sv (some ⟨xb,0,none⟩)] U7) (cs':=kZ::[D0]) (λu=>step_defer (by simp[kZ]) rfl rfl ?_) trivial ?_;exact PB.call _ u rfl;rw[a];refine(@Gd T E ob xb all wr w hs d f h j i m b c n) BV [] [kZ,D0] _ trivial (by simp[BV]) λe g q l=> ?_
 obtain⟨rfl,p,k⟩:=l;exact(aH T).one (λu=>step_end) trivial ((aH T).stop _ _ _ ⟨g,rfl,p,k⟩)
end
section
open Go.RowKit Go.Conc
attribute [local instance] fI
def ru(w b d a):(ah w b d).cell? a=w.cell? a:=rfl
def wQ(w b d a):(ah w b d).frozen? a=w.frozen? a:=rfl
def ky(w a d o):(ah w a d).alloc o=ah (w.alloc o) a d:=rfl
def uk(w b d a v):(ah w b d).setCell a v=ah (w.setCell a v) b d:=rfl
def lz(w a d):(ah w a d).heap=w.heap:=rfl
theorem uV{P}{f:Nat}{fn c}(b:P.funcs[f]?=some fn)(a:fn.body=some c)(args):Hu P (U5 f args):=by
 refine⟨?_⟩;show ia P 0 (match P.funcs[f]? with |none=>_|some fn=>_);simp only[b,a];exact(js zq2 zq2:Hu P (if(fn.name== "runtime.NumGoroutine")=true then pure Next.numGoroutine else pure (.enter f args))).hu
def GQ{P}{f:Nat}{fn c}(b:P.funcs[f]?=some fn)(a:fn.body=some c)(d:(fn.name== "runtime.NumGoroutine")=false)(args w):(U5 f args).run P w= .ok (.enter f args) w:=by
 simp_all[U5]
def Lt(c b:SH)(a:Act):Prop:=a.defers=[]/\a.tmps.size=29/\a.tmps.getD 14 undef=c/\a.tmps.getD 15 undef=b
def Lt.out{b c a}(h:Lt b c a):∃u:Nat->SH,a= {tmps:=(u 0::u 1::u 2::u 3::u 4::u 5::u 6::u 7::u 8::u 9::u 10::u 11::u 12::u 13::b::c::u 16::u 17::u 18::u 19::u 20::u 21::u 22::u 23::u 24::u 25::u 26::u 27::u 28::[]).toArray,defers:=[]}:=by
 have⟨e,f,rfl,rfl⟩:=h;have⟨d,g⟩:=a;subst e;exact⟨λi=>d.getD i undef,congrArg (λt=>({tmps:=t,defers:=[]}:Act)) (dp 29 d f)⟩
section
variable(w:SD)(s:ByteArray)(fl:Nat)(fold:Bool)
def yM:SD:=w.alloc (SS 0 #[] false 0 0 false)
def Bp:SD:=(yM w).alloc (Sx #[SU none] 216)
def ov:SD:=(Bp w).setCell ⟨w.heap.size+1,0,none⟩ (SU (some w.heap.size))
def DU:SD:=(ov w).alloc (Sx (iR s 0 fl w.heap.size fold) 220)
def HO:SD:=(DU w s fl fold).alloc (Sx #[Sv none] 217)
def fq:SD:=(HO w s fl fold).setCell ⟨w.heap.size+3,0,none⟩ (Sv (some ⟨w.heap.size+2,0,none⟩))
end
def goT(n:Nat)(s:ByteArray)(a:Nat):Act:= {tmps:=#[Sy s,AS SW a,undef,undef,SU none,vp (n+1),vp (n+3),SU (some n),Sy s,AS SW a,SU (some n),AS SW a,AS SW ((a%2:Nat):Int),SG (decide (a%2=1)),TL (iR s 0 a n (decide (a%2=1))),vp (n+2),.func (TG 99) #[] #[vp (n+1),vp (n+3)],undef],defers:=[]}
def NO(n s a):IK (vp (n+1)) (goT n s a):=⟨rfl,rfl,rfl⟩
def and_one{a:Nat}(h:a<256):bits .and SW (a:Int) 1=(a:Int)%2:=by
 rw[Dr a h];split <;>omega
def Ge{R I N W A B E K S D M j g z n w y s}{a:Nat}
 (Z:(Tryz.f53).body=some (Su E (Su K (Su (Ta M g false) S)))) (p:Lt (Sy s) (AS SW a) y) (r:a<256)
 (l:(Tryz.f74).body=some (Su I (Su N (Su W (Su (Ta D j false) (Su A B))))))
 (H:∀C F q b d t k,k≠0->di Tryz.prog k (G (pu.at (goT w.heap.size s a) (SM j []::[Tg (Su A B)])) (gw.at y (SM g [2,3,4,5,6]::z)::n))
  (born Tryz.prog {target:= .fn (TG 99) #[vp (w.heap.size+1),vp (w.heap.size+3)],args:=#[]}) C q t->PT k (λ_=>False) (λ_=>False) t->Runs Tryz.prog (crowd C (ah (fq w s a (decide (a%2=1))) b d) F) t R):
 ca Tryz.prog R (G (gw.at y (SM g [2,3,4,5,6]::z)) n) w:=by
 intro m t T;cases Z;obtain⟨u,rfl⟩:=p.out;refine T.enter (f:=74) (args:=#[Sy s,AS SW a]) rfl (by rfl) (by simp[gw]) ?_ Tryz.func74 l (λb d=> ?_) ?_
 .show Hu Tryz.prog (U5 74 _);exact uV Tryz.func74 l _
 .have:=GQ Tryz.func74 l (by kernel_rfl) #[Sy s,AS SW a] (ah w b d);simp[Tm,go_sem,SJ,this]
 show ca Tryz.prog R ..;generalize gw.at .. ::n=Q at H ⊢;cases l;rw[show(Tryz.f74).ntmps=18 from Tryz.ntmps74];simp only[T7,Tc,T9,Tp,Tn,SQ,SV,Td,T8,Ti,Tf];refine ca.ctl (λw=>stepG_seq) rfl ?_;refine ca.ctl (λw=>stepG_region) rfl ?_;refine ca.value (v:=SU none) w rfl rfl (by simp[base]) (λc h=>by cases h) λb d=>by rfl ?_
 walk_nrm
 refine ca.ctl (λw=>stepG_region_end) rfl ?_;refine ca.ctl (λw=>stepG_seq) rfl ?_;refine ca.ctl (λw=>stepG_region) rfl ?_;refine ca.value (v:=SU (some w.heap.size)) (yM w) rfl rfl (by simp[base]) (λc h=>by cases h) (λb d=> ?_) ?_
 .have⟨i,L⟩:∃i,Tryz.prog.info? 164=some i:=⟨_,rfl⟩;have:=run_makeChan (P:=Tryz.prog) (w:=ah w b d) (t:=216) (dir:= .both) (e:=164) (i:=i) (by kernel_rfl) L Sw 0 (by decide) (by simp);simp[Tm,go_sem,SJ];rw[show AS Sw 0=AS Sw ((0:Nat):Int)from rfl,this];simp[yM,ky,lz]
 walk_nrm
 refine ca.value (v:=Sv (some ⟨w.heap.size+1,0,none⟩)) (Bp w) rfl rfl (by simp[base]) (λc h=>by cases h) (λb d=> ?_) ?_
 .simp[Tm,go_sem,SJ,Bp,yM,ky,lz]
 walk_nrm
 refine ca.none (ov w) rfl rfl (by simp[base]) (λc h=>by cases h) (λb d=> ?_) ?_
 .simp[Tm,go_sem,SJ,ov,Bp,yM,ru,wQ,ky,lz,uk]
 walk_nrm
 have X:(ov w).cell? ⟨w.heap.size+1,0,none⟩=some (SU (some w.heap.size)):=by
  simp[ov,Bp,yM,go_sem]
 have x:(ov w).heap.size=w.heap.size+2:=by simp[ov,Bp,yM]
 refine ca.ctl (λw=>stepG_region_end) rfl ?_;refine ca.ctl (λw=>stepG_seq) rfl ?_;refine ca.ctl (λw=>stepG_region) rfl ?_;refine ca.value (v:=Sy s) (ov w) rfl rfl (by simp[base]) (λc h=>by cases h) λb d=>by rfl ?_
 walk_nrm
 refine ca.value (v:=AS SW a) (ov w) rfl rfl (by simp[base]) (λc h=>by cases h) λb d=>by rfl ?_
 walk_nrm
 refine ca.value (v:=SU (some w.heap.size)) (ov w) rfl rfl (by simp[base]) (λc h=>by cases h) (λb d=> ?_) ?_
 .simp[Tm,go_sem,SJ,ru,X]
 walk_nrm
 refine ca.value (v:=AS SW a) (ov w) rfl rfl (by simp[base]) (λc h=>by cases h) λb d=>by rfl ?_
 walk_nrm
 refine ca.value (v:=AS SW ((a%2:Nat):Int)) (ov w) rfl rfl (by simp[base]) (λc h=>by cases h) (λb d=> ?_) ?_
 .simp[Tm,go_sem,SJ];exact and_one r
 walk_nrm
 refine ca.value (v:=SG (decide (a%2=1))) (ov w) rfl rfl (by simp[base]) (λc h=>by cases h) (λb d=> ?_) ?_
 .simp[Tm,go_sem,SJ];rcases Nat.mod_two_eq_zero_or_one a with h|h
  .have:(a:Int)%2=0:=by omega
   simp[h,this]
  .have:(a:Int)%2=1:=by omega
   simp[h,this]
 walk_nrm
 refine ca.value (v:=TL (iR s 0 a w.heap.size (decide (a%2=1)))) (ov w) rfl rfl (by simp[base]) (λc h=>by cases h) (λb d=> ?_) ?_
 .simp[Tm,go_sem,SJ];simp[iR]
 walk_nrm
 refine ca.value (v:=Sv (some ⟨w.heap.size+2,0,none⟩)) (DU w s a (decide (a%2=1))) rfl rfl (by simp[base]) (λc h=>by cases h) (λb d=> ?_) ?_
 .simp[Tm,go_sem,SJ,DU,ky,lz,x]
 walk_nrm
 refine ca.value (v:=Sv (some ⟨w.heap.size+3,0,none⟩)) (HO w s a (decide (a%2=1))) rfl rfl (by simp[base]) (λc h=>by cases h) (λb d=> ?_) ?_
 .simp[Tm,go_sem,SJ,HO,DU,ky,lz,x]
 walk_nrm
 refine ca.none (fq w s a (decide (a%2=1))) rfl rfl (by simp[base]) (λc h=>by cases h) (λb d=> ?_) ?_
 .simp[Tm,go_sem,SJ,fq,HO,DU,ru,wQ,ky,lz,uk,x]
 walk_nrm
 refine ca.ctl (λw=>stepG_region_end) rfl ?_;refine ca.ctl (λw=>stepG_seq) rfl ?_;refine ca.ctl (λw=>stepG_region) rfl ?_;refine ca.value (v:= .func (TG 99) #[] #[Sv (some ⟨w.heap.size+1,0,none⟩),Sv (some ⟨w.heap.size+3,0,none⟩)]) (fq w s a (decide (a%2=1))) rfl rfl (by simp[base]) (λc h=>by cases h) (λb d=> ?_) ?_
 .simp[Tm,go_sem,SJ]
 walk_nrm
 refine ca.hire (d0:= {target:= .fn (TG 99) #[vp (w.heap.size+1),vp (w.heap.size+3)],args:=#[]}) rfl rfl (by simp[base]) (λb d=> ?_) (λb d=> ?_) rfl ?_
 .simp[Tm,go_sem,SJ]
 .simp[Tm,go_sem,SJ]
 walk_nrm
 exact H
end
section
open Go.RowKit Go.Conc
attribute [local instance] dJ
def DX:TK:= {(default:TK)with todo:=[Tg (.refuse "")],defers:=[{target:= .fn (TG 0) #[],args:=#[]}]}
def Lh:∃fn,Tryz.prog.funcs[0]?=some fn:=by
 simp
def PD:m8 Tryz.prog bA DX:=by
 have⟨d,e⟩:=Lh;have⟨c,b⟩:∃c,bA 0=some c:=⟨_,rfl⟩;obtain⟨a,rfl⟩:=fa _ _ _ b;exact⟨⟨⟨_,rfl⟩,rfl⟩,0,d,a,rfl,b,e⟩
def PC:m8 Tryz.prog bB DX:=by
 have⟨d,e⟩:=Lh;have⟨c,b⟩:∃c,bB 0=some c:=⟨_,rfl⟩;obtain⟨a,rfl⟩:=fa _ _ _ b;exact⟨⟨⟨_,rfl⟩,rfl⟩,0,d,a,rfl,b,e⟩
def yO{Q b}(e:gS b){g}(h:qc Q b g):∃a,g.frame.todo=[Tg (.refuse a)]:=by
 have⟨f,j,k,d,i,n,p⟩:=h;have⟨c,m⟩:=U3.1 i;obtain⟨a,rfl⟩:=e f c m;simp[d,TE];have l:= @ft Q b f;grind [ax]
def OQ{E b k i f x}:tn Tryz.prog bA (pG E b k i f x) where
 run g w:=λ⟨a,c,d,h,_⟩=>by rw[h];rfl
 dep g w:=λ⟨a,c,d,h,_⟩=>by simp[h,bO]
 foul g w:=λ⟨a,c,d,h,_⟩ l=>by
  have⟨j,e⟩:=yO (fa _) l;simp[h,bO,Frame.at]at e
def OP{E j i b d e c}:tn Tryz.prog bB (rX E j i b d e c) where
 run g w:=λ⟨a,h,_⟩=>by rw[h];rfl
 dep g w:=λ⟨a,h,_⟩=>by simp[h,bO]
 foul g w:=λ⟨a,h,_⟩ f=>by
  have⟨l,k⟩:=yO (fa _) f;simp[h,bO,Frame.at]at k
def L0{q f j p n i e b}(r:(Tryz.f75).body=some (Su (Su q (Su f j)) (Su p (SX i (TZ (Su (Ta e b false) n))))))
 {E k d l x g w} (h:pG E b k d l x g w):
 ∃z,∀m c,stepG PA m g c= .comm (bo g) #[{chan:=SU (some E.r),send:=none,zero:=z}] true (.recv true) c #[]:=by
 cases r;obtain⟨a,v,t,rfl,s,_⟩:=h;obtain⟨u,rfl⟩:=s.out;refine⟨TL #[AS Sw 0,AS Sw 0,AS Sz 0,AS Sz 0,AS Sz 0,AS Sz 0,AS Sw 0,AS Sw 0,Sv none],λm c=> ?_⟩;rfl
def KH{E l i c e f d g w}(h:rX E l i c e f d g w):AtClose g:=by
 obtain⟨a,rfl,⟨n,p,m,b,k,j,rfl⟩,_⟩:=h;exact⟨nofun,_,[],b,k,j,E.r,rfl,rfl,rfl⟩
def Ju(a b){t}(h:t.bad=false)(e c):ab a (Tok.val e t)=ab b (Tok.val c t):=by
 simp_all[Tok.val,gH]
def M4(a b){t}(h:t.bad=true){e c}(d:a e=b c):ab a (Tok.val e t)=ab b (Tok.val c t):=by
 simp_all[bi,Tok.val,gH]
def DE(a b){t}(h:t.bad=true){e c}(d:ab a (Tok.val e t)=ab b (Tok.val c t)):a e=b c:=by
 simp_all[bi,Tok.val,gH]
def GL{m b l}:∀n p{a e},p<=l.length->ew m b l n p=some (a,e)->∀i t,a[i]?=some t->t.bad=true->i+1=a.length/\e.isSome=true:=by
 intro n;induction n with
 |zero=>intro p a e k h;cases h
 |succ n u=>
  intro p a e k h i t d j;unfold ew at h;have⟨x,r,_,_,q,c⟩:=ib m b l p k;simp[r]at h;cases f:x.more with
  |true=>
   rw[if_pos f,T4]at h;have⟨⟨w,s⟩,v,g⟩:=h;obtain⟨rfl,rfl⟩:=g;cases i with
   |zero=>
    simp[TI]at d;subst d;rw[c.bad,c.wrn f]at j;cases j
   |succ i=>
    grind
  |false=>
   rw[if_neg (by simp[f])]at h;cases h;cases i with
   |zero=>
    simp[TI]at d;subst d;exact⟨rfl,by rw[<- c.bad];omega⟩
   |succ i=>simp at d
def OH{Z E Q G d z D u g w}(h:rX E Q G d z D u g w)(j:ew E.ln E.fold E.l (E.l.length+1) 0=some (d,z))
 (l:Z.TA=(d.map (Tok.val Z.eA)).toArray) (W:Z.lo<u.heap.size) (y:∀i,Z.RoB i->i<u.heap.size):
 ∃F s,w.heap[E.r]?=some (SS E.cap F false s E.rc E.tm)/\F.size=Z.TA.size/\∀i a b,Z.TA[i]?=some a->F[i]?=some b->zz Z i a b w:=by
 obtain⟨a,rfl,_,⟨_,p,F,e,M,T,S⟩⟩:=h;have⟨L,r⟩:=M.chan;have x:F=(d.map (Tok.val e)).toArray:=by rw[<- T]
 subst x;refine⟨_,L,r,by simp[l],λi a b m A=> ?_⟩;rw[l]at m;simp[Uf]at m A;obtain⟨t,B,rfl⟩:=m;obtain⟨N,n,rfl⟩:=A;obtain rfl:t=N:=Option.some.inj (B.symm.trans n);cases c:t.bad with
 |false=>exact .inl λf k=>Ju f k c ..
 |true=>
  have⟨C,K⟩:=GL _ _ (TD _) j i t B c;have⟨q,P⟩:=U3.1 K;have⟨H,R⟩:=S q P;exact .inr ⟨by simp[l,C],e,by omega,⟨_,_,_,H⟩,λI=>absurd (y e I) (by omega),λf k v=>M4 f k c v,λf k v=>DE f k c v⟩
def NW:IX Tryz.prog kZ:=⟨rfl,rfl,by show Tryz.prog.funcs[Tryz.prog.funcs.size]?=none;simp,rfl⟩
def Mx{Z E i e c n m l}(j:Z.Q=Tryz.prog)(p:Z.restB=[])(f:Z.rB=E.r):G0 Z (rX E i e c n m l) where
 rest:=p
 stop g w h:=by
  obtain⟨a,rfl,⟨r,q,s,b,d,k,rfl⟩,_⟩:=h;rw[j,f];exact⟨⟨kZ,rfl,NW⟩,rfl,rfl,⟨b,d,k,rfl⟩,_,Tryz.func99,by kernel_rfl⟩
def NI{Z:Duo}{A B E G F H N i I j}(L:(Tryz.f75).body=some (Su (Su E (Su G F)) (Su H (SX i (TZ (Su (Ta I j false) N))))))
 {ob xb all wr k wA wB x} (f:ew B.ln B.fold B.l (B.l.length+1) 0=some (all,wr))
 (d:Z.Q=Tryz.prog) (b:Z.βA=bA) (c:Z.βB=bB) (u:Z.dtA=uy) (n:Z.dtB=[]) (t:Z.DA=DX) (y:Z.DB=DX) (C:Z.k≠0) (p:Z.rA=A.r) (q:Z.capA=A.cap) (s:Z.tmA=A.tm)
 (r:Z.rB=B.r) (v:Z.capB=B.cap) (e:Z.rcB=B.rc) (l:Z.tmB=B.tm) (D:Z.TA=(all.map (Tok.val Z.eA)).toArray) (K:Z.lo<wB.heap.size) (m:∀i,Z.RoB i->i<wB.heap.size):
 eG Z (pG A j k DX wA x) (rX B ob xb all wr DX wB) where
 EA:=by rw[d,b,u];exact Pz
 EB:=by rw[d,c,n];exact Py
 rA:=by rw[b];exact fa _
 rB:=by rw[c];exact fa _
 kA:=by rw[d,b];exact OQ
 kB:=by rw[d,c];exact OP
 dA:=by rw[d,b,t];exact PD
 dB:=by rw[d,c,y];exact PC
 k0:=C
 sA g w h:=by
  rw[d,b,p,q,s];exact⟨let⟨z,h⟩:=L0 L h;⟨z,true,h⟩,by have⟨a,Q,P,_,_,_,M,_⟩:=h;omega⟩
 sB g w h:=by
  refine⟨KH h,?_⟩;rw[r,v,e,l];exact OH h f D K m
end
section
open Go.Conc
variable[aD]
def ghost(w:SD)(n:Nat)(f:Nat->Option Obj):SD:= {w with heap:=Uv (n:=n) λi=>(f i).getD (TH none)}
section
variable{w:SD}{n i:Nat}{f:Nat->Option Obj}{o:Obj}
@[simp] theorem io:(ghost w n f).heap.size=n:=by simp[ghost]
def yN(h:i<n):(ghost w n f).heap[i]?=some ((f i).getD (TH none)):=by
 simp[ghost,h]
def eF(h:i<n)(a:f i=some o):(ghost w n f).heap[i]?=some o:=by simp[yN h,a]
def mn(h:(ghost w n f).heap[i]?=some o):i<n/\o=(f i).getD (TH none):=by
 have a:i<n:=by
  have:=(SZ.1 h).1;simp_all
 rw[yN a]at h;grind
end
structure uB(Q:Ts)(Ro:Nat->Prop)(p:Part)(n:Nat)(f:Nat->Option Obj)(w':SD):Prop where
 part:iA Q p n w'.heap.size
 known:∀i o,f i=some o->p.K i
 kind:∀i o,f i=some o->(∃c e z,o=Sx c e z)\/∃cap b d s r t,o=SS cap b d s r t
 ro:∀i,Ro i->∃c e,f i=some (Sx c e (0,c.size))
 cells:∀i c e z,f i=some (Sx c e z)->∀O,Ag p O->yc O (Ro i) True (Sx c e z) w'.heap[p.κ i]?
 other:∀i,p.K i->(∀c e z,f i≠some (Sx c e z))->∃o',w'.heap[p.κ i]?=some o'/\Plain o'/\((∃c e z,o'=Sx c e z)\/o'.isChan=((f i).getD (TH none)).isChan)
def uB.lt{Q b p n f w'}(h:uB Q b p n f w'){i o}(a:f i=some o):i<n:=h.part.dom i (h.known i o a)
def uB.NL{Q d p n f g}(h:uB Q d p n f g)(w):an (ghost w n f):=λi o b=>by
 obtain⟨j,rfl⟩:=mn b;cases a:f i with
 |none=>exact .inr (.inr ⟨_,rfl⟩)
 |some o=>
  refine .inl ?_;rcases h.kind i o a with⟨c,e,z,rfl⟩|⟨_,_,_,_,_,_,rfl⟩<;>trivial
def uB.side{Q L C D E A y rest p n f k g B}
 (h:uB Q A p n f k) (s:k.os=y) (G:uD Q C D E g) (K:JG g) (H:g.dying=none) (F:∀v,Ag p v->mQ v rest g B):Side Q L C D E A y rest p g (ghost k n f) B k:=by
 refine⟨by rw[io];exact h.part,G,⟨h.NL k,.inr ⟨K,λd e=>by rw[H]at e;cases e⟩⟩,λi r=> ?_,F,λv j=> ?_⟩;have⟨c,e,b⟩:=h.ro i r;exact⟨c,e,eF (h.lt b) b⟩;have m:∀(i:Nat)(o:Obj),(ah (ghost k n f) k.tape k.drawn).heap[i]?=some o->i<n/\o=(f i).getD (TH none):=λi o u=>mn u
 refine⟨j.1,rfl,rfl,λi r=> ?_,λi o u=> ?_,λi a l u=> ?_,s,s⟩;have⟨c,e,b⟩:=h.ro i r;show i<(ghost k n f).heap.size;rw[io];exact h.lt b;obtain⟨r,rfl⟩:=m i o u;cases b:f i with
 |none=>
  intro q;have⟨x,I,w,t⟩:=h.other i q λc e z h=>by rw[b]at h;cases h
  rw[b]at t;exact⟨x,by rw[j.2 i q];omega,w,t⟩
 |some o=>
  have q:=h.known i o b;rcases h.kind i o b with⟨c,e,z,rfl⟩|⟨_,_,_,_,_,_,rfl⟩
  have:=h.cells i c e z b v j;rw[<- j.2 i q]at this;exact this;intro _;have⟨x,I,w,t⟩:=h.other i q λc e z h=>by rw[b]at h;cases h
  rw[b]at t;exact⟨x,by rw[j.2 i q];omega,w,t⟩
 have⟨r,e⟩:=m i _ u;cases b:f i with
 |none=>rw[b]at e;cases e
 |some o=>
  rw[b]at e;rcases h.kind i o b with⟨c,e,z,rfl⟩|⟨_,_,_,_,_,_,rfl⟩<;>cases e
def wP{w n r a s g b e f}(j:r<n)(k:f r=some (SS a b false s g e))(l:∀i o,f i=some o->o.isChan=true->i=r):cG (ghost w n f) r a b s g e:=by
 refine⟨eF j k,λi o h d=> ?_⟩;obtain⟨m,rfl⟩:=mn h;cases c:f i with
 |none=>rw[c]at d;cases d
 |some o=>grind
def lX{w n i f}(h:aJ (ghost w n f) i):∃c e z,f i=some (Sx c e z):=by
 have⟨c,e,z,h⟩:=h;have⟨a,h⟩:=mn h;cases b:f i<;>grind
def inv_start{Z}{d f}{g l}{I Q}{r D v m}{a}{t}{tm sA rcA sB}
 (C:uB Z.Q Z.RoA d I g a) (F:uB Z.Q Z.RoB f Q l a) (q:a.os=Z.os)
 (u:uD Z.Q Z.DA Z.dtA false r) (A:uD Z.Q Z.DB Z.dtB true v) (jA:JG r) (R:JG v) (dA:r.dying=none) (W:v.dying=none)
 (rA:∀B,Ag d B->mQ B Z.restA r D) (rB:∀B,Ag f B->mQ B Z.restB v m)
 (H:g Z.rA=some (SS Z.capA Z.TA false sA rcA Z.tmA)) (N:∀i o,g i=some o->o.isChan=true->i=Z.rA) (kA:d.κ Z.rA=Z.c)
 (P:l Z.rB=some (SS Z.capB #[] false sB Z.rcB Z.tmB)) (G:∀i o,l i=some o->o.isChan=true->i=Z.rB) (T:f.κ Z.rB=Z.c)
 (K:a.heap[Z.c]?=some (SS 0 #[] Z.cls 0 0 tm)) (eA:Z.eA<I) (s:¬ d.K Z.eA)
 (L:∀i,d.K i->(∃c e z,g i=some (Sx c e z))\/(∃j,j<=Z.lo/\f.K j/\f.κ j=d.κ i)\/i=Z.rA)
 (p:∀i j,(∃c e z,g i=some (Sx c e z))->(∃c e z,l j=some (Sx c e z))->d.κ i=f.κ j->Z.RoA i/\Z.RoB j)
 (ht:PT Z.k (λ_=>False) (λ_=>False) t)
 (mA:∀i,(∃c e z,g i=some (Sx c e z))->¬ Z.RoA i->d.κ i<Z.N0->Z.MA (d.κ i)) (X:∀i,(∃c e z,l i=some (Sx c e z))->¬ Z.RoB i->f.κ i<Z.N0->Z.MB (f.κ i))
 (S:∀b,b<Z.N0->b≠Z.c->¬ Z.MA b->¬ Z.MB b->a.heap[b]?=Z.h0[b]?) (nz:Z.N0<=a.heap.size) (M:a.output=Z.out0):
 Inv2 Z 0 d r (ghost a I g) D f v (ghost a Q l) m a t:=by
 have n:cG (ghost a Q l) Z.rB Z.capB #[] sB Z.rcB Z.tmB:=wP (F.lt P) P G;refine⟨C.side q u jA dA rA,F.side q A R W rB,⟨sA,rcA,?_⟩,⟨#[],sB,n,rfl⟩,⟨C.known _ _ H,kA⟩,⟨F.known _ _ P,T⟩,⟨tm,K⟩,⟨by rw[io];omega,λo ho=> ?_,λ_=>s⟩,TD _,λi k=> ?_,λi j k hj=>p i j (lX k) (lX hj),ht.mono (λ_ h=>h.elim) λ_ h=>h.elim,λi k=>mA i (lX k),λi k=>X i (lX k),S,nz,M,⟨#[],sB,n,λi x y hx hy=> ?_⟩⟩;have:=wP (w:=a) (C.lt H) H N;rw[show Z.TA.extract 0 Z.TA.size=Z.TA from by simp];omega;obtain⟨_,rfl⟩:=mn ho;cases E:g Z.eA with
 |none=>exactλh=>h
 |some o=>exact absurd (C.known _ _ E) s
 rcases L i k with⟨c,e,z,E⟩|h|h
 exact .inl ⟨_,eF (C.lt E) E,trivial⟩;exact .inr (.inl h);omega;grind
open Classical in
noncomputable def cU(w w':SD):SD:= {w' with heap:=Uv (n:=w'.heap.size) λi=>if i.1<w.heap.size then(w.heap[i.1]?).getD (TH none)else dQ w'.heap[i]}
section
variable{w w0' w':SD}{i:Nat}
@[simp] theorem mF:(cU w w').heap.size=w'.heap.size:=by simp[cU]
def iX(h:i<w.heap.size)(a:w.heap.size<=w'.heap.size):(cU w w').heap[i]?=w.heap[i]?:=by
 have b:i<w'.heap.size:=by omega
 simp[cU,h,b]
theorem o8(h:w.heap.size<=i)(a):(cU w w').heap[i]?=some (dQ w'.heap[i]):=by
 have:¬ i<w.heap.size:=by omega
 simp[cU,this,a]
theorem rJ(c e z):dQ (Sx c e z)=Sx c e z:=by
 unfold dQ;rw[if_pos (.inl trivial)]
def xL(h:w.heap.size<=i){c e z}(a:w'.heap[i]?=some (Sx c e z)):(cU w w').heap[i]?=some (Sx c e z):=by
 grind [o8,rJ]
def pK(o):dQ o=o\/dQ o=TH none/\((∃l,o= .loop l)\/∃d,o= .deferred d):=by
 unfold dQ;split;exact .inl rfl;rename_i a;refine .inr ⟨rfl,?_⟩;cases o;case loop l=>exact .inl ⟨l,rfl⟩
 case deferred d=>exact .inr ⟨d,rfl⟩
 case pending c t=>exact absurd (.inr (.inl ⟨c,t,rfl⟩)) a
 case coro c=>exact absurd (.inr (.inr ⟨c,rfl⟩)) a
 all_goals exact absurd (.inl trivial) a
end
open Classical in
noncomputable def nV(w w':SD):Array Obj:=Uv (n:=w'.heap.size) λi=>if(cU w w').heap[i.1]?=some (TH none)then w'.heap[i]else TH none
def ss{w a i}(b:i<a.heap.size)(h:(cU w a).heap[i]?=some (TH none)):(nV w a)[i]?=a.heap[i]?:=by
 simp_all[nV]
def Cm{w a i}(b:i<a.heap.size)(h:¬ (cU w a).heap[i]?=some (TH none)):(nV w a)[i]?=some (TH none):=by
 simp_all[nV]
def HT{Q h0 u w w0' a g m t}(v:bg u w w0')(D:rE h0 u)(x:Under h0 w)(f:∀b,b<w.heap.size->a.heap[b]?=w0'.heap[b]?)(j:w.heap.size<=a.heap.size)
 (F:fX Q g a m t):pH h0 Q g (cU w a) m t:=by
 obtain⟨⟨I,G,q,y,d,rfl,A,z⟩,B,H⟩:=F;refine⟨nV w a,⟨⟨I,G,q,ah a y d,rfl,?_,A,z⟩,B,H⟩,λi r k=> ?_⟩;refine⟨by simp,rfl,rfl,rfl,rfl,λi=> ?_,λi r=> ?_⟩;show(cU w a).heap[i]?=a.heap[i]?\/(cU w a).heap[i]?=_/\((∃l,a.heap[i]?=_)\/∃d,a.heap[i]?=_);rcases Tw i w.heap.size with h|h
 rw[iX h j,f i h];exact v.blk i;rcases Tw i a.heap.size with c|c
 rw[o8 h c,Tq c];rcases pK a.heap[i]with e|⟨e,⟨l,E⟩|⟨l,E⟩⟩<;>grind
 simp_all
 have n:(cU w a).heap[i]?=some (TH none):=r;have c:i<a.heap.size:=by
  have:=(SZ.1 n).1;rwa [mF]at this
 exact(ss c n).symm;have C:=x.le;have c:i<a.heap.size:=by omega
 have s:i<w.heap.size:=by omega
 by_cases p:(cU w a).heap[i]?=some (TH none);rw[ss c p]at k ⊢;rw[iX s j]at p;rw[f i s,v.keep i p]at k ⊢;exact D i r k;exfalso;rw[Cm c p]at k;rcases k with(⟨l,h⟩|⟨l,h⟩)|h
 cases h;cases h;exact p (by rw[iX s j];exact x.st i r h)
def CS{w e}(f:an w)(b:aD.lim<=w.heap.size)(d:w.heap.size<=e.heap.size):an (cU w e):=λi o c=>by
 rcases Tw i w.heap.size with h|h
 rw[iX h d]at c;exact f i o c;have g:=by
  have:=(SZ.1 c).1;rwa [mF]at this
 rw[o8 h g]at c;cases c;unfold dQ;split <;>first |(rename_i a;rcases a with a|a|a<;>first |exact .inl a|exact .inr (.inl ⟨a,Tt b h⟩)|exact .inr (.inr a))|exact .inr (.inr ⟨_,rfl⟩)
def pH.real{Q h0 g w m t}(h:pH h0 Q g w m t):∃c a,bg c w a/\rE h0 c/\fX Q g a m t:=by
 have⟨c,⟨⟨n,k,q,a,e,b,d,f⟩,i,l⟩,j⟩:=h;refine⟨c,ah a w.tape w.drawn,⟨b.size,rfl,rfl,b.os,b.output,b.blk,b.keep⟩,j,⟨n,k,q,a.tape,a.drawn,e,d,f⟩,i,l⟩
def Done.Rz{Z n p m t}(h:Done Z n p m t):
 ∃e c g a l f j b d i z ok k,Inv2 Z.shut Z.TA.size e c g a l f j b d k/\n c g/\p f j/\(∀m s,stepG (alt Z.Q Z.βA) m c s= .comm (bo c) #[i] true (.recv ok) s #[])/\(∀r,Ag e r->rcase Z.c z=jS r i)/\
  fX Z.Q (Conc.served (bo a) (recvd ok z false)) d m t:=by
 obtain⟨x,w,q,e,c,g,a,l,f,j,b,d,i,z,ok,k,rfl,u,y,v,D,A,F,C,B,E⟩:=h;exact⟨e,c,g,a,l,f,j,b,d,i,z,ok,k,u,y,v,D,A,⟨x,w,q,d.tape,d.drawn,rfl,F,C⟩,B,E⟩
end
section
open Go.RowKit Go.Conc
section
variable(w:SD)(s:ByteArray)(fl:Nat)(fold:Bool)
def lC:(fq w s fl fold).heap=(((w.heap.push (SS 0 #[] false 0 0 false)).push (Sx #[SU (some w.heap.size)] 216)).push (Sx (iR s 0 fl w.heap.size fold) 220)).push (Sx #[Sv (some ⟨w.heap.size+2,0,none⟩)] 217):=by
 apply Ul;intro i;simp only[fq,HO,DU,ov,Bp,yM,TW,World.alloc,Array.getElem?_modify,TU,Array.size_modify,U8];grind
def uZ:(fq w s fl fold).heap.size=w.heap.size+4:=by simp[lC]
def ku{i}(h:i<w.heap.size):(fq w s fl fold).heap[i]?=w.heap[i]?:=by
 rw[lC];rw[Tk (by grind),SP (by grind),SP (by grind),SP h,Tq h]
def Fl:(fq w s fl fold).heap[w.heap.size]?=some (SS 0 #[] false 0 0 false):=by
 rw[lC];grind
def HM:(fq w s fl fold).heap[w.heap.size+1]?=some (Sx #[SU (some w.heap.size)] 216):=by
 rw[lC];grind
def Lg:(fq w s fl fold).heap[w.heap.size+2]?=some (Sx (iR s 0 fl w.heap.size fold) 220):=by
 rw[lC];grind
def HL:(fq w s fl fold).heap[w.heap.size+3]?=some (Sx #[Sv (some ⟨w.heap.size+2,0,none⟩)] 217):=by
 rw[lC];grind
def NM:(fq w s fl fold).os=w.os:=rfl
def Mv:(fq w s fl fold).output=w.output:=rfl
end
def FZ(w:SD):Prop:=∀g,g<=Tryz.prog.globals.size->∃o,w.heap[g]?=some o/\Plain o/\((∃c e z,o=Sx c e z)\/o.isChan=false)
structure zF(w:SD)(nb gb eb:Nat):Prop where
 n:a7 w nb 62 #[SI]
 g:a7 w gb 3 #[AS Sw 0]
 e:a7 w eb 81 #[SI]
 ln:Tryz.prog.globals.size<nb
 lg:Tryz.prog.globals.size<gb
 le:Tryz.prog.globals.size<eb
 n_g:nb≠gb
 n_e:nb≠eb
 g_e:gb≠eb
 glob:FZ w
def a7.lt'{w b t c}(h:a7 w b t c):b<w.heap.size:=(SZ.1 h).1
def wo(n c a b:Nat):Part:=⟨λi=>i<=Tryz.prog.globals.size\/i=c\/i=a\/i=b\/i=n\/i=n+1\/i=n+2\/i=n+3,id⟩
def gD(n b c d a:Nat)(T:Array SH)(i:Nat):Option Obj:=
 if i=b then some (Sx #[SI] 62)else if i=c then some (Sx #[AS Sw 0] 3)else if i=d then some (Sx #[SI] 81)
 else if i=n then some (SS a T false 0 0 false)else if i=n+1 then some (Sx #[SU (some n)] 216 (0,1))else none
theorem ON{w m n l cap T}(h:zF w m n l)(s p a):
 uB Tryz.prog (λi=>i=w.heap.size+1) (wo w.heap.size m n l) (w.heap.size+5) (gD w.heap.size m n l cap T) (fq w s p a):=by
 have x:=h.n.lt';have E:=h.g.lt';have F:=h.e.lt';have I:=h.ln;have k:∀i o,gD w.heap.size m n l cap T i=some o->i=m/\o=Sx #[SI] 62\/i=n/\o=Sx #[AS Sw 0] 3\/i=l/\o=Sx #[SI] 81\/i=w.heap.size/\o=SS cap T false 0 0 false\/i=w.heap.size+1/\o=Sx #[SU (some w.heap.size)] 216 (0,1):=λi o d=>by
  unfold gD at d;repeat' split at d
  all_goals first
   |(cases d;simp_all;done)
   |(cases d)
 refine⟨⟨λi j _ _ e=>e,λi b=> ?_,λi b=> ?_,λg G=>⟨.inl G,rfl⟩⟩,λi o d=> ?_,λi o d=> ?_,λi b=> ?_,λi c e z d v t=> ?_,λi b r=> ?_⟩;rcases b with b|rfl|rfl|rfl|rfl|rfl|rfl|rfl<;>omega
 rw[uZ];show i<_;rcases b with b|rfl|rfl|rfl|rfl|rfl|rfl|rfl<;>omega
 rcases k i o d with⟨rfl,_⟩|⟨rfl,_⟩|⟨rfl,_⟩|⟨rfl,_⟩|⟨rfl,_⟩<;>first |exact .inr (.inl rfl)|exact .inr (.inr (.inl rfl))|exact .inr (.inr (.inr (.inl rfl)))|exact .inr (.inr (.inr (.inr (.inl rfl))))|exact .inr (.inr (.inr (.inr (.inr (.inl rfl)))))
 rcases k i o d with⟨_,rfl⟩|⟨_,rfl⟩|⟨_,rfl⟩|⟨_,rfl⟩|⟨_,rfl⟩<;>first |exact .inl ⟨_,_,_,rfl⟩|exact .inr ⟨_,_,_,_,_,_,rfl⟩
 subst b;refine⟨_,216,show gD .. =some (Sx #[SU (some w.heap.size)] 216 (0,1))from ?_⟩;unfold gD;rw[if_neg (by omega),if_neg (by omega),if_neg (by omega),if_neg (by omega),if_pos rfl];show yc v (i=w.heap.size+1) True (Sx c e z) (fq w s p a).heap[i]?;rcases k i _ d with⟨rfl,f⟩|⟨rfl,f⟩|⟨rfl,f⟩|⟨rfl,f⟩|⟨rfl,f⟩
 cases f;refine⟨λq=>absurd q (by omega),λ_=> ?_⟩;rw[ku w s p a x,h.n];simp;cases f;refine⟨λq=>absurd q (by omega),λ_=> ?_⟩;rw[ku w s p a E,h.g];simp;cases f;refine⟨λq=>absurd q (by omega),λ_=> ?_⟩;rw[ku w s p a F,h.e];simp;cases f;cases f;have D:v w.heap.size=w.heap.size:=t.2 _ (.inr (.inr (.inr (.inr (.inl rfl)))));refine⟨λ_=>⟨rfl,(0,0),?_,by simp⟩,λq=>absurd rfl q⟩;rw[HM];simp[D];show∃B,(fq w s p a).heap[i]?=some B/\_;rcases b with b|rfl|rfl|rfl|rfl|rfl|rfl|rfl
 have⟨o,A,H,C⟩:=h.glob i b;have u:gD w.heap.size m n l cap T i=none:=by
  cases y:gD w.heap.size m n l cap T i with
  |none=>rfl
  |some o=>
   have:=h.lg;have:=h.le;rcases k i o y with⟨rfl,_⟩|⟨rfl,_⟩|⟨rfl,_⟩|⟨rfl,_⟩|⟨rfl,_⟩<;>omega
 rw[ku w s p a (by omega),u];exact⟨o,A,H,C⟩;exact absurd (by unfold gD;rw[if_pos rfl]) (r #[SI] 62 (0,0));exact absurd (by unfold gD;rw[if_neg (T5 h.n_g),if_pos rfl]) (r #[AS Sw 0] 3 (0,0));exact absurd (by unfold gD;rw[if_neg (T5 h.n_e),if_neg (T5 h.g_e),if_pos rfl]) (r #[SI] 81 (0,0));have u:gD w.heap.size m n l cap T w.heap.size=some (SS cap T false 0 0 false):=by
  unfold gD;rw[if_neg (by omega),if_neg (by omega),if_neg (by omega),if_pos rfl]
 rw[Fl,u];exact⟨_,rfl,trivial,.inr rfl⟩;exact absurd (by unfold gD;rw[if_neg (by omega),if_neg (by omega),if_neg (by omega),if_neg (by omega),if_pos rfl]) (r #[SU (some w.heap.size)] 216 (0,1));exact⟨_,Lg ..,trivial,.inl ⟨_,_,_,rfl⟩⟩;exact⟨_,HL ..,trivial,.inl ⟨_,_,_,rfl⟩⟩
structure Ls(w:SD)(C:Array SH)(tC tM:TypeId)(m:Int):Prop where
 cls:∃z,w.heap[2]?=some (Sx C tC z)/\z.2<=C.size
 ren:∀O,C.map (ab O)=C
 max:∃z,w.heap[1]?=some (Sx #[AS Sw m] tM z)/\z.2<=1
def EZ(n:Nat):Part:=⟨λi=>i<=Tryz.prog.globals.size\/i=n\/i=n+1\/i=n+2\/i=n+3,id⟩
def f8(n b:Nat)(s:ByteArray)(d:Nat)(a:Bool)(C:Array SH)(e c:TypeId)(m:Int)(i:Nat):Option Obj:=
 if i=2 then some (Sx C e (0,C.size))else if i=1 then some (Sx #[AS Sw m] c (0,1))else if i=n then some (SS b #[] false 0 0 false)
 else if i=n+1 then some (Sx #[SU (some n)] 216 (0,1))else if i=n+2 then some (Sx (iR s 0 d n a) 220)else if i=n+3 then some (Sx #[Sv (some ⟨n+2,0,none⟩)] 217 (0,1))else none
def Lb(n:Nat)(i:Nat):Prop:=i=2\/i=1\/i=n+1\/i=n+3
def wN:Tryz.prog.globals.size=3:=by kernel_rfl
def OM{w cap C n f m}(y:FZ w)(h:Ls w C n f m)(D:Tryz.prog.globals.size<w.heap.size)(s b a):
 uB Tryz.prog (Lb w.heap.size) (EZ w.heap.size) (w.heap.size+4) (f8 w.heap.size cap s b a C n f m) (fq w s b a):=by
 have P:=wN;have q:∀i o,f8 w.heap.size cap s b a C n f m i=some o->i=2/\o=Sx C n (0,C.size)\/i=1/\o=Sx #[AS Sw m] f (0,1)\/i=w.heap.size/\o=SS cap #[] false 0 0 false\/i=w.heap.size+1/\o=Sx #[SU (some w.heap.size)] 216 (0,1)\/i=w.heap.size+2/\o=Sx (iR s 0 b w.heap.size a) 220\/i=w.heap.size+3/\o=Sx #[Sv (some ⟨w.heap.size+2,0,none⟩)] 217 (0,1):=λi o p=>by
  unfold f8 at p;repeat' split at p
  all_goals first
   |(cases p;simp_all;done)
   |(cases p)
 have M:f8 w.heap.size cap s b a C n f m 1=some (Sx #[AS Sw m] f (0,1)):=by unfold f8;rw[if_neg (by decide),if_pos rfl]
 have G:f8 w.heap.size cap s b a C n f m w.heap.size=some (SS cap #[] false 0 0 false):=by unfold f8;rw[if_neg (by omega),if_neg (by omega),if_pos rfl]
 have B:f8 w.heap.size cap s b a C n f m (w.heap.size+1)=some (Sx #[SU (some w.heap.size)] 216 (0,1)):=by unfold f8;rw[if_neg (by omega),if_neg (by omega),if_neg (by omega),if_pos rfl]
 have E:f8 w.heap.size cap s b a C n f m (w.heap.size+3)=some (Sx #[Sv (some ⟨w.heap.size+2,0,none⟩)] 217 (0,1)):=by unfold f8;rw[if_neg (by omega),if_neg (by omega),if_neg (by omega),if_neg (by omega),if_neg (by omega),if_pos rfl]
 refine⟨⟨λi j _ _ e=>e,λi l=> ?_,λi l=> ?_,λg y=>⟨.inl y,rfl⟩⟩,λi o p=> ?_,λi o p=> ?_,λi l=> ?_,λi c e z p v t=> ?_,λi l u=> ?_⟩;rcases l with l|rfl|rfl|rfl|rfl<;>omega
 rw[uZ];show i<_;rcases l with l|rfl|rfl|rfl|rfl<;>omega
 rcases q i o p with⟨rfl,_⟩|⟨rfl,_⟩|⟨rfl,_⟩|⟨rfl,_⟩|⟨rfl,_⟩|⟨rfl,_⟩<;>first |exact .inl (by omega)|exact .inr (.inl rfl)|exact .inr (.inr (.inl rfl))|exact .inr (.inr (.inr (.inl rfl)))|exact .inr (.inr (.inr (.inr rfl)))
 rcases q i o p with⟨_,rfl⟩|⟨_,rfl⟩|⟨_,rfl⟩|⟨_,rfl⟩|⟨_,rfl⟩|⟨_,rfl⟩<;>first |exact .inl ⟨_,_,_,rfl⟩|exact .inr ⟨_,_,_,_,_,_,rfl⟩
 rcases l with rfl|rfl|rfl|rfl<;>first |exact⟨_,_,by unfold f8;rw[if_pos rfl]⟩|exact⟨_,_,M⟩|exact⟨_,_,B⟩|exact⟨_,_,E⟩
 show yc v (Lb w.heap.size i) True (Sx c e z) (fq w s b a).heap[i]?;have F:v w.heap.size=w.heap.size:=t.2 _ (.inr (.inl rfl));have K:v (w.heap.size+2)=w.heap.size+2:=t.2 _ (.inr (.inr (.inr (.inl rfl))));rcases q i _ p with⟨rfl,k⟩|⟨rfl,k⟩|⟨rfl,k⟩|⟨rfl,k⟩|⟨rfl,k⟩|⟨rfl,k⟩
 cases k;have⟨z,A,r⟩:=h.cls;refine⟨λ_=>⟨rfl,z,?_,r⟩,λd=>absurd (.inl rfl) d⟩;rw[ku w s b a (by omega),A,h.ren];cases k;have⟨z,A,r⟩:=h.max;refine⟨λ_=>⟨rfl,z,?_,by simpa using r⟩,λd=>absurd (.inr (.inl rfl)) d⟩;rw[ku w s b a (by omega),A];simp;cases k;cases k;refine⟨λ_=>⟨rfl,(0,0),?_,by simp⟩,λd=>absurd (.inr (.inr (.inl rfl))) d⟩;rw[HM];simp[F];cases k;refine⟨λd=> ?_,λ_=> ?_⟩<;>first |(exfalso;rcases d with d|d|d|d<;>omega)|(rw[Lg];simp[iR,F])
 cases k;refine⟨λ_=>⟨rfl,(0,0),?_,by simp⟩,λd=>absurd (.inr (.inr (.inr rfl))) d⟩;rw[HL];simp[bi,K];show∃L,(fq w s b a).heap[i]?=some L/\_;rcases l with l|rfl|rfl|rfl|rfl
 have⟨o,I,N,H⟩:=y i l;have D:f8 w.heap.size cap s b a C n f m i=none:=by
  cases x:f8 w.heap.size cap s b a C n f m i with
  |none=>rfl
  |some o=>
   exfalso;rcases q i o x with⟨rfl,rfl⟩|⟨rfl,rfl⟩|⟨rfl,_⟩|⟨rfl,_⟩|⟨rfl,_⟩|⟨rfl,_⟩
   exact u _ _ _ x;exact u _ _ _ x;all_goals omega
 rw[ku w s b a (by omega),D];exact⟨o,I,N,H⟩;rw[Fl,G];exact⟨_,rfl,trivial,.inr rfl⟩;exact absurd B (u _ _ _);exact absurd (by unfold f8;rw[if_neg (by omega),if_neg (by omega),if_neg (by omega),if_neg (by omega),if_pos rfl]) (u _ _ _);exact absurd E (u _ _ _)
def LX{b n s c}(h0:b n=n)(d:b (n+1)=n+1)(e:b (n+2)=n+2)(f:b (n+3)=n+3)(a):
 aC b (pu.at (goT n s c) a)=pu.at (goT n s c) a:=by
 simp[aC,goT,Frame.at,iR,bi,h0];exact⟨by simp[kO],rfl⟩
def pj(d b c:Nat)(s:ByteArray)(a:Nat):Act:= {tmps:=#[Sy s,AS SW a,undef,undef,vp d,vp b,vp c,undef,Sy s,AS Sw s.size,SG false,undef,undef,undef,Sy s,AS SW a,undef,undef,undef,undef,undef,undef,undef,undef,undef,undef,undef,undef,undef],defers:=[]}
def NP(d b c s)(a:Nat):Lt (Sy s) (AS SW a) (pj d b c s a):=⟨rfl,rfl,rfl,rfl⟩
def LY{d e b c s f}(h0:d e=e)(g:d b=b)(h:d c=c)(a):
 aC d (gw.at (pj e b c s f) a)=gw.at (pj e b c s f) a:=by
 simp[aC,pj,Frame.at,bi];rfl
def LZ{a n}(b:a (n+1)=n+1)(c:a (n+3)=n+3):
 aC a {kZ with defers:=[{target:= .fn (TG 99) #[vp (n+1),vp (n+3)],args:=#[]}]}= {kZ with defers:=[{target:= .fn (TG 99) #[vp (n+1),vp (n+3)],args:=#[]}]}:=by
 simp[aC,kZ,lu,oa,jn,goexitEntry];exact⟨by simp[show(default:TK).tmps=#[]from rfl],by simp[AG,kO,bi]⟩
end
section
open Go.Conc
variable[aD]
section
variable{Q:Ts}{R:Machine->Trace->Prop}{w:SD}{fr PF c:TK}{cs:List TK}{fn:Func}{v:SH}
def Cq(g:fr.mode=Th)(e:fr.kind=U7)(d:fr.defers=[])(f:Q.funcs[fr.fn]?=some fn)(b:fn.results=#[])
 (a:PF.mode=Th\/∃v,PF.mode=Ug [{v:=v,recovered:=true}]) (m w):stepG Q m (bO fr (PF::cs)) w= .go (bO {PF with mode:=Th} cs) w:=by
 simp[stepG,bO,unwind,d,g,f,results_none b fr.tmps Q w,events_results_none b ..,doReturn,e];rcases a with h|⟨v,h⟩
 rw[h];have:PF= {PF with mode:=Th}:=by rw[<- h]
 rw[<- this];rfl;rw[h];rfl
def ca.OW(b:fr.mode=Th)(d:fr.kind=U7)(g:fr.defers=[])(e:Q.funcs[fr.fn]?=some fn)(f:fn.results=#[])
 (a:PF.mode=Th\/∃v,PF.mode=Ug [{v:=v,recovered:=true}]) (k1:ca Q R (bO {PF with mode:=Th} cs) w):ca Q R (bO fr (PF::cs)) w:=
 ca.ctl (λw=>Cq b d g e f a true w) rfl k1
def Cp(f:fr.mode=Th)(g:fr.kind= .normal)(b:fr.defers=[])(h:Q.funcs[fr.fn]?=some fn){u}(i:(results fn fr.tmps).run Q u= .ok v u):
 ∃E,stepG Q true (bO fr (c::cs)) u= .go (bO (c.finish v) cs) u E/\deafBehind 0 E=0:=by
 refine⟨seen Q fr.fn ((results fn fr.tmps).runT Q u #[]).2,?_,?_⟩;simp_all[GStep.after,stepG,bO,unwind,doReturn]
 rcases j7 0 (wJ (P:=Q) fn fr.tmps).hu u #[] gP with⟨_,_,_,a⟩|⟨x,e,d,_⟩
 exact(dO Q _ a.ev).trans a.deaf;simp_all
def ca.FO(g:fr.mode=Th)(e:fr.kind= .normal)(h:fr.defers=[])(b:Q.funcs[fr.fn]?=some fn)(i:∀a d,(results fn fr.tmps).run Q (ah w a d)= .ok v (ah w a d))
 (k1:ca Q R (bO (c.finish v) cs) w):ca Q R (bO fr (c::cs)) w:=λm t f=>
 f.go rfl λa d=>by have⟨E,j,k⟩:=Cp (c:=c) (cs:=cs) g e h b (i a d)<;>grind k1
end
def qa(n:Nat)(w:SD):SD:= {w with heap:=w.heap.extract 0 n}
section
variable{n:Nat}{w w':SD}{h1:Array Obj}
theorem lF(i):(qa n w).heap[i]?=if i<n then w.heap[i]? else none:=by
 unfold qa;grind
def Ip(h:n<=w.heap.size):(qa n w).heap.size=n:=by
 unfold qa;grind
def JD(a:bg h1 w w')(n):bg h1 (qa n w) (qa n w'):=by
 refine⟨by simp[qa,a.size],a.tape,a.drawn,a.os,a.output,λi=> ?_,λi b=> ?_⟩;rw[lF,lF];split;exact a.blk i;simp;rw[lF]at b ⊢;split at b;rename_i h;rw[if_pos h];exact a.keep i b;grind
def Iq{a:SD}(h:n=a.heap.size)(c:∀b,b<n->w.heap[b]?=a.heap[b]?):(qa n w).heap=a.heap:=by
 apply Ul;grind [lF]
def zm{a}(h:w.heap=a.heap)(w'):cU w w'=cU a w':=by
 simp[cU,h]
def Ke{Q h0 we c a g m t}(r:bg h1 c a)(p:rE h0 h1)(e:Under h0 we)(f:we.heap.size<=c.heap.size)(h:∀b,b<we.heap.size->c.heap[b]?=we.heap[b]?)
 (j:∀b,b<we.heap.size->w'.heap[b]?=a.heap[b]?) (k:we.heap.size<=w'.heap.size) (s:fX Q g w' m t):pH h0 Q g (cU we w') m t:=by
 have q:=Ip f;have:=HT (w:=qa we.heap.size c) (w0':=qa we.heap.size a) (JD r _) p ⟨by rw[q];exact e.le,λi l d=>by have h1:=e.le;rw[lF,if_pos (by omega),h i (by omega)];exact e.st i l d⟩ (λb u=>by
  rw[lF];grind) (by omega) s
 rwa [zm (Iq (w:=c) rfl h)]at this
end
end
section
open Go.RowKit Go.Conc
attribute [local instance] dJ
noncomputable def duo(w:SD)(h g f:Nat)(s:ByteArray)(d:Nat)(a:List Tok)(e:List TK)(k:Nat):Duo where
 Q:=Tryz.prog
 βA:=bA
 βB:=bB
 DA:=DX
 DB:=DX
 dtA:=uy
 dtB:=[]
 RoA:=λi=>i=w.heap.size+1
 RoB:=Lb w.heap.size
 os:=w.os
 restA:=e
 restB:=[]
 k:=k
 rA:=w.heap.size
 rB:=w.heap.size
 capA:=0
 capB:=s.size+1
 tmA:=false
 tmB:=false
 rcB:=0
 c:=w.heap.size
 eA:=w.heap.size+4
 TA:=(a.map (Tok.val (w.heap.size+4))).toArray
 N0:=w.heap.size+4
 h0:=(fq w s d (decide (d%2=1))).heap
 out0:=w.output
 MA:=λb=>b=h\/b=g\/b=f
 MB:=λb=>b=w.heap.size+2
 cls:=false
 lo:=w.heap.size+3
def AU(n nb gb eb:Nat):oJ:= {nb,gb,eb,r:=n,e:=n+4,cap:=0,tm:=false,B:=n+5}
def uL(n:Nat)(s:ByteArray)(a:Nat)(m:Int):eK:= {x:=n+2,r:=n,cap:=s.size+1,rc:=0,tm:=false,m:=m,s:=s,fl:=a,fold:=decide (a%2=1)}
def pG.af{E b k d e x g w w'}(h:pG E b k d e x g w)(c:w'.heap=w.heap):pG E b k d e x g w':=by
 have⟨a,l,m,f,j,i,⟨s,p,q⟩,n⟩:=h;exact⟨a,l,m,f,j,i,⟨s,p,by rw[c];omega⟩,n.af c⟩
def rX.af{E ob xb all wr f d g w w'}(h:rX E ob xb all wr f d g w)(b:w'.heap=w.heap):rX E ob xb all wr f d g w':=by
 have⟨a,j,m,⟨n,p,F,e,k,l,c⟩⟩:=h;exact⟨a,j,m,n.af b,p,F,e,k.af b,l,λq i=>⟨(c q i).1.af b,(c q i).2⟩⟩
def Hb:dg DX:=⟨λc b=>by
 simp[DX]at b;subst b;rfl,λd a=>by
 simp[DX]at a;subst a;trivial⟩
section
variable{t0 t1 t2 t4 t5 p0 p1 p4 p5 p6 p7 p8:Code}{iT iP:Nat}{opsT opsP:Array Oper}
def tokF(e:(Tryz.f74).body=some (Su t0 (Su t1 (Su t2 (Su (Ta iT opsT false) (Su t4 t5))))))(n s c):
 ck Tryz.prog uy false (pu.at (goT n s c) (SM opsT []::[Tg (Su t4 t5)]))/\dg (pu.at (goT n s c) (SM opsT []::[Tg (Su t4 t5)])):=by
 cases e;refine⟨⟨rfl,λi a=> ?_,λt f=> ?_,(λd b=>nomatch b),.inl rfl,by kernel_rfl⟩,λg a=> ?_,λd b=>nomatch b⟩<;>first |(simp[Frame.at]at a;rcases a with rfl|rfl<;>first |exactλi a=>by cases a|(show codeOk Tryz.prog uy false 74 _=true;kernel_rfl))|simp[uy,pu,Frame.at]at f|(simp[Frame.at]at a;rcases a with rfl|rfl<;>first |exactλi a=>by cases a|(show cT _=true;kernel_rfl))
def Po(j:(Tryz.f53).body=some (Su p0 (Su p1 (Su (Ta iP opsP false) (Su p4 (Su p5 (Su p6 (Su p7 p8))))))))(g e c s h):
 (ck Tryz.prog uy false (gw.at (pj g e c s h) (SM opsP [2,3,4,5,6]::[Tg (Su p4 (Su p5 (Su p6 (Su p7 p8))))]))/\dg (gw.at (pj g e c s h) (SM opsP [2,3,4,5,6]::[Tg (Su p4 (Su p5 (Su p6 (Su p7 p8))))])))/\
 lZ uy (gw.at (pj g e c s h) (SM opsP [2,3,4,5,6]::[Tg (Su p4 (Su p5 (Su p6 (Su p7 p8))))])):=by
 cases j;refine⟨⟨⟨rfl,λi b=> ?_,λt l=> ?_,(λd a=>nomatch a),.inl rfl,by kernel_rfl⟩,λm b=> ?_,λd a=>nomatch a⟩,λo t k a=> ?_⟩;simp[Frame.at]at b;rcases b with rfl|rfl<;>first |(refine pX (f:=53) ?_ _;kernel_rfl)|(show codeOk Tryz.prog uy false 53 _=true;kernel_rfl)
 obtain rfl:t=19:=by simpa[uy,gw,Frame.at]using l
 exact lT;simp[Frame.at]at b;rcases b with rfl|rfl<;>first |(refine ws (id:=0) (draw:=false) ?_ _;kernel_rfl)|(show cT _=true;kernel_rfl)
 cases k;cases a;show(53,16)∉[(53,19)];simp
end
def PL(n):ck Tryz.prog [] true {kZ with defers:=[{target:= .fn (TG 99) #[vp (n+1),vp (n+3)],args:=#[]}]}/\dg {kZ with defers:=[{target:= .fn (TG 99) #[vp (n+1),vp (n+3)],args:=#[]}]}:=by
 refine⟨⟨rfl,(λi a=>nomatch a),(λt c=>nomatch c),λd b=> ?_,.inl rfl,by kernel_rfl⟩,(λe a=>nomatch a),λd b=> ?_⟩;obtain rfl:=SC.1 b;rfl;obtain rfl:=SC.1 b;trivial
def Hw{t0 t1 t2 t4 t5 p0 p1 p4 p5 p6 p7 p8 q0 q1 q2 q3 R i iT iP iQ H F D}
 (hT:(Tryz.f74).body=some (Su t0 (Su t1 (Su t2 (Su (Ta iT H false) (Su t4 t5))))))
 (hP:(Tryz.f53).body=some (Su p0 (Su p1 (Su (Ta iP F false) (Su p4 (Su p5 (Su p6 (Su p7 p8))))))))
 (hQ:(Tryz.f75).body=some (Su (Su q0 (Su q1 q2)) (Su q3 (SX i (TZ (Su (Ta iQ D false) R))))))
 {w v r y s a cs tC tM m p wr x} (hs:s.size<=1000) (hfl:a<256) (l:zF w v r y) (hg:Ls w jb.toArray tC tM m)
 (Q:ew (decide (a/2%2=1)) (decide (a%2=1)) s.data.toList (s.data.toList.length+1) 0=some (p,wr)) (hx:pT qJ p=some x)
 {gs sl q t k} (k0:k≠0)
 (C:di Tryz.prog k (G (pu.at (goT w.heap.size s a) (SM H []::[Tg (Su t4 t5)])) (gw.at (pj v r y s a) (SM F [2,3,4,5,6]::[Tg (Su p4 (Su p5 (Su p6 (Su p7 p8))))])::cs))
  (born Tryz.prog {target:= .fn (TG 99) #[vp (w.heap.size+1),vp (w.heap.size+3)],args:=#[]}) gs q t) (ht:PT k (λ_=>False) (λ_=>False) t):
 Runs Tryz.prog (crowd gs (fq w s a (decide (a%2=1))) sl) t (Done (duo w v r y s a p cs k)
  (pG (AU w.heap.size v r y) D [Tg R,Ub (Su (Ta iQ D false) R),U2 i] DX (ghost (fq w s a (decide (a%2=1))) (w.heap.size+5) (gD w.heap.size v r y 0 (p.map (Tok.val (w.heap.size+4))).toArray)) x)
  (rX (uL w.heap.size s a m) (w.heap.size+1) (w.heap.size+3) p wr DX (ghost (fq w s a (decide (a%2=1))) (w.heap.size+4) (f8 w.heap.size (s.size+1) s a (decide (a%2=1)) jb.toArray tC tM m)))):=by
 have h1:=l.n.lt';have h2:=l.g.lt';have h3:=l.e.lt';have h4:=l.ln;have h5:=l.lg;have h6:=l.le;have hgl:=wN;have S:= @ON w v r y 0 (p.map (Tok.val (w.heap.size+4))).toArray l s a (decide (a%2=1));have PB0:=OM (cap:=s.size+1) l.glob hg (by omega) s a (decide (a%2=1));generalize M:gD w.heap.size v r y 0 (p.map (Tok.val (w.heap.size+4))).toArray=P at S ⊢;generalize L:f8 w.heap.size (s.size+1) s a (decide (a%2=1)) jb.toArray tC tM m=N at PB0 ⊢;have a1:P v=some (Sx #[SI] 62):=by rw[<- M];unfold gD;rw[if_pos rfl]
 have a2:P r=some (Sx #[AS Sw 0] 3):=by rw[<- M];unfold gD;rw[if_neg (T5 l.n_g),if_pos rfl]
 have a3:P y=some (Sx #[SI] 81):=by rw[<- M];unfold gD;rw[if_neg (T5 l.n_e),if_neg (T5 l.g_e),if_pos rfl]
 have a4:P w.heap.size=some (SS 0 (p.map (Tok.val (w.heap.size+4))).toArray false 0 0 false):=by rw[<- M];unfold gD;rw[if_neg (by omega),if_neg (by omega),if_neg (by omega),if_pos rfl]
 have a5:P (w.heap.size+1)=some (Sx #[SU (some w.heap.size)] 216 (0,1)):=by rw[<- M];unfold gD;rw[if_neg (by omega),if_neg (by omega),if_neg (by omega),if_neg (by omega),if_pos rfl]
 have ak:∀i o,P i=some o->i=v\/i=r\/i=y\/i=w.heap.size/\o.isChan=true\/i=w.heap.size+1:=λi o f=>by
  rw[<- M]at f;unfold gD at f;repeat' split at f
  all_goals first
   |(cases f;simp_all[Obj.isChan];done)
   |(cases f)
 have b3:N w.heap.size=some (SS (s.size+1) #[] false 0 0 false):=by rw[<- L];unfold f8;rw[if_neg (by omega),if_neg (by omega),if_pos rfl]
 have b1:N 2=some (Sx jb.toArray tC (0,jb.toArray.size)):=by rw[<- L];unfold f8;rw[if_pos rfl]
 have b2:N 1=some (Sx #[AS Sw m] tM (0,1)):=by rw[<- L];unfold f8;rw[if_neg (by decide),if_pos rfl]
 have b4:N (w.heap.size+1)=some (Sx #[SU (some w.heap.size)] 216 (0,1)):=by rw[<- L];unfold f8;rw[if_neg (by omega),if_neg (by omega),if_neg (by omega),if_pos rfl]
 have b5:N (w.heap.size+2)=some (Sx (iR s 0 a w.heap.size (decide (a%2=1))) 220):=by rw[<- L];unfold f8;rw[if_neg (by omega),if_neg (by omega),if_neg (by omega),if_neg (by omega),if_pos rfl]
 have b6:N (w.heap.size+3)=some (Sx #[Sv (some ⟨w.heap.size+2,0,none⟩)] 217 (0,1)):=by rw[<- L];unfold f8;rw[if_neg (by omega),if_neg (by omega),if_neg (by omega),if_neg (by omega),if_neg (by omega),if_pos rfl]
 have bk:∀i o,N i=some o->i=2\/i=1\/i=w.heap.size/\o.isChan=true\/i=w.heap.size+1\/i=w.heap.size+2\/i=w.heap.size+3:=λi o f=>by
  rw[<- L]at f;unfold f8 at f;repeat' split at f
  all_goals first
   |(cases f;simp_all[Obj.isChan];done)
   |(cases f)
 have kA0:iA Tryz.prog (wo w.heap.size v r y) (w.heap.size+5) (fq w s a (decide (a%2=1))).heap.size:=S.part;have⟨ft1,ft2⟩:=tokF hT w.heap.size s a;have⟨⟨fp1,fp2⟩,fp3⟩:=Po hP v r y s a;have⟨fb1,fb2⟩:=PL w.heap.size;let Z:=duo w v r y s a p cs k
 let gA:Uk:=bO (pu.at (goT w.heap.size s a) (SM H []::[Tg (Su t4 t5)])) ([gw.at (pj v r y s a) (SM F [2,3,4,5,6]::[Tg (Su p4 (Su p5 (Su p6 (Su p7 p8))))])]++[DX])
 let gB:Uk:=bO {kZ with defers:=[{target:= .fn (TG 99) #[vp (w.heap.size+1),vp (w.heap.size+3)],args:=#[]}]} ([]++[DX])
 have I:Inv2 Z 0 (wo w.heap.size v r y) gA (ghost (fq w s a (decide (a%2=1))) (w.heap.size+5) P) (G (pu.at (goT w.heap.size s a) (SM H []::[Tg (Su t4 t5)])) (gw.at (pj v r y s a) (SM F [2,3,4,5,6]::[Tg (Su p4 (Su p5 (Su p6 (Su p7 p8))))])::cs))
  (EZ w.heap.size) gB (ghost (fq w s a (decide (a%2=1))) (w.heap.size+4) N) (born Tryz.prog {target:= .fn (TG 99) #[vp (w.heap.size+1),vp (w.heap.size+3)],args:=#[]}) (fq w s a (decide (a%2=1))) t:=by
  refine inv_start (Z:=Z) (tm:=false) (sA:=0) (rcA:=0) (sB:=0) S PB0 (NM ..) (gQ ft1 (λc n=>by obtain rfl:=SC.1 n;exact fp1) ⟨λ_=>fp3,rfl⟩) (gQ fb1 (λc n=>by cases n) rfl)
   ⟨ft2,λc n=> ?_,nofun,nofun⟩ ⟨fb2,λc n=> ?_,nofun,nofun⟩ rfl rfl (λO W=> ?_) (λO W=> ?_) a4 (λi o f n=> ?_) rfl b3 (λi o f n=> ?_) rfl (Fl ..) (by show w.heap.size+4<_;omega) ?_ (λi z=> ?_) (λi j z hj he=> ?_) ht
   (λi z X hlt=> ?_) (λi z X hlt=> ?_) (λb _ _ _ _=>rfl) (by rw[uZ];exact SF _) (Mv ..)
  .have n:c∈[_,DX]:=n;simp only[TX,Un,or_false]at n;rcases n with rfl|rfl
   .exact fp2
   .exact Hb
  .have n:c∈[DX]:=n;obtain rfl:=SC.1 n;exact Hb
  .have e:= @fO O cs (pu.at (goT w.heap.size s a) (SM H []::[Tg (Su t4 t5)])) [gw.at (pj v r y s a) (SM F [2,3,4,5,6]::[Tg (Su p4 (Su p5 (Su p6 (Su p7 p8))))])] DX;have k:∀i,(wo w.heap.size v r y).K i->O i=i:=λi z=>W.2 i z
   rw[LX (k _ (.inr (.inr (.inr (.inr (.inl rfl)))))) (k _ (.inr (.inr (.inr (.inr (.inr (.inl rfl))))))) (k _ (.inr (.inr (.inr (.inr (.inr (.inr (.inl rfl)))))))) (k _ (.inr (.inr (.inr (.inr (.inr (.inr (.inr rfl))))))))]at e;simp only[List.map_cons,List.map_nil]at e;rw[LY (k _ (.inr (.inl rfl))) (k _ (.inr (.inr (.inl rfl)))) (k _ (.inr (.inr (.inr (.inl rfl)))))]at e;exact e
  .have e:= @fO O [] {kZ with defers:=[{target:= .fn (TG 99) #[vp (w.heap.size+1),vp (w.heap.size+3)],args:=#[]}]} [] DX;have k:∀i,(EZ w.heap.size).K i->O i=i:=λi z=>W.2 i z
   rw[LZ (k _ (.inr (.inr (.inl rfl)))) (k _ (.inr (.inr (.inr (.inr rfl)))))]at e;exact e
  .rcases ak i o f with rfl|rfl|rfl|⟨rfl,_⟩|rfl
   .rw[a1]at f;cases f;cases n
   .rw[a2]at f;cases f;cases n
   .rw[a3]at f;cases f;cases n
   .rfl
   .rw[a5]at f;cases f;cases n
  .rcases bk i o f with rfl|rfl|⟨rfl,_⟩|rfl|rfl|rfl
   .rw[b1]at f;cases f;cases n
   .rw[b2]at f;cases f;cases n
   .rfl
   .rw[b4]at f;cases f;cases n
   .rw[b5]at f;cases f;cases n
   .rw[b6]at f;cases f;cases n
  .show¬ (wo w.heap.size v r y).K (w.heap.size+4);rintro(h|h|h|h|h|h|h|h)<;>omega
  .rcases z with z|rfl|rfl|rfl|rfl|rfl|rfl|rfl
   .exact .inr (.inl ⟨i,by show i<=w.heap.size+3;omega,.inl z,rfl⟩)
   .exact .inl ⟨_,_,_,a1⟩
   .exact .inl ⟨_,_,_,a2⟩
   .exact .inl ⟨_,_,_,a3⟩
   .exact .inr (.inr rfl)
   .exact .inl ⟨_,_,_,a5⟩
   .exact .inr (.inl ⟨_,by show w.heap.size+2<=w.heap.size+3;omega,.inr (.inr (.inr (.inl rfl))),rfl⟩)
   .exact .inr (.inl ⟨_,SF _,.inr (.inr (.inr (.inr rfl))),rfl⟩)
  .have he:i=j:=he;subst he;have⟨c1,e1,z1,z⟩:=z;have⟨c2,e2,z2,hj⟩:=hj;show i=w.heap.size+1/\Lb w.heap.size i;rcases ak i _ z with rfl|rfl|rfl|⟨rfl,n⟩|rfl
   .rcases bk _ _ hj with h|h|⟨h,_⟩|h|h|h<;>omega
   .rcases bk _ _ hj with h|h|⟨h,_⟩|h|h|h<;>omega
   .rcases bk _ _ hj with h|h|⟨h,_⟩|h|h|h<;>omega
   .cases n
   .exact⟨rfl,.inr (.inr (.inl rfl))⟩
  .have⟨c1,e1,z1,z⟩:=z;rcases ak i _ z with rfl|rfl|rfl|⟨rfl,n⟩|rfl
   .exact .inl rfl
   .exact .inr (.inl rfl)
   .exact .inr (.inr rfl)
   .cases n
   .exact absurd rfl X
  .have⟨c1,e1,z1,z⟩:=z;rcases bk i _ z with rfl|rfl|⟨rfl,n⟩|rfl|rfl|rfl
   .exact absurd (.inl rfl) X
   .exact absurd (.inr (.inl rfl)) X
   .cases n
   .exact absurd (.inr (.inr (.inl rfl))) X
   .rfl
   .exact absurd (.inr (.inr (.inr rfl))) X
 have hne:∀(b:Nat),b=v\/b=r\/b=y->b<w.heap.size:=λb hb=>by rcases hb with rfl|rfl|rfl<;>assumption
 have TA:=F0 (T:=KY) hT hP hQ (E:=AU w.heap.size v r y) (D0:=DX) (ob:=w.heap.size+1) (w:=ghost (fq w s a (decide (a%2=1))) (w.heap.size+5) P) (x:=x) (aT:=goT w.heap.size s a) (aP:=pj v r y s a) (ts:=p)
  (v7:=undef) (n0:=SI) (g0:=AS Sw 0) (e0:=SI) (s:=0) (rc:=0) (by show w.heap.size<w.heap.size+5;omega) ⟨by show w.heap.size≠v;omega,by show w.heap.size≠r;omega,by show w.heap.size≠y;omega⟩ ⟨l.n_g,l.n_e,l.g_e⟩
  ⟨by show v<w.heap.size+5;omega,by show r<w.heap.size+5;omega,by show y<w.heap.size+5;omega⟩ hx (by rw[io];rfl) (by
   unfold T0;rw[eF (by show w.heap.size+1<_;omega) a5];rfl) (eF (by show w.heap.size<_;omega) a4)
  ⟨eF (by show v<_;omega) a1,eF (by show r<_;omega) a2,eF (by show y<_;omega) a3⟩ (NO ..) ⟨rfl,rfl,rfl,rfl,rfl,rfl⟩ I.SA.iv
 have TB:=Gc (T:=KX) (E:=uL w.heap.size s a m) (ob:=w.heap.size+1) (xb:=w.heap.size+3) (all:=p) (wr:=wr) (w:=ghost (fq w s a (decide (a%2=1))) (w.heap.size+4) N) (D0:=DX) hs (SF _) hfl
  ⟨eF (by show w.heap.size+2<_;omega) b5,⟨0,eF (by show w.heap.size<_;omega) b3⟩,by
   unfold T0;rw[eF (by show 1<_;omega) b2];rfl,⟨_,_,eF (by show 2<_;omega) b1⟩⟩
  ⟨by
   unfold T0;rw[eF (by show w.heap.size+1<_;omega) b4];rfl,by
   unfold T0;rw[eF (by show w.heap.size+3<_;omega) b6];rfl⟩ (by simp[uL]) (by simp[uL]) Q I.SB.iv
 have TA':=TA.FN (K':=pG (AU w.heap.size v r y) D [Tg R,Ub (Su (Ta iQ D false) R),U2 i] DX (ghost (fq w s a (decide (a%2=1))) (w.heap.size+5) P) x) λg u ⟨Y,d,h⟩=>.stop (h.af rfl)
 have TB':=TB.FN (K':=rX (uL w.heap.size s a m) (w.heap.size+1) (w.heap.size+3) p wr DX (ghost (fq w s a (decide (a%2=1))) (w.heap.size+4) N)) λg u ⟨Y,d,h⟩=>.stop (h.af rfl)
 have HY:=NI (Z:=Z) (A:=AU w.heap.size v r y) (B:=uL w.heap.size s a m) hQ (ob:=w.heap.size+1) (xb:=w.heap.size+3) (all:=p) (wr:=wr) (k:=[Tg R,Ub (Su (Ta iQ D false) R),U2 i])
  (wA:=ghost (fq w s a (decide (a%2=1))) (w.heap.size+5) P) (wB:=ghost (fq w s a (decide (a%2=1))) (w.heap.size+4) N) (x:=x) Q rfl rfl rfl rfl rfl rfl rfl k0 rfl rfl rfl rfl rfl rfl rfl rfl
  (by rw[io];show w.heap.size+3<_;omega) (λi z=>by
   rw[io];rcases z with rfl|rfl|rfl|rfl<;>omega)
 exact pair (Z:=Z) rfl HY (Mx rfl rfl rfl) TA' TB' I C
end
section
open Go.RowKit
def CY{f}{w p:SD}{i a e d n v m}(h:w.ownsRow i e d v n m)(s:∀b,v.ownBlock=some b->a<=f b)
 (z:∀b c,v.ownBlock=some b->w.heap[b]?=some (Sx c e (0,0))->p.heap[f b]?=some (Sx (c.map (ab f)) e (0,0))):p.ownsRow a e d (ab f v) n (m.map (ab f)):=by
 have⟨q,k⟩:=h;refine⟨by simpa using q,?_⟩;rcases k with⟨rfl,k⟩|⟨g,l,j,rfl,A,y,u,r,x,t⟩
 exact .inl ⟨by simp,k⟩;refine .inr ⟨f g,l,j.map (ab f),by simp[bi],s g rfl,z g j rfl y,u,r,by simpa using x,?_⟩;simp[<- t]
def AC{d v b}(h:(ab d v).ownBlock=some b):∃a,v.ownBlock=some a/\b=d a:=by
 cases v;case slice a n c=>
  cases a with
  |none=>simp[Ua]at h
  |some a=>exact⟨a.block,rfl,by simpa[Ua,eq_comm]using h⟩
 all_goals simp[Ua]at h
def Repr.ren{O w u S E v G}(h:Repr w S v G)(C:∀b t c,S b->w.heap[b]?=some (Sx c t (0,0))->u.heap[O b]?=some (Sx (c.map (ab O)) t (0,0))/\E (O b)):Repr u E (ab O v) G:=by
 have j:∀{q t c},S q->a7 w q t c->a7 u (O q) t (c.map (ab O)):=λf d=>(C _ _ _ f d).1
 have l:∀{q t c},S q->a7 w q t c->E (O q):=λf d=>(C _ _ _ f d).2
 have B:∀{n:SH}{m:List SH},w.ownsRow 0 62 1 n m.length m->(∀b,n.ownBlock=some b->S b)->u.ownsRow 0 62 1 (ab O n) (m.map (ab O)).length (m.map (ab O)):=λr p=>by
  rw[List.length_map];exact CY r (λ_ _=>TD _) λb c e d=>(C b _ c (p b e) d).1
 have z:∀{n:SH}{m:List SH},w.ownsRow 0 62 1 n m.length m->(∀b,n.ownBlock=some b->S b)->∀b,(ab O n).ownBlock=some b->E b:=λ{n m} r p b d=>by
  obtain⟨a,I,rfl⟩:=AC d;rcases r.2 with⟨rfl,_⟩|⟨g,L,M,rfl,_,N,_⟩
  cases I;cases I;exact(C g _ _ (p g rfl) N).2
 have x:∀{m:List SH}{D:List Nd}{H:Nat->Prop},(∀(i:Nat) v k,m[i]?=some v->D[i]?=some k->Repr u H (ab O v) k)->∀(i:Nat) v k,(m.map (ab O))[i]?=some v->D[i]?=some k->Repr u H v k:=λP i v k r p=>by
  grind
 induction h with
 |set f d=>simpa[bi]using Repr.set (l f d) (by simpa using j f d)
 |edge f d=>simpa[bi]using Repr.edge (l f d) (by simpa using j f d)
 | @seq q K n D m f d y A F _ s=>simpa[bi]using Repr.seq (l f d) (by simpa using j f d) (B y A) (z y A) (by simpa using F) (x λi v k r p=>s i v k r p)
 | @alt q K n D m f d y A F _ s=>simpa[bi]using Repr.alt (l f d) (by simpa using j f d) (B y A) (z y A) (by simpa using F) (x λi v k r p=>s i v k r p)
 |grp f d _ s=>simpa[bi]using Repr.grp (l f d) (by simpa using j f d) s
 |rep f d _ s=>simpa[bi]using Repr.rep (l f d) (by simpa using j f d) s
end
section
open Go.RowKit Go.Conc
attribute [local instance] dJ
def kr{P t b v w}(a:∀w,(isAgg t).run P w= .ok false w)(c:w.cell? ⟨b,0,none⟩=some v):(loadVar t ⟨b,0,none⟩).run P w= .ok v w:=by
 simp[loadVar,a,c]
def vi{w:SD}{b}{v:SH}{f t z}(h:w.heap[b]?=some (Sx (Array.map f #[v]) t z)):w.cell? ⟨b,0,none⟩=some (f v):=by
 simp_all[T0]
def ca.app{Q R g w m t}(h:ca Q R g w)(a:fX Q g w m t):Runs Q m t R:=h m t a
def rO{P fn p q r t u v}(h:fn.results=#[.cell p t,.cell q u,.cell r v]){tmps a b c x y z w}
 (g:tmps.getD p undef=vp a) (i:tmps.getD q undef=vp b) (j:tmps.getD r undef=vp c) (f:(loadVar t ⟨a,0,none⟩).run P w= .ok x w) (d:(loadVar u ⟨b,0,none⟩).run P w= .ok y w) (e:(loadVar v ⟨c,0,none⟩).run P w= .ok z w):
 (results fn tmps).run P w= .ok (Tj #[x,y,z]) w:=by
 simp_all[results,asAddr]
def lN(d:Nat)(c:SD)(f:Option (Int×Int))(x:eJ Nd)(v:SH):Prop:=match x with
 | .ok g s=>∃e,v=Tj #[e,AS Sw s.g,SI]/\Repr c (λb=>d<=b) e g
 | .err y s=>∃q,v=Tj #[SI,AS Sw 0,Ud 120 (Sv q)]/\(match y with| .own k a=>∃b,q=some ⟨b,0,none⟩/\d<=b/\a7 c b 124 #[AS Sw a,AS Sw k]| .tok=>s.t.bad=true->∀p,f=some p->∃b,q=some ⟨b,0,none⟩/\d<=b/\a7 c b 124 #[AS Sw p.2,AS Sw p.1])
def lN.keep{e w w' l x v}(h:lN e w l x v)(m:∀b t c,e<=b->w.heap[b]?=some (Sx c t (0,0))->w'.heap[b]?=some (Sx c t (0,0)))(hs:∀b,e<=b->b<w.heap.size->w'.heap[b]?=w.heap[b]?):lN e w' l x v:=by
 cases x with
 |ok z s=>have⟨r,g,f⟩:=h;exact⟨r,g,f.keep hs⟩
 |err y s=>
  have⟨q,g,f⟩:=h;refine⟨q,g,?_⟩;cases y with
  |own k a=>have⟨b,i,d,j⟩:=f;exact⟨b,i,d,m _ _ _ d j⟩
  |tok=>exactλu p n=>by have⟨b,i,d,j⟩:=f u p n;exact⟨b,i,d,m _ _ _ d j⟩
def Jp{k b l}:∀n p{a c},p<=l.length->ew k b l n p=some (a,c)->∀q,c=some q->∃(i:Nat)(t:Tok),a[i]?=some t/\t.bad=true:=by
 intro n;induction n with
 |zero=>intro p a c j h;cases h
 |succ n w=>
  intro p a c j h q m;unfold ew at h;have⟨x,y,_,_,d,e⟩:=ib k b l p j;simp[y]at h;cases g:x.more with
  |true=>
   rw[if_pos g,T4]at h;have⟨⟨z,u⟩,s,f⟩:=h;obtain⟨rfl,rfl⟩:=f;have⟨i,t,r,v⟩:=w x.p d s q m;exact⟨i+1,t,by simpa using r,v⟩
  |false=>
   rw[if_neg (by simp[g])]at h;cases h;exact⟨0,x.t,rfl,by simp[e.bad,m]⟩
def M6(d)(b:TK)(a c):aC d (b.at a c)=b.at {tmps:=a.tmps.map (ab d),defers:=a.defers.map (lu d)} c:=by
 rfl
section
variable{Z:Duo}{n:Nat}{pA pB:Part}{gA gA' gB gB':Uk}{wA wB w':SD}{t:Trace}
def Inv2.BS(I:Inv2 Z n pA gA wA gA' pB gB wB gB' w' t){a}(d:Ag pA a){b e c z}(h:wA.heap[b]?=some (Sx c e z))(f:¬ Z.RoA b):w'.heap[a b]?=some (Sx (c.map (ab a)) e z):=
 ((I.SA.relW a d).blk b _ h).2 f
def Inv2.PK(I:Inv2 Z n pA gA wA gA' pB gB wB gB' w' t){a}(d:Ag pB a){b e c z}(h:wB.heap[b]?=some (Sx c e z))(f:¬ Z.RoB b):w'.heap[a b]?=some (Sx (c.map (ab a)) e z):=
 ((I.SB.relW a d).blk b _ h).2 f
end
def Il{q0 q1 q2 q3 X i iQ g}(hQ:(Tryz.f75).body=some (Su (Su q0 (Su q1 q2)) (Su q3 (SX i (TZ (Su (Ta iQ g false) X))))))
 {R w L P K s S c T m C wr x k n0 wA0 wB0} (hB0:w.heap.size+4<=wB0.heap.size)
 (hn:n0<=L/\n0<=P/\n0<=K/\n0<=w.heap.size) (Z:L<w.heap.size/\P<w.heap.size/\K<w.heap.size) (hgl:Tryz.prog.globals.size<n0) (hall:ew (decide (S/2%2=1)) (decide (S%2=1)) s.data.toList (s.data.toList.length+1) 0=some (C,wr))
 (k1:∀l v,lN n0 l wr x v->(∀b,b<n0->l.heap[b]?=w.heap[b]?)->n0<=l.heap.size->l.os=w.os->l.output=w.output->ca Tryz.prog R (bO (c.finish v) T) l)
 {mc t} (h:Done (duo w L P K s S C (c::T) k) (pG (AU w.heap.size L P K) g [Tg X,Ub (Su (Ta iQ g false) X),U2 i] DX wA0 x) (rX (uL w.heap.size s S m) (w.heap.size+1) (w.heap.size+3) C wr DX wB0) mc t):Runs Tryz.prog mc t R:=by
 have⟨pA,gA,wA,gA',pB,gB,wB,gB',l,c0,z,ok,t0,I,hKA,hKB,hst,_,hF⟩:=h.Rz;have⟨z',hst2⟩:=L0 hQ hKA;have hok:ok=true:=by
  have:=(hst true w).symm.trans (hst2 true w);simpa using(by simpa using this:_/\ok=true).2
 subst hok;obtain⟨a,H,pb,rfl,hq,A,⟨s0,rc0,hch⟩,hkp,nv,gv,ev,W,G⟩:=hKA;have n:Ag pA (pA.far l.heap.size 0):=bL I.SA.part 0;have N:Ag pB (pB.far l.heap.size 0):=bL I.SB.part 0;generalize pA.far l.heap.size 0=f at n;generalize pB.far l.heap.size 0=M at N;have Q:=I.SA.relG f n;have r:∀b,b≠w.heap.size+1->¬ (duo w L P K s S C (c::T) k).shut.RoA b:=λb D h=>D h
 have hin:∀b ty cc z,wA.heap[b]?=some (Sx cc ty z)->b≠w.heap.size+1->n0<=f b:=λb ty cc z D B=>by
  have e:f b=pA.κ b:=n.2 b (I.SA.cells ⟨_,_,_,D⟩);rcases Tw (pA.κ b) (w.heap.size+4)with hl|hl
  rcases I.mA b ⟨_,_,_,D⟩ (r b B) hl with h|h|h<;>omega
  omega
 have hinB:∀b ty cc z,wB.heap[b]?=some (Sx cc ty z)->w.heap.size+4<=b->n0<=M b/\¬ (duo w L P K s S C (c::T) k).shut.RoB b:=λb ty cc z D B=>by
  have e:M b=pB.κ b:=N.2 b (I.SB.cells ⟨_,_,_,D⟩);have hg3:=wN;have hro:¬ (duo w L P K s S C (c::T) k).shut.RoB b:=λh=>by
   rcases h with h|h|h|h<;>omega
  refine⟨?_,hro⟩;rcases Tw (pB.κ b) (w.heap.size+4)with hl|hl<;>first |(have:pB.κ b=w.heap.size+2:=I.mB b ⟨_,_,_,D⟩ hro hl;omega)|omega
 have hOut:lN n0 l wr x (Tj #[ab f nv,ab f gv,ab f ev]):=by
  cases x with
  |ok nd s2=>
   obtain⟨rfl,rfl,hrp⟩:=G;refine⟨ab f nv,by simp,?_⟩;refine hrp.ren λb ty cc D hc=> ?_
   have B:b≠w.heap.size+1:=by
    have:w.heap.size+5<=b:=D;omega
   exact⟨I.BS n hc (r b B),hin b _ _ _ hc B⟩
  |err y s2=>
   obtain⟨rfl,rfl,q,rfl,hE⟩:=G;refine⟨q.map (bi f),by simp,?_⟩;cases y with
   |own kk aa=>
    obtain⟨b,rfl,D,hc⟩:=hE;have B:b≠w.heap.size+1:=by
     have:w.heap.size+5<=b:=D;omega
    refine⟨f b,rfl,hin b _ _ _ hc B,?_⟩;have:=I.BS n hc (r b B);show l.heap[f b]?=_;simpa using this
   |tok=>
    intro hbad p hp;have⟨a2,_,_,⟨_,p2,F,e,hSB,hFl,hwe⟩⟩:=hKB;have⟨hce,hle⟩:=hwe p hp;have⟨h5,h6⟩:=hinB e _ _ _ hce (by omega);have⟨j,tk,hj,htb⟩:=Jp _ _ (TD _) hall p hp;have⟨bf,sd,hO,hval⟩:=I.val;have⟨sd2,hch2⟩:=hSB.chan;have hbf:bf=F:=by
     have:=hO.1.symm.trans hch2;simpa using And.left (And.right (by simpa using this))
    subst hbf;have hje:f (w.heap.size+4)=M e:=by
     refine DE f M htb (hval j (Tok.val (w.heap.size+4) tk) (Tok.val e tk) ?_ ?_ f M n N)<;>first |(show(C.map (Tok.val (w.heap.size+4))).toArray[j]?=_;simp[hj])|(rw[<- Array.getElem?_toList,hFl];simp[hj])
    have hq:q=gH (w.heap.size+4) s2.t.bad:=hE;rw[hbad]at hq;subst hq;refine⟨M e,by simp[gH,bi,hje],h5,?_⟩;have:=I.PK N hce h6;show l.heap[M e]?=_;simpa using this
 have hold:∀b,b<n0->l.heap[b]?=w.heap[b]?:=λb D=>by
  have:=I.fr b (by show b<w.heap.size+4;omega) (by show b≠w.heap.size;omega) (by rintro(h|h|h)<;>omega) (by intro h;have h:b=w.heap.size+2:=h;omega);exact this.trans (ku w s S _ (by omega))
 have hsz:w.heap.size+4<=l.heap.size:=I.nz;have E:∀b,b<w.heap.size->b≠w.heap.size+1:=λb h=>by omega
 have c1:l.cell? ⟨f L,0,none⟩=some (ab f nv):=vi (I.BS n W.n (r _ (E L Z.1)));have c2:l.cell? ⟨f P,0,none⟩=some (ab f gv):=vi (I.BS n W.g (r _ (E P Z.2.1)));have c3:l.cell? ⟨f K,0,none⟩=some (ab f ev):=vi (I.BS n W.e (r _ (E K Z.2.2)));have e1:gA'.frame=aC f (rW.at a (SM g [0,1]::[Tg X,Ub (Su (Ta iQ g false) X),U2 i])):=Q.frame;have e2:gA'.callers=aC f H::c::T:=Q.callers;have hF2:fX Tryz.prog (bO ((aC f (rW.at a (SM g [0,1]::[Tg X,Ub (Su (Ta iQ g false) X),U2 i]))).finish (recvd true z false)) (aC f H::c::T)) l mc t:=by
  rw[<- e1,<- e2];exact hF
 have hPFf:(aC f H).fn=53:=A.fn;have k2:ca Tryz.prog R (bO {aC f H with mode:=Th} (c::T)) l:=by
  refine ca.FO (fn:=Tryz.f53) (v:=Tj #[ab f nv,ab f gv,ab f ev]) rfl A.kind ?_ ?_ (λM d=> ?_) (k1 l _ hOut hold (by omega) (I.SA.relW f n).os.2 I.out);show H.defers.map (lu f)=[];rw[A.defers];rfl;show Tryz.prog.funcs[H.fn]?=_;rw[A.fn];exact Tryz.func53;have get:∀j v,H.tmps.getD j undef=v->j<29->((aC f H).tmps).getD j undef=ab f v:=λj v h hj=>by
   subst h;simp[Array.getD,A.size,hj]
  exact rO (by rfl) ((get 4 _ A.s4 (by decide)).trans (by simp[vp,bi];rfl)) ((get 5 _ A.s5 (by decide)).trans (by simp[vp,bi];rfl)) ((get 6 _ A.s6 (by decide)).trans (by simp[vp,bi];rfl))
   (kr λu=>by simp[go_sem] c1) (kr λu=>by simp[go_sem] c2) (kr λu=>by simp[go_sem] c3)
 have hPm:(aC f H).mode=Th\/∃v,(aC f H).mode=Ug [{v:=v,recovered:=true}]:=by
  rcases A.mode with h|⟨v,h⟩
  exact .inl (by rw[fL,h];rfl);exact .inr ⟨ab f v,by rw[fL,h];rfl⟩
 cases hQ;rw[M6 f rW]at hF2;obtain⟨u,rfl⟩:=hq.out;refine ca.app ?_ hF2;rw[Us];simp only[List.map_toArray,List.map_cons,List.map_nil];simp only[T6,recvd,Uf,TI,Option.bind_some,List.setIfInBounds_toArray,List.set_cons_succ,List.set_cons_zero,if_true];refine ca.value (v:=SG false) l rfl rfl (by simp[rW]) (λc h=>by cases h) (λM d=> ?_) ?_;simp[Tm,go_sem,SJ];simp only[T6,zq0];exact ca.ctl (λw=>stepG_region_end) rfl (ca.ctl (λw=>stepG_seq) rfl (ca.ctl (λw=>stepG_cond (t:=false) (by rfl)) rfl (ca.ctl (λw=>stepG_exit (by rfl)) rfl (ca.ctl (λw=>stepG_end) rfl (ca.OW (fn:=Tryz.f75) rfl rfl rfl Tryz.func75 (by rfl) hPm k2)))))
end
section
open Go.RowKit
def PH.func{f fn}(a:Tryz.prog.funcs[f]?=some fn)(h:lH.contains f=true):PH.funcs[f]?=some fn:=ry a (bP h)
section
attribute [local instance] fI
end
@[go_sem] theorem PH.call{f}(args w)(h:231584174161040924104118767442818691549416276051199651601332690309579511167512>>>f%2=1):(U5 f args).run PH w= .ok (.enter f args) w:=I2 (n:=512) (by kernel_rfl) args w h
end
def jQ(s:g7):Prop:=∀t∈s.ts,t.kind=8->t.bad=true
def l5{a:Type}:Option (eJ a)->Prop
 |some (.ok _ s)=>jQ s
 |some (.err .tok s)=>s.t.bad=true
 |_=>True
def dv{g c x}{f:g->g7->Option (eJ c)}(b:l5 x)(d:∀a s,jQ s->l5 (f a s)):l5 (bN x f):=by
 cases x with
 |none=>trivial
 |some r=>
  cases r with
  |ok a s=>exact d a s b
  |err e s=>cases e<;>exact b
def kj{s}(h:jQ s):l5 (cy s):=by
 unfold cy;split;trivial;rename_i t d a;split <;>first |(rename_i b;exact h t (by simp[a]) b)|exactλu c=>h u (by grind)
def ma{s}(h:jQ s):l5 (gn s):=by
 unfold gn;split;exact h;trivial
def J7(f):(∀d s,jQ s->l5 (im f d s))/\(∀d a b s,jQ s->l5 (il f d a b s))/\(∀d s,jQ s->l5 (kS f d s))/\(∀d a b s,jQ s->l5 (jP f d a b s))/\
 (∀d s,jQ s->l5 (gm f d s))/\(∀k s,jQ s->l5 (fP f k s))/\(∀d s,jQ s->l5 (ik f d s))/\∀d s,jQ s->l5 (iy f d s):=by
 induction f with
 |zero=>exact⟨λ_ _ _=>trivial,λ_ _ _ _ _=>trivial,λ_ _ _=>trivial,λ_ _ _ _ _=>trivial,λ_ _ _=>trivial,λ_ _ _=>trivial,λ_ _ _=>trivial,λ_ _ _=>trivial⟩
 |succ f j=>
  have⟨q,g,i,e,l,c,n,p⟩:=j;refine⟨λd s h=>dv (ma h) λ_ _ h=>g _ _ _ _ h,λd a b s h=> ?_,λd s h=>dv (ma h) λ_ _ h=>e _ _ _ _ h,λd a b s h=> ?_,λd s h=>dv (n _ _ h) λ_ _ h=>c _ _ h,λk s h=> ?_,λd s h=> ?_,λd s h=> ?_⟩
  .unfold il;split <;>first |(refine dv (i _ _ h) λk s h=> ?_;split <;>first |exact dv (kj h) λ_ _ h=>g _ _ _ _ h|exact h)|trivial
  .unfold jP;repeat' split
   all_goals first
    |trivial
    |exact dv (l _ _ h) λ_ _ h=>e _ _ _ _ h
  .unfold fP;split;split <;>first |(rename_i m;exact m)|exact dv (ma h) λ_ _ h=>dv (kj h) λ_ _ h=>c _ _ h
   exact h
  .unfold ik;split;exact p _ _ h;refine dv (kj h) λ_ _ h=>dv (ma h) λ_ _ h=> ?_
   repeat' split
   all_goals exact h
  .unfold iy;split <;>first |trivial|split <;>first |(refine dv (ma (s:=⟨s.ts,s.t,s.n,s.g+1⟩) h) λ_ _ h=>dv (kj h) λ_ _ h=>dv (q _ _ h) λ_ _ h=> ?_;split <;>first |exact dv (kj h) λ_ _ h=>h|trivial)|trivial
def JJ{b a}(h:∀t∈a,t.kind=8->t.bad=true){s}(c:pT b a=some (.err .tok s)):s.t.bad=true:=by
 have:l5 (pT b a):=dv (kj (s:=⟨a,b,0,0⟩) h) λ_ _ h=>(J7 _).1 _ _ h
 rw[c]at this;exact this
def Jq{g b l}:∀n p{a d},p<=l.length->ew g b l n p=some (a,d)->∀t∈a,t.kind=8->t.bad=true:=by
 intro n;induction n with
 |zero=>intro p a d j h;cases h
 |succ n u=>
  intro p a d j h t e i;unfold ew at h;have⟨x,r,_,_,m,c⟩:=ib g b l p j;simp[r]at h;cases k:x.more with
  |true=>
   rw[if_pos k,T4]at h;have⟨⟨s,q⟩,v,f⟩:=h;obtain⟨rfl,rfl⟩:=f;rcases TX.1 e with rfl|e
   exact c.k8 i;grind
  |false=>
   rw[if_neg (by simp[k])]at h;cases h;obtain rfl:=SC.1 e;exact c.k8 i
section
open Go.RowKit Go.Conc
def Repr.OR{w u S v A}(h:Repr w S v A)(e:∀b t c,S b->w.heap[b]?=some (Sx c t (0,0))->u.heap[b]?=some (Sx c t (0,0))):Repr u S v A:=by
 have l:∀{x:SH}{p:List SH},w.ownsRow 0 62 1 x p.length p->(∀b,x.ownBlock=some b->S b)->u.ownsRow 0 62 1 x p.length p:=λj n=>by
  refine⟨j.1,?_⟩;rcases j.2 with r|⟨g,q,y,rfl,d,B,r⟩
  exact .inl r;exact .inr ⟨g,q,y,rfl,d,e g _ _ (n g rfl) B,r⟩
 induction h with
 |set a d=>exact .set a (e _ _ _ a d)
 |edge a d=>exact .edge a (e _ _ _ a d)
 |seq a d z m s _ f=>exact .seq a (e _ _ _ a d) (l z m) m s λi v k j n=>f i v k j n
 |alt a d z m s _ f=>exact .alt a (e _ _ _ a d) (l z m) m s λi v k j n=>f i v k j n
 |grp a d _ f=>exact .grp a (e _ _ _ a d) f
 |rep a d _ f=>exact .rep a (e _ _ _ a d) f
def xi(c:Nat)(e:SD)(r:Option (g8 Nd))(v:SH):Prop:=match r with|some (.ok f s)=>∃d,v=Tj #[d,AS Sw s.g,SI]/\Repr e (λb=>c<=b) d f|some (.err k a)=>∃b,v=Tj #[SI,AS Sw 0,Ud 120 (Sv (some ⟨b,0,none⟩))]/\c<=b/\a7 e b 124 #[AS Sw a,AS Sw k]|none=>False
def xi.keep{f w w' r v}(h:xi f w r v)(g:∀b t c,f<=b->w.heap[b]?=some (Sx c t (0,0))->w'.heap[b]?=some (Sx c t (0,0))):xi f w' r v:=by
 match r,h with
 |some (.ok l s),⟨j,e,d⟩=>exact⟨j,e,d.OR g⟩
 |some (.err k a),⟨b,e,d,i⟩=>exact⟨b,e,d,g _ _ _ d i⟩
def LU{l n j x r v}(h:lN l n j x v)(p:Alike j x r)(t:∀s,x= .err .tok s->s.t.bad=true):xi l n (some r) v:=by
 cases p with
 |ok a s z w=>have⟨u,i,c⟩:=h;exact⟨u,by rw[<- w];omega,c⟩
 |err e s k g m=>
  have⟨q,i,c⟩:=h;cases e with
  |own y A=>
   have⟨rfl,rfl⟩:=m;obtain⟨b,rfl,f,d⟩:=c;exact⟨b,i,f,d⟩
  |tok=>
   obtain⟨b,rfl,f,d⟩:=c (t s rfl) (k,g) m;exact⟨b,i,f,d⟩
def gK(s:ByteArray)(a:Nat):Option (g8 Nd):=if 120<s.size then some (.err 1 0)else xP (decide (a/2%2=1)) (decide (a%2=1)) s.data.toList
structure fx(w:SD):Prop where
 glob:FZ w
 sc:∃tC tM m,Ls w jb.toArray tC tM m
def fx.keep{w w'}(h:fx w)(d:∀b,b<w.heap.size->w'.heap[b]?=w.heap[b]?):fx w':=by
 have a:∀g,g<=Tryz.prog.globals.size->g<w.heap.size:=λg c=>by
  have⟨o,e,_⟩:=h.glob g c<;>grind
 have k:=wN;refine⟨λg c=> ?_,?_⟩;rw[d g (a g c)];exact h.glob g c;have⟨j,i,m,⟨e,f,l⟩⟩:=h.sc;refine⟨j,i,m,⟨?_,f,?_⟩⟩;rw[d _ (a 2 (by omega))];omega;grind
def fx.pat{h0 w a}(h:fx w)(n:bg h0 w a):fx a:=by
 have j:∀(b:Nat) c t z,w.heap[b]?=some (Sx c t z)->a.heap[b]?=some (Sx c t z):=λb c t z x=>by
  rcases n.blk b with e|⟨e,_⟩<;>grind
 refine⟨λg q=> ?_,?_⟩;have⟨o,i,p,y⟩:=h.glob g q;rcases n.blk g with e|⟨e,⟨l,k⟩|⟨l,k⟩⟩<;>first |grind|exact⟨_,k,trivial,.inr rfl⟩
 have⟨u,v,m,⟨⟨z,i,d⟩,p,⟨r,s,f⟩⟩⟩:=h.sc;exact⟨u,v,m,⟨⟨z,j _ _ _ _ i,d⟩,p,⟨r,j _ _ _ _ s,f⟩⟩⟩
structure Parsed(w:SD)(s:ByteArray)(fl:Nat)(v:SH)(w':SD):Prop where
 old:∀b,b<w.heap.size->w'.heap[b]?=w.heap[b]?
 size:w.heap.size<=w'.heap.size
 os:w'.os=w.os
 out:w'.output=w.output
 says:xi w.heap.size w' (gK s fl) v
def OZ{P}{D:dZ P}{K}{b:TK}{k q a w}{l:List Oper}{Q1}(s n m)(r:D.okF b.fn)(u:b.kind≠.early)(C:s+n<=l.length)
 (h:∀p,p.heap=w.heap->p.os=w.os->p.output=w.output->wpList P l.toArray Q1 ((l.drop s).take n) a p) (z:∀e a w,Q1 e a w->e=TN)
 (x:∀c f,Q1 TN c f->D.H K (bO (b.at c (SM l.toArray (SE (s+n) m)::k)) q) f):D.H K (bO (b.at a (SM l.toArray (SE s (n+m))::k)) q) w:=by
 have e:SE s (n+m)=SE s n++SE (s+n) m:=by rw[<- Uh]
 rw[e];have g:((l.drop s).take n).length=n:=by rw[Tx,Te];omega
 refine D.go λv d=> ?_
 have t:=h (ah w v d) rfl rfl rfl;rw[<- qF ((l.drop s).take n) s (λj B=>by
  grind),g]at t
 rcases DK (SE (s+n) m) _ a _ t b k q u with⟨c,f,i,y⟩|⟨A,c,f,i,_⟩|⟨c,f,i⟩
 exact dD y ⟨⟨rfl,r⟩,x _ _ i⟩;exact absurd (z _ _ _ i) (by simp);grind
section
attribute [local instance] fI
def F1{p0 p1 p4 p5 p6 p7 p8 iP u}
 (hP:(Tryz.f53).body=some (Su p0 (Su p1 (Su (Ta iP u false) (Su p4 (Su p5 (Su p6 (Su p7 p8))))))))
 {h0 K w j s I c cs} (hs:s.size<=120) (S:I<256) (h0s:Under h0 w) (hG:fx w) (hO:an w)
 (Q:j.heap=((w.heap.push (Sx #[SI] 62)).push (Sx #[AS Sw 0] 3)).push (Sx #[SI] 81)) (h3:j.os=w.os) (h4:j.output=w.output)
 (hr:∀v W,Parsed w s I v W->an W->∀m t,pH h0 Tryz.prog (bO (c.finish v) cs) W m t->IW h0 Tryz.prog K m t):
 (br ek h0).H K (bO (gw.at (pj w.heap.size (w.heap.size+1) (w.heap.size+2) s I) (SM u [2,3,4,5,6]::[Tg (Su p4 (Su p5 (Su p6 (Su p7 p8))))])) (c::cs)) j:=by
 have⟨t0,t1,t2,Z,t5,iT,p,hT⟩:∃t0 t1 t2 Z t5 iT p,(Tryz.f74).body=some (Su t0 (Su t1 (Su t2 (Su (Ta iT p false) (Su Z t5))))):=⟨_,_,_,_,_,_,_,rfl⟩;have⟨q0,q1,q2,q3,cQ,i,iQ,y,hQ⟩:∃q0 q1 q2 q3 cQ i iQ y,(Tryz.f75).body=some (Su (Su q0 (Su q1 q2)) (Su q3 (SX i (TZ (Su (Ta iQ y false) cQ))))):=⟨_,_,_,_,_,_,_,_,rfl⟩;intro hI m t hF;have L:j.heap.size=w.heap.size+3:=by rw[Q];simp
 have g:∀b,b<w.heap.size->j.heap[b]?=w.heap[b]?:=λb l=>by
  rw[Q,Tk (by simp;omega),SP (by simp;omega),SP l,Tq l]
 have b1:j.heap[w.heap.size]?=some (Sx #[SI] 62):=by
  rw[Q,Tk (by simp;omega),SP (by simp),Array.getElem_push_eq]
 have b2:j.heap[w.heap.size+1]?=some (Sx #[AS Sw 0] 3):=by
  rw[Q];simp only[TU,U8];simp
 have b3:j.heap[w.heap.size+2]?=some (Sx #[SI] 81):=by
  rw[Q];simp only[TU,U8];simp
 have⟨h1,a,G,ho,hD⟩:=hF.real;have N:∀(b:Nat) c t z,j.heap[b]?=some (Sx c t z)->a.heap[b]?=some (Sx c t z):=λb c t z l=>by
  rcases G.blk b with e|⟨e,_⟩
  rw[<- e];exact l;rw[l]at e;cases e
 have T:fx a:=(hG.keep g).pat G;have D:Tryz.prog.globals.size<w.heap.size:=by
  have⟨o,g1,_⟩:=hG.glob _ (SF _);exact(SZ.1 g1).1
 have hsz':a.heap.size=w.heap.size+3:=G.size.trans L;have⟨ts,wr,h,_,x,r,hx,hrT,hal⟩:=Gb (decide (I/2%2=1)) (decide (I%2=1)) s.data.toList (by rw[<- SR];exact hs) qJ;have X:∀s',x= .err .tok s'->s'.t.bad=true:=λs' e=>by
  subst e;exact JJ (Jq _ _ (TD _) h) hx
 have F:gK s I=some r:=by unfold gK;rw[if_neg (by omega)];exact hrT
 have f:zF a w.heap.size (w.heap.size+1) (w.heap.size+2):=⟨N _ _ _ _ b1,N _ _ _ _ b2,N _ _ _ _ b3,D,by omega,by omega,by omega,by omega,by omega,T.glob⟩;have⟨tC,tM,mm,B⟩:=T.sc;refine Ge (R:=λm' t'=>∃g' w',K g' w'/\Iv g' w'/\pH h0 Tryz.prog g' w' m' t') hP (NP ..) S hT (λgs sl q Y d t2 k k0 C ht=> ?_) m t hD;refine Runs.bind (Hw hT hP hQ (w:=ah a Y d) (by omega) S ⟨f.n,f.g,f.e,f.ln,f.lg,f.le,f.n_g,f.n_e,f.g_e,f.glob⟩ ⟨B.cls,B.ren,B.max⟩ h hx (gs:=gs) (sl:=sl) (q:=q) (t:=t2) k0 C ht) λm3 t3 A=> ?_
 refine Il hQ (n0:=w.heap.size) (w:=ah a Y d) (by rw[io];exact SF _) ⟨SF _,by omega,by omega,by show w.heap.size<=a.heap.size;omega⟩ ⟨by show w.heap.size<a.heap.size;omega,by show w.heap.size+1<a.heap.size;omega,by show w.heap.size+2<a.heap.size;omega⟩ D h
  (λw3 v P E n hos M=> ?_) A
 intro m4 Z hF4;refine hr v (cU w w3) ⟨λb l=>iX l n,by rw[mF];exact n,?_,?_,?_⟩ (CS hO (Uj D) n) m4 Z (Ke (we:=w) G ho h0s (by omega) g E n hF4)<;>first |(show w3.os=w.os;rw[hos,<- h3];exact G.os)|(show w3.output=w.output;rw[M,<- h4];exact G.output)|(rw[F];exact(LU P hal X).keep λb t c l N=>xL l N)
end
end
section
open Go.RowKit Go.Conc
attribute [local instance] fI
def Kb(n:Nat)(s:ByteArray)(a:Nat):Act:= {tmps:=#[Sy s,AS SW a,undef,undef,vp n,vp (n+1),vp (n+2),undef,undef,undef,undef,undef,undef,undef,undef,undef,undef,undef,undef,undef,undef,undef,undef,undef,undef,undef,undef,undef,undef],defers:=[]}
def NQ(n:Nat)(s:ByteArray)(a:Nat):Act:= {tmps:=#[Sy s,AS SW a,undef,undef,vp n,vp (n+1),vp (n+2),undef,Sy s,AS Sw s.size,SG false,undef,undef,undef,undef,undef,undef,undef,undef,undef,undef,undef,undef,undef,undef,undef,undef,undef,undef],defers:=[]}
structure Three(w w':SD):Prop where
 heap:w'.heap=((w.heap.push (Sx #[SI] 62)).push (Sx #[AS Sw 0] 3)).push (Sx #[SI] 81)
 os:w'.os=w.os
 out:w'.output=w.output
structure MW(w:SD)(a:Act)(w':SD):Prop where
 defers:a.defers=[]
 s4:a.tmps.getD 4 undef=vp w.heap.size
 s5:a.tmps.getD 5 undef=vp (w.heap.size+1)
 s6:a.tmps.getD 6 undef=vp (w.heap.size+2)
 n:w'.cell? ⟨w.heap.size,0,none⟩=some SI
 g:w'.cell? ⟨w.heap.size+1,0,none⟩=some (AS Sw 0)
 e:w'.cell? ⟨w.heap.size+2,0,none⟩=some (Ud 120 (vp (w.heap.size+3)))
 b:a7 w' (w.heap.size+3) 124 #[AS Sw 0,AS Sw 1]
 old:∀b,b<w.heap.size->w'.heap[b]?=w.heap[b]?
 size:w.heap.size<=w'.heap.size
 os:w'.os=w.os
 out:w'.output=w.output
def JI{D:dZ PH}{k q l}(p:(Tryz.f53).body=some (Su k (Su q l)))(w s i):
 cL D k (λe a m=>e=TN/\a=Kb w.heap.size s i/\Three w m) {tmps:=#[Sy s,AS SW i]++TF (29-2) undef,defers:=[]} w:=by
 cases p;refine qG λc d=> ?_
 have h:(ah w c d).heap=w.heap:=rfl;have g:(ah w c d).os=w.os:=rfl;have j:(ah w c d).output=w.output:=rfl;generalize ah w c d=u at h g j ⊢;have f:∀b,b.heap=((u.heap.push (Sx #[SI] 62)).push (Sx #[AS Sw 0] 3)).push (Sx #[SI] 81)->b.os=u.os->b.output=u.output->Three w b:=λb t r n=>⟨by rw[<- h];omega,r.trans g,n.trans j⟩
 replace f:=AI f;simp[SQ];go_wp2;exact⟨rfl,f.out _ rfl rfl rfl⟩
def Three.PJ{w u}(h:Three w u):a7 u w.heap.size 62 #[SI]/\a7 u (w.heap.size+1) 3 #[AS Sw 0]/\a7 u (w.heap.size+2) 81 #[SI]/\u.heap.size=w.heap.size+3:=by
 refine⟨?_,?_,?_,by simp[h.heap]⟩<;>first |(show u.heap[w.heap.size]?=_;rw[h.heap,Tk (by grind),SP (by simp),Array.getElem_push_eq])|(show u.heap[w.heap.size+1]?=_;rw[h.heap];grind)|(show u.heap[w.heap.size+2]?=_;rw[h.heap];grind)
def Three.old{w u}(h:Three w u):∀b,b<w.heap.size->u.heap[b]?=w.heap[b]?:=λb a=>by
 rw[h.heap,Tk (by grind),SP (by grind),SP a,Tq a]
def JH{D:dZ PH}{z y B}(E:(Tryz.f53).body=some (Su z (Su y B))){w p}(r:Three w p)(s x):
 cL D y (λe a v=>e=TN/\s.size<=120/\a=NQ w.heap.size s x/\Three w v\/e=U1/\120<s.size/\MW w a v) (Kb w.heap.size s x) p:=by
 cases E;unfold Kb;refine qG λt d=> ?_
 have h:Three w (ah p t d):=⟨r.heap,r.os,r.out⟩;generalize ah p t d=u at h ⊢;have⟨j,k,l,q⟩:=h.PJ;have c:=h.old;have g:=h.os;have f:=h.out;have G:=j.cell 0;have H:=k.cell 0;have F:=l.cell 0;have I:=j.frozen;have K:=k.frozen;have L:=l.frozen;have m:=AI (⟨j,k,l,q,c,g,f,h⟩:a7 u w.heap.size 62 #[SI]/\a7 u (w.heap.size+1) 3 #[AS Sw 0]/\a7 u (w.heap.size+2) 81 #[SI]/\u.heap.size=w.heap.size+3/\(∀b,b<w.heap.size->u.heap[b]?=w.heap[b]?)/\u.os=w.os/\u.output=w.output/\Three w u);clear j k l c g f h;by_cases i:120<s.size
 .have n:(120:Int)<s.size:=by omega
  have A:decide ((120:Int)<s.size)=true:=by simpa using n
  replace i:=AI i;clear n;go_wp2;have⟨j,k,l,q,c,g,f,_⟩:=m.out;refine⟨i.out,rfl,rfl,rfl,rfl,a7.cell ((((j.bI 0 _).far (by dsimp only;omega) _).far (by dsimp only;omega) _).alloc _) 0,a7.cell ((((k.far (by dsimp only;omega) _).bI 0 _).far (by dsimp only;omega) _).alloc _) 0,a7.cell ((((l.far (by dsimp only;omega) _).far (by dsimp only;omega) _).bI 0 _).alloc _) 0,?_,λb C=> ?_,?_,g,f⟩;have:=a7.new (((u.setCell ⟨w.heap.size,0,none⟩ SI).setCell ⟨w.heap.size+1,0,none⟩ (AS Sw 0)).setCell ⟨w.heap.size+2,0,none⟩ (Ud 120 (vp (w.heap.size+3)))) 124 #[AS Sw 0,AS Sw 1];rw[Tb,Tb,Tb,q]at this;exact this;rw[Below.heap_alloc _ _ b (by simp;omega),Below.heap_setCell _ _ _ b (by dsimp only;omega),Below.heap_setCell _ _ _ b (by dsimp only;omega),Below.heap_setCell _ _ _ b (by dsimp only;omega)];exact c b C;simp;omega
 .have A:decide ((120:Int)<s.size)=false:=by simp;omega
  replace i:=AI i;go_wp2;have i:=i.out;exact⟨by omega,rfl,m.out.2.2.2.2.2.2.2⟩
def F4{h0 f i rest o Q a w s}{fl:Nat}(z:f[i]?=some o)(hw:Region.wanted o (yielded f a.tmps)=true)
 (hx:∀u,(Tm a.eval o).run PH u= .ok (.enter 53 #[Sy s,AS SW fl]) u) (S:fl<256) (h0s:Under h0 w) (hG:fx w)
 (hr:∀v G,Parsed w s fl v G->aV (br ek h0) f Q rest (a.put o.dst v) G):aV (br ek h0) f Q (i::rest) a w:=λb k y K q hk E=>by
 intro r;have⟨p0,p1,T,g,p4,H,Z,X,p8,F⟩:∃p0 p1 T,∃g:List Oper,∃p4 H Z X p8,(Tryz.f53).body=some (Su p0 (Su p1 (Su (Ta T g.toArray false) (Su p4 (Su H (Su Z (Su X p8))))))):=⟨_,_,_,_,_,_,_,_,_,rfl⟩;have c:(br ek h0).okF 53:=bP (by decide);have L:PH.funcs[53]?=some Tryz.f53:=PH.func Tryz.func53 (by decide);have A:TE PH 53 #[Sy s,AS SW fl] .normal=gw.at {tmps:=#[Sy s,AS SW fl]++TF (29-2) undef,defers:=[]} [Tg (Su p0 (Su p1 (Su (Ta T g.toArray false) (Su p4 (Su H (Su Z (Su X p8)))))))]:=by
  simp_all[TE,Frame.at,gw,Tryz.ntmps53]
 have C:∀v,(b.at a (SM f (i::rest)::k)).finish v=b.at (a.put o.dst v) (SM f rest::k):=λv=>by
  rw[Us,z];rfl
 have n:JG (bO (b.at a (SM f (i::rest)::k)) y):=by
  rcases r.2 with⟨⟨d,x,_⟩,_⟩|⟨h,_⟩
  cases x;omega
 refine(br ek h0).one (fr':=TE PH 53 #[Sy s,AS SW fl] .normal) (cs':=b.at a (SM f (i::rest)::k)::y) (λu=>step_lone_go (by rw[λu:SD=>stepG_op (P:=PH) (b:=b) (k:=k) (cs:=y) (w:=u) (rest:=rest) z hw];simp_all[stepG.apply,Frame.at])) c ?_ r;rw[A];refine(br ek h0).one (λu=>step_seq) c ?_;refine s9 (JI F w s fl) c (by simp[gw]) λa1 w1 ⟨e1,h3⟩=> ?_
 subst e1;refine(br ek h0).one (λu=>step_seq) c ?_;refine JH (D:=br ek h0) F h3 s fl gw _ _ K c (by simp[gw]) λe a2 w2 hq=> ?_
 rcases hq with⟨rfl,N,rfl,h4⟩|⟨rfl,N,l⟩
 refine(br ek h0).one (λu=>step_seq) c ((br ek h0).one (λu=>step_region) c ?_);have B:g.length=7:=by cases F;rfl
 have e7:List.range g.toArray.size=SE 0 (2+5):=by rw[T7,B,List.range_eq_range']
 rw[e7];refine OZ (Q1:=λe a' G=>e=TN/\a'=pj w.heap.size (w.heap.size+1) (w.heap.size+2) s fl/\Three w G) 0 2 5 c (by simp[gw]) (by omega) (λu k1 k2 k3=> ?_) (λe a w h=>h.1) λa3 w3 ⟨_,e3,I⟩=> ?_
 have R:Three w u:=⟨k1.trans h4.heap,k2.trans h4.os,k3.trans h4.out⟩;replace R:=AI R;cases F;unfold NQ;simp only[zq1];go_wp2;exact⟨rfl,R.out⟩;subst e3;exact F1 F (w:=w) N S h0s hG r.1 I.heap I.os I.out λv W hW hOW m t hF=>by
  rw[C]at hF;have M:(a.put o.dst v).defers=a.defers:=by unfold T6;split <;>rfl
  refine hr v W hW b k y K q hk E ⟨hOW,.inr ⟨⟨⟨λit p=> ?_,λd x=>n.1.2 d (by have x:d∈(a.put o.dst v).defers:=x;rw[M]at x;exact x)⟩,n.2.1,nofun,nofun⟩,nofun⟩⟩ m t hF;rcases TX.1 p with rfl|p<;>first |exactλj hj o z=>n.1.1 (SM f (i::rest)) (Tl ..) j (TQ _ hj) o z|exact n.1.1 it (TQ _ p)
 intro todo;refine Hs (v:=Tj #[SI,AS Sw 0,Ud 120 (vp (w.heap.size+3))]) (o:=o) ⟨rfl,l.defers,rfl,_,L,rO (t:=62) (u:=3) (v:=81) (by rfl) l.s4 l.s5 l.s6 (kr λu=>by simp[go_sem] l.n) (kr λu=>by simp[go_sem] l.g) (kr λu=>by simp[go_sem] l.e)⟩ z q (hr _ _ ⟨l.old,l.size,l.os,l.out,?_⟩ b k y K q hk E);unfold gK;rw[if_pos N];exact⟨_,rfl,by omega,l.b⟩
end
section
open Go.RowKit Go.Conc
structure jw(w' w:SD):Prop where
 heap:w'.heap=w.heap
 os:w'.os=w.os
 out:w'.output=w.output
structure Old(w w':SD):Prop where
 old:∀b,b<w.heap.size->w'.heap[b]?=w.heap[b]?
 size:w.heap.size<=w'.heap.size
 os:w'.os=w.os
 out:w'.output=w.output
def Old.refl(w):Old w w:=⟨λ_ _=>rfl,SF _,rfl,rfl⟩
def Old.trans{a b c}(h:Old a b)(k:Old b c):Old a c:=⟨λi d=>(k.old i (TV d h.size)).trans (h.old i d),Tt h.size k.size,k.os.trans h.os,k.out.trans h.out⟩
def Old.eqv{a b c}(h:Old a b)(k:jw c b):Old a c:=⟨λi d=>by rw[k.heap];exact h.old i d,by rw[k.heap];exact h.size,k.os.trans h.os,k.out.trans h.out⟩
def jw.old{a b}(k:jw b a):Old a b:=(Old.refl a).eqv k
def Old.alloc{a b}(h:Old a b)(o):Old a (b.alloc o):=⟨λi c=>(Below.heap_alloc _ _ i (TV c h.size)).trans (h.old i c),by have:=h.size;simp;omega,h.os,h.out⟩
def Old.setCell{a b}(h:Old a b){p}(d:a.heap.size<=p.block)(v):Old a (b.setCell p v):=⟨λi c=>(Below.heap_setCell _ _ _ i (by omega)).trans (h.old i c),by rw[Tb];exact h.size,h.os,h.out⟩
def Below.ea{w a}(h:Below w.heap.size w a):Old w a:=⟨λb c=>h.block b c,h.size,h.os,h.output⟩
def Parsed.ea{w a s fl v}(h:Parsed w s fl v a):Old w a:=⟨h.old,h.size,h.os,h.out⟩
def fx.ea{w a}(h:fx w)(k:Old w a):fx a:=h.keep k.old
section
variable{P:Ts}{D:dZ P}{c:Code}{Q:Exit->Act->SD->Prop}{a:Act}{w:SD}
def bm(h:∀b,jw b w->c.wp P Q a b):cL D c Q a w:=qG λe d=>h _ ⟨rfl,rfl,rfl⟩
def bq{l:List Oper}(s n m)(h:∀N,RowKit.Hid (∀b f,aV D l.toArray Q (SE (s+n) m) b f->N b f)->∀i,jw i w->wpList P l.toArray (Exit.then N Q) ((l.drop s).take n) a i)(q:s+n<=l.length):
 aV D l.toArray Q (SE s (n+m)) a w:=by
 have e:SE s (n+m)=SE s n++SE (s+n) m:=by rw[<- Uh]
 rw[e];have g:((l.drop s).take n).length=n:=by rw[Tx,Te];omega
 refine r7 (Q1:=Exit.then (λb f=>aV D l.toArray Q (SE (s+n) m) b f) Q) (λk d=> ?_) (λb f h=>h) (λp b f h=>h) λb f h=>h
 have:=h (λb f=>aV D l.toArray Q (SE (s+n) m) b f) (AI λ_ _ h=>h) (ah w k d) ⟨rfl,rfl,rfl⟩;rw[<- qF ((l.drop s).take n) s (λj r=>by
  grind),g]at this
 omega
end
attribute [local instance] fI
def Under.ea{h0 w a}(h:Under h0 w)(k:Old w a):Under h0 a:=h.keep k.old k.size
def FV:= {t:Array SH//t=#[AS .u32 0,AS .i32 0,AS .u32 0,AS Sz 0,AS Sz 0,AS Sz 0,AS Sz 0,SG false]}
def KV(d:Nat)(c:SD)(g:Nat)(r:Option (g8 Nd))(v:SH):Prop:=match r with|some (.ok i f)=>∃x e,∃h:FV,v=Tj #[vp x,SI]/\d<=x/\c.heap[x]?=some (Sx (#[e,AS Sw f.g,AS SW g]++h.1) 79 (0,0))/\Repr c (λb=>d<=b/\b≠x) e i|some (.err k a)=>∃b,v=Tj #[Sv none,Ud 120 (vp b)]/\d<=b/\a7 c b 124 #[AS Sw a,AS Sw k]|none=>False
def Ir{h0 w s}{j:Nat}(H:j<256)(t:Under h0 w)(M:fx w):
 cb (br ek h0) 35 #[Sy s,AS SW j] w λe D=>∃v,e=SK v/\Old w D/\KV w.heap.size D j (gK s j) v:=by
 refine bu (bP (by decide)) (λD ⟨v,h,_⟩=>nomatch h) (PH.func Tryz.func35 (by decide)) rfl ?_;simp only[Tryz.ntmps35,T7,Tc,T9,Tp,Tn,SQ,SV,Td,T8,Ti,Tf];refine ac λK x=> ?_
 refine bm λZ e1=> ?_
 have C:=AI e1.old;go_wp2;refine x.out _ _ ?_;have X:=AI (M.ea C.out);have R:Under h0 Z:=t.ea C.out;refine ac λK x=> ?_
 refine ao ?_;show aV _ _ _ (SE 0 (2+8)) ..;refine bq 0 2 8 (λN n S P=> ?_) (by decide);simp only[zq1];have y:=AI (C.out.eqv P);go_wp2;refine n.out _ _ ?_;have F:=AI (M.ea y.out);have B:Under h0 S:=t.ea y.out;refine F4 (s:=s) (fl:=j) (i:=2) (rest:=SE 3 (7+0)) rfl rfl λu=>by simp[go_sem] H B F.out λv w3 L=> ?_
 have I:=AI (y.out.trans L.ea);have c:=y.out.size;have q:=L.says;cases z:gK s j with
 |none=>rw[z]at q;exact q.elim
 |some r=>
 rw[z]at q;cases r with
 |ok nd O=>
  obtain⟨nv,rfl,a⟩:=q;obtain⟨vt,Q,rfl⟩:=a.form;replace a:=AI a;replace c:=AI c;simp only[T6,zq0];refine bq 3 7 0 (λN n W g=> ?_) (by decide);simp only[zq1];have G:=AI (I.out.eqv g);replace g:=AI g;go_wp2;refine n.out _ _ (az (x.out _ _ ?_));refine bm λm d=> ?_
  have A:=AI (G.out.eqv d);replace d:=AI d;go_wp2;go_ret2
  have p:m.heap=w3.heap:=d.out.heap.trans g.out.heap;have hz:=congrArg Ty p;refine⟨_,rfl,A.out.alloc _,?_⟩;rw[z];refine⟨m.heap.size,Ud vt (Sv (some ⟨Q,0,none⟩)),⟨#[AS .u32 0,AS .i32 0,AS .u32 0,AS Sz 0,AS Sz 0,AS Sz 0,AS Sz 0,SG false],rfl⟩,rfl,A.out.size,a7.new m 79 _,?_⟩;refine(a.out.mono (S':=λb=>w.heap.size<=b/\b≠m.heap.size) λb l E=>⟨Tt c.out l,by omega⟩).keep λb l E=> ?_
  rw[Below.heap_alloc _ _ b (by omega),p]
 |err k T=>
  obtain⟨b,rfl,l,f⟩:=q;replace f:=AI f;replace l:=AI l;replace c:=AI c;simp only[T6,zq0];refine bq 3 7 0 (λN n W g=> ?_) (by decide);simp only[zq1];have G:=AI (I.out.eqv g);replace f:=AI (f.out.af g.heap);go_wp2;refine n.out _ _ (az (x.out _ _ ?_));refine bm λm d=> ?_
  have A:=AI (G.out.eqv d);replace f:=AI (f.out.af d.heap);go_wp2;go_ret2
  refine⟨_,rfl,A.out,?_⟩;rw[z];exact⟨b,rfl,Tt c.out l.out,f.out⟩
end
end Go.Proofs.YtkgohmcmmcpigabGreatDoor
