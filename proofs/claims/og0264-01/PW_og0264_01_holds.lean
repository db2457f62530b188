import PyProof.Rows.All
import PyProof.NeKinds
import PyProof.ExcBaseAll.Exception
import PyProof.ExcAttrAll.Exception
import PyProof.InstStoreFacts
import PyProof.NsDelKeeps
import PyProof.Rows.CatchOwn
import PyProof.SliceMore
import KE.BytesMake
import KE.KBytesWalk
import KE.KIsBytes
import KE.KRevSl
import KE.KSuper
import Wide.FinOn
import OpenK.AllK
import Wide.All
import Lean
import PySem.Challenge.RW_og0264_01
set_option Elab.async false
set_option linter.all false
set_option genInjectivity false
set_option genSizeOf false
set_option bootstrap.genMatcherCode false
set_option maxRecDepth 100000
set_option maxHeartbeats 8000000
namespace Mine.Internal
open PySem PySem.W PyProof.Rows PySem.Calls
theorem S9{α}{a:α}{b c:List α}:a::b++c=a::(b++c):=rfl
theorem S_{α}{b:List α}:[]++b=b:=rfl
def SZ:=@List.mem_cons_self
def Ta:=@Nat.le_of_ble_eq_true
def Tb:=@of_decide_eq_true
def Tc:=@if_neg
def Td:=@List.mem_cons_of_mem
def Te:=@wpAny_bind
def Tf:=@List.length_append
def Tg:=@Classical.byContradiction
def Th:=@List.getElem?_eq_getElem
def Ti:=@List.mem_singleton
def Tj:=@Nat.le_refl
def Tk:=@if_pos
def Tl:=@Or.inl
def Tm:=@wpAny_pure
def Tn:=@Nat.zero_le
def To:=@List.mem_append_right
def Tp:=@Heap.get?_push_of_some
def Tq:=@builtinLookup_eq_fast
def Ts:=@Nat.lt_succ_self
def Tt:=@Decidable.byContradiction
def Tu:=@List.length_cons
def Tv:=@List.suffix_refl
def Tw:=@List.append_assoc
def Tx:=@List.length_map
def Tz:=@BindsTo.of_eq
def T1:=@List.Perm.refl
def T2:=@List.nil_sublist
def T3:=@List.mem_append
def T4:=@List.mem_cons
def T5:=@typeLookup_type
def T6:=@Heap.get?_update_other
def T7:=@List.append_nil
def T8:=@List.suffix_cons
def T9:=@Heap.get?_none_of_le
def T_:=@And.intro
def TA:=@List.nodup_cons
def TC:=@List.length_nil
def TD:=@Nat.lt_succ_of_le
def TE:=@List.map_append
def TH:=@List.nodup_append
def TI:=@List.getD_eq_getElem?_getD
def TJ:=@Array.getElem?_toList
def TK:=@List.size_toArray
def TM:=@List.map_cons
def TN:=@List.mem_append_left
def TO:=@Nat.le_trans
def TP:=@List.mem_map_of_mem
def TQ:=@Int.ofNat_le
def TR:=@Array.length_toList
def TS:=@List.cons_ne_nil
def TW:=@List.all_eq_true
theorem kZ {A B C D E F G H I:Prop}{Z:Prop}(h:A/\B/\C/\D/\E/\F/\G/\H/\I)(k:A->B->C->D->E->F->G->H->I->Z):Z:=k h.1 h.2.1 h.2.2.1 h.2.2.2.1 h.2.2.2.2.1 h.2.2.2.2.2.1 h.2.2.2.2.2.2.1 h.2.2.2.2.2.2.2.1 h.2.2.2.2.2.2.2.2
theorem rT {A B C D E F G H:Prop}{Z:Prop}(h:A/\B/\C/\D/\E/\F/\G/\H)(k:A->B->C->D->E->F->G->H->Z):Z:=k h.1 h.2.1 h.2.2.1 h.2.2.2.1 h.2.2.2.2.1 h.2.2.2.2.2.1 h.2.2.2.2.2.2.1 h.2.2.2.2.2.2.2
theorem jd {A B C D E F G:Prop}{Z:Prop}(h:A/\B/\C/\D/\E/\F/\G)(k:A->B->C->D->E->F->G->Z):Z:=k h.1 h.2.1 h.2.2.1 h.2.2.2.1 h.2.2.2.2.1 h.2.2.2.2.2.1 h.2.2.2.2.2.2
theorem eF {A B C D E F:Prop}{Z:Prop}(h:A/\B/\C/\D/\E/\F)(k:A->B->C->D->E->F->Z):Z:=k h.1 h.2.1 h.2.2.1 h.2.2.2.1 h.2.2.2.2.1 h.2.2.2.2.2
theorem eV {A B C D E:Prop}{Z:Prop}(h:A/\B/\C/\D/\E)(k:A->B->C->D->E->Z):Z:=k h.1 h.2.1 h.2.2.1 h.2.2.2.1 h.2.2.2.2
theorem cU {A B C D:Prop}{Z:Prop}(h:A/\B/\C/\D)(k:A->B->C->D->Z):Z:=k h.1 h.2.1 h.2.2.1 h.2.2.2
theorem yJ {a:Sort _}{A B:Prop}{C D:a->Prop}{Z:Prop}(h:A/\B/\∃x,C x/\D x)(k:A->B->∀x,C x->D x->Z):Z:=h.2.2.elim fun x h0=>k h.1 h.2.1 x h0.1 h0.2
theorem bp {A B C:Prop}{Z:Prop}(h:A/\B/\C)(k:A->B->C->Z):Z:=k h.1 h.2.1 h.2.2
theorem kO {a:Sort _}{A:Prop}{B C D:a->Prop}{Z:Prop}(h:A/\∃x,B x/\C x/\D x)(k:A->∀x,B x->C x->D x->Z):Z:=h.2.elim fun x h0=>k h.1 x h0.1 h0.2.1 h0.2.2
theorem hV {a:Sort _}{A:Prop}{B C:a->Prop}{Z:Prop}(h:A/\∃x,B x/\C x)(k:A->∀x,B x->C x->Z):Z:=h.2.elim fun x h0=>k h.1 x h0.1 h0.2
theorem a0 {A B:Prop}{Z:Prop}(h:A/\B)(k:A->B->Z):Z:=k h.1 h.2
theorem tI {a:Sort _}{b:Sort _}{A B C:a->Prop}{D E:a->b->Prop}{Z:Prop}(h:∃x,A x/\B x/\C x/\∃y,D x y/\E x y)(k:∀x,A x->B x->C x->∀y,D x y->E x y->Z):Z:=h.elim fun x h0=>h0.2.2.2.elim fun y h1=>k x h0.1 h0.2.1 h0.2.2.1 y h1.1 h1.2
theorem fG {a:Sort _}{A B C D:a->Prop}{Z:Prop}(h:∃x,A x/\B x/\C x/\D x)(k:∀x,A x->B x->C x->D x->Z):Z:=h.elim fun x h=>k x h.1 h.2.1 h.2.2.1 h.2.2.2
theorem gT {a:Sort _}{b:Sort _}{c:Sort _}{A B:a->Prop}{C:a->b->c->Prop}{Z:Prop}(h:∃x,A x/\B x/\∃y z,C x y z)(k:∀x,A x->B x->∀y z,C x y z->Z):Z:=h.elim fun x h0=>h0.2.2.elim fun y h1=>h1.elim fun z h2=>k x h0.1 h0.2.1 y z h2
theorem cB {a:Sort _}{A B C:a->Prop}{Z:Prop}(h:∃x,A x/\B x/\C x)(k:∀x,A x->B x->C x->Z):Z:=h.elim fun x h=>k x h.1 h.2.1 h.2.2
theorem aw {a:Sort _}{A B:a->Prop}{Z:Prop}(h:∃x,A x/\B x)(k:∀x,A x->B x->Z):Z:=h.elim fun x h=>k x h.1 h.2
theorem eC {a:Sort _}{b:Sort _}{A B C D E F:a->b->Prop}{Z:Prop}(h:∃x y,A x y/\B x y/\C x y/\D x y/\E x y/\F x y)(k:∀x y,A x y->B x y->C x y->D x y->E x y->F x y->Z):Z:=h.elim fun x h=>h.elim fun y h=>k x y h.1 h.2.1 h.2.2.1 h.2.2.2.1 h.2.2.2.2.1 h.2.2.2.2.2
theorem fw {a:Sort _}{b:Sort _}{A B C D E:a->b->Prop}{Z:Prop}(h:∃x y,A x y/\B x y/\C x y/\D x y/\E x y)(k:∀x y,A x y->B x y->C x y->D x y->E x y->Z):Z:=h.elim fun x h=>h.elim fun y h=>k x y h.1 h.2.1 h.2.2.1 h.2.2.2.1 h.2.2.2.2
theorem dl {a:Sort _}{b:Sort _}{A B C D:a->b->Prop}{Z:Prop}(h:∃x y,A x y/\B x y/\C x y/\D x y)(k:∀x y,A x y->B x y->C x y->D x y->Z):Z:=h.elim fun x h=>h.elim fun y h=>k x y h.1 h.2.1 h.2.2.1 h.2.2.2
theorem cX {a:Sort _}{b:Sort _}{A B C:a->b->Prop}{Z:Prop}(h:∃x y,A x y/\B x y/\C x y)(k:∀x y,A x y->B x y->C x y->Z):Z:=h.elim fun x h=>h.elim fun y h=>k x y h.1 h.2.1 h.2.2
theorem eU {a:Sort _}{b:Sort _}{A B:a->b->Prop}{Z:Prop}(h:∃x y,A x y/\B x y)(k:∀x y,A x y->B x y->Z):Z:=h.elim fun x h=>h.elim fun y h=>k x y h.1 h.2
theorem jc {a:Sort _}{b:Sort _}{c:Sort _}{A B C D:a->b->c->Prop}{Z:Prop}(h:∃x y z,A x y z/\B x y z/\C x y z/\D x y z)(k:∀x y z,A x y z->B x y z->C x y z->D x y z->Z):Z:=h.elim fun x h=>h.elim fun y h=>h.elim fun z h=>k x y z h.1 h.2.1 h.2.2.1 h.2.2.2
theorem jP {a:Sort _}{b:Sort _}{c:Sort _}{A B C:a->b->c->Prop}{Z:Prop}(h:∃x y z,A x y z/\B x y z/\C x y z)(k:∀x y z,A x y z->B x y z->C x y z->Z):Z:=h.elim fun x h=>h.elim fun y h=>h.elim fun z h=>k x y z h.1 h.2.1 h.2.2
theorem tH {a:Sort _}{b:Sort _}{c:Sort _}{d:Sort _}{e:Sort _}{A:a->b->c->Prop}{B:a->b->c->d->e->Prop}{Z:Prop}(h:∃x y z,A x y z/\∃u v,B x y z u v)(k:∀x y z,A x y z->∀u v,B x y z u v->Z):Z:=h.elim fun x h0=>h0.elim fun y h1=>h1.elim fun z h2=>h2.2.elim fun u h3=>h3.elim fun v h4=>k x y z h2.1 u v h4
theorem eu {a:Sort _}{b:Sort _}{c:Sort _}{A B:a->b->c->Prop}{Z:Prop}(h:∃x y z,A x y z/\B x y z)(k:∀x y z,A x y z->B x y z->Z):Z:=h.elim fun x h=>h.elim fun y h=>h.elim fun z h=>k x y z h.1 h.2
theorem eT {a:Sort _}{b:Sort _}{c:Sort _}{d:Sort _}{A B C D E F:a->b->c->d->Prop}{Z:Prop}(h:∃x y z u,A x y z u/\B x y z u/\C x y z u/\D x y z u/\E x y z u/\F x y z u)(k:∀x y z u,A x y z u->B x y z u->C x y z u->D x y z u->E x y z u->F x y z u->Z):Z:=h.elim fun x h=>h.elim fun y h=>h.elim fun z h=>h.elim fun u h=>k x y z u h.1 h.2.1 h.2.2.1 h.2.2.2.1 h.2.2.2.2.1 h.2.2.2.2.2
theorem dZ {a:Sort _}{b:Sort _}{c:Sort _}{d:Sort _}{A B C D:a->b->c->d->Prop}{Z:Prop}(h:∃x y z u,A x y z u/\B x y z u/\C x y z u/\D x y z u)(k:∀x y z u,A x y z u->B x y z u->C x y z u->D x y z u->Z):Z:=h.elim fun x h=>h.elim fun y h=>h.elim fun z h=>h.elim fun u h=>k x y z u h.1 h.2.1 h.2.2.1 h.2.2.2
theorem eB {a:Sort _}{b:Sort _}{c:Sort _}{d:Sort _}{e:Sort _}{f:Sort _}{g:Sort _}{h:Sort _}{i:Sort _}{j:Sort _}{k:Sort _}{A B:a->b->c->d->e->f->g->h->i->j->k->Prop}{Z:Prop}(h:∃x y z u v w r s t p q,A x y z u v w r s t p q/\B x y z u v w r s t p q)(k:∀x y z u v w r s t p q,A x y z u v w r s t p q->B x y z u v w r s t p q->Z):Z:=h.elim fun x h=>h.elim fun y h=>h.elim fun z h=>h.elim fun u h=>h.elim fun v h=>h.elim fun w h=>h.elim fun r h=>h.elim fun s h=>h.elim fun t h=>h.elim fun p h=>h.elim fun q h=>k x y z u v w r s t p q h.1 h.2
theorem lT {a:Sort _}{b:Sort _}{c:Sort _}{d:Sort _}{e:Sort _}{f:Sort _}{g:Sort _}{A:a->b->c->d->e->f->g->Prop}{Z:Prop}(h:∃x y z u v w r,A x y z u v w r)(k:∀x y z u v w r,A x y z u v w r->Z):Z:=h.elim fun x h=>h.elim fun y h=>h.elim fun z h=>h.elim fun u h=>h.elim fun v h=>h.elim fun w h=>h.elim fun r h=>k x y z u v w r h
theorem kl {a:Sort _}{b:Sort _}{c:Sort _}{d:Sort _}{e:Sort _}{f:Sort _}{A:a->b->c->d->e->f->Prop}{Z:Prop}(h:∃x y z u v w,A x y z u v w)(k:∀x y z u v w,A x y z u v w->Z):Z:=h.elim fun x h=>h.elim fun y h=>h.elim fun z h=>h.elim fun u h=>h.elim fun v h=>h.elim fun w h=>k x y z u v w h
theorem f_ {a:Sort _}{b:Sort _}{c:Sort _}{d:Sort _}{e:Sort _}{A:a->b->c->d->e->Prop}{Z:Prop}(h:∃x y z u v,A x y z u v)(k:∀x y z u v,A x y z u v->Z):Z:=h.elim fun x h=>h.elim fun y h=>h.elim fun z h=>h.elim fun u h=>h.elim fun v h=>k x y z u v h
theorem eS {a:Sort _}{b:Sort _}{c:Sort _}{d:Sort _}{A:a->b->c->d->Prop}{Z:Prop}(h:∃x y z u,A x y z u)(k:∀x y z u,A x y z u->Z):Z:=h.elim fun x h=>h.elim fun y h=>h.elim fun z h=>h.elim fun u h=>k x y z u h
theorem dM {a:Sort _}{b:Sort _}{c:Sort _}{A:a->b->c->Prop}{Z:Prop}(h:∃x y z,A x y z)(k:∀x y z,A x y z->Z):Z:=h.elim fun x h=>h.elim fun y h=>h.elim fun z h=>k x y z h
theorem iy {a:Sort _}{b:Sort _}{A:a->b->Prop}{Z:Prop}(h:∃x y,A x y)(k:∀x y,A x y->Z):Z:=h.elim fun x h=>h.elim fun y h=>k x y h
theorem ax {a:Sort _}{A:a->Prop}{Z:Prop}(h:∃x,A x)(k:∀x,A x->Z):Z:=h.elim fun x h=>k x h
theorem pU {A B C D E F G H I:Prop}(k0:A)(k1:B)(k2:C)(k3:D)(k4:E)(k5:F)(k6:G)(k7:H)(k8:I):A/\B/\C/\D/\E/\F/\G/\H/\I:=⟨k0,k1,k2,k3,k4,k5,k6,k7,k8⟩
theorem jM {A B C D E F G H:Prop}(k0:A)(k1:B)(k2:C)(k3:D)(k4:E)(k5:F)(k6:G)(k7:H):A/\B/\C/\D/\E/\F/\G/\H:=⟨k0,k1,k2,k3,k4,k5,k6,k7⟩
theorem tw {A B C D E F G:Prop}(k0:A)(k1:B)(k2:C)(k3:D)(k4:E)(k5:F)(k6:G):A/\B/\C/\D/\E/\F/\G:=⟨k0,k1,k2,k3,k4,k5,k6⟩
theorem bF {A B C D E F:Prop}(k0:A)(k1:B)(k2:C)(k3:D)(k4:E)(k5:F):A/\B/\C/\D/\E/\F:=⟨k0,k1,k2,k3,k4,k5⟩
theorem cn {A B C D E:Prop}(k0:A)(k1:B)(k2:C)(k3:D)(k4:E):A/\B/\C/\D/\E:=⟨k0,k1,k2,k3,k4⟩
theorem gC {a:Sort _}{b:Sort _}{c:Sort _}{A B C:Prop}{D E:a->b->c->Prop}(k0:A)(k1:B)(k2:C)(x:a)(y:b)(z:c)(k3:D x y z)(k4:E x y z):A/\B/\C/\∃x y z,D x y z/\E x y z:=⟨k0,k1,k2,x,y,z,k3,k4⟩
theorem bJ {A B C D:Prop}(k0:A)(k1:B)(k2:C)(k3:D):A/\B/\C/\D:=⟨k0,k1,k2,k3⟩
theorem fF {a:Sort _}{A B:Prop}{C D:a->Prop}(k0:A)(k1:B)(x:a)(k2:C x)(k3:D x):A/\B/\∃x,C x/\D x:=⟨k0,k1,x,k2,k3⟩
theorem aN {A B C:Prop}(k0:A)(k1:B)(k2:C):A/\B/\C:=⟨k0,k1,k2⟩
theorem kM {a:Sort _}{A:Prop}{B C D:a->Prop}(k0:A)(x:a)(k1:B x)(k2:C x)(k3:D x):A/\∃x,B x/\C x/\D x:=⟨k0,x,k1,k2,k3⟩
theorem cN {A B:Prop}(k0:A)(k1:B):A/\B:=⟨k0,k1⟩
theorem ja {a:Sort _}{A B C D E F:a->Prop}(x:a)(k0:A x)(k1:B x)(k2:C x)(k3:D x)(k4:E x)(k5:F x):∃x,A x/\B x/\C x/\D x/\E x/\F x:=⟨x,k0,k1,k2,k3,k4,k5⟩
theorem e7 {a:Sort _}{A B C D E:a->Prop}(x:a)(k0:A x)(k1:B x)(k2:C x)(k3:D x)(k4:E x):∃x,A x/\B x/\C x/\D x/\E x:=⟨x,k0,k1,k2,k3,k4⟩
theorem hU {a:Sort _}{b:Sort _}{A B C:a->Prop}{D E:a->b->Prop}(x:a)(k0:A x)(k1:B x)(k2:C x)(y:b)(k3:D x y)(k4:E x y):∃x,A x/\B x/\C x/\∃y,D x y/\E x y:=⟨x,k0,k1,k2,y,k3,k4⟩
theorem dP {a:Sort _}{A B C D:a->Prop}(x:a)(k0:A x)(k1:B x)(k2:C x)(k3:D x):∃x,A x/\B x/\C x/\D x:=⟨x,k0,k1,k2,k3⟩
theorem fh {a:Sort _}{b:Sort _}{A B:a->Prop}{C:a->b->Prop}(x:a)(k0:A x)(k1:B x)(y:b)(k2:C x y):∃x,A x/\B x/\∃y,C x y:=⟨x,k0,k1,y,k2⟩
theorem eP {a:Sort _}{A B C:a->Prop}(x:a)(k0:A x)(k1:B x)(k2:C x):∃x,A x/\B x/\C x:=⟨x,k0,k1,k2⟩
theorem ix {a:Sort _}{b:Sort _}{A:a->Prop}{B C D E F:a->b->Prop}(x:a)(k0:A x)(y:b)(k1:B x y)(k2:C x y)(k3:D x y)(k4:E x y)(k5:F x y):∃x,A x/\∃y,B x y/\C x y/\D x y/\E x y/\F x y:=⟨x,k0,y,k1,k2,k3,k4,k5⟩
theorem aj {a:Sort _}{A B:a->Prop}(x:a)(k0:A x)(k1:B x):∃x,A x/\B x:=⟨x,k0,k1⟩
theorem eA {a:Sort _}{b:Sort _}{A B C D E:a->b->Prop}(x:a)(y:b)(k0:A x y)(k1:B x y)(k2:C x y)(k3:D x y)(k4:E x y):∃x y,A x y/\B x y/\C x y/\D x y/\E x y:=⟨x,y,k0,k1,k2,k3,k4⟩
theorem bu {a:Sort _}{b:Sort _}{A B C D:a->b->Prop}(x:a)(y:b)(k0:A x y)(k1:B x y)(k2:C x y)(k3:D x y):∃x y,A x y/\B x y/\C x y/\D x y:=⟨x,y,k0,k1,k2,k3⟩
theorem cf {a:Sort _}{b:Sort _}{A B C:a->b->Prop}(x:a)(y:b)(k0:A x y)(k1:B x y)(k2:C x y):∃x y,A x y/\B x y/\C x y:=⟨x,y,k0,k1,k2⟩
theorem gB {a:Sort _}{b:Sort _}{c:Sort _}{A:a->b->Prop}{B C D E:a->b->c->Prop}(x:a)(y:b)(k0:A x y)(z:c)(k1:B x y z)(k2:C x y z)(k3:D x y z)(k4:E x y z):∃x y,A x y/\∃z,B x y z/\C x y z/\D x y z/\E x y z:=⟨x,y,k0,z,k1,k2,k3,k4⟩
theorem cT {a:Sort _}{b:Sort _}{A B:a->b->Prop}(x:a)(y:b)(k0:A x y)(k1:B x y):∃x y,A x y/\B x y:=⟨x,y,k0,k1⟩
theorem kg {a:Sort _}{b:Sort _}{c:Sort _}{A B C D:a->b->c->Prop}(x:a)(y:b)(z:c)(k0:A x y z)(k1:B x y z)(k2:C x y z)(k3:D x y z):∃x y z,A x y z/\B x y z/\C x y z/\D x y z:=⟨x,y,z,k0,k1,k2,k3⟩
theorem dI {a:Sort _}{b:Sort _}{c:Sort _}{A B:a->b->c->Prop}(x:a)(y:b)(z:c)(k0:A x y z)(k1:B x y z):∃x y z,A x y z/\B x y z:=⟨x,y,z,k0,k1⟩
theorem mx {a:Sort _}{b:Sort _}{c:Sort _}{d:Sort _}{e:Sort _}{f:Sort _}{g:Sort _}{h:Sort _}{i:Sort _}{j:Sort _}{k:Sort _}{A:a->b->c->d->e->f->g->h->i->j->k->Prop}(x:a)(y:b)(z:c)(u:d)(v:e)(w:f)(r:g)(s:h)(t:i)(p:j)(q:k)(k0:A x y z u v w r s t p q):∃x y z u v w r s t p q,A x y z u v w r s t p q:=⟨x,y,z,u,v,w,r,s,t,p,q,k0⟩
theorem jL {a:Sort _}{b:Sort _}{c:Sort _}{d:Sort _}{e:Sort _}{f:Sort _}{g:Sort _}{A:a->b->c->d->e->f->g->Prop}(x:a)(y:b)(z:c)(u:d)(v:e)(w:f)(r:g)(k0:A x y z u v w r):∃x y z u v w r,A x y z u v w r:=⟨x,y,z,u,v,w,r,k0⟩
theorem hS {a:Sort _}{b:Sort _}{c:Sort _}{d:Sort _}{e:Sort _}{f:Sort _}{A:a->b->c->d->e->f->Prop}(x:a)(y:b)(z:c)(u:d)(v:e)(w:f)(k0:A x y z u v w):∃x y z u v w,A x y z u v w:=⟨x,y,z,u,v,w,k0⟩
theorem iQ {a:Sort _}{b:Sort _}{c:Sort _}{d:Sort _}{e:Sort _}{A:a->b->c->d->e->Prop}(x:a)(y:b)(z:c)(u:d)(v:e)(k0:A x y z u v):∃x y z u v,A x y z u v:=⟨x,y,z,u,v,k0⟩
theorem ge {a:Sort _}{b:Sort _}{c:Sort _}{d:Sort _}{A:a->b->c->d->Prop}(x:a)(y:b)(z:c)(u:d)(k0:A x y z u):∃x y z u,A x y z u:=⟨x,y,z,u,k0⟩
theorem bc {a:Sort _}{b:Sort _}{c:Sort _}{A:a->b->c->Prop}(x:a)(y:b)(z:c)(k0:A x y z):∃x y z,A x y z:=⟨x,y,z,k0⟩
theorem cA {a:Sort _}{b:Sort _}{A:a->b->Prop}(x:a)(y:b)(k0:A x y):∃x y,A x y:=⟨x,y,k0⟩
theorem dH {a:Sort _}{A:a->Prop}(x:a)(k0:A x):∃x,A x:=⟨x,k0⟩
noncomputable def mC:Code->Bool
 | .builtin id _=>Builtin.Bytes.decodersThatHold.contains id||guardIds.contains id
 |_=>false
noncomputable def Ep (Γ:Ctx):Prop:=∀x∈Γ.below,mC x.1=false
noncomputable def CM (Γ:Ctx):Prop:=mC Γ.code=false/\Ep Γ
noncomputable def al {α:Type} (M:Model) (A:Around) (t:Sem α) (Q:α->Shared->Prop) (E:Value->Shared->Prop) (s:Shared):Prop:=
 ∀Γ p,Γ.In A->CM Γ->Sem.wp M Γ t (fun a _ s'=>Q a s') (fun e _ s'=>E e s') p s
noncomputable def bW (M:Model) (A:Around) (c:Code) (R:Result->Shared->Prop) (s:Shared):Prop:=
 ∀Γ p,Γ.code=c->Γ.Below A->Ep Γ->wpCode M Γ R p s
section
variable {α β:Type} {M:Model} {A:Around} {E:Value->Shared->Prop} {s:Shared} {env:Env}
theorem al.of {t:Sem α} {Q:α->Shared->Prop} (h:wpAny M A t Q E s):al M A t Q E s:=fun Γ p i _=>h Γ p i
theorem aG {a:α} {Q:α->Shared->Prop} (h:Q a s):al M A (pure a) Q E s:=fun _ _ _ _=>h
theorem cy {t:Sem α} {Q Q':α->Shared->Prop} {E':Value->Shared->Prop} (h:al M A t Q E s) (hQ:∀a s,Q a s->Q' a s) (hE:∀e s,E e s->E' e s):al M A t Q' E' s:=
 fun Γ p i c=>Sem.wp_mono M Γ t (fun a _ s=>hQ a s) (fun e _ s=>hE e s) p s (h Γ p i c)
theorem be {m:Sem α} {f:α->Sem β} {Q:β->Shared->Prop} (h:al M A m (fun a s'=>al M A (f a) Q E s') E s):al M A (m>>=f) Q E s:=fun Γ p i c=>by
 rw [Sem.wp_bind'];exact Sem.wp_mono M Γ m (fun a p' s' z=>z Γ p' i c) (fun _ _ _ z=>z) p s (h Γ p i c)
theorem bN {vs:List Value} {m:Sem α} {Q:α->Shared->Prop} (h:al M A m Q E s):al M A (holding vs m) Q E s:=fun Γ p i c=>by rw [Sem.wp_holding];exact h Γ p i c
theorem jj {vs:List Value} {m:Sem Value} {Q:Value->Shared->Prop} (h:al M A m Q E s):al M A (operate vs m) Q E s:=fun Γ p i c=>by rw [Sem.wp_operate];exact h Γ p i c
theorem ig {m:Sem α} {k:Value->Sem Unit} {Q:α->Shared->Prop} (h:al M A m Q (fun e s'=>al M A (k e) (fun _ Sl=>E e Sl) E s') s):al M A (m.onRaise k) Q E s:=fun Γ p i c=>by
 rw [Sem.wp_onRaise];exact Sem.wp_mono M Γ m (fun _ _ _ z=>z) (fun e p' s' z=>z Γ p' i c) p s (h Γ p i c)
theorem kB {m:Sem α} {Q:Except Value α->Shared->Prop} (h:al M A m (fun a=>Q (.ok a)) (fun e=>Q (.error e)) s):al M A m.attempt Q E s:=fun Γ p i c=>by rw [Sem.wp_attempt];exact h Γ p i c
theorem jh {pos:Pos} {Q:Unit->Shared->Prop} (h:Q () s):al M A (standAt pos) Q E s:=.of (wpAny_standAt h)
theorem mS {Q:Unit->Shared->Prop} (h:Q () s):al M A point Q E s:=.of (wpAny_point h)
theorem ji {vs us:List Value} {Q:Unit->Shared->Prop} (h:Q () s):al M A (release vs us) Q E s:=.of (wpAny_release' h)
theorem bC {m:Sem α} {f:α->Sem β} {Q:β->Shared->Prop} {Q₁:α->Shared->Prop} (h:al M A m Q₁ E s) (k:∀a s',Q₁ a s'->al M A (f a) Q E s'):al M A (m>>=f) Q E s:=be (cy h k fun _ _ x=>x)
theorem cI {vs:List Value} {m:Sem α} {f:α->Sem β} {Q:β->Shared->Prop} {Q₁:α->Shared->Prop} (h:al M A m Q₁ E s) (k:∀a s',Q₁ a s'->al M A (f a) Q E s'):al M A (holding vs m>>=f) Q E s:=bC (bN h) k
theorem bo {pos:Pos} {f:Unit->Sem β} {Q:β->Shared->Prop} (h:al M A (f ()) Q E s):al M A (standAt pos>>=f) Q E s:=be (jh h)
theorem cC {a:α} {f:α->Sem β} {Q:β->Shared->Prop} (h:al M A (f a) Q E s):al M A (pure a>>=f) Q E s:=be (aG h)
theorem cZ {c:Code} {R R':Result->Shared->Prop} (h:bW M A c R s) (hR:∀r s,R r s->R' r s):bW M A c R' s:=fun Γ p e b k=>wpCode_mono hR (h Γ p e b k)
theorem cV {c:Code} {R:Result->Shared->Prop} (hc:mC c=false) (h:al M (A.under c) (M.den c) (fun fin s'=>match fin with| .done f=>R (.ok f) s'| .again c'=>c'.quiet=true/\bW M A c' R s') (fun e s'=>R (.error e) s') s):
 bW M A c R s:=fun Γ p e b k=>by
 rw [wpCode_iff_wp,e];refine Sem.wp_mono M Γ _ (fun fin p' s' z=>?_) (fun _ _ _ z=>z) p s (h Γ p (e▸b.in) ⟨by rw [e];exact hc,k⟩);cases fin with
 |done f=>exact z
 |again c'=>exact⟨z.1,z.2 (Γ.goto c') p' rfl (b.goto c') k⟩
theorem sm {c:Code} {h:Option Value} {Q:Flow->Shared->Prop} (hc:bW M (A.mark h) c (fun r s'=>match r with| .ok f=>Q f s'| .error e=>E e s') s) (hnb:h≠some byPass):al M A (run c h) Q E s:=fun Γ p i k=>by
 rw [Sem.wp_run];refine hc _ p rfl (i.enter c h p hnb) fun x hx=>?_;rcases T4.mp hx with rfl|hx
 ·exact k.1
 ·exact k.2 x hx
theorem sj {c:Code} {Q:Value->Shared->Prop} (hc:bW M A c (fun r s'=>match r with| .ok (.ret v)=>Q v s'| .ok _=>False| .error e=>E e s') s):al M A (runValue c) Q E s:=fun Γ p i k=>by
 rw [Sem.wp_runValue];refine hc _ p rfl (i.enter c none p (by intro x;cases x)) fun x hx=>?_;rcases T4.mp hx with rfl|hx
 ·exact k.1
 ·exact k.2 x hx
theorem gM {f:Value} {pos:List Value} {kw:List (Str×Value)} {Q:Value->Shared->Prop} (hc:bW M A (.call f ⟨pos,kw⟩) (fun r s'=>match r with| .ok (.ret v)=>Q v s'| .ok _=>False| .error e=>E e s') s):al M A (call f pos kw) Q E s:=sj hc
theorem rW {c:Code} {R:Result->Shared->Prop} (hq:c.quiet=true) (hd:mC c=false) (I:Nat->Shared->Prop)
 (turn:∀n s,I n s->al M (A.under c) (M.den c) (fun fin s'=>match fin with| .done f=>R (.ok f) s'| .again c'=>c'=c/\∃m,m<n/\I m s') (fun e s'=>R (.error e) s') s) (n:Nat) (h:I n s):bW M A c R s:=by
 induction n using Nat.strongRecOn generalizing s with
 |ind n ih=>
  refine cV hd (cy (turn n s h) (fun fin s' z=>?_) fun _ _ z=>z);cases fin with
  |done f=>exact z
  |again c'=>(refine hV (z) fun j' m hm hI=>?_;subst j');exact⟨hq,ih m hm hI⟩
theorem zb {l op r pos} {Q:Value->Shared->Prop} (h:al M A (eval l env) (fun a o0=>al M A (eval r env) (fun b w'=>al M A (binaryOp op a b) Q E w') E o0) E s):al M A (eval (.BinOp l op r pos) env) Q E s:=by
 rw [arm_eval_BinOp];exact bC h fun a _ h1=>cI h1 fun b _ h2=>bo (jj h2)
theorem um {op x pos} {Q:Value->Shared->Prop} (h:al M A (eval x env) (fun v o0=>al M A (unaryOp op v) Q E o0) E s):al M A (eval (.UnaryOp op x pos) env) Q E s:=by
 rw [arm_eval_UnaryOp];exact bC h fun v _ h1=>bo (bN h1)
theorem za {test body B' pos} {Q:Value->Shared->Prop} (h:al M A (isTrue test env (eval test env)) (fun c w'=>if c=true then al M A (eval body env) Q E w' else al M A (eval B' env) Q E w') E s):
 al M A (eval (.IfExp test body B' pos) env) Q E s:=by
 rw [arm_eval_IfExp];exact bC h fun c _ h1=>by cases c<;>exact h1
theorem qj {value:Expr} {SP:Str} {pos:Pos} {Q:Value->Shared->Prop} (h:al M A (eval value env) (fun o o0=>al M A (getAttr o SP true) Q E o0) E s)
 (he:eval (.Attribute value SP pos) env=(do
  let o ←eval value env
  standAt pos.atName
  let r ←holding [o] (getAttr o SP true)
  letTemporaryGo value o r
  pure r)) (ht:∀o r,letTemporaryGo value o r=pure ()):al M A (eval (.Attribute value SP pos) env) Q E s:=by
 rw [he];refine bC h fun o _ h1=>bo (cI h1 fun r _ h2=>?_);rw [ht];exact cC (aG h2)
theorem ju {value A' pos} {Q:Value->Shared->Prop} (h:al M A (eval value env) (fun o o0=>al M A (eval A' env) (fun i w'=>al M A (subscriptTail value A' o i) Q E w') E o0) E s):
 al M A (eval (.Subscript value A' pos) env) Q E s:=by
 rw [arm_eval_Subscript];exact bC h fun o _ h1=>cI h1 fun i _ h2=>bo h2
theorem sp {e:Expr} {Q:Value->Shared->Prop} (h:al M A (eval e env) Q E s):al M A (evalPart (some e) env) Q E s:=h
theorem rb {P' M' step:Option Expr} {p:Pos} {Q:Value->Shared->Prop}
 (h:al M A (evalPart P' env) (fun l o0=>al M A (evalPart M' env) (fun u w'=>al M A (evalPart step env) (fun st C'=>
  Q (.ref C'.heap.objs.size) {C' with heap:=C'.heap.push {cls:=.type "slice",data:=.fields #[l,u,st]}}) E w') E o0) E s):al M A (eval (.Slice P' M' step p) env) Q E s:=by
 rw [arm_eval_Slice];exact bC h fun l _ h1=>cI h1 fun u _ h2=>cI h2 fun st _ h3=>.of (wpAny_newObj_type h3)
theorem y7 {pos:Pos} {e:Expr} {a':List Expr} {Q:List Value->Shared->Prop} (h:al M A (eval e env) (fun v o0=>al M A (spliced (backTo pos (starEach a' env))) (fun vs w'=>Q (v::vs) w') E o0) E s)
 (he:starEach (e::a') env=(false,eval e env)::starEach a' env):al M A (spliced (backTo pos (starEach (e::a') env))) Q E s:=by
 rw [he];exact bC (m:=eval e env) h fun v _ h1=>cC (cI h1 fun vs _ h2=>aG h2)
theorem y_ {F1:List Expr} {k:Nat} {pos:Pos} {Q:Value->Shared->Prop} (h:al M A (spliced (backTo pos (starEach F1 env))) (fun vs o0=>vs.length<=sizeLine/\Q (.ref o0.heap.objs.size) {o0 with heap:=o0.heap.push {cls:=.type "tuple",data:=.seq vs.toArray}}) E s):
 al M A (eval (.Tuple F1 k pos) env) Q E s:=by
 rw [arm_eval_Tuple];exact bo (bC h fun vs _ h1=>.of (wpAny_newObj_type h1.2 (by show vs.toArray.size<=sizeLine;rw [TK];exact h1.1)))
theorem CN {F1:List Expr} {pos:Pos} {Q:Value->Shared->Prop} (h:al M A (spliced (backTo pos (starEach F1 env))) (fun vs o0=>vs.length<=sizeLine/\Q (.ref o0.heap.objs.size) {o0 with heap:=o0.heap.push {cls:=.type "list",data:=.seq vs.toArray}}) E s):
 al M A (eval (.List F1 pos) env) Q E s:=by
 rw [arm_eval_List];exact bo (bC h fun vs _ h1=>.of (wpAny_newObj_type h1.2 (by show vs.toArray.size<=sizeLine;rw [TK];exact h1.1)))
theorem kC {op e pos} {Q:Value->Shared->Prop} (h:al M A (eval e env) Q E s):al M A (eval (.BoolOp op [e] pos) env) Q E s:=h
theorem DA {e₁ e₂ a' pos} {Q:Value->Shared->Prop} (h:al M A (eval e₁ env) (fun v o0=>al M A (truthy v) (fun c w'=>if c=true then al M A (eval (.BoolOp .And (e₂::a') pos) env) Q E w' else Q v w') E o0) E s):
 al M A (eval (.BoolOp .And (e₁::e₂::a') pos) env) Q E s:=by
 refine bC (m:=eval e₁ env) h fun v _ h1=>bo (cI h1 fun c _ h2=>?_);cases c with
 |false=>exact aG h2
 |true=>exact h2
theorem P2 {e₁ e₂ a' pos} {Q:Value->Shared->Prop} (h:al M A (eval e₁ env) (fun v o0=>al M A (truthy v) (fun c w'=>if c=true then Q v w' else al M A (eval (.BoolOp .Or (e₂::a') pos) env) Q E w') E o0) E s):
 al M A (eval (.BoolOp .Or (e₁::e₂::a') pos) env) Q E s:=by
 refine bC (m:=eval e₁ env) h fun v _ h1=>bo (cI h1 fun c _ h2=>?_);cases c with
 |false=>exact h2
 |true=>exact aG h2
theorem su {l op r pos} {Q:Value->Shared->Prop} (h:al M A (eval l env) (fun a o0=>al M A (eval r env) (fun b w'=>al M A (compareOp op a b) Q E w') E o0) E s) (hm:behindInMarks op r=false):
 al M A (eval (.Compare l [op] [r] pos) env) Q E s:=by
 rw [arm_eval_Compare,markedEach_of_false [op] [r] _ (by trivial)];exact bC h fun a _ h1=>cI (m:=eval r env) h1 fun b _ h2=>bo (jj h2)
theorem pJ {x pos u'} {Q:Bool->Shared->Prop} (h:al M A (isTrue x env (eval x env)) (fun c s'=>Q (!c) s') E s):al M A (isTrue (.UnaryOp .Not x pos) env u') Q E s:=
 bC (m:=isTrue x env (eval x env)) h fun _ _ h1=>aG h1
theorem pK {x a' pos u'} {Q:Bool->Shared->Prop} (h:al M A (isTrue x env (eval x env)) (fun c s'=>if c=true then al M A (isTrue (.BoolOp .And a' pos) env u') Q E s' else Q false s') E s):
 al M A (isTrue (.BoolOp .And (x::a') pos) env u') Q E s:=by
 refine bC (m:=isTrue x env (eval x env)) h fun c _ h1=>?_;cases c with
 |false=>exact aG h1
 |true=>exact h1
theorem qg {x a' pos u'} {Q:Bool->Shared->Prop} (h:al M A (isTrue x env (eval x env)) (fun c s'=>if c=true then Q true s' else al M A (isTrue (.BoolOp .Or a' pos) env u') Q E s') E s):
 al M A (isTrue (.BoolOp .Or (x::a') pos) env u') Q E s:=by
 refine bC (m:=isTrue x env (eval x env)) h fun c _ h1=>?_;cases c with
 |false=>exact h1
 |true=>exact aG h1
theorem mU {e:Expr} {u':Sem Value} {Q:Bool->Shared->Prop} (h:al M A u' (fun v o0=>al M A (truthy v) Q E o0) E s) (he:isTrue e env u'=(do let v ←u';standAt e.pos;holding [v] (truthy v))):
 al M A (isTrue e env u') Q E s:=by
 rw [he];exact bC h fun v _ h1=>bo (bN h1)
theorem qf {pos:Pos} {a:Value} {op op':CmpOp} {J':List CmpOp} {r r':Sem Value} {rs:List (Sem Value)} {Q:Bool->Shared->Prop}
 (h:al M A r (fun b o0=>al M A (compareOp op a b) (fun c w'=>al M A (truthy c) (fun t C'=>if t=true then al M A (testChain pos b (op'::J') (r'::rs)) Q E C' else Q false C') E w') E o0) E s):
 al M A (testChain pos a (op::op'::J') (r::r'::rs)) Q E s:=by
 refine cI (m:=r) h fun b _ h1=>bo (cI (m:=compareOp op a b) h1 fun c _ h2=>be (ji (cI (m:=truthy c) h2 fun t _ h3=>?_)));cases t with
 |false=>exact aG h3
 |true=>exact h3
theorem k_ {pos:Pos} {a:Value} {op:CmpOp} {r:Sem Value} {Q:Bool->Shared->Prop}
 (h:al M A r (fun b o0=>al M A (compareOp op a b) (fun c w'=>al M A (truthy c) Q E w') E o0) E s):al M A (testChain pos a [op] [r]) Q E s:=
 cI (m:=r) h fun b _ h1=>bo (bC (m:=operate [a,b] (compareOp op a b)) (jj h1) fun c _ h2=>bN h2)
theorem kU {l op r pos u'} {Q:Bool->Shared->Prop} (h:al M A (eval l env) (fun a o0=>al M A (eval r env) (fun b w'=>al M A (compareOp op a b) (fun c C'=>al M A (truthy c) Q E C') E w') E o0) E s) (hm:behindInMarks op r=false):
 al M A (isTrue (.Compare l [op] [r] pos) env u') Q E s:=by
 rw [arm_isTrue_Compare,markedEach_of_false [op] [r] _ (by trivial)];exact bC h fun a _ h1=>k_ h1
theorem pL {st a'} {Q:Flow->Shared->Prop} (h:al M A (exec st env) (fun f s'=>match f with| .next=>al M A (execs a' env) Q E s'|f=>Q f s') E s):al M A (execs (st::a') env) Q E s:=by
 rw [execs_cons];refine bC h fun f _ h1=>?_;cases f<;>first|exact h1|exact aG h1
theorem P3 {test body B' pos} {Q:Flow->Shared->Prop} (h:al M A (isTrue test env (eval test env)) (fun b w'=>if b=true then al M A (execs body env) Q E w' else al M A (execs B' env) Q E w') E s):
 al M A (exec (.If test body B' pos) env) Q E s:=by
 rw [exec_If];refine bo (bC h fun b _ h1=>?_);cases b<;>exact h1
theorem vW {e pos} {Q:Flow->Shared->Prop} (h:al M A (eval e env) (fun v=>Q (.ret v)) E s):al M A (exec (.Return (some e) pos) env) Q E s:=by
 rw [exec_Return_some];exact bo (bC h fun _ _ h1=>aG h1)
end
section
variable {α β:Type} {M:Model} {A:Around} {E:Value->Shared->Prop} {s:Shared} {env:Env}
theorem aX {m:Sem α} {f:α->Sem β} {Q:β->Shared->Prop} (h:wpAny M A m (fun a s'=>al M A (f a) Q E s') E s):al M A (m>>=f) Q E s:=be (.of h)
theorem CO {e pos} {Q:Flow->Shared->Prop} (h:al M A (eval e env) (fun v s'=>match v with| .ref _=>False|_=>Q .next s') E s) (hi:interactive env=false) (hs:swapsWith e none pos.line env=pure false):
 al M A (exec (.Expr e pos) env) Q E s:=by
 rw [exec_Expr env e pos hi hs];refine bo (bC h fun v s' h'=>?_);have hv:∀a,v≠ .ref a:=fun a q=>by subst q;exact h'
 rw [dropValue_plain hv];refine aG ?_;cases v<;>first|exact h'|exact(hv _ rfl).elim
theorem nF {x pos' value pos} {Q:Flow->Shared->Prop} (h:al M A (eval value env) (fun v o0=>al M A (storeName env x v) (fun _=>Q .next) E o0) E s)
 (hs:swapsWith value (some (.Name x pos')) pos.line env=pure false):al M A (exec (.Assign [.Name x pos'] value pos) env) Q E s:=by
 rw [exec_Assign_Name env x pos' value pos hs];refine bo (bC h fun v _ h1=>bo (bC (m:=bindName env x v) (Q₁:=fun _=>Q .next) (fun Γ p i k=>?_) fun _ _ z=>aG z));rw [Sem.wp_bindName];exact h1 Γ p i k
theorem j4 {x:Str} {v:Value} {Q:Unit->Shared->Prop} (h:al M A (storeName env x v) Q E s):al M A (bindName env x v) Q E s:=fun Γ p i k=>by rw [Sem.wp_bindName];exact h Γ p i k
theorem nt {o SP pos v} {Q:Unit->Shared->Prop} (h:al M A (eval o env) (fun ov w'=>al M A (setAttr ov SP v) (fun _=>Q ()) E w') E s):al M A (assign (.Attribute o SP pos) env v) Q E s:=by
 rw [arm_assign_Attribute];exact cI h fun ov _ h1=>bo (cI h1 fun _ _ h2=>ji h2)
theorem kD {o SP pos' value pos} {Q:Flow->Shared->Prop} (h:al M A (eval value env) (fun v o0=>al M A (eval o env) (fun ov w'=>al M A (setAttr ov SP v) (fun _=>Q .next) E w') E o0) E s)
 (hs:swapsWith value (some (.Attribute o SP pos')) pos.line env=pure false):al M A (exec (.Assign [.Attribute o SP pos'] value pos) env) Q E s:=by
 rw [plainObj_exec_Assign_Attribute o SP pos' value pos hs];exact bo (bC h fun v _ h1=>bC (Q₁:=fun _=>Q .next) (nt h1) fun _ _ z=>aG z)
theorem vV {o i pos v} {Q:Unit->Shared->Prop} (h:al M A (eval o env) (fun ov w'=>al M A (eval i env) (fun iv C'=>al M A (setItem ov iv v) (fun _=>Q ()) E C') E w') E s):al M A (assign (.Subscript o i pos) env v) Q E s:=by
 rw [arm_assign_Subscript];exact cI h fun ov _ h1=>cI h1 fun iv _ h2=>bo (cI h2 fun _ _ h3=>ji h3)
theorem mh {t:Value->Sem Unit} {ts:List (Value->Sem Unit)} {x:Value} {xs:List Value} {Q:Unit->Shared->Prop}
 (h:al M A (t x) (fun _ o0=>al M A (assignInOrder ts xs) Q E o0) E s):al M A (assignInOrder (t::ts) (x::xs)) Q E s:=be (bN h)
theorem nu {t value pos} {Q:Flow->Shared->Prop} (h:al M A (eval value env) (fun v o0=>al M A (assign t env v) (fun _=>Q .next) E o0) E s)
 (hs:swapsWithSole [t] value pos.line env=pure false) (hw:swappedStores [t] value env=pure none) (he:(assignEach [t] env).map (·.2)=[assign t env]):
 al M A (exec (.Assign [t] value pos) env) Q E s:=by
 rw [arm_exec_Assign];refine bo ?_;rw [hs];refine cC ?_;rw [Tc (by decide)];refine bC h fun v _ h1=>?_;rw [hw,he];refine cC ?_;show al M A (do assign t env v;pure .next) Q E _;exact bC h1 fun _ _ z=>aG z
theorem lx {F1 k tpos value pos} {names:List Str} {Q:Flow->Shared->Prop}
 (h:al M A (eval value env) (fun v o0=>al M A (unpackItems v names.length none) (fun items w'=>al M A (assignInOrder (names.reverse.map fun n=>bindName env n) items.reverse) (fun _=>Q .next) E w') E o0) E s)
 (hs:swapsWithSole [.Tuple F1 k tpos] value pos.line env=pure false) (hw:swappedStores [.Tuple F1 k tpos] value env=pure (some names)):
 al M A (exec (.Assign [.Tuple F1 k tpos] value pos) env) Q E s:=by
 rw [arm_exec_Assign];refine bo ?_;rw [hs];refine cC ?_;rw [Tc (by decide)];refine bC h fun v _ h1=>?_;rw [hw];refine cC (be (.of (wpAny_rule ?_)));exact bC (m:=unpackItems v names.length none) h1 fun items _ h2=>bC (m:=assignInOrder _ _) h2 fun _ _ z=>aG z
theorem j3 {f:Value} {first:List Value} {pos:Pos} {P:Heap->Prop} {args:List (Bool×Sem Value)} {Lp:List (Option Str×Sem Value)} {Q:Value->Shared->Prop} (hplain:(args.any (·.1)||Lp.any (·.1.isNone))=false)
 (hk:∀h,P h->∃k,(k=Keeper.frame\/k=Keeper.machine\/k=Keeper.boundFrame)/\Looks M h (keeperOf f) k)
 (h:al M A (evalArgs f true args Lp) (fun a o0=>P o0.heap/\al M A (call f (first++a.pos) a.kw) Q E o0) E s):al M A (callWith pos f first args Lp) Q E s:=by
 unfold callWith;refine cI h fun a o0 F5=>bo ?_;refine aw (hk _ F5.1) fun k hk' L=>?_;rw [hplain];dsimp only;refine aX (L.here ?_);have tail:∀{t:Sem Value},al M A t Q E o0->al M A (t>>=fun r=>holding [r] point>>=fun _=>pure r) Q E o0:=fun ht=>bC ht fun r _ hr=>be (bN (mS (aG hr)));have keep:∀{vs:List Value} {t:Sem Value},al M A t Q E o0->al M A (t.keep vs) Q E o0:=fun ht Γ p i c=>by rw [Sem.wp_keep];exact ht Γ p i c
 have marked (mk:Value):al M A (callMarked mk f (first++a.pos) a.kw) Q E o0:=by unfold callMarked;exact keep F5.2
 rcases hk' with rfl|rfl|rfl<;>dsimp only<;>first|exact tail F5.2|(by_cases q:args.length+2*Lp.length>30;(rw [Tk q];exact tail F5.2);(rw [Tc q];exact tail (marked _)))
theorem gL {f:Value} {Q:Args->Shared->Prop} (h:al M A (spliced []) (fun l s'=>Q ⟨l,[]⟩ s') E s):al M A (evalArgs f true [] []) Q E s:=by
 unfold evalArgs;exact bC (m:=spliced []) h fun l s' h'=>cC (bN (cC (cC (aG h'))))
theorem j2 {f:Value} {x:Sem Value} {a':List (Bool×Sem Value)} {Q:Args->Shared->Prop} (h:al M A (spliced ((false,x)::a')) (fun vs s'=>Q {pos:=vs} s') E s):al M A (evalArgs f true ((false,x)::a') []) Q E s:=by
 unfold evalArgs;refine bC (m:=spliced ((false,x)::a')) h fun vs s' h'=>bN ?_;exact cC (cC (aG h'))
theorem j7 {x:Str} {np pos:Pos} {args:List Expr} {Lp:List Keyword} {Q:Value->Shared->Prop}
 (h:al M A (eval (.Name x np) env) (fun f o0=>al M A (callWith pos f [] (backTo pos (starEach args env)) (backToKw pos (keywordEach Lp env))) Q E o0) E s):al M A (eval (.Call (.Name x np) args Lp pos) env) Q E s:=
 be (m:=eval (.Name x np) env) h
theorem pM {o:Expr} {name:Str} {Jn pos:Pos} {args:List Expr} {pl:Sem Bool} {Q:Value->Shared->Prop}
 (h:al M A (eval o env) (fun ov o0=>al M A (getMethod ov name pl) (fun fx w'=>al M A (callWith pos fx.1 fx.2 (backTo pos (starEach args env)) []) Q E w') E o0) E s)
 (he:eval (.Call (.Attribute o name Jn) args [] pos) env=(do
  let ov ←eval o env
  standAt Jn.atName
  let (f,first) ←holding [ov] (getMethod ov name pl)
  callWith pos f first (backTo pos (starEach args env)) [])):al M A (eval (.Call (.Attribute o name Jn) args [] pos) env) Q E s:=by
 rw [he];exact bC h fun ov _ h1=>bo (cI h1 fun fx _ h2=>h2)
noncomputable def fv (M:Model) (A:Around) (env:Env) (E:Value->Shared->Prop):Value->Shared->Prop:=fun x s'=>al M A (noteFrame x env) (fun _ Sl=>E x Sl) E s'
noncomputable def iA (M:Model) (A:Around) (env:Env) (E:Value->Shared->Prop):Value->Shared->Prop:=fun x s'=>al M A (do
 if(←field x 1)== .none then unsupported "frame.own-activation:exception-without-traceback"
 setFlight x env.frame) (fun _ Sl=>E x Sl) E s'
theorem mT {m:Sem α} {Q:α->Shared->Prop} (h:al M A m Q (fv M A env E) s):al M A (m.onRaise fun x=>do noteFrame x env;theTreesLotGoes x) Q E s:=
 ig (cy h (fun _ _ q=>q) fun _ _ hx=>bC hx fun _ _ e=>.of (wpAny_theTreesLotGoes e))
theorem pI {c:Code} {h:Option Value} {Q:Flow->Shared->Prop} (hc:bW M (A.mark h) c (fun r s'=>match r with| .ok f=>Q f s'| .error e=>iA M A env E e s') s) (hnb:h≠some byPass):al M A (runOwn c env h) Q E s:=by
 unfold runOwn;exact ig (sm hc hnb)
theorem y9 {test body B' pos} {Q:Flow->Shared->Prop} (h:bW M A (.whileLoop test body B' env) (fun r s'=>match r with| .ok f=>Q f s'| .error e=>iA M A env E e s') s):al M A (exec (.While test body B' pos) env) Q E s:=by
 rw [exec_While];exact bo (pI (hnb:=by intro x;cases x) h)
end
section
variable {prog:Program} {w:World} {A:Around} {E:Value->Shared->Prop} {R:Result->Shared->Prop} {s:Shared} {env:Env}
theorem lV {test body B'} (I:Nat->Shared->Prop)
 (turn:∀n s,I n s->al (model prog w) A (isTrue test env (eval test env)) (fun b w'=>
  if b=true then al (model prog w) A (execs body env) (fun f C'=>match f with
   | .next| .cont=>∃m,m<n/\I m C'
   | .brk=>R (.ok .next) C'
   | .ret v=>R (.ok (.ret v)) C') (fv (model prog w) A env fun e s'=>R (.error e) s') w'
  else al (model prog w) A (execs B' env) (fun f C'=>R (.ok f) C') (fv (model prog w) A env fun e s'=>R (.error e) s') w')
  (fv (model prog w) A env fun e s'=>R (.error e) s') s)
 (n:Nat) (h:I n s):bW (model prog w) A (.whileLoop test body B' env) R s:=by
 refine rW rfl rfl I (fun n s hI=>?_) n h;show al _ A ((whileTurn test body B' env).onRaise (fun x=>do noteFrame x env;theTreesLotGoes x)) _ _ s;refine mT ?_;unfold whileTurn;refine bC (turn n s hI) fun b w' Op=>?_;cases b with
 |false=>
  rw [Tc Bool.false_ne_true] at Op ⊢;exact bC Op fun f C' Ls=>aG Ls
 |true=>
  rw [Tk rfl] at Op ⊢;refine bC Op fun f C' Ls=>?_;cases f with
  |next=>exact aG ⟨rfl,Ls⟩
  |cont=>exact aG ⟨rfl,Ls⟩
  |brk=>exact aG Ls
  |ret v=>exact aG Ls
theorem rX {body}
 (h:al (model prog w) (A.deeper env) (execs body env) (fun f s'=>R (.ok (.ret (match f with| .ret v=>v|_=>.none))) s')
  (fun e s'=>al (model prog w) (A.deeper env) (leaving env e) (fun _ Sl=>R (.error e) Sl) (fun e' Sl=>R (.error e') Sl) s') s):bW (model prog w) A (.func body env) R s:=by
 refine cV rfl ?_;show al _ (A.deeper env) (do point;match ←(execs body env).onRaise (leaving env) with| .ret v=>ret v|_=>ret .none) _ _ s;refine be (mS (bC (ig h) fun f s' h'=>?_));cases f<;>exact aG h'
theorem mF {a:Addr} {o:Obj} {fd:FuncData} {body:List Stmt} {args:Args} {binds:List (Str×Value)}
 (SV:A.depth<recursionLimit) (ho:s.heap.get? a=some o) (hdata:o.data= .func fd) (hlim:s.heap.NoLimit) (hcd:s.heap.CodeRec fd.code fd.qualname)
 (hbody:fd.body= .stmts body) (hbind:BindsTo s fd args binds)
 (SX:∀x∈fd.scope.names,x.2≠ .cell) (hloc:∀x∈binds,fd.scope.names.lookup x.1=some .local)
 (h:∀Pu,Pu.Ns s.heap.objs.size (fun x=>binds.reverse.lookup x)->(∀b o,s.heap.get? b=some o->Pu.get? b=some o)->
  al (model prog w) (A.deeper (callEnv fd s.heap.objs.size a)) (execs body (callEnv fd s.heap.objs.size a)) (fun f s'=>R (.ok (.ret (match f with| .ret v=>v|_=>.none))) s')
   (fun e s'=>al (model prog w) (A.deeper (callEnv fd s.heap.objs.size a)) (leaving (callEnv fd s.heap.objs.size a) e) (fun _ Sl=>R (.error e) Sl) (fun e' Sl=>R (.error e') Sl) s')
   {s with heap:=Pu,toks:=s.toks+binds.length})
 (hco:fd.scope.isCoroutine=false) (hgen:fd.scope.isGenerator=false) (hk:fd.scope.kind= .function):
 bW (model prog w) A (.call (.ref a) args) R s:=by
 refine cV rfl ?_;show al _ A.in1 (callAny (.ref a) args) _ _ s;dsimp only [callAny];refine aX (wpAny_load ho ?_);refine dZ (hcd) fun c oc vs tq hc hoc hdc hq=>?_;rw [hdata];dsimp only;unfold callFunction;rw [hc,hbody,hgen,hco];dsimp only;refine aX (m:=field (.ref c) 1) (wpAny_field hoc hdc hq (aX (Tm ?_)));refine aX (hbind _ _ _ _ ?_);rw [←hc];refine aX (wpAny_newFunctionEnv SX hloc (fun Pu hns₀ SU=>?_) hk);exact aX (wpAny_enterFrame (hlim.fresh _ SU) SV (aG ⟨rfl,rX (h Pu hns₀ fun b o e=>SU.extBut b o (Nat.ne_of_lt (Heap.lt_size e)) (Tp _ e))⟩))
theorem jG {F1:List Expr} {x1} {pos:Pos} {t:Addr} {items:Array Value} {Q:Unit->Shared->Prop} (hh:A.handled=none) (ht:s.heap.IsTuple t items)
 (hn:(assignEach F1 env).length=items.size) (hstar:(assignEach F1 env).findIdx? (·.1)=none)
 (h:∀h',Heap.ExtBut s.heap.objs.size s.heap h'->al (model prog w) A (assignInOrder ((assignEach F1 env).map (·.2)) items.toList) Q E {s with heap:=h'}):
 al (model prog w) A (assign (.Tuple F1 x1 pos) env (.ref t)) Q E s:=by
 rw [arm_assign_Tuple];refine bo ?_;unfold unpack;rw [hn,hstar];exact be (bN (.of (wpAny_unpackItems_tuple hh ht h)))
end
section
variable {prog:Program} {w:World} {A:Around} {C:Addr} {R:Result->Shared->Prop} {h:Heap} {g:Array GenState} {d:Drawn} {t:Nat} {os:OsState}
theorem j5 {s:Shared} {id:String} {args:Args} {b:Builtin} (hd:(Builtin.Bytes.decodersThatHold.contains id||guardIds.contains id)=false) (hb:entryFor table id=some b)
 (h:al (model prog w) (A.under (.builtin id args)) (b args) (fun fin s'=>match fin with| .done f=>R (.ok f) s'| .again c'=>c'.quiet=true/\bW (model prog w) A c' R s') (fun e s'=>R (.error e) s') s):
 bW (model prog w) A (.builtin id args) R s:=by
 refine cV hd ?_;show al _ _ (match entryFor table id with|some b=>b args|none=>unsupported ((withoutEnding? id "#data").getD id)) _ _ s;rw [hb];exact h
theorem fA {s:Shared} {id:String} {args:Args} {b:Builtin} (hq:(Code.builtin id args).quiet=true) (hd:(Builtin.Bytes.decodersThatHold.contains id||guardIds.contains id)=false) (hb:entryFor table id=some b)
 (h:al (model prog w) A.in1 (checkBuiltinCall id args) (fun _ o0=>al (model prog w) (A.under (.builtin id args)) (b args)
  (fun fin s'=>match fin with| .done f=>R (.ok f) s'| .again c'=>c'.quiet=true/\bW (model prog w) A c' R s') (fun e s'=>R (.error e) s') o0) (fun e s'=>R (.error e) s') s):
 bW (model prog w) A (.call (.builtin id) args) R s:=by
 refine cV rfl ?_;show al _ A.in1 (do checkBuiltinCall id args;again (.builtin id args)) _ _ s;exact bC h fun _ o0 F5=>aG ⟨hq,j5 hd hb F5⟩
theorem rV {a':List Value} {init:Value} (Y:Makes (model prog w) h C) (hi:Looks (model prog w) h (typeLookup (.ref C) "__init__") (some init))
 (hb:∀self,Looks (model prog w) h (bindSpecial init self) (init,[self])) (Fd:(some init !=some (Value.builtin "object.__init__"))=true)
 (hq:bW (model prog w) (A.under (.builtin "type.__call__" ⟨.ref C::a',[]⟩)) (.call init ⟨.ref (h.objs.size+1)::a',[]⟩) (InitBack (h.objs.size+1) R) ⟨(h.push emptyDict).push (instObj C h.objs.size),g,d,t,os⟩):
 bW (model prog w) A (.call (.ref C) ⟨a',[]⟩) R ⟨h,g,d,t,os⟩:=by
 have Y':=Y;obtain⟨⟨oc,od,cd,sl,hC,e1,e2,e4⟩,made,base,self,top,call,typ⟩:=Y;refine cV rfl ?_;show al _ _ (callAny (.ref C) _) _ _ _;have pre:wpAny (model prog w) (A.under (.call (.ref C) ⟨a',[]⟩)) (callAny (.ref C) ⟨a',[]⟩) (fun fin s'=>fin=Fin.again (.call (.builtin "type.__call__") ⟨.ref C::a',[]⟩)/\s'=⟨h,g,d,t,os⟩) (fun _ _=>False) ⟨h,g,d,t,os⟩:=by
  refine nd_load hC ?_;show wpAny _ _ (callAny.viaDunder (.ref C) _) _ _ _;unfold callAny.viaDunder;refine Te (call.at ?_);dsimp only;rw [tc_bind];refine Te (Tm (Te (Tm ?_)));exact Tm (a:=Fin.again (.call (.builtin "type.__call__") ⟨.ref C::a',[]⟩)) ⟨rfl,rfl⟩
 refine cy (.of pre) (fun fin s' zp89=>a0 zp89 fun e es=>?_) fun _ _ z=>z.elim;subst e;subst es;refine⟨rfl,fA (Code.quiet_builtin _ (by decide+kernel)) (by decide+kernel) entry_typeCall (.of (check_slot tc_kind tc_split typ (tc_args _ _ _) ?_))⟩;show al _ _ (Builtin.«type.__call__» ⟨.ref C::a',[]⟩) _ _ _;unfold Builtin.«type.__call__»;have hm:Looks (model prog w) h (mroOf (.ref C)) cd.mro:=((Looks.ld (part:=none) hC).andThen .now).andThen .now;have k:∀b o,h.get? b=some o->((h.push emptyDict).push (instObj C h.objs.size)).get? b=some o:=fun b o e=>Tp _ (Tp _ e);have hx:((h.push emptyDict).push (instObj C h.objs.size)).get? (h.objs.size+1)=some (instObj C h.objs.size):=by heap_get
 have t1:Looks (model prog w) ((h.push emptyDict).push (instObj C h.objs.size)) (typeOf (.ref (h.objs.size+1))) (.ref C):=(Looks.ld hx).andThen .now;have s1:=self.keeps k;have i1:=hi.keeps k;have b1:=(hb (.ref (h.objs.size+1))).keeps k;have isI:Looks (model prog w) ((h.push emptyDict).push (instObj C h.objs.size)) (isInstance (.ref (h.objs.size+1)) (.ref C)) true:=by
  unfold isInstance;exact t1.andThen s1
 have spI:Looks (model prog w) ((h.push emptyDict).push (instObj C h.objs.size)) (specialOf (.ref (h.objs.size+1)) "__init__") (some init):=by
  unfold specialOf;exact t1.andThen i1
 show al _ _ (mroOf (.ref C)>>=_) _ _ _;refine aX (hm.at ?_);dsimp only;rw [Tc (by rw [e4];decide)];refine aX (made.at ?_);refine cC ?_;refine aX (wpAny_holding (wpAny_call (new_K Y' hi (.inl Fd) ?_)));refine aX (isI.at ?_);try dsimp only
 rw [Tc (by decide)];refine be (bN ?_);unfold callSpecial?;refine aX (spI.at ?_);dsimp only;refine bN (aX (b1.at ?_));refine be (gM ?_);refine cZ hq fun r s' z=>?_;rcases r with e|(v|_|_|_)<;>first|exact z|exact z.elim|skip
 obtain⟨rfl,z⟩:=z;refine aG ?_;exact aG z
end
namespace Hc
noncomputable abbrev WalkC (q:Program) (loose:List Str) (XP:(Str→Option Value)→Heap→Prop) (YP:World→Heap→Prop) (r:RowW):Prop:=
 ∀(w:World) (s₀ o0:Shared) (mg mb:Str→Option Value),Ground q loose r.records XP w s₀ mg mb o0.heap→YP w o0.heap→∀(a:Addr),mg r.name=some (.ref a)→o0.gens=#[]→
  ∀(args:List WData) (on:List Value) (as:List Addr),r.claim.pre args=true→WData.layableAll args=true→ReadsAllW r.records (classAt s₀.heap) o0.heap on args as→WellAll w.params o0.heap on args→(∀a∈as,(a==sysModules)=false)→
   al (model r.prog w) callerA (call (.ref a) on) (fun v s'=>GoodWG r.claim (classAt s₀.heap) (ExcName.means s₀.heap) args o0 (.ok (.ret v)) s')
    (fun e s'=>GoodWG r.claim (classAt s₀.heap) (ExcName.means s₀.heap) args o0 (.error e) s') o0
noncomputable abbrev Γ₀:Ctx:=⟨.builtin "claim.caller" {},none,none,[],none⟩
theorem clean₀:CM Γ₀:=⟨by show(Builtin.Bytes.decodersThatHold.contains "claim.caller"||guardIds.contains "claim.caller")=false;decide+kernel,fun _ h=>nomatch h⟩
theorem ends {prog:Program} {w:World} {t:Sem Fin} {s:Shared} {R:Result→Shared→Prop} (hreg:s.asleep)
 (h:al (model prog w) callerA t (fun fin s'=>∃f,fin= .done f∧R (.ok f) s'∧AllBare s'.gens) (fun e s'=>R (.error e) s'∧AllBare s'.gens) s):
 ∃n r s' Sl,runN (denote table) prog w n s ⟨t,.builtin "claim.caller" {},default,[]⟩= .halted (outcomeOf r) s'∧
  schedN (denote table) prog w n (.single s ⟨t,.builtin "claim.caller" {},default,[]⟩)= .halted (outcomeOf r) s'∧s'.forget=Sl.forget∧R r Sl:=by
 have key:Sem.wp (model prog w) Γ₀ t (Sem.finPost (model prog w) Γ₀ fun r s'=>R r s'∧leftWithCleanup s'.gens=false) (fun e _ s'=>R (.error e) s'∧leftWithCleanup s'.gens=false) default s:=by
  refine Sem.wp_mono _ _ t (fun fin p s' z=>?_) (fun e p s' z=>⟨z.1,leftWithCleanup_false_of_bare z.2⟩) default s (h Γ₀ default caller_in clean₀);(refine cB (z) fun f j' z1 z2=>?_;subst j');exact⟨z1,leftWithCleanup_false_of_bare z2⟩
 refine dZ (wp_halts_full (M:=model prog w) (R:=R) hreg key) fun n r s1 s2 e1 e2 e3 e4=>?_;exact(ge n r s2 s1 (bJ e2 e1 e3 e4))
theorem head_open {r:OpenRow} (H:Hook) (q:Program) (loose:List Str) (N:Nat) {d:DefRec} {kwd:List (Str×Expr)}
 (hdef:defOf q r.name=some (d,kwd)) (hp:r.prog.theDef r.name=some (d.params,d.body,d.scope)) (hk:kwWritten? d.params.kwonlyargs d.params.kw_defaults=some kwd) (hRe:r.records=[]) (hwr:(!r.writes||r.records.isEmpty)=true)
 (k1:r.wellSaid=true) (ok:(chainsOk q&&opensWell r.prog&&(frees r.toRowW&&r.within.isEmpty))=true) (hb:r.prog.bare) (hw:r.toRowW.promised)
 (walk:LeftO r.prog q loose (fun s=>xlAt q [] s) H.obs H.val N∧WalkC q loose (XL q []) H.says r.toRowW):r.Holds:=by
 refine a0 (walk) fun left walk=>?_;have hX:∀s,xlAt q [] s=true→XL q [] (s.heap.nsMap mainGlobals) s.heap:=fun s e=>xl_of s e;have hXk:∀mg h h',XL q [] mg h→(∀b o,h.get? b=some o→h'.get? b=some o)→XL q [] mg h':=XL.keeps;have hRf:∀s,xlAt q [] s=true→RecFacts r.records s.heap:=fun s _=>recFacts_nil hRe;have hY:=H.of;have hYk:=H.keeps;simp only [Bool.and_eq_true] at ok;(refine bp (ok) fun j' hfr hwi=>?_;refine a0 (j') fun hch hop=>?_);refine eV (frees_parts hfr) fun hsame hu ha hap hm=>?_;have hwi:r.toRowW.claim.within=[]:=List.isEmpty_iff.mp hwi;refine(cn k1 hw (aN hb hop (by show r.toRowW.makers.map _=[];rw [hm];rfl)) hw.witness (fun w=>⟨(left.behind hX hch w).1,fun sE hE=>?_⟩));refine ax ((left.behind (XP:=fun mg h=>XL q [] mg h∧RecFacts r.records h) (fun s hs=>⟨hX s hs,hRf s hs⟩) hch w).2 sE hE) fun s₀ El=>bp El fun hf hg0 La=>ax La fun s zq2=>eF zq2 fun hT hz hgens hg GX y=>?_;have G0:Ground q loose [] (XL q []) w s (s.heap.nsMap mainGlobals) (s.heap.nsMap builtinsNs) s.heap:={GX with X:=GX.X.1}
 have RF:=GX.X.2;have hgens:s.gens=#[]:=Array.eq_empty_of_size_eq_zero (beq_iff_eq.mp hgens);have G:=RF.ground G0;refine(dH s₀ (aN hf hg0 (dH s (cn hT (fun n hn=>?_) RF.1 RF.2.1 (fun args hpre hlay ord hord=>?_)))))
 ·obtain rfl:n=r.name:=by split at hn<;>simp_all
  exact pinned_of_view hg G0 hdef hp hk
 (refine ax (Option.isSome_iff_exists.mp (layAllW_isSome (P:=w.params) (ord:=ord) G.has args r.args s (pre_splitW hpre).1)) fun j' hlaid=>?_;obtain⟨vs,o0⟩:=j');have keeps:=layAllW_keeps _ _ _ hlaid;have hal:=layAllW_rest _ _ _ hlaid;refine cB (reads_layAllW hord _ _ _ hlaid hlay o0.heap (fun _ _ e=>e)) fun as hrd hin hold=>?_;have L:Laid r.records w s o0 args vs as:=⟨(aj ord hord hlaid),hrd,hin,hold,keeps,hal.1.trans hgens,hal.2.2.1⟩
 have G₁:=G.keeps hXk keeps;refine lT (G₁.fn hdef) fun a o pm cd doc dV kV El=>a0 El fun h1 _=>?_;have main:=walk w s o0 _ _ G₁ (hYk _ _ _ (hY w s y) keeps) a (defOf_name hdef▸h1) L.gens args vs as hpre hlay L.reads L.well (L.low G.low);have hi:=ident_freeW hu ha hap;have fin:∀{res:Result} {s':Shared},GoodWG r.toRowW.claim (classAt s.heap) (ExcName.means s.heap) args o0 res s'→
  (r.toRowW.claim.Ends s args vs o0 res s'∧s'.os=s.os∧(r.writes=true→namesKept r.toRowW.claim.prog r.keeps s.heap s'.heap∧∀x∈r.toRowW.claim.records,∀a,classAt s.heap x.1=some a→recordClass s'.heap a x.1 (x.2.map (·.1))=true))∧AllBare s'.gens:=fun {res s'} g=>by
  have z:=g.laid (c:=r.toRowW.claim) hsame hwi hi L;exact⟨(aN z.1 z.2.1 (fun q=>⟨namesKept_of hT hg r.keeps keeps g.2.1.old,noTable hwr q⟩)),z.2.2⟩
 refine eT (ends (prog:=r.prog) (w:=w) (s:=o0) (t:=do match ←nsGet mainNs r.name with
  |some f=>do ret (←PySem.call f vs)
  |none=>unsupported "claim.caller:no-such-global") (R:=fun res s'=>r.toRowW.claim.Ends s args vs o0 res s'∧s'.os=s.os∧
  (r.writes=true→namesKept r.toRowW.claim.prog r.keeps s.heap s'.heap∧∀x∈r.toRowW.claim.records,∀a,classAt s.heap x.1=some a→recordClass s'.heap a x.1 (x.2.map (·.1))=true))
  (Shared.asleep_of_life hal.2.2.2 hz) (aX (wpAny_nsGet G₁.T.g (by
   rw [h1];exact bC main fun v s' g=>aG (aj _ rfl (fin g))))|>fun z=>cy z (fun _ _ x=>x) fun e s' g=>fin g)) fun n res s' Sl hrun hsched hfo hcase hos hkp=>?_
 refine eV (Shared.forget_eq hfo) fun eh _ _ eo _=>?_;have hcase:=hcase.congr eh;rw [←eh] at hkp;rw [←eo] at hos;refine(cA vs o0 (cN hlaid (bc n _ s' (bF hsched ?_ (fun _ i x hx=>by rw [hgens] at hx;trivial) hkp (by rw [(runN_life _ _ _ hrun).trans hal.2.2.2]) (Shared.rest_eq hos)))));rcases hcase with⟨v,rfl,d1,d2,d3,d4,d5⟩|⟨e,ob,cls,rfl,d1,d2,d3,d4,d5⟩
 ·exact .inl (ja v rfl d1 d2 d3 (fun b o y _=>d4 b o y) d5)
 ·exact .inr (bc e ob cls (bF rfl d1 d2 d3 d4 (fun b o y _=>d5 b o y)))
noncomputable abbrev keepQ:List Nat:=[1,2,4,5,6,7,8,9,10,11,12,13,14,15,17,18,19,20,21,22,24,25,26,27,28,29,30,31,32,33,34]
theorem wsaid:PySem.Challenge.rw_og0264_01.wellSaid=true:=by rw [PySem.W.Fast.te9446332074065402090];kernel_rfl
theorem hop (H:Hook) (said:PySem.Challenge.rw_og0264_01.row.wellSaid=true) (hw:PySem.Challenge.rw_og0264_01.row.toRowW.promised)
 (hc:LeftO PySem.Challenge.rw_og0264_01.row.prog (view PySem.Challenge.pw_og0264_01 keepQ) ["TermError","read_commands"] (fun s=>xlAt (view PySem.Challenge.pw_og0264_01 keepQ) [] s) H.obs H.val 6000∧WalkC (view PySem.Challenge.pw_og0264_01 keepQ) ["TermError","read_commands"] (XL (view PySem.Challenge.pw_og0264_01 keepQ) []) H.says PySem.Challenge.rw_og0264_01.row.toRowW):
 PySem.Challenge.rw_og0264_01.row.Holds:=by
 exact head_open H (view PySem.Challenge.pw_og0264_01 keepQ) ["TermError","read_commands"] 6000 (by rfl) (by rfl) (by rfl) (by rfl) (by rfl) (by first|assumption|decide+kernel) (by decide+kernel) ⟨rfl,rfl,rfl,rfl,rfl,by decide+kernel⟩ hw hc
local macro_rules | `(tactic| o_law)=> `(tactic| refine holds_law wsaid fun said=>?_)
local macro_rules | `(tactic| o_head $H)=> `(tactic| refine hop $H (by assumption) ?hw ?hc)
open_top hd for PySem.Challenge.rw_og0264_01
end Hc
namespace Hc
noncomputable def topRunT (st:(Code->Sem Fin)->Program->World->SharedT->Thread->Option (SharedT×Thread)) (den:(String->Option Builtin)->Code->Sem Fin) (okk:Nat->Option Value->Thread->Bool) (tb:String->Option Builtin) (p:Program) (w:World) (n₀:Nat) (ann:Option Value):Nat->SharedT->Thread->Option SharedT
 |0,_,_=>none
 |n+1,s,t=>match through t with
  |true=>some s
  |false=>match okk n₀ ann t with
   |false=>none
   |true=>match st (den tb) p w s t with
    |some (s',t')=>topRunT st den okk tb p w n₀ ann n s' t'
    |none=>none
theorem topRunT_of {tb:String->Option Builtin} {p:Program} {w:World} {n₀:Nat} {ann:Option Value} (n:Nat) (s s':SharedT) (t:Thread) (h:topRunT stepT denote stepOk tb p w n₀ ann n s t=some s'):topRun tb p w n₀ ann n s.abs t=some s'.abs:=by
 induction n generalizing s t with
 |zero=>cases h
 |succ n ih=>
  show(match through t with|true=>some s.abs|false=>match stepOk n₀ ann t with|false=>none|true=>match step (denote tb) p w s.abs t with| .go s' t'=>topRun tb p w n₀ ann n s' t'| .halt _ _=>none)=_;replace h:(match through t with|true=>some s|false=>match stepOk n₀ ann t with|false=>none|true=>match stepT (denote tb) p w s t with|some (s',t')=>topRunT stepT denote stepOk tb p w n₀ ann n s' t'|none=>none)=some s':=h;cases ht:through t with
  |true=>rw [ht] at h;cases h;rfl
  |false=>
   rw [ht] at h;cases hk:stepOk n₀ ann t with
   |false=>rw [hk] at h;cases h
   |true=>
    rw [hk] at h;cases hs:stepT (denote tb) p w s t with
    |none=>rw [hs] at h;cases h
    |some q=>
     obtain⟨w',t₂⟩:=q;rw [hs] at h;dsimp only at h ⊢;rw [stepT_spec hs];exact ih w' t₂ h
noncomputable def treeOf:List Obj->Nat->BT->BT
 |[],_,t=>t
 |o::r,n,t=>treeOf r (n+1) (t.ins n o)
noncomputable abbrev tb1:String->Option Builtin:=PySem.W.Fast.tw14364793385576792824
noncomputable abbrev PP:Program:=Challenge.pw_og0264_01
noncomputable abbrev QQ:Program:=view Challenge.pw_og0264_01 keepQ
noncomputable def T0 (P:Params):BT:=treeOf (boot_heap P).objs.toList 0 .nil
theorem boot_abs (P:Params):absHeap (T0 P) 11 (boot_heap P).life=boot_heap P:=by kernel_rfl
noncomputable def ranT (w:World) (os:OsState):Option SharedT:=topRunT PySem.W.Fast.tw10156331382660048174 PySem.W.Fast.tw11892475500146522536 PySem.W.Fast.tw6613529449190102663 tb1 PP w 11 (some (.ref 6)) 6000 ⟨T0 w.params,11,(boot_heap w.params).life,Array.mk [],boot_drawn,boot_toks,os⟩ (topStub PP)
noncomputable abbrev loQ:List Str:=["TermError","read_commands"]
noncomputable abbrev seenQ (s:Shared):=PySem.W.Fast.tw4187177175401517315 QQ loQ (PySem.W.Fast.tw5923862056798008813 PP.main.body) (fun s=>xlAt QQ [] s) true s
noncomputable abbrev goodQ:=openGood QQ loQ
theorem ran_a (w:World) (os:OsState):(ranT w os).map (fun s=>((staticsOk (importedModules PP.main.body) (boot_heap w.params) s.abs.heap&&namesBound PP s.abs.heap&&gensDone s.abs&&laidKept (boot_heap w.params) s.abs.heap),((hd.heap_1 w.params).map (·.1)).map s.abs.heap.get?,(seenQ s.abs).1))=
 some (true,((hd.heap_1 w.params).map fun p=>some p.2),goodQ.1):=by kernel_rfl
theorem ran_b (w:World) (os:OsState):(ranT w os).map (fun s=>((seenQ s.abs).2.1,(seenQ s.abs).2.2.1,(seenQ s.abs).2.2.2.1,(seenQ s.abs).2.2.2.2))=some (goodQ.2.1,goodQ.2.2.1,goodQ.2.2.2.1,goodQ.2.2.2.2):=by kernel_rfl
theorem boot_look (P:Params):((boot_heap P).isNs mainGlobals&&(0==0:Bool),(boot_heap P).objs.size,(boot_heap P).nsMap mainGlobals "__annotations__")=(true,11,some (.ref 6)):=by kernel_rfl
theorem left_all (w:World) (as:List Addr) (e:as=(hd.heap_1 w.params).map (·.1)):(openEnds treeTable PP w 6000).map (fun s=>(openSeen QQ loQ (importedModules PP.main.body) (fun s=>xlAt QQ [] s) true s,as.map s.heap.get?))=
 some (openGood QQ loQ,(hd.heap_1 w.params).map fun p=>some p.2):=by
 subst e;(refine aw (Option.map_eq_some_iff.mp (boot_open (p:=PP) (N:=6000) (by kernel_rfl) (by kernel_rfl) (fun s=>by kernel_rfl) w)) fun j' ho hv=>?_;obtain⟨h,gs,d,k,os⟩:=j');obtain⟨rfl,rfl,rfl,rfl⟩:h=boot_heap w.params/\gs=Array.mk []/\d=boot_drawn/\k=boot_toks:=by simpa using hv
 refine aw (Option.map_eq_some_iff.mp (ran_a w os)) fun s hs ea=>?_;refine aw (Option.map_eq_some_iff.mp (ran_b w os)) fun s2 hs2 eb=>?_;obtain rfl:s2=s:=Option.some.inj (hs2.symm.trans hs);have hr:ranT w os=some s2:=hs;unfold ranT tb1 at hr;rw [←PySem.W.Fast.te10156331382660048174,←PySem.W.Fast.te11892475500146522536,←PySem.W.Fast.te6613529449190102663,←PySem.W.Fast.te14364793385576792824] at hr;replace hr:=topRunT_of _ _ _ _ hr;have e0:(SharedT.abs ⟨T0 w.params,11,(boot_heap w.params).life,Array.mk [],boot_drawn,boot_toks,os⟩)=⟨boot_heap w.params,Array.mk [],boot_drawn,boot_toks,os⟩:=by
  show(⟨absHeap (T0 w.params) 11 (boot_heap w.params).life,_,_,_,_⟩:Shared)=_;rw [boot_abs]
 rw [e0] at hr;refine a0 (Prod.mk.inj ea) fun a1 a2=>?_;refine a0 (Prod.mk.inj a2) fun a2 a3=>?_;refine a0 (Prod.mk.inj eb) fun b1 b2=>?_;refine a0 (Prod.mk.inj b2) fun b2 b3=>?_;refine a0 (Prod.mk.inj b3) fun b3 ec=>?_;refine a0 (Prod.mk.inj (boot_look w.params)) fun z1 z2=>?_;refine a0 (Prod.mk.inj z2) fun z2 z3=>?_;have t:topFrom treeTable PP w 6000 ⟨boot_heap w.params,Array.mk [],boot_drawn,boot_toks,os⟩=some s2.abs:=by
  unfold topFrom;dsimp only;rw [show((boot_heap w.params).isNs mainGlobals&&(Array.mk ([]:List GenState)).size==0)=true from z1,z2,z3,hr];rw [Option.bind_some,a1]
 unfold openEnds;rw [ho,Option.bind_some,t,Option.map_some];have hq:openSeen QQ loQ (importedModules PP.main.body) (fun s=>xlAt QQ [] s) true s2.abs=goodQ:=by
  rw [PySem.W.Fast.te4187177175401517315,PySem.W.Fast.te5923862056798008813];exact Prod.ext a3 (Prod.ext b1 (Prod.ext b2 (Prod.ext b3 ec)))
 rw [hq,a2]
theorem headed (walk:WalkC QQ loQ (XL QQ []) (InK hd.heap_1) Challenge.rw_og0264_01.row.toRowW):Challenge.rw_og0264_01.Holds:=
 hd ⟨fun w=>left_all w _ (by kernel_rfl),walk⟩
end Hc
open Hc
inductive LN|v (i:Nat)|k (n:Nat)|a (x y:LN)|m (n:Nat) (x:LN)|r (x:LN) (n:Nat)
inductive LZ|c (x:LN)|k (n:Int)|a (x y:LZ)|s (x y:LZ)|g (x:LZ)|m (n:Int) (x:LZ)
noncomputable def ry:List Nat->Nat->Nat|[],_=>0|x::_,0=>x|_::l,i+1=>ry l i
noncomputable def LN.d (ns:List Nat) (x:LN):Nat:=x.rec (ry ns) id (fun _ _ a b=>a+b) (fun n _ b=>n*b) (fun _ n b=>b*n)
noncomputable def LZ.d (ns:List Nat) (x:LZ):Int:=x.rec (fun x=>(x.d ns:Nat)) id (fun _ _ a b=>a+b) (fun _ _ a b=>a-b) (fun _ a=>-a) (fun n _ a=>n*a)
noncomputable def oz (x:List Int):List Int->List Int:=x.rec id fun a _ r y=>y.rec (a::r []) fun b l _=>(a+b)::r l
noncomputable def rD (k:Int) (x:List Int):List Int:=x.map (k*·)
noncomputable def uZ (i:Nat):List Int:=i.rec [1] fun _ r=>0::r
noncomputable def eR (x:List Int):List Nat->Int:=x.rec (fun _=>0) fun a _ r y=>y.rec 0 fun b l _=>a*b+r l
noncomputable abbrev LF:=Int×List Int
noncomputable def LF.add (f g:LF):LF:=(f.1+g.1,oz f.2 g.2)
noncomputable def LF.mul (k:Int) (f:LF):LF:=(k*f.1,rD k f.2)
noncomputable def LN.f (x:LN):LF:=x.rec (fun i=>(0,uZ i)) (fun n=>(n,[])) (fun _ _ a b=>a.add b) (fun n _ b=>b.mul n) (fun _ n b=>b.mul n)
noncomputable def LZ.f (x:LZ):LF:=x.rec LN.f (fun n=>(n,[])) (fun _ _ a b=>a.add b) (fun _ _ a b=>a.add (b.mul (-1))) (fun _ a=>a.mul (-1)) (fun n _ a=>a.mul n)
theorem vj (l:List Nat):eR [] l=0:=rfl
theorem A7 (a b c d:Int):(a+c)+(b+d)=(a+b)+(c+d):=by rw [Int.add_assoc,Int.add_left_comm c,←Int.add_assoc]
theorem lm:∀(a b:List Int) (l:List Nat),eR (oz a b) l=eR a l+eR b l
 |[],b,l=>(Int.zero_add _).symm
 |x::a,[],[]=>rfl
 |x::a,[],n::l=>by show x*n+eR (oz a []) l=(x*n+eR a l)+0;rw [lm a [] l,vj,Int.add_zero,Int.add_zero]
 |x::a,y::b,[]=>rfl
 |x::a,y::b,n::l=>by show(x+y)*n+eR (oz a b) l=(x*n+eR a l)+(y*n+eR b l);rw [lm a b l,Int.add_mul,A7]
theorem oV (k:Int):∀(a:List Int) (l:List Nat),eR (rD k a) l=k*eR a l
 |[],l=>(Int.mul_zero k).symm
 |x::a,[]=>(Int.mul_zero k).symm
 |x::a,n::l=>by show k*x*n+eR (rD k a) l=k*(x*n+eR a l);rw [oV k a l,Int.mul_add,Int.mul_assoc]
theorem oS:∀(i:Nat) (l:List Nat),eR (uZ i) l=ry l i
 |0,[]=>rfl
 |0,n::l=>(Int.add_zero _).trans (Int.one_mul _)
 |i+1,[]=>rfl
 |i+1,n::l=>by show 0*n+eR (uZ i) l=ry l i;rw [oS i l,Int.zero_mul,Int.zero_add]
noncomputable def LF.e (ns:List Nat) (f:LF):Int:=f.1+eR f.2 ns
theorem LF.e_add (ns) (f g:LF):(f.add g).e ns=f.e ns+g.e ns:=by
 show f.1+g.1+eR (oz f.2 g.2) ns=_;rw [lm,A7];rfl
theorem LF.e_mul (ns) (k:Int) (f:LF):(f.mul k).e ns=k*f.e ns:=by
 show k*f.1+eR (rD k f.2) ns=k*(f.1+eR f.2 ns);rw [oV,Int.mul_add]
theorem LN.f_e (ns:List Nat) (x:LN):x.f.e ns=x.d ns:=by
 induction x with
 |v i=>exact(Int.zero_add _).trans (oS i ns)
 |k n=>exact Int.add_zero _
 |a x y h1 h2=>exact(LF.e_add ns x.f y.f).trans (by rw [h1,h2];rfl)
 |m n x h=>exact(LF.e_mul ns n x.f).trans (by rw [h];rfl)
 |r x n h=>exact(LF.e_mul ns n x.f).trans (by rw [h,Int.mul_comm];rfl)
theorem LF.e_neg (ns) (f:LF):(f.mul (-1)).e ns= -f.e ns:=(LF.e_mul ns _ f).trans (Int.neg_one_mul _)
theorem LZ.f_e (ns:List Nat) (x:LZ):x.f.e ns=x.d ns:=by
 induction x with
 |k n=>exact Int.add_zero _
 |c x=>exact LN.f_e ns x
 |a x y h1 h2=>exact(LF.e_add ns x.f y.f).trans (by rw [h1,h2];rfl)
 |s x y h1 h2=>exact(LF.e_add ns x.f (y.f.mul (-1))).trans (by rw [LF.e_neg,h1,h2];rfl)
 |g x h=>exact(LF.e_neg ns x.f).trans (by rw [h];rfl)
 |m n x h=>exact(LF.e_mul ns n x.f).trans (by rw [h];rfl)
inductive LC|nl (x y:LN)|nn (x y:LN)|ne (x y:LN)|zl (x y:LZ)|zn (x y:LZ)|ze (x y:LZ)
noncomputable def LC.h (ns:List Nat) (c:LC):Prop:=c.casesOn (fun x y=>x.d ns<=y.d ns) (fun x y=>¬x.d ns<=y.d ns) (fun x y=>x.d ns=y.d ns)
 (fun x y=>x.d ns<=y.d ns) (fun x y=>¬x.d ns<=y.d ns) (fun x y=>x.d ns=y.d ns)
noncomputable def LF.dif (y x:LF) (k:Int):LF:=(LF.add y (LF.mul (-1) x)).add (k,[])
noncomputable def LC.f (c:LC):LF×Bool:=c.casesOn (fun x y=>(y.f.dif x.f 0,false)) (fun x y=>(x.f.dif y.f (-1),false)) (fun x y=>(y.f.dif x.f 0,true))
 (fun x y=>(y.f.dif x.f 0,false)) (fun x y=>(x.f.dif y.f (-1),false)) (fun x y=>(y.f.dif x.f 0,true))
theorem LF.e_dif (ns) (y x:LF) (k:Int):(y.dif x k).e ns=y.e ns-x.e ns+k:=by
 show((LF.add y (LF.mul (-1) x)).add (k,[])).e ns=_;rw [LF.e_add,LF.e_add,LF.e_neg];exact congrArg _ (Int.add_zero k)
theorem xl {ns} {x y:LF} (h:x.e ns<=y.e ns):0<=(y.dif x 0).e ns:=by rw [LF.e_dif,Int.add_zero];exact Int.sub_nonneg_of_le h
theorem xk {ns} {x y:LF} (h:¬x.e ns<=y.e ns):0<=(x.dif y (-1)).e ns:=by rw [LF.e_dif];exact Int.le_sub_one_of_lt (Int.sub_pos_of_lt (Int.not_le.mp h))
theorem xm {ns} {x y:LF} (h:x.e ns=y.e ns):(y.dif x 0).e ns=0:=by rw [LF.e_dif,h,Int.sub_self];rfl
theorem LC.f_h (ns:List Nat) (c:LC) (h:c.h ns):0<=c.f.1.e ns/\(c.f.2=true->c.f.1.e ns=0):=by
 cases c with
 |nl x y=>exact⟨xl (by rw [LN.f_e,LN.f_e];exact TQ.mpr h),fun e=>Bool.noConfusion e⟩
 |nn x y=>exact⟨xk (by rw [LN.f_e,LN.f_e];exact fun e=>h (TQ.mp e)),fun e=>Bool.noConfusion e⟩
 |ne x y=>have e:(y.f.dif x.f 0).e ns=0:=xm (by rw [LN.f_e,LN.f_e];exact congrArg _ h);exact⟨Int.le_of_eq e.symm,fun _=>e⟩
 |zl x y=>exact⟨xl (by rw [LZ.f_e,LZ.f_e];exact h),fun e=>Bool.noConfusion e⟩
 |zn x y=>exact⟨xk (by rw [LZ.f_e,LZ.f_e];exact h),fun e=>Bool.noConfusion e⟩
 |ze x y=>have e:(y.f.dif x.f 0).e ns=0:=xm (by rw [LZ.f_e,LZ.f_e];exact h);exact⟨Int.le_of_eq e.symm,fun _=>e⟩
noncomputable def rz (cs:List LC):List Int->LF:=cs.rec (fun _=>(0,[])) fun c _ r ks=>ks.rec (0,[]) fun k ks _=>(c.f.1.mul k).add (r ks)
noncomputable def tj (cs:List LC):List Int->Bool:=cs.rec (fun _=>true) fun c _ r ks=>ks.rec true fun k ks _=>(c.f.2||decide (0<=k))&&r ks
noncomputable def Bc (x:List Int):Bool:=x.all (decide<|·<=0)
noncomputable def LF.bad (f:LF):Bool:=decide (f.1<0)&&Bc f.2
noncomputable def i_ (cs:List LC) (ks:List Int):Bool:=tj cs ks&&(rz cs ks).bad
noncomputable def rA (ns:List Nat) (cs:List LC):Prop:=cs.rec True fun c _ r=>c.h ns/\r
theorem oy (ns):∀(cs:List LC) (ks:List Int),tj cs ks=true->rA ns cs->0<=(rz cs ks).e ns
 |[],ks,_,_=>Int.le_refl _
 |c::cs,[],_,_=>Int.le_refl _
 |c::cs,k::ks,h,a=>by
  have h:=Bool.and_eq_true_iff.mp h;have i:=oy ns cs ks h.2 a.2;have j:=LC.f_h ns c a.1;show 0<=((c.f.1.mul k).add (rz cs ks)).e ns;rw [LF.e_add,LF.e_mul];refine Int.add_nonneg ?_ i;cases Bool.or_eq_true_iff.mp h.1 with
  |inl e=>rw [j.2 e,Int.mul_zero];exact Int.le_refl _
  |inr e=>exact Int.mul_nonneg (Tb e) j.1
theorem oU:∀(a:List Int) (l:List Nat),Bc a=true->eR a l<=0
 |[],l,_=>Int.le_refl _
 |x::a,[],_=>Int.le_refl _
 |x::a,n::l,h=>have h:=Bool.and_eq_true_iff.mp h
  Int.add_le_add (Int.mul_nonpos_of_nonpos_of_nonneg (Tb h.1) (Int.natCast_nonneg n)) (oU a l h.2)
theorem fZ {ns} {cs:List LC} {ks:List Int} (h:i_ cs ks=true) (a:rA ns cs):False:=by
 have h:=Bool.and_eq_true_iff.mp h;have g:=Bool.and_eq_true_iff.mp h.2;have j:=oU _ ns g.2;exact absurd (oy ns cs ks h.1 a) (Int.not_le.mpr (Int.lt_of_lt_of_le (Int.add_lt_add_of_lt_of_le (Tb g.1) j) (Int.le_refl _)))
noncomputable def kL (ns:List Nat) (p:Prop) (cs:List LC):Prop:=cs.rec p fun c _ r=>c.h ns->r
theorem gP {ns} {p:Prop}:∀{cs:List LC},(rA ns cs->p)->kL ns p cs
 |[],h=>h trivial
 |_::_,h=>fun a=>gP fun b=>h ⟨a,b⟩
theorem ai (ns:List Nat) (cs:List LC) (ks:List Int) (h:i_ cs ks=true):kL ns False cs:=gP (fZ h)
theorem ac (ns:List Nat) (cs:List LC) (x y:LN) (ks:List Int) (h:i_ (.nn x y::cs) ks=true):kL ns (x.d ns<=y.d ns) cs:=
 gP fun a=>Tg fun b=>fZ h ⟨b,a⟩
theorem az (ns:List Nat) (cs:List LC) (x y:LZ) (ks:List Int) (h:i_ (.zn x y::cs) ks=true):kL ns (x.d ns<=y.d ns) cs:=
 gP fun a=>Tg fun b=>fZ h ⟨b,a⟩
theorem bh (ns:List Nat) (cs:List LC) (x y:LN) (k1 k2:List Int) (h:(i_ (.nn x y::cs) k1&&i_ (.nn y x::cs) k2)=true):kL ns (x.d ns=y.d ns) cs:=
 have h:=Bool.and_eq_true_iff.mp h
 gP fun a=>Nat.le_antisymm (Tg fun b=>fZ h.1 ⟨b,a⟩) (Tg fun b=>fZ h.2 ⟨b,a⟩)
theorem dY (ns:List Nat) (cs:List LC) (x y:LZ) (k1 k2:List Int) (h:(i_ (.zn x y::cs) k1&&i_ (.zn y x::cs) k2)=true):kL ns (x.d ns=y.d ns) cs:=
 have h:=Bool.and_eq_true_iff.mp h
 gP fun a=>Int.le_antisymm (Tg fun b=>fZ h.1 ⟨b,a⟩) (Tg fun b=>fZ h.2 ⟨b,a⟩)
theorem bA (a b:Nat) {P:Prop} (h1:b<=a->a-b+b=a->P) (h2:a<=b->a-b=0->P):P:=
 (Nat.le_total b a).elim (fun h=>h1 h (Nat.sub_add_cancel h)) fun h=>h2 h (Nat.sub_eq_zero_of_le h)
theorem Es {P:Int->Prop} (h:∀p q:Nat,P (p-q)) (z:Int):P z:=by
 have e:=h z.toNat (-z).toNat
 rwa [Int.toNat_sub_toNat_neg] at e
theorem dw {x y:Nat} {P:Prop} (h1:x+1<=y->P) (h2:y+1<=x->P) (h:¬x=y):P:=(Nat.lt_or_gt_of_ne h).elim h1 h2
theorem cJ {x y:Int} {P:Prop} (h1:x+1<=y->P) (h2:y+1<=x->P) (h:¬x=y):P:=(Int.lt_or_gt_of_ne h).elim h1 h2
theorem jo (a b:Nat) {G:Prop} (f:a<=b->min a b=a->G) (g:b<=a->min a b=b->G):G:=(Nat.le_total a b).elim (fun h=>f h (Nat.min_eq_left h)) fun h=>g h (Nat.min_eq_right h)
theorem NZ (a b:Nat) {G:Prop} (f:a<=b->max a b=b->G) (g:b<=a->max a b=a->G):G:=(Nat.le_total a b).elim (fun h=>f h (Nat.max_eq_right h)) fun h=>g h (Nat.max_eq_left h)
theorem jl (z:Int) {G:Prop} (f:0<=z->(z.toNat:Int)=z->G) (g:z<=0->z.toNat=0->G):G:=(Int.le_total 0 z).elim (fun h=>f h (Int.toNat_of_nonneg h)) fun h=>g h (Int.toNat_of_nonpos h)
theorem Sh (x k:Nat) (hk:0<k) {G:Prop} (f:k*(x/k)<=x->x<k*(x/k)+k->G):G:=f (Nat.mul_div_le x k) (Nat.lt_mul_div_succ x hk)
theorem Sf (x k:Nat) (hk:0<k) {G:Prop} (f:k*(x/k)+x%k=x->x%k<k->G):G:=f (Nat.div_add_mod x k) (Nat.mod_lt x hk)
theorem iq {x k:Nat} (h:(x:Int)=(k:Int)):x=k:=Int.ofNat.inj h
theorem ni {x k:Nat} (h:¬(x:Int)=(k:Int)):x≠k:=fun q=>h (congrArg _ q)
theorem jJ {x:Nat} (h:48<=x):(x:Int)-48=((x-48:Nat):Int):=(Int.ofNat_sub h).symm
theorem bi {P:Int->Prop} (h:∀p q:Nat,P (p-q)):∀z,P z:=Es h
namespace Lk
noncomputable abbrev F:LN:=.v 0
noncomputable abbrev G:LN:=.v 1
noncomputable abbrev H:LN:=.v 2
noncomputable abbrev I:LN:=.v 3
noncomputable abbrev J:LN:=.v 4
noncomputable abbrev K:LN:=.v 5
noncomputable abbrev L:LN:=.v 6
noncomputable abbrev M:LN:=.v 7
noncomputable abbrev N:LN:=.v 8
noncomputable abbrev O:LN:=.v 9
noncomputable abbrev P:LZ:=.c (.v 0)
noncomputable abbrev Q:LZ:=.c (.v 1)
noncomputable abbrev R:LZ:=.c (.v 2)
noncomputable abbrev S:LZ:=.c (.v 3)
noncomputable abbrev T:LZ:=.c (.v 4)
noncomputable abbrev U:LZ:=.c (.v 5)
noncomputable abbrev V:LZ:=.c (.v 6)
noncomputable abbrev X:LZ:=.c (.v 7)
noncomputable abbrev Y:LZ:=.c (.v 8)
noncomputable abbrev W:LN:=.k 1
noncomputable abbrev Z0:LN:=.k 0
noncomputable abbrev Z1:LN:=.k 2
noncomputable abbrev Z2:LN:=.k 1000000
noncomputable abbrev Z3:LN:=.k 48
noncomputable abbrev Z4:LN:=.k 3
noncomputable abbrev Z5:LN:=.k 4
noncomputable abbrev Z6:LN:=.k 55
noncomputable abbrev Z7:LN:=.k 8
noncomputable abbrev Z8:LN:=.k 10
noncomputable abbrev Z9:LN:=.k 32
noncomputable abbrev Za:LN:=.k ((2 ^ 8))
noncomputable abbrev Z:LZ:=.k 1
noncomputable abbrev W0:LZ:=.k 0
noncomputable abbrev W1:LZ:=.k 48
noncomputable abbrev W2:LZ:=.k 92
noncomputable abbrev W3:LZ:=.k 3
noncomputable abbrev W4:LZ:=.k 65
noncomputable abbrev W5:LZ:=.k 97
noncomputable abbrev W6:LZ:=.k 126
noncomputable abbrev W7:LZ:=.k 10
noncomputable abbrev W8:LZ:=.k 39
noncomputable abbrev W9:LZ:=.k 1000000
noncomputable abbrev Wa:LZ:=.k 57
end Lk
section
open Lk
variable {a b c d e f g h i j k l m n o:Nat} {p q r s t u v w x y z:Int} {A B C D E:Prop}
theorem d8 {x:Nat}:((0:Int)<=(x:Int)-48/\(x:Int)-48<8)↔(48<=x/\x<=55):=
 ⟨fun h=>⟨TQ.mp (Int.le_of_sub_nonneg h.1),Nat.le_of_lt_succ (Int.ofNat_lt.mp (Int.lt_add_of_sub_right_lt h.2))⟩,fun h=>⟨Int.sub_nonneg_of_le (TQ.mpr h.1),Int.sub_right_lt_of_lt_add (Int.ofNat_lt.mpr (TD h.2))⟩⟩
theorem vp {n:Nat} (h:n<208):(0:Int)<=48+(n:Int)/\48+(n:Int)<256:=⟨Int.natCast_nonneg (48+n),Int.ofNat_lt.mpr (Nat.add_lt_add_left h 48)⟩
theorem o1:a<=b->a<b+1:=ac [a,b] [.nl F G] (.a F W) (.a G W) [1,1] rfl
theorem o2:a=1000000->1<=a:=ac [a] [.ne F Z2] W F [1,-1] rfl
theorem o3:a=1000000->2<=a:=ac [a] [.ne F Z2] Z1 F [1,-1] rfl
theorem o4:a=1->1<=a:=ac [a] [.ne F W] W F [1,-1] rfl
theorem o5:(a:Int)=92->a=92:=bh [a] [.ze P W2] F (.k 92) [1,1] [1,-1] rfl
theorem o6:a+3*b+3<=3*c->a+1+3*b<=3*c:=ac [a,b,c] [.nl (.a (.a F (.m 3 G)) Z4) (.m 3 H)] (.a (.a F W) (.m 3 G)) (.m 3 H) [1,1] rfl
theorem o7:a=2->2<=a:=ac [a] [.ne F Z1] Z1 F [1,-1] rfl
theorem o8:a<=1000000->a<=16777216:=ac [a] [.nl F Z2] F (.k 16777216) [1,1] rfl
theorem o9:a+1<=b->a<=b:=ac [a,b] [.nl (.a F W) G] F G [1,1] rfl
theorem Qp:a<=b->c+a<=c+b:=ac [a,b,c] [.nl F G] (.a H F) (.a H G) [1,1] rfl
theorem Qo:¬((a:Int)<3)->3<=a:=ac [a] [.zn (.a P Z) W3] Z4 F [1,1] rfl
theorem oj:a-b+1=a-c->a-b<=a-c:=ac [(a-b),a,b,(a-c),c] [.ne (.a F W) I] F I [1,1] rfl
theorem AD:a<b->b+1-(a+1)<b+1-a:=bA (b+1) (a+1) (bA (b+1) a (ac [a,b,((b+1)-(a+1)),((b+1)-a)] [.nl F (.a G W),.ne (.a I F) (.a G W),.nl (.a F W) (.a G W),.ne (.a H (.a F W)) (.a G W),.nl (.a F W) G] (.a H W) I [1,0,-1,0,1,0] rfl) (ac [a,b,((b+1)-(a+1)),((b+1)-a)] [.nl (.a G W) F,.ne I Z0,.nl (.a F W) (.a G W),.ne (.a H (.a F W)) (.a G W),.nl (.a F W) G] (.a H W) I [0,1,0,1,0,0] rfl)) (ac [a,b,((b+1)-(a+1)),((b+1)-a)] [.nl (.a G W) (.a F W),.ne H Z0,.nl (.a F W) G] (.a H W) I [0,1,0,1] rfl)
theorem qC:(a:Int)=10->a=10:=bh [a] [.ze P W7] F Z8 [1,1] [1,-1] rfl
theorem qB:(a:Int)=92->¬(a=34):=ai [a] [.ze P W2,.ne F (.k 34)] [-1,1] rfl
theorem qA:a<=a+1:=ac [a] [] F (.a F W) [1] rfl
theorem wn:a+(b+1)<=c->d<=b->a+d<=c:=ac [a,b,c,d] [.nl (.a F (.a G W)) H,.nl I G] (.a F I) H [1,1,1] rfl
theorem oh:a<=b->b<=c->a<=c:=ac [a,b,c] [.nl F G,.nl G H] F H [1,1,1] rfl
theorem qz:a=2->1<=a:=ac [a] [.ne F Z1] W F [1,-1] rfl
theorem wm:a=7->7<=a:=ac [a] [.ne F (.k 7)] (.k 7) F [1,-1] rfl
theorem z9:(0:Nat)<(8:Nat):=ac [] [] (.a Z0 W) Z7 [1] rfl
theorem s_:(a:Int)=34->a=34:=bh [a] [.ze P (.k 34)] F (.k 34) [1,1] [1,-1] rfl
theorem s9:(a:Int)=126->¬(a=34):=ai [a] [.ze P W6,.ne F (.k 34)] [-1,1] rfl
theorem sZ:(a:Int)=126->¬(a=92):=ai [a] [.ze P W6,.ne F (.k 92)] [-1,1] rfl
theorem sY:(a:Int)=126->¬(a=36):=ai [a] [.ze P W6,.ne F (.k 36)] [-1,1] rfl
theorem wk:a<2^8->(a:Int)<256:=az [a] [.nl (.a F W) Za] (.a P Z) (.k 256) [1,1] rfl
theorem wj:0<p/\p<=1000000->p≠0:=by revert p;refine @bi _ ?_;intro p0 q0;exact fun h0 h1=>(ai [p0,q0] [.zl (.a W0 Z) (.s P Q),.zl (.s P Q) W9,.ze (.s P Q) W0] [1,0,1] rfl) h0.1 h0.2 h1
theorem wi:a=1000000->3<=a:=ac [a] [.ne F Z2] Z4 F [1,-1] rfl
theorem wh:a+3*(b+1)<=3*c->a+3*b+3<=3*c:=ac [a,b,c] [.nl (.a F (.m 3 (.a G W))) (.m 3 H)] (.a (.a F (.m 3 G)) Z4) (.m 3 H) [1,1] rfl
theorem wg:(a:Int)=36->¬(a=34):=ai [a] [.ze P (.k 36),.ne F (.k 34)] [-1,1] rfl
theorem we:(a:Int)=36->¬(a=92):=ai [a] [.ze P (.k 36),.ne F (.k 92)] [1,-1] rfl
theorem wc:(a:Int)=36->a=36:=bh [a] [.ze P (.k 36)] F (.k 36) [1,1] [1,-1] rfl
theorem wb:(a:Int)=39->a=39:=bh [a] [.ze P W8] F (.k 39) [1,1] [1,-1] rfl
theorem wa:(a:Int)=126->¬(a=39):=ai [a] [.ze P W6,.ne F (.k 39)] [-1,1] rfl
theorem D_:4*a<=b->b=1000000->c<=a->d+3*e<=3*c->d+1<=b:=ac [a,b,c,d,e] [.nl (.m 4 F) G,.ne G Z2,.nl H F,.nl (.a I (.m 3 J)) (.m 3 H)] (.a I W) G [4,3,-1,12,4] rfl
theorem v_:a+(b+1)<=c->d<=a+1->d+b<=c:=ac [a,b,c,d] [.nl (.a F (.a G W)) H,.nl I (.a F W)] (.a I G) H [1,1,1] rfl
theorem v9:(a:Int)-((b:Int)+1+1)+2=(a:Int)-(b:Int):=dY [a,b] [] (.a (.s P (.a (.a Q Z) Z)) (.k 2)) (.s P Q) [1] [1] rfl
theorem z7:a<=b->a<=b+1:=ac [a,b] [.nl F G] F (.a G W) [1,1] rfl
theorem v8:a+20*b<=a+20*(b+1):=ac [a,b] [] (.a F (.m 20 G)) (.a F (.m 20 (.a G W))) [1] rfl
theorem Si:(0:Int)<=(0:Int):=az [] [] W0 W0 [1] rfl
theorem v7:a+1<=b->b-(a+1)+1=b-a:=bA b (a+1) (bA b a (bh [a,b,(b-(a+1)),(b-a)] [.nl F G,.ne (.a I F) G,.nl (.a F W) G,.ne (.a H (.a F W)) G,.nl (.a F W) G] (.a H W) I [1,0,-1,0,1,0] [1,0,1,0,-1,0] rfl) (bh [a,b,(b-(a+1)),(b-a)] [.nl G F,.ne I Z0,.nl (.a F W) G,.ne (.a H (.a F W)) G,.nl (.a F W) G] (.a H W) I [0,1,0,1,0,0] [0,1,0,1,0,0] rfl)) (bA b a (bh [a,b,(b-(a+1)),(b-a)] [.nl F G,.ne (.a I F) G,.nl G (.a F W),.ne H Z0,.nl (.a F W) G] (.a H W) I [1,0,-1,0,1,1] [1,0,1,1,-1,0] rfl) (bh [a,b,(b-(a+1)),(b-a)] [.nl G F,.ne I Z0,.nl G (.a F W),.ne H Z0,.nl (.a F W) G] (.a H W) I [0,1,0,0,0,1] [0,1,0,0,0,1] rfl))
theorem v6:7<=a->3<=a:=ac [a] [.nl (.k 7) F] Z4 F [1,1] rfl
theorem z6:a+b<=1000000->a+b<=16777216:=ac [a,b] [.nl (.a F G) Z2] (.a F G) (.k 16777216) [1,1] rfl
theorem z5:¬((a:Int)<0):=ai [a] [.zl (.a P Z) W0] [1] rfl
theorem z4:a=b->c=b->d=a->e=c->d=e:=bh [a,b,c,d,e] [.ne F G,.ne H G,.ne I F,.ne J H] I J [1,1,-1,1,-1] [1,-1,1,-1,1] rfl
theorem z0:a=b->c=b->d=a->e=c->f<d->f<a:=ac [a,b,c,d,e,f] [.ne F G,.ne H G,.ne I F,.ne J H,.nl (.a K W) I] (.a K W) F [1,0,0,1,0,1] rfl
theorem zZ:a=b->c=b->d=a->e=c->f<d->f<c:=ac [a,b,c,d,e,f] [.ne F G,.ne H G,.ne I F,.ne J H,.nl (.a K W) I] (.a K W) H [1,1,-1,1,0,1] rfl
theorem zY:a=b->c=b->d=a->e=c->f<d->f<b:=ac [a,b,c,d,e,f] [.ne F G,.ne H G,.ne I F,.ne J H,.nl (.a K W) I] (.a K W) G [1,1,0,1,0,1] rfl
theorem zX:¬((a:Int)=10)->¬(a=10):=fun h0 h1=>cJ (fun c1=>(ai [a] [.zl (.a P Z) W7,.ne F Z8] [1,-1] rfl) c1 h1) (fun c1=>(ai [a] [.zl (.a W7 Z) P,.ne F Z8] [1,1] rfl) c1 h1) h0
theorem zW:4*a<=b->b=1000000->a<=b:=ac [a,b] [.nl (.m 4 F) G,.ne G Z2] F G [4,1,-3] rfl
theorem zV:(a:Int)=92->¬(a=39):=ai [a] [.ze P W2,.ne F (.k 39)] [-1,1] rfl
theorem zU:a+3*b+3<=3*c->d<=3->e<=b->a+d+3*e<=3*c:=ac [a,b,c,d,e] [.nl (.a (.a F (.m 3 G)) Z4) (.m 3 H),.nl I Z4,.nl J G] (.a (.a F I) (.m 3 J)) (.m 3 H) [1,1,1,3] rfl
theorem zT:a+1<=b->a<b:=ac [a,b] [.nl (.a F W) G] (.a F W) G [1,1] rfl
theorem zS:a+3*b+3<=3*c->a+3*b<=3*c:=ac [a,b,c] [.nl (.a (.a F (.m 3 G)) Z4) (.m 3 H)] (.a F (.m 3 G)) (.m 3 H) [1,1] rfl
theorem zR:a<2^8->p=(a:Int)->0<=p/\p<256:=by revert p;refine @bi _ ?_;intro p1 q1;exact fun h0 h1=>⟨(az [a,p1,q1] [.nl (.a F W) Za,.ze (.s Q R) P] W0 (.s Q R) [1,0,-1] rfl) h0 h1,(az [a,p1,q1] [.nl (.a F W) Za,.ze (.s Q R) P] (.a (.s Q R) Z) (.k 256) [1,1,1] rfl) h0 h1⟩
theorem zQ:a+(b+1)<=c->d+1<=b->a+(d+1)<=c:=ac [a,b,c,d] [.nl (.a F (.a G W)) H,.nl (.a I W) G] (.a F (.a I W)) H [1,1,1] rfl
theorem zP:(a:Int)=125->a=125:=bh [a] [.ze P (.k 125)] F (.k 125) [1,1] [1,-1] rfl
theorem zO:a+(b+1)<=c->a+b<=c:=ac [a,b,c] [.nl (.a F (.a G W)) H] (.a F G) H [1,1] rfl
theorem zN:a+(b+1+1)<=c->a+b<=c:=ac [a,b,c] [.nl (.a F (.a (.a G W) W)) H] (.a F G) H [1,1] rfl
theorem zM:(a:Int)=123->a=123:=bh [a] [.ze P (.k 123)] F (.k 123) [1,1] [1,-1] rfl
theorem D9:4*a<=b->b=1000000->c=1000000->d<=a->e+(f+1)<=d->f+1<=d->e+1<=c:=ac [a,b,c,d,e,f] [.nl (.m 4 F) G,.ne G Z2,.ne H Z2,.nl I F,.nl (.a J (.a K W)) I,.nl (.a K W) I] (.a J W) H [4,1,1,-4,4,4,0] rfl
theorem D8:a+(b+1)<=c->d<=b->a+1+d<=c:=ac [a,b,c,d] [.nl (.a F (.a G W)) H,.nl I G] (.a (.a F W) I) H [1,1,1] rfl
theorem zL:(a:Int)-(b:Int)<=(a:Int):=az [a,b] [] (.s P Q) P [1] rfl
theorem zK:a=b->c<a->c<b:=ac [a,b,c] [.ne F G,.nl (.a H W) F] (.a H W) G [1,1,1] rfl
theorem zJ:a=4->3<=a:=ac [a] [.ne F Z5] Z4 F [1,-1] rfl
theorem Qm:a=7->2<=a:=ac [a] [.ne F (.k 7)] Z1 F [1,-1] rfl
theorem zH:7<=a->6<=a:=ac [a] [.nl (.k 7) F] (.k 6) F [1,1] rfl
theorem zG:a<=b-c->b-c+1=b-d->a<=b-d:=ac [a,(b-c),b,c,(b-d),d] [.nl F G,.ne (.a G W) J] F J [1,1,1] rfl
theorem zE:(1:Nat)<=(2:Nat):=ac [] [] W Z1 [1] rfl
theorem zw:p<=p+1:=by revert p;refine @bi _ ?_;intro p0 q0;exact az [p0,q0] [] (.s P Q) (.a (.s P Q) Z) [1] rfl
theorem D7:p<=p:=by revert p;refine @bi _ ?_;intro p0 q0;exact az [p0,q0] [] (.s P Q) (.s P Q) [1] rfl
theorem D6:p<=p+((1:Nat):Int):=by revert p;refine @bi _ ?_;intro p0 q0;exact az [p0,q0] [] (.s P Q) (.a (.s P Q) (.c W)) [1] rfl
theorem zt:60<=a->b=a+1->1<=b:=ac [a,b] [.nl (.k 60) F,.ne G (.a F W)] W G [1,1,-1] rfl
theorem zs:a=b+1->b+1<=a:=ac [a,b] [.ne F (.a G W)] (.a G W) F [1,-1] rfl
theorem D5:0<=p->p<256->¬(p<0\/p≥256):=by revert p;refine @bi _ ?_;intro p0 q0;exact fun h0 h1 h2=>Or.elim h2 (fun c1=>(ai [p0,q0] [.zl W0 (.s P Q),.zl (.a (.s P Q) Z) (.k 256),.zl (.a (.s P Q) Z) W0] [1,0,1] rfl) h0 h1 c1) (fun c1=>(ai [p0,q0] [.zl W0 (.s P Q),.zl (.a (.s P Q) Z) (.k 256),.zl (.k 256) (.s P Q)] [0,1,1] rfl) h0 h1 c1)
theorem D4:a+1+b=a+(b+1):=bh [a,b] [] (.a (.a F W) G) (.a F (.a G W)) [1] [1] rfl
theorem D3:0<=(a:Int):=az [a] [] W0 P [1] rfl
theorem D2:a<=b->c+2*b<d->c+2*a<d:=ac [a,b,c,d] [.nl F G,.nl (.a (.a H (.m 2 G)) W) I] (.a (.a H (.m 2 F)) W) I [2,4,2] rfl
theorem D1:a<=b->c+8*b<d->c+8*a<d:=ac [a,b,c,d] [.nl F G,.nl (.a (.a H (.m 8 G)) W) I] (.a (.a H (.m 8 F)) W) I [8,64,8] rfl
theorem DZ:a<=15->b=a->b<=15:=ac [a,b] [.nl F (.k 15),.ne G F] G (.k 15) [1,1,1] rfl
theorem DY:a+2*(b+1)<c->a<c:=ac [a,b,c] [.nl (.a (.a F (.m 2 (.a G W))) W) H] (.a F W) H [1,1] rfl
theorem DX:a+2*(b+1)<c->a+1+2*b<c:=ac [a,b,c] [.nl (.a (.a F (.m 2 (.a G W))) W) H] (.a (.a (.a F W) (.m 2 G)) W) H [1,1] rfl
theorem DW:a+8*(b+1)<c->a+3+8*b<c:=ac [a,b,c] [.nl (.a (.a F (.m 8 (.a G W))) W) H] (.a (.a (.a F Z4) (.m 8 G)) W) H [1,1] rfl
theorem DV:a+1<=8*b->c+8*b<d->c<d:=ac [a,b,c,d] [.nl (.a F W) (.m 8 G),.nl (.a (.a H (.m 8 G)) W) I] (.a H W) I [1,0,1] rfl
theorem DU:a+1<=8*b->c+8*b<d->e<f->g<=a->c+1+g<=d:=ac [a,b,c,d,e,f,g] [.nl (.a F W) (.m 8 G),.nl (.a (.a H (.m 8 G)) W) I,.nl (.a J W) K,.nl L F] (.a (.a H W) L) I [8,8,8,0,8] rfl
theorem DT:a+8*b<c->a<c:=ac [a,b,c] [.nl (.a (.a F (.m 8 G)) W) H] (.a F W) H [1,1] rfl
theorem DS:0<=p/\p<2147483647->(-(2^60))<p:=by revert p;refine @bi _ ?_;intro p0 q0;exact fun h0=>(az [p0,q0] [.zl W0 (.s P Q),.zl (.a (.s P Q) Z) (.k 2147483647)] (.a (.k ((-((2:Int) ^ 60)))) Z) (.s P Q) [1,1,0] rfl) h0.1 h0.2
theorem DQ:0<=p/\p<2147483647->p<2^60:=by revert p;refine @bi _ ?_;intro p0 q0;exact fun h0=>(az [p0,q0] [.zl W0 (.s P Q),.zl (.a (.s P Q) Z) (.k 2147483647)] (.a (.s P Q) Z) (.k (((2:Int) ^ 60))) [1,0,1] rfl) h0.1 h0.2
theorem DP:a=1000000->b+1<=8->b<=a:=ac [a,b] [.ne F Z2,.nl (.a G W) Z7] G F [1,-1,1] rfl
theorem DO:a+1<=b->¬(a=b):=ai [a,b] [.nl (.a F W) G,.ne F G] [1,-1] rfl
theorem DN:a=b-(c+1)+(d+1)->c+1<=b->a=b-c+d:=bA b (c+1) (bA b c (bh [a,(b-(c+1)),b,c,d,(b-c)] [.nl I H,.ne (.a K I) H,.nl (.a I W) H,.ne (.a G (.a I W)) H,.ne F (.a G (.a J W)),.nl (.a I W) H] F (.a K J) [1,0,-1,0,1,1,0] [1,0,1,0,-1,-1,0] rfl) (bh [a,(b-(c+1)),b,c,d,(b-c)] [.nl H I,.ne K Z0,.nl (.a I W) H,.ne (.a G (.a I W)) H,.ne F (.a G (.a J W)),.nl (.a I W) H] F (.a K J) [0,1,0,1,0,0,0] [0,1,0,1,0,0,0] rfl)) (bA b c (bh [a,(b-(c+1)),b,c,d,(b-c)] [.nl I H,.ne (.a K I) H,.nl H (.a I W),.ne G Z0,.ne F (.a G (.a J W)),.nl (.a I W) H] F (.a K J) [1,0,-1,0,1,1,1] [1,0,1,1,-1,-1,0] rfl) (bh [a,(b-(c+1)),b,c,d,(b-c)] [.nl H I,.ne K Z0,.nl H (.a I W),.ne G Z0,.ne F (.a G (.a J W)),.nl (.a I W) H] F (.a K J) [0,1,0,0,0,0,1] [0,1,0,0,0,0,1] rfl))
theorem DM:a=b-c+0->a=b-c:=bh [a,(b-c),b,c] [.ne F (.a G Z0)] F G [1,1] [1,-1] rfl
theorem DL:a<=b->c=b-a->b-c=a:=bA b a (bA b c (bh [a,b,c,(b-a),(b-c)] [.nl H G,.ne (.a J H) G,.nl F G,.ne (.a I F) G,.nl F G,.ne H I] J F [1,0,1,0,-1,0,-1] [1,0,-1,0,1,0,1] rfl) (bh [a,b,c,(b-a),(b-c)] [.nl G H,.ne J Z0,.nl F G,.ne (.a I F) G,.nl F G,.ne H I] J F [1,0,1,0,0,0,0] [1,1,-1,0,1,0,1] rfl)) (bA b c (bh [a,b,c,(b-a),(b-c)] [.nl H G,.ne (.a J H) G,.nl G F,.ne I Z0,.nl F G,.ne H I] J F [1,0,1,1,0,0,0] [1,0,-1,0,1,1,1] rfl) (bh [a,b,c,(b-a),(b-c)] [.nl G H,.ne J Z0,.nl G F,.ne I Z0,.nl F G,.ne H I] J F [1,0,1,0,0,0,0] [1,1,-1,0,1,1,1] rfl))
theorem DK:a+1<=b->c<=a->¬(c=b):=ai [a,b,c] [.nl (.a F W) G,.nl H F,.ne H G] [1,1,-1] rfl
theorem DJ:¬((a:Int)-((b:Int)+1+1)+1=(a:Int)):=ai [a,b] [.ze (.a (.s P (.a (.a Q Z) Z)) Z) P] [-1] rfl
theorem DI:4*a<=b->b=1000000->c<=a->d+3*e<=3*c->f<=1->d+f<=b:=ac [a,b,c,d,e,f] [.nl (.m 4 F) G,.ne G Z2,.nl H F,.nl (.a I (.m 3 J)) (.m 3 H),.nl K W] (.a I K) G [4,3,-1,12,4,4] rfl
theorem DH:a+3*b+3<=3*c->d<=b->e<=1->a+e+3*d<=3*c:=ac [a,b,c,d,e] [.nl (.a (.a F (.m 3 G)) Z4) (.m 3 H),.nl I G,.nl J W] (.a (.a F J) (.m 3 I)) (.m 3 H) [1,1,3,1] rfl
theorem DG:(a:Int)=36->¬(a=39):=ai [a] [.ze P (.k 36),.ne F (.k 39)] [1,-1] rfl
theorem DF:4*a<=b->b=1000000->c<=a->d+3*e<=3*c->f<=3->d+f<=b:=ac [a,b,c,d,e,f] [.nl (.m 4 F) G,.ne G Z2,.nl H F,.nl (.a I (.m 3 J)) (.m 3 H),.nl K Z4] (.a I K) G [4,3,-1,12,4,4] rfl
theorem A3:(a:Int)=34->¬(a=39):=ai [a] [.ze P (.k 34),.ne F (.k 39)] [1,-1] rfl
theorem A2:(a:Int)=126->a=126:=bh [a] [.ze P W6] F (.k 126) [1,1] [1,-1] rfl
theorem A1:(a:Int)-(b:Int)=(a:Int)-(c:Int)->b=c:=bh [a,b,c] [.ze (.s P Q) (.s P R)] G H [1,-1] [1,1] rfl
theorem A0:¬((a:Int)-(b:Int)=(a:Int)-(c:Int))->b=c->False:=fun h0 h1=>cJ (fun c1=>(ai [a,b,c] [.zl (.a (.s P Q) Z) (.s P R),.ne G H] [1,1] rfl) c1 h1) (fun c1=>(ai [a,c,b] [.zl (.a (.s P Q) Z) (.s P R),.ne H G] [1,-1] rfl) c1 h1) h0
theorem AZ:(a:Int)=126->p=(a:Int)->0<=p/\p<256:=by revert p;refine @bi _ ?_;intro p1 q1;exact fun h0 h1=>⟨(az [a,p1,q1] [.ze P W6,.ze (.s Q R) P] W0 (.s Q R) [1,-1,-1] rfl) h0 h1,(az [a,p1,q1] [.ze P W6,.ze (.s Q R) P] (.a (.s Q R) Z) (.k 256) [1,1,1] rfl) h0 h1⟩
theorem AY:4*a<=b->b=1000000->c<=a->d+3*e+3<=3*c->d+1<=b:=ac [a,b,c,d,e] [.nl (.m 4 F) G,.ne G Z2,.nl H F,.nl (.a (.a I (.m 3 J)) Z4) (.m 3 H)] (.a I W) G [3,3,0,12,4] rfl
theorem AX:¬((a:Int)=34)->¬((a:Int)=39)->¬((a:Int)=126)->¬(a=34):=fun h0 h1 h2 h3=>cJ (fun c4=>(ai [a] [.zl (.a P Z) (.k 34),.ne F (.k 34)] [1,-1] rfl) c4 h3) (fun c4=>(ai [a] [.zl (.a (.k 34) Z) P,.ne F (.k 34)] [1,1] rfl) c4 h3) h0
theorem AW:¬((a:Int)=92)->¬((a:Int)=36)->¬((a:Int)=34)->¬((a:Int)=39)->¬((a:Int)=126)->¬(a=92):=fun h0 h1 h2 h3 h4 h5=>cJ (fun c16=>(ai [a] [.zl (.a P Z) W2,.ne F (.k 92)] [1,-1] rfl) c16 h5) (fun c16=>(ai [a] [.zl (.a W2 Z) P,.ne F (.k 92)] [1,1] rfl) c16 h5) h0
theorem AU:¬((a:Int)=36)->¬((a:Int)=34)->¬((a:Int)=39)->¬((a:Int)=126)->¬(a=36):=fun h0 h1 h2 h3 h4=>cJ (fun c8=>(ai [a] [.zl (.a P Z) (.k 36),.ne F (.k 36)] [1,-1] rfl) c8 h4) (fun c8=>(ai [a] [.zl (.a (.k 36) Z) P,.ne F (.k 36)] [1,1] rfl) c8 h4) h0
theorem AT:¬((a:Int)=126)->a=126->False:=fun h0 h1=>cJ (fun c1=>(ai [a] [.zl (.a P Z) W6,.ne F (.k 126)] [1,-1] rfl) c1 h1) (fun c1=>(ai [a] [.zl (.a W6 Z) P,.ne F (.k 126)] [1,1] rfl) c1 h1) h0
theorem AS:(a:Int)-((b:Int)+1)+2=(a:Int)-(b:Int)+1:=dY [a,b] [] (.a (.s P (.a Q Z)) (.k 2)) (.a (.s P Q) Z) [1] [1] rfl
theorem AR:(a:Int)=35->a=35:=bh [a] [.ze P (.k 35)] F (.k 35) [1,1] [1,-1] rfl
theorem AQ:4*a<=b->b=1000000->c<=a->d+(e+1)<=c->e+1<=c->d<=c:=ac [a,b,c,d,e] [.nl (.m 4 F) G,.ne G Z2,.nl H F,.nl (.a I (.a J W)) H,.nl (.a J W) H] I H [1,0,0,0,1,0] rfl
theorem AP:4*a<=b->b=1000000->c=1000000->d<=a->e+(f+1)<=d->e+1<=c:=ac [a,b,c,d,e,f] [.nl (.m 4 F) G,.ne G Z2,.ne H Z2,.nl I F,.nl (.a J (.a K W)) I] (.a J W) H [4,1,1,-4,4,4] rfl
theorem AN:(a:Int)=125->¬(a=35):=ai [a] [.ze P (.k 125),.ne F (.k 35)] [-1,1] rfl
theorem NR:(a:Int)=125->¬(a=10):=ai [a] [.ze P (.k 125),.ne F Z8] [-1,1] rfl
theorem AM:(a:Int)=92->¬(a=32):=ai [a] [.ze P W2,.ne F Z9] [-1,1] rfl
theorem AL:a<a+1+1:=ac [a] [] (.a F W) (.a (.a F W) W) [1] rfl
theorem NQ:a=b+2->2<=a:=ac [a,b] [.ne F (.a G Z1)] Z1 F [1,-1] rfl
theorem NP:a<=b->a=b+1->False:=ai [a,b] [.nl F G,.ne F (.a G W)] [1,-1] rfl
theorem AK:(a:Int)=92->¬(a=123):=ai [a] [.ze P W2,.ne F (.k 123)] [1,-1] rfl
theorem AJ:a<=1000000->a<=1099511627776:=ac [a] [.nl F Z2] F (.k 1099511627776) [1,1] rfl
theorem Se:a-1<=a:=bA a 1 (ac [(a-1),a] [.nl W G,.ne (.a F W) G] F G [1,0,1] rfl) (ac [(a-1),a] [.nl G W,.ne F Z0] F G [1,0,1] rfl)
theorem Sd:a<b->1+b<=c+1->a<=c:=ac [a,b,c] [.nl (.a F W) G,.nl (.a W G) (.a H W)] F H [1,1,1] rfl
theorem Sc:a<b->1+c+b<=d+1->a<=d:=ac [a,b,c,d] [.nl (.a F W) G,.nl (.a (.a W H) G) (.a I W)] F I [1,1,1] rfl
theorem AI:a<=b->c+20*a<=c+20*(b+1):=ac [a,b,c] [.nl F G] (.a H (.m 20 F)) (.a H (.m 20 (.a G W))) [1,20] rfl
theorem AH:a<=b->c<=3*a+1->c<=3*b+1:=ac [a,b,c] [.nl F G,.nl H (.a (.m 3 F) W)] H (.a (.m 3 G) W) [3,9,3] rfl
theorem AG:a<=b->b+1<=c->a<=c:=ac [a,b,c] [.nl F G,.nl (.a G W) H] F H [1,1,1] rfl
theorem AE:a<=b+(a+1):=ac [a,b] [] F (.a G (.a F W)) [1] rfl
theorem Sb:a<=b->b<=c->a<=c+1:=ac [a,b,c] [.nl F G,.nl G H] F (.a H W) [1,1,1] rfl
theorem Sa:a-1<a+1:=bA a 1 (ac [(a-1),a] [.nl W G,.ne (.a F W) G] (.a F W) (.a G W) [1,0,1] rfl) (ac [(a-1),a] [.nl G W,.ne F Z0] (.a F W) (.a G W) [1,0,1] rfl)
theorem R_:¬((a:Int)<3)->0<(a:Int):=az [a] [.zn (.a P Z) W3] (.a W0 Z) P [1,1] rfl
theorem R9:(0:Int)<=(1:Int):=az [] [] W0 Z [1] rfl
theorem R8:¬((a:Int)<3)->1<(a:Int):=az [a] [.zn (.a P Z) W3] (.a Z Z) P [1,1] rfl
theorem R7:(0:Int)<=(2:Int):=az [] [] W0 (.k 2) [1] rfl
theorem R6:¬((a:Int)<3)->2<(a:Int):=az [a] [.zn (.a P Z) W3] (.a (.k 2) Z) P [1,1] rfl
theorem AC:a<256->0<=(a:Int):=az [a] [.nl (.a F W) (.k 256)] W0 P [1,0] rfl
theorem AB:a<256->(a:Int)<256:=az [a] [.nl (.a F W) (.k 256)] (.a P Z) (.k 256) [1,1] rfl
theorem NO:a<=b->a<=b:=ac [a,b] [.nl F G] F G [1,1] rfl
theorem AA:a+3<=b->c<=3->a+c<=b:=ac [a,b,c] [.nl (.a F Z4) G,.nl H Z4] (.a F H) G [1,1,1] rfl
theorem Az:a=3->3<=a:=ac [a] [.ne F Z4] Z4 F [1,-1] rfl
theorem Ay:a<2^8->0<=(a:Int):=az [a] [.nl (.a F W) Za] W0 P [1,0] rfl
theorem Ax:4*a<=b->a<=b:=ac [a,b] [.nl (.m 4 F) G] F G [4,1] rfl
theorem Aw:4*a<=b->a<=b->c<=a->d+3*e+3<=3*c->d+e<=b:=ac [a,b,c,d,e] [.nl (.m 4 F) G,.nl F G,.nl H F,.nl (.a (.a I (.m 3 J)) Z4) (.m 3 H)] (.a I J) G [3,3,0,12,4] rfl
theorem Av:4*a<=b->c<=a->d+3*e+3<=3*c->d<=b:=ac [a,b,c,d,e] [.nl (.m 4 F) G,.nl H F,.nl (.a (.a I (.m 3 J)) Z4) (.m 3 H)] I G [3,3,12,4] rfl
theorem Au:(a:Int)=59->¬(a=10):=ai [a] [.ze P (.k 59),.ne F Z8] [-1,1] rfl
theorem As:((32:Nat):Int)=(10:Int)->False:=ai [] [.ze (.c Z9) W7] [1] rfl
theorem Aq:a=5->4<=a:=ac [a] [.ne F (.k 5)] Z5 F [1,-1] rfl
theorem NN:a=5->2<=a:=ac [a] [.ne F (.k 5)] Z1 F [1,-1] rfl
theorem Ap:a<=b->c<=a->c<=b:=ac [a,b,c] [.nl F G,.nl H F] H G [1,1,1] rfl
theorem Ao:a-b+1=a-c->d<=a-b/\e<=a-b/\f<=a-b+1->f<=a-c:=fun h0 h1=>(ac [(a-b),a,b,(a-c),c,d,e,f] [.ne (.a F W) I,.nl K F,.nl L F,.nl M (.a F W)] M I [1,1,0,0,1] rfl) h0 h1.1 h1.2.1 h1.2.2
theorem An:a=9->9<=a:=ac [a] [.ne F (.k 9)] (.k 9) F [1,-1] rfl
theorem Am:a=9->8<=a:=ac [a] [.ne F (.k 9)] Z7 F [1,-1] rfl
theorem Al:a<b->a+1<=b:=ac [a,b] [.nl (.a F W) G] (.a F W) G [1,1] rfl
theorem Ak:0<a->0<=(a:Int):=az [a] [.nl (.a Z0 W) F] W0 P [1,1] rfl
theorem NM:(0:Nat)<(64:Nat):=ac [] [] (.a Z0 W) (.k 64) [1] rfl
theorem NL:a=1000000->4<=a:=ac [a] [.ne F Z2] Z5 F [1,-1] rfl
theorem NK:4*a+2<=b->b=1000000->c<a->d<=4*e->e=c->d+1+(0+1+1+1+1)<=b:=ac [a,b,c,d,e] [.nl (.a (.m 4 F) Z1) G,.ne G Z2,.nl (.a H W) F,.nl I (.m 4 J),.ne J H] (.a (.a I W) (.a (.a (.a (.a Z0 W) W) W) W)) G [1,1,0,4,1,4] rfl
theorem Aj:4*a+8<=b->b=1000000->c=a->a<=b:=ac [a,b,c] [.nl (.a (.m 4 F) Z7) G,.ne G Z2,.ne H F] F G [4,1,-3,0] rfl
theorem Ai:4*a+8<=b->b=1000000->c=1000000->d<=a+1->e=d->f=a->g<e->g<d->h<=g->h<=c:=ac [a,b,c,d,e,f,g,h] [.nl (.a (.m 4 F) Z7) G,.ne G Z2,.ne H Z2,.nl I (.a F W),.ne J I,.ne K F,.nl (.a L W) J,.nl (.a L W) I,.nl M L] M H [4,1,1,-4,4,0,0,0,4,4] rfl
theorem Ah:a=b->c+1<=8*b->c+1<=8*a:=ac [a,b,c] [.ne F G,.nl (.a H W) (.m 8 G)] (.a H W) (.m 8 F) [8,-64,8] rfl
theorem Ag:(2:Nat)<=(2:Nat):=ac [] [] Z1 Z1 [1] rfl
theorem Af:(0:Int)<(2:Int)/\(2:Int)<=(1000000:Int):=⟨az [] [] (.a W0 Z) (.k 2) [1] rfl,az [] [] (.k 2) W9 [1] rfl⟩
theorem Ae:p+1<=p+1:=by revert p;refine @bi _ ?_;intro p0 q0;exact az [p0,q0] [] (.a (.s P Q) Z) (.a (.s P Q) Z) [1] rfl
theorem Ad:(0:Int)<(3:Int)/\(3:Int)<=(1000000:Int):=⟨az [] [] (.a W0 Z) W3 [1] rfl,az [] [] W3 W9 [1] rfl⟩
theorem Ac:(a:Int)=0->a=0:=bh [a] [.ze P W0] F Z0 [1,1] [1,-1] rfl
theorem NJ:p<=p+((0:Nat):Int):=by revert p;refine @bi _ ?_;intro p0 q0;exact az [p0,q0] [] (.s P Q) (.a (.s P Q) (.c Z0)) [1] rfl
theorem Aa:a<=2->b=a+2->2<=b:=ac [a,b] [.nl F Z1,.ne G (.a F Z1)] Z1 G [1,0,-1] rfl
theorem z_:(a:Int)+1=((a+1:Nat):Int):=dY [a] [] (.a P Z) (.c (.a F W)) [1] [1] rfl
theorem NI:a<=1000000->a<16777216:=ac [a] [.nl F Z2] (.a F W) (.k 16777216) [1,1] rfl
theorem NH:a<=b->¬(a=b)->1<=(b:Int)-(a:Int):=fun h0 h1=>dw (fun c1=>(az [a,b] [.nl F G,.nl (.a F W) G] Z (.s Q P) [1,0,1] rfl) h0 c1) (fun c1=>(az [a,b] [.nl F G,.nl (.a G W) F] Z (.s Q P) [0,1,1] rfl) h0 c1) h1
theorem NG:0<a->0<a+1:=ac [a] [.nl (.a Z0 W) F] (.a Z0 W) (.a F W) [1,1] rfl
theorem NF:(0:Nat)<(0:Nat)+(1:Nat):=ac [] [] (.a Z0 W) (.a Z0 W) [1] rfl
theorem NE:a<=b->a≥b->b-a=0:=bA b a (bh [a,b,(b-a)] [.nl F G,.ne (.a H F) G,.nl F G,.nl G F] H Z0 [1,0,1,0,1] [1,0,0,0,0] rfl) (bh [a,b,(b-a)] [.nl G F,.ne H Z0,.nl F G,.nl G F] H Z0 [1,0,1,0,0] [1,0,-1,0,0] rfl)
theorem ND:a<b->b-a=b-(a+1)+1:=bA b a (bA b (a+1) (bh [a,b,(b-a),(b-(a+1))] [.nl (.a F W) G,.ne (.a I (.a F W)) G,.nl F G,.ne (.a H F) G,.nl (.a F W) G] H (.a I W) [1,0,-1,0,1,0] [1,0,1,0,-1,0] rfl) (bh [a,b,(b-a),(b-(a+1))] [.nl G (.a F W),.ne I Z0,.nl F G,.ne (.a H F) G,.nl (.a F W) G] H (.a I W) [1,1,-1,0,1,0] [1,0,1,0,-1,1] rfl)) (bh [a,b,(b-a),(b-(a+1))] [.nl G F,.ne H Z0,.nl (.a F W) G] H (.a I W) [0,1,0,1] [0,1,0,1] rfl)
theorem NC:a<=b->0=b-a->a=b:=bA b a (bh [a,b,(b-a)] [.nl F G,.ne (.a H F) G,.nl F G,.ne Z0 H] F G [1,1,0,0,0] [1,0,-1,0,-1] rfl) (bh [a,b,(b-a)] [.nl G F,.ne H Z0,.nl F G,.ne Z0 H] F G [1,0,0,1,0] [1,1,0,0,0] rfl)
theorem R5:(0:Nat)+(1:Nat)+(1:Nat)+(1:Nat)<=(16777216:Nat)+(2:Nat):=ac [] [] (.a (.a (.a Z0 W) W) W) (.a (.k 16777216) Z1) [1] rfl
theorem NB:a<=15->0+a<=16777216:=ac [a] [.nl F (.k 15)] (.a Z0 F) (.k 16777216) [1,1] rfl
theorem NA:a<=15->b=a->b<17:=ac [a,b] [.nl F (.k 15),.ne G F] (.a G W) (.k 17) [1,1,1] rfl
theorem Nz:a<=100->b=a->b<=16777216:=ac [a,b] [.nl F (.k 100),.ne G F] G (.k 16777216) [1,1,1] rfl
theorem Ny:a+b<=c->b=d+1->a<c:=ac [a,b,c,d] [.nl (.a F G) H,.ne G (.a I W)] (.a F W) H [1,1,-1] rfl
theorem Nx:a+b<=c->b=d+1->e<f->g<=d->a+1+g<=c:=ac [a,b,c,d,e,f,g] [.nl (.a F G) H,.ne G (.a I W),.nl (.a J W) K,.nl L I] (.a (.a F W) L) H [1,1,-1,0,1] rfl
theorem Nw:2<=a->b+2*a<c->b+1+2*1<c:=ac [a,b,c] [.nl Z1 F,.nl (.a (.a G (.m 2 F)) W) H] (.a (.a (.a G W) (.m 2 W)) W) H [1,2,1] rfl
theorem Nv:2<=a->b+8*a<c->b+1+8*1<c:=ac [a,b,c] [.nl Z1 F,.nl (.a (.a G (.m 8 F)) W) H] (.a (.a (.a G W) (.m 8 W)) W) H [1,8,1] rfl
theorem Nu:4<=0+1+1+1+1+1+a:=ac [a] [] Z5 (.a (.a (.a (.a (.a (.a Z0 W) W) W) W) W) F) [1] rfl
theorem Nt:a<=100->b=a->b<=100:=ac [a,b] [.nl F (.k 100),.ne G F] G (.k 100) [1,1,1] rfl
theorem Nr:a+1<=a+1+1:=ac [a] [] (.a F W) (.a (.a F W) W) [1] rfl
theorem Nq:a<=b+1->a+1<=b+1+1:=ac [a,b] [.nl F (.a G W)] (.a F W) (.a (.a G W) W) [1,1] rfl
theorem Np:a<=1000->b<=c+1->c=a->b<=16777216+1:=ac [a,b,c] [.nl F (.k 1000),.nl G (.a H W),.ne H F] G (.a (.k 16777216) W) [1,1,1,1] rfl
theorem No:a<=100->a=b->b=c->c<=1000:=ac [a,b,c] [.nl F (.k 100),.ne F G,.ne G H] H (.k 1000) [1,1,-1,-1] rfl
theorem Nn:¬(((63:Nat):Int)<(a:Int))->a<=1000:=ac [a] [.zn (.a (.c (.k 63)) Z) P] F (.k 1000) [1,1] rfl
theorem Nm:(-(2^60))<p->p<2^60->(-(2^64))<p:=by revert p;refine @bi _ ?_;intro p0 q0;exact az [p0,q0] [.zl (.a (.k ((-((2:Int) ^ 60)))) Z) (.s P Q),.zl (.a (.s P Q) Z) (.k (((2:Int) ^ 60)))] (.a (.k ((-((2:Int) ^ 64)))) Z) (.s P Q) [1,1,0] rfl
theorem Nl:(-(2^60))<p->p<2^60->p<2^64:=by revert p;refine @bi _ ?_;intro p0 q0;exact az [p0,q0] [.zl (.a (.k ((-((2:Int) ^ 60)))) Z) (.s P Q),.zl (.a (.s P Q) Z) (.k (((2:Int) ^ 60)))] (.a (.s P Q) Z) (.k (((2:Int) ^ 64))) [1,0,1] rfl
theorem Nk:0<=p/\p<=1000000->(-(2^60))<p+1:=by revert p;refine @bi _ ?_;intro p0 q0;exact fun h0=>(az [p0,q0] [.zl W0 (.s P Q),.zl (.s P Q) W9] (.a (.k ((-((2:Int) ^ 60)))) Z) (.a (.s P Q) Z) [1,1,0] rfl) h0.1 h0.2
theorem Nj:0<=p/\p<=1000000->p+1<2^60:=by revert p;refine @bi _ ?_;intro p0 q0;exact fun h0=>(az [p0,q0] [.zl W0 (.s P Q),.zl (.s P Q) W9] (.a (.a (.s P Q) Z) Z) (.k (((2:Int) ^ 60))) [1,0,1] rfl) h0.1 h0.2
theorem Ni:a+1<=8->a<=8:=ac [a] [.nl (.a F W) Z7] F Z7 [1,1] rfl
theorem Nh:0<a/\a<=1000000->b=1000000->a<=b:=fun h0 h1=>(ac [a,b] [.nl (.a Z0 W) F,.nl F Z2,.ne G Z2] F G [1,0,1,-1] rfl) h0.1 h0.2 h1
theorem Ng:0<a/\a<=1000000->0<(a:Int)/\(a:Int)<=1000000:=fun h0=>⟨(az [a] [.nl (.a Z0 W) F,.nl F Z2] (.a W0 Z) P [1,1,0] rfl) h0.1 h0.2,(az [a] [.nl (.a Z0 W) F,.nl F Z2] P W9 [1,0,1] rfl) h0.1 h0.2⟩
theorem Nf:p<(a:Int)->p<(a:Int):=by revert p;refine @bi _ ?_;intro p0 q0;exact az [p0,q0,a] [.zl (.a (.s P Q) Z) R] (.a (.s P Q) Z) R [1,1] rfl
theorem Nc:a<=1000->b=1000000->a<=b:=ac [a,b] [.nl F (.k 1000),.ne G Z2] F G [1,1,-1] rfl
theorem Nb:a=1000000->b<=8->b<=a:=ac [a,b] [.ne F Z2,.nl G Z7] G F [1,-1,1] rfl
theorem Na:a<=b->((c:Int)-(b:Int)<(c:Int)-(a:Int)↔¬(a=b)):=fun h0=>⟨fun c1=>fun c2=>(ai [a,b,c] [.nl F G,.zl (.a (.s R Q) Z) (.s R P),.ne F G] [0,1,-1] rfl) h0 c1 c2,fun c1=>dw (fun c3=>(az [a,b,c] [.nl F G,.nl (.a F W) G] (.a (.s R Q) Z) (.s R P) [1,0,1] rfl) h0 c3) (fun c3=>(az [a,b,c] [.nl F G,.nl (.a G W) F] (.a (.s R Q) Z) (.s R P) [0,1,1] rfl) h0 c3) c1⟩
theorem M_:(a:Int)-(b:Int)<(a:Int)-(c:Int)->c≠b:=ai [a,b,c] [.zl (.a (.s P Q) Z) (.s P R),.ne H G] [1,-1] rfl
theorem M9:¬(48<=a/\a<=57)->48<=a->57<a:=fun h0 h1=>Or.elim (Classical.not_and_iff_not_or_not.mp h0) (fun c1=>(ac [a] [.nn Z3 F,.nl Z3 F] (.a (.k 57) W) F [0,1,1] rfl) c1 h1) (fun c1=>(ac [a] [.nn F (.k 57),.nl Z3 F] (.a (.k 57) W) F [1,1,0] rfl) c1 h1)
theorem M8:a<=b->¬((c:Int)-(b:Int)<(c:Int)-(a:Int))->a=b:=bh [a,b,c] [.nl F G,.zn (.a (.s R Q) Z) (.s R P)] F G [1,1,0] [1,0,1] rfl
theorem M7:a<=b->c=b-a->((d:Int)-(b:Int)<(d:Int)-(c:Int)↔a≠0):=fun h0 h1=>⟨fun c1=>fun c2=>(bA b a (ai [a,b,c,(b-a),d] [.nl F G,.ne (.a I F) G,.nl F G,.ne H I,.zl (.a (.s T Q) Z) (.s T R),.ne F Z0] [0,-1,0,-1,1,1] rfl) (ai [a,b,c,(b-a),d] [.nl G F,.ne I Z0,.nl F G,.ne H I,.zl (.a (.s T Q) Z) (.s T R),.ne F Z0] [1,0,0,0,1,1] rfl)) h0 h1 c1 c2,fun c1=>dw (fun c3=>(az [a,b,c,(b-a),d] [.nl F G,.ne H I,.nl (.a F W) Z0] (.a (.s T Q) Z) (.s T R) [0,0,0,1] rfl) h0 h1 c3) (fun c3=>(bA b a (az [a,b,c,(b-a),d] [.nl F G,.ne (.a I F) G,.nl F G,.ne H I,.nl (.a Z0 W) F] (.a (.s T Q) Z) (.s T R) [1,0,1,0,1,1] rfl) (az [a,b,c,(b-a),d] [.nl G F,.ne I Z0,.nl F G,.ne H I,.nl (.a Z0 W) F] (.a (.s T Q) Z) (.s T R) [1,0,1,1,1,1] rfl)) h0 h1 c3) c1⟩
theorem M6:a=1000000->b<=3->c=b->c<=a:=ac [a,b,c] [.ne F Z2,.nl G Z4,.ne H G] H F [1,-1,1,1] rfl
theorem M5:a=1000000->(b:Int)=3->c<=d->d<=b->c<=a:=ac [a,b,c,d] [.ne F Z2,.ze Q W3,.nl H I,.nl I G] H F [1,-1,1,1,1] rfl
theorem M4:a=b->(a:Int)=3->b=3:=bh [a,b] [.ne F G,.ze P W3] G Z4 [1,-1,1] [1,1,-1] rfl
theorem M3:a<2^8->(48<=a/\a<=55)/\(48<=b/\b<=55)/\48<=c/\c<=55->¬((a:Int)-48<4)->48<=a/\a<=51/\48<=b/\b<=55/\48<=c/\c<=55->False:=fun h0 h1 h2 h3=>(ai [a,b,c] [.nl (.a F W) Za,.nl Z3 F,.nl F Z6,.nl Z3 G,.nl G Z6,.nl Z3 H,.nl H Z6,.zn (.a (.s P W1) Z) (.k 4),.nl Z3 F,.nl F (.k 51),.nl Z3 G,.nl G Z6,.nl Z3 H,.nl H Z6] [0,0,0,0,0,0,0,1,0,1,0,0,0,0] rfl) h0 h1.1.1 h1.1.2 h1.2.1.1 h1.2.1.2 h1.2.2.1 h1.2.2.2 h2 h3.1 h3.2.1 h3.2.2.1 h3.2.2.2.1 h3.2.2.2.2.1 h3.2.2.2.2.2
theorem M2:a<2^8->48<=a/\a<=51/\48<=b/\b<=55/\48<=c/\c<=55->48<=a/\48<=b/\48<=c/\(a-48)*64+(b-48)*8+(c-48)=(a-48)*64+(b-48)*8+(c-48):=fun _ h=>⟨h.1,h.2.2.1,h.2.2.2.2.1,rfl⟩
theorem M1:(a:Int)-((b:Int)+1+1+1)+3=(a:Int)-(b:Int):=dY [a,b] [] (.a (.s P (.a (.a (.a Q Z) Z) Z)) W3) (.s P Q) [1] [1] rfl
theorem M0:a<256->p=(a:Int)->0<=p/\p<256:=by revert p;refine @bi _ ?_;intro p1 q1;exact fun h0 h1=>⟨(az [a,p1,q1] [.nl (.a F W) (.k 256),.ze (.s Q R) P] W0 (.s Q R) [1,0,-1] rfl) h0 h1,(az [a,p1,q1] [.nl (.a F W) (.k 256),.ze (.s Q R) P] (.a (.s Q R) Z) (.k 256) [1,1,1] rfl) h0 h1⟩
theorem MZ:4*a<=b->b=1000000->c<=a->d+3*e+3<=3*c->d+2<=b:=ac [a,b,c,d,e] [.nl (.m 4 F) G,.ne G Z2,.nl H F,.nl (.a (.a I (.m 3 J)) Z4) (.m 3 H)] (.a I Z1) G [3,3,0,12,4] rfl
theorem MY:a+3*b+3<=3*c->a+2+3*b<=3*c:=ac [a,b,c] [.nl (.a (.a F (.m 3 G)) Z4) (.m 3 H)] (.a (.a F Z1) (.m 3 G)) (.m 3 H) [1,1] rfl
theorem MX:¬((a:Int)=39)->¬((a:Int)=126)->¬(a=39):=fun h0 h1 h2=>cJ (fun c2=>(ai [a] [.zl (.a P Z) W8,.ne F (.k 39)] [1,-1] rfl) c2 h2) (fun c2=>(ai [a] [.zl (.a W8 Z) P,.ne F (.k 39)] [1,1] rfl) c2 h2) h0
theorem MW:a<b->c+1<=a->¬((c:Int)+1=(b:Int)):=ai [a,b,c] [.nl (.a F W) G,.nl (.a H W) F,.ze (.a R Z) Q] [1,1,-1] rfl
theorem MV:a+3*(b+1)<=3*c->a+3*b<=3*c:=ac [a,b,c] [.nl (.a F (.m 3 (.a G W))) (.m 3 H)] (.a F (.m 3 G)) (.m 3 H) [1,1] rfl
theorem MU:(a:Int)=39->(a:Int)=126->¬(a=34):=ai [a] [.ze P W8,.ze P W6,.ne F (.k 34)] [-1,0,1] rfl
theorem MT:(a:Int)=39->(a:Int)=126->¬(a=92):=ai [a] [.ze P W8,.ze P W6,.ne F (.k 92)] [1,-1,0] rfl
theorem MS:(a:Int)=39->(a:Int)=126->¬(a=36):=ai [a] [.ze P W8,.ze P W6,.ne F (.k 36)] [-1,0,1] rfl
theorem MR:(a:Int)=39->¬(a=34):=ai [a] [.ze P W8,.ne F (.k 34)] [-1,1] rfl
theorem MQ:(a:Int)=39->¬(a=92):=ai [a] [.ze P W8,.ne F (.k 92)] [1,-1] rfl
theorem MP:(a:Int)=39->¬(a=36):=ai [a] [.ze P W8,.ne F (.k 36)] [-1,1] rfl
theorem MO:(a:Int)=39->(a:Int)=126->0<=p/\p<256:=by revert p;refine @bi _ ?_;intro p1 q1;exact fun h0 h1=>⟨(az [a,p1,q1] [.ze P W8,.ze P W6] W0 (.s Q R) [0,1,-1] rfl) h0 h1,(az [a,p1,q1] [.ze P W8,.ze P W6] (.a (.s Q R) Z) (.k 256) [0,1,-1] rfl) h0 h1⟩
theorem MN:(a:Int)=39->(a:Int)=126->1<=b:=ac [a,b] [.ze P W8,.ze P W6] W G [0,1,-1] rfl
theorem MM:(a:Int)=39->(a:Int)=126->b+1<=c:=ac [a,b,c] [.ze P W8,.ze P W6] (.a G W) H [0,1,-1] rfl
theorem ML:(a:Int)=39->(a:Int)=126->b+1+3*c<=3*d:=ac [a,b,c,d] [.ze P W8,.ze P W6] (.a (.a G W) (.m 3 H)) (.m 3 I) [0,1,-1] rfl
theorem MK:(a:Int)=39->p=(a:Int)->0<=p/\p<256:=by revert p;refine @bi _ ?_;intro p1 q1;exact fun h0 h1=>⟨(az [a,p1,q1] [.ze P W8,.ze (.s Q R) P] W0 (.s Q R) [1,-1,-1] rfl) h0 h1,(az [a,p1,q1] [.ze P W8,.ze (.s Q R) P] (.a (.s Q R) Z) (.k 256) [1,1,1] rfl) h0 h1⟩
theorem MJ:4*a<=b->b=1000000->c=1000000->d<=a->e+f<=d->e+1<=c:=ac [a,b,c,d,e,f] [.nl (.m 4 F) G,.ne G Z2,.ne H Z2,.nl I F,.nl (.a J K) I] (.a J W) H [4,1,1,-4,4,4] rfl
theorem MI:4*a<=b->b=1000000->c=1000000->d<=a->e<=d->e+1<=c:=ac [a,b,c,d,e] [.nl (.m 4 F) G,.ne G Z2,.ne H Z2,.nl I F,.nl J I] (.a J W) H [4,1,1,-4,4,4] rfl
theorem MH:a+(b+1)<=c->a<=c:=ac [a,b,c] [.nl (.a F (.a G W)) H] F H [1,1] rfl
theorem MG:4*a<=b->b=1000000->c=1000000->d<=a->e+(f+1)<=d->g<=e+1->g+1<=c:=ac [a,b,c,d,e,f,g] [.nl (.m 4 F) G,.ne G Z2,.ne H Z2,.nl I F,.nl (.a J (.a K W)) I,.nl L (.a J W)] (.a L W) H [4,1,1,-4,4,4,4] rfl
theorem MF:¬((a:Int)=35)->¬((a:Int)=125)->¬(a=35):=fun h0 h1 h2=>cJ (fun c2=>(ai [a] [.zl (.a P Z) (.k 35),.ne F (.k 35)] [1,-1] rfl) c2 h2) (fun c2=>(ai [a] [.zl (.a (.k 35) Z) P,.ne F (.k 35)] [1,1] rfl) c2 h2) h0
theorem ME:¬((a:Int)=125)->¬(a=125):=fun h0 h1=>cJ (fun c1=>(ai [a] [.zl (.a P Z) (.k 125),.ne F (.k 125)] [1,-1] rfl) c1 h1) (fun c1=>(ai [a] [.zl (.a (.k 125) Z) P,.ne F (.k 125)] [1,1] rfl) c1 h1) h0
theorem MD:¬((a:Int)=35)->a≠59/\a≠10/\a≠125->¬(a=35):=fun h0 h1 h2=>cJ (fun c8=>(ai [a] [.zl (.a P Z) (.k 35),.ne F (.k 35)] [1,-1] rfl) c8 h2) (fun c8=>(ai [a] [.zl (.a (.k 35) Z) P,.ne F (.k 35)] [1,1] rfl) c8 h2) h0
theorem MC:a≠59/\a≠10/\a≠125->¬(a=125):=fun h0 h1=>dw (fun c1=>(ai [a] [.nl (.a F W) (.k 125),.ne F (.k 125)] [1,-1] rfl) c1 h1) (fun c1=>(ai [a] [.nl (.a (.k 125) W) F,.ne F (.k 125)] [1,1] rfl) c1 h1) h0.2.2
theorem MB:a≠59/\a≠10/\a≠125->¬(a=10):=fun h0 h1=>dw (fun c2=>(ai [a] [.nl (.a F W) Z8,.ne F Z8] [1,-1] rfl) c2 h1) (fun c2=>(ai [a] [.nl (.a Z8 W) F,.ne F Z8] [1,1] rfl) c2 h1) h0.2.1
theorem MA:a≠59/\a≠10/\a≠125->¬(a=59):=fun h0 h1=>dw (fun c4=>(ai [a] [.nl (.a F W) (.k 59),.ne F (.k 59)] [1,-1] rfl) c4 h1) (fun c4=>(ai [a] [.nl (.a (.k 59) W) F,.ne F (.k 59)] [1,1] rfl) c4 h1) h0.1
theorem Mz:(a:Int)=32->a=32:=bh [a] [.ze P (.k 32)] F Z9 [1,1] [1,-1] rfl
theorem My:(a:Int)=123->¬(a=32):=ai [a] [.ze P (.k 123),.ne F Z9] [-1,1] rfl
theorem Mx:(a:Int)=123->a=92->False:=ai [a] [.ze P (.k 123),.ne F (.k 92)] [-1,1] rfl
theorem Mw:a<b+1->c+1<=a->c<b:=ac [a,b,c] [.nl (.a F W) (.a G W),.nl (.a H W) F] (.a H W) G [1,1,1] rfl
theorem Mv:a=b+2->c+1<=b->c+3<=a:=ac [a,b,c] [.ne F (.a G Z1),.nl (.a H W) G] (.a H Z4) F [1,-1,1] rfl
theorem R4:¬((a:Int)=32)->¬((a:Int)=92)->¬((a:Int)=123)->¬(a=32):=fun h0 h1 h2 h3=>cJ (fun c4=>(ai [a] [.zl (.a P Z) (.k 32),.ne F Z9] [1,-1] rfl) c4 h3) (fun c4=>(ai [a] [.zl (.a (.k 32) Z) P,.ne F Z9] [1,1] rfl) c4 h3) h0
theorem Mu:¬((a:Int)=123)->¬(a=123):=fun h0 h1=>cJ (fun c1=>(ai [a] [.zl (.a P Z) (.k 123),.ne F (.k 123)] [1,-1] rfl) c1 h1) (fun c1=>(ai [a] [.zl (.a (.k 123) Z) P,.ne F (.k 123)] [1,1] rfl) c1 h1) h0
theorem Mt:(a:Int)=92->((¬(a=32)/\¬(a=10))/\¬(a=59))/\¬(a=125):=fun h0=>⟨⟨⟨fun c1=>(ai [a] [.ze P W2,.ne F Z9] [-1,1] rfl) h0 c1,fun c2=>(ai [a] [.ze P W2,.ne F Z8] [-1,1] rfl) h0 c2⟩,fun c3=>(ai [a] [.ze P W2,.ne F (.k 59)] [-1,1] rfl) h0 c3⟩,fun c4=>(ai [a] [.ze P W2,.ne F (.k 125)] [1,-1] rfl) h0 c4⟩
theorem Ms:a<=1000000->(-(2^62))<=(a:Int):=az [a] [.nl F Z2] (.k ((-((2:Int) ^ 62)))) P [1,0] rfl
theorem Mr:a<=1000000->(a:Int)<2^62:=az [a] [.nl F Z2] (.a P Z) (.k (((2:Int) ^ 62))) [1,1] rfl
theorem Mq:(a:Int)-0=(a:Int):=dY [a] [] (.s P W0) P [1] [1] rfl
theorem Mp:a<=1000000->¬(0<(a:Int))->0=(a:Int):=dY [a] [.nl F Z2,.zn (.a W0 Z) P] W0 P [1,0,0] [1,0,1] rfl
theorem Mo:a<b->0<(b:Int)-(a:Int):=az [a,b] [.nl (.a F W) G] (.a W0 Z) (.s Q P) [1,1] rfl
theorem Mn:(a:Int)-((b+1:Nat):Int)=(a:Int)-(b:Int)-1:=dY [a,b] [] (.s P (.c (.a G W))) (.s (.s P Q) Z) [1] [1] rfl
theorem Ml:(a:Int)-(a:Int)<=0:=az [a] [] (.s P P) W0 [1] rfl
theorem Mk:a<=1000000->(a:Int)<2^63:=az [a] [.nl F Z2] (.a P Z) (.k (((2:Int) ^ 63))) [1,1] rfl
theorem Mj:0<a->a=0->False:=ai [a] [.nl (.a Z0 W) F,.ne F Z0] [1,1] rfl
theorem Mi:(-(1:Int))<(0:Int):=az [] [] (.a (.k ((-(1:Int)))) Z) W0 [1] rfl
theorem Mh:0<a->(-(a:Int))<=(-1):=az [a] [.nl (.a Z0 W) F] (.g P) (.k ((-(1:Int)))) [1,1] rfl
theorem Mg:a<=b->a-1<a->a-1<=b+1:=ac [a,b,(a-1)] [.nl F G,.nl (.a H W) F] H (.a G W) [1,1,1] rfl
theorem Mf:a<=b->a+1<=b+1:=ac [a,b] [.nl F G] (.a F W) (.a G W) [1,1] rfl
theorem Me:a+1=b->b-1=a:=bA b 1 (bh [a,b,(b-1)] [.nl W G,.ne (.a H W) G,.ne (.a F W) G] H F [1,0,1,-1] [1,0,-1,1] rfl) (bh [a,b,(b-1)] [.nl G W,.ne H Z0,.ne (.a F W) G] H F [1,0,1,0] [1,1,-1,1] rfl)
theorem Md:a+1=b->b-1=a->b-1<b:=ac [a,b,(b-1)] [.ne (.a F W) G,.ne H F] (.a H W) G [1,1,1] rfl
theorem Mc:a+1=b->b<=a+1:=ac [a,b] [.ne (.a F W) G] G (.a F W) [1,-1] rfl
theorem Mb:a<=1000000->a+1<=16777216:=ac [a] [.nl F Z2] (.a F W) (.k 16777216) [1,1] rfl
theorem Ma:a=b+1->(-(a:Int))<=(-1):=az [a,b] [.ne F (.a G W)] (.g P) (.k ((-(1:Int)))) [1,-1] rfl
theorem L_:0<=p->(-(2^63))<=p:=by revert p;refine @bi _ ?_;intro p0 q0;exact az [p0,q0] [.zl W0 (.s P Q)] (.k ((-((2:Int) ^ 63)))) (.s P Q) [1,1] rfl
theorem L9:0<=p->¬(p<0):=by revert p;refine @bi _ ?_;intro p0 q0;exact ai [p0,q0] [.zl W0 (.s P Q),.zl (.a (.s P Q) Z) W0] [1,1] rfl
theorem L8:a+1<=b->c+2*b<d->c+1+2*a<d:=ac [a,b,c,d] [.nl (.a F W) G,.nl (.a (.a H (.m 2 G)) W) I] (.a (.a (.a H W) (.m 2 F)) W) I [2,4,2] rfl
theorem L7:a+1<=b->c+8*b<d->c+1+8*a<d:=ac [a,b,c,d] [.nl (.a F W) G,.nl (.a (.a H (.m 8 G)) W) I] (.a (.a (.a H W) (.m 8 F)) W) I [8,64,8] rfl
theorem L6:a<=1000000->b<=a->b<=16777216:=ac [a,b] [.nl F Z2,.nl G F] G (.k 16777216) [1,1,1] rfl
theorem L5:a=b->c=b->c=a:=bh [a,b,c] [.ne F G,.ne H G] H F [1,-1,1] [1,1,-1] rfl
theorem L4:a=b->c<b->¬(a=c):=ai [a,b,c] [.ne F G,.nl (.a H W) G,.ne F H] [-1,1,1] rfl
theorem L3:a<=b->c<a->c<b+1:=ac [a,b,c] [.nl F G,.nl (.a H W) F] (.a H W) (.a G W) [1,1,1] rfl
theorem LY:a<=b->c=a->c<b+1:=ac [a,b,c] [.nl F G,.ne H F] (.a H W) (.a G W) [1,1,1] rfl
theorem LX:a+b=c->a+(b-1)<=c:=bA b 1 (ac [a,b,c,(b-1)] [.nl W G,.ne (.a I W) G,.ne (.a F G) H] (.a F I) H [1,0,1,1] rfl) (ac [a,b,c,(b-1)] [.nl G W,.ne I Z0,.ne (.a F G) H] (.a F I) H [1,0,1,1] rfl)
theorem LW:3*a<=3*(a+1):=ac [a] [] (.m 3 F) (.m 3 (.a F W)) [1] rfl
theorem R3:a+3*b<=c+d+3*e->e<=f->d<=1->a+3*b<=c+3*(f+1):=ac [a,b,c,d,e,f] [.nl (.a F (.m 3 G)) (.a (.a H I) (.m 3 J)),.nl J K,.nl I W] (.a F (.m 3 G)) (.a H (.m 3 (.a K W))) [1,1,3,1] rfl
theorem R1:a+3*b<=c+d+3*e->e<=f->d<=3->a+3*b<=c+3*(f+1):=ac [a,b,c,d,e,f] [.nl (.a F (.m 3 G)) (.a (.a H I) (.m 3 J)),.nl J K,.nl I Z4] (.a F (.m 3 G)) (.a H (.m 3 (.a K W))) [1,1,3,1] rfl
theorem R0:a+3*b<=c+1+3*d->a+3*b<=c+3*(d+1):=ac [a,b,c,d] [.nl (.a F (.m 3 G)) (.a (.a H W) (.m 3 I))] (.a F (.m 3 G)) (.a H (.m 3 (.a I W))) [1,1] rfl
theorem RZ:a+3*b<=c+3*(d+1)->e+3*f<=a+3*b->e+3*f<=c+3*(d+1):=ac [a,b,c,d,e,f] [.nl (.a F (.m 3 G)) (.a H (.m 3 (.a I W))),.nl (.a J (.m 3 K)) (.a F (.m 3 G))] (.a J (.m 3 K)) (.a H (.m 3 (.a I W))) [1,1,1] rfl
theorem LU:a+b<=c->d+a+3*b<=d+3*(c+1):=ac [a,b,c,d] [.nl (.a F G) H] (.a (.a I F) (.m 3 G)) (.a I (.m 3 (.a H W))) [1,3] rfl
theorem LT:a+3*b<=c+3*d->a+3*b<=c+3*(d+1):=ac [a,b,c,d] [.nl (.a F (.m 3 G)) (.a H (.m 3 I))] (.a F (.m 3 G)) (.a H (.m 3 (.a I W))) [1,1] rfl
theorem LS:a<=b->c<=1->d+c+3*a<=d+3*(b+1):=ac [a,b,c,d] [.nl F G,.nl H W] (.a (.a I H) (.m 3 F)) (.a I (.m 3 (.a G W))) [1,3,1] rfl
theorem LR:a<=3->b<=c->d+a+3*b<=d+3*(c+1):=ac [a,b,c,d] [.nl F Z4,.nl G H] (.a (.a I F) (.m 3 G)) (.a I (.m 3 (.a H W))) [1,1,3] rfl
theorem LQ:a<=3->b+a+3*c<=b+3*(c+1):=ac [a,b,c] [.nl F Z4] (.a (.a G F) (.m 3 H)) (.a G (.m 3 (.a H W))) [1,1] rfl
theorem LP:a+1+3*b<=a+3*(b+1):=ac [a,b] [] (.a (.a F W) (.m 3 G)) (.a F (.m 3 (.a G W))) [1] rfl
theorem LO:a=123->¬(a=35):=ai [a] [.ne F (.k 123),.ne F (.k 35)] [-1,1] rfl
theorem LM:a=123->¬(a=125):=ai [a] [.ne F (.k 123),.ne F (.k 125)] [1,-1] rfl
theorem LK:a=123->¬(a=10):=ai [a] [.ne F (.k 123),.ne F Z8] [-1,1] rfl
theorem LJ:a=123->¬(a=59):=ai [a] [.ne F (.k 123),.ne F (.k 59)] [-1,1] rfl
theorem LI:a=123->¬(a=32):=ai [a] [.ne F (.k 123),.ne F Z9] [-1,1] rfl
theorem z8:a=125->¬(a=35):=ai [a] [.ne F (.k 125),.ne F (.k 35)] [-1,1] rfl
theorem RY:a+3+(b+c)=a+3+b+c:=bh [a,b,c] [] (.a (.a F Z4) (.a G H)) (.a (.a (.a F Z4) G) H) [1] [1] rfl
theorem RX:a<=4*b->c<=4->c+a<=4*(b+1):=ac [a,b,c] [.nl F (.m 4 G),.nl H Z5] (.a H F) (.m 4 (.a G W)) [1,1,1] rfl
theorem LH:a<=4*a+2:=ac [a] [] F (.a (.m 4 F) Z1) [1] rfl
theorem LG:a<=4*b->a+1+(0+1)<=4*b+2:=ac [a,b] [.nl F (.m 4 G)] (.a (.a F W) (.a Z0 W)) (.a (.m 4 G) Z1) [1,1] rfl
theorem LB:a<=b->a<=b+3+0:=ac [a,b] [.nl F G] F (.a (.a G Z4) Z0) [1,1] rfl
theorem LA:a<=3->b<=c->d<=e->b+a+d<=c+3+e:=ac [a,b,c,d,e] [.nl F Z4,.nl G H,.nl I J] (.a (.a G F) I) (.a (.a H Z4) J) [1,1,1,1] rfl
theorem Lz:a<=b->c<=d->e<=3->e+a+c<=b+3+d:=ac [a,b,c,d,e] [.nl F G,.nl H I,.nl J Z4] (.a (.a J F) H) (.a (.a G Z4) I) [1,1,1,1] rfl
theorem Ly:a<=b->0+1+1+a+(0+1+1)<=b+4:=ac [a,b] [.nl F G] (.a (.a (.a (.a Z0 W) W) F) (.a (.a Z0 W) W)) (.a G Z5) [1,1] rfl
theorem Lx:a+(b+3+0+3)<=a+0+b+6:=ac [a,b] [] (.a F (.a (.a (.a G Z4) Z0) Z4)) (.a (.a (.a F Z0) G) (.k 6)) [1] rfl
theorem Lw:a+(b+(c+3+0)+3)<=a+(b+3)+c+6:=ac [a,b,c] [] (.a F (.a (.a G (.a (.a H Z4) Z0)) Z4)) (.a (.a (.a F (.a G Z4)) H) (.k 6)) [1] rfl
theorem Lv:a+20*b<=c+20*(d+1)->e<=a+20*b->e<=c+20*(d+1):=ac [a,b,c,d,e] [.nl (.a F (.m 20 G)) (.a H (.m 20 (.a I W))),.nl J (.a F (.m 20 G))] J (.a H (.m 20 (.a I W))) [1,1,1] rfl
theorem Lr:a+b<=c+d->e<=a+f->f<=b->e<=c+d:=ac [a,b,c,d,e,f] [.nl (.a F G) (.a H I),.nl J (.a F K),.nl K G] J (.a H I) [1,1,1,1] rfl
theorem Lq:a+1+b<=a+(b+1):=ac [a,b] [] (.a (.a F W) G) (.a F (.a G W)) [1] rfl
theorem Lo:a+b<=c->b+a+(0+0)<=c:=ac [a,b,c] [.nl (.a F G) H] (.a (.a G F) (.a Z0 Z0)) H [1,1] rfl
theorem Ln:a+b<=c->b+1+a+0<=c+1:=ac [a,b,c] [.nl (.a F G) H] (.a (.a (.a G W) F) Z0) (.a H W) [1,1] rfl
theorem Lm:a+10+20*b<=a+20*(b+1):=ac [a,b] [] (.a (.a F Z8) (.m 20 G)) (.a F (.m 20 (.a G W))) [1] rfl
theorem Lj:a+b+c<=d->e<=a+(c+4)+6->b+e<=d+10:=ac [a,b,c,d,e] [.nl (.a (.a F G) H) I,.nl J (.a (.a F (.a H Z5)) (.k 6))] (.a G J) (.a I Z8) [1,1,1] rfl
theorem Li:a+1+b+c<=d->e<=(Nat.max a (c+1))->(Nat.max a (c+1))<=a+(c+1)->b+e<=d:=ac [a,b,c,d,e,(Nat.max a (c+1))] [.nl (.a (.a (.a F W) G) H) I,.nl J K,.nl K (.a F (.a H W))] (.a G J) I [1,1,1,1] rfl
theorem Lh:a<=b->c+3*a<=0+3*(b+1)->d+(4*c+8)+20*a<=d+20*(b+1):=ac [a,b,c,d] [.nl F G,.nl (.a H (.m 3 F)) (.a Z0 (.m 3 (.a G W)))] (.a (.a I (.a (.m 4 H) Z7)) (.m 20 F)) (.a I (.m 20 (.a G W))) [20,160,80] rfl
theorem Ld:a+b<=c->d<=b+(4*e+2)+6->a+d<=c+(4*e+8):=ac [a,b,c,d,e] [.nl (.a F G) H,.nl I (.a (.a G (.a (.m 4 J) Z1)) (.k 6))] (.a F I) (.a H (.a (.m 4 J) Z7)) [1,1,1] rfl
theorem K_:a+b<=c->d<=(Nat.max b 0)->(Nat.max b 0)=b->a+d<=c:=ac [a,b,c,d,(Nat.max b 0)] [.nl (.a F G) H,.nl I J,.ne J G] (.a F I) H [1,1,1,1] rfl
theorem KZ:a<=0+20*b->a<=20*b:=ac [a,b] [.nl F (.a Z0 (.m 20 G))] F (.m 20 G) [1,1] rfl
theorem KY:a<=0+b->a<=b:=ac [a,b] [.nl F (.a Z0 G)] F G [1,1] rfl
theorem KW:a+1<=b->c<=a->c+1<=b:=ac [a,b,c] [.nl (.a F W) G,.nl H F] (.a H W) G [1,1,1] rfl
theorem KV:a<=3*b+1+1->a+1<=3*(b+1)+0:=ac [a,b] [.nl F (.a (.a (.m 3 G) W) W)] (.a F W) (.a (.m 3 (.a G W)) Z0) [1,1] rfl
theorem KU:a<=b->c<=3*a+0->c<=3*b:=ac [a,b,c] [.nl F G,.nl H (.a (.m 3 F) Z0)] H (.m 3 G) [3,9,3] rfl
theorem KT:a<=b->c<=a->c<=b+1:=ac [a,b,c] [.nl F G,.nl H F] H (.a G W) [1,1,1] rfl
theorem KS:a=34\/a=36\/a=92->¬(48<=a/\a<=51/\48<=b/\b<=55/\48<=c/\c<=55):=fun h0 h1=>Or.elim h0 (fun c1=>(ai [a,b,c] [.ne F (.k 34),.nl Z3 F,.nl F (.k 51),.nl Z3 G,.nl G Z6,.nl Z3 H,.nl H Z6] [1,1,0,0,0,0,0] rfl) c1 h1.1 h1.2.1 h1.2.2.1 h1.2.2.2.1 h1.2.2.2.2.1 h1.2.2.2.2.2) (fun c1=>Or.elim c1 (fun c2=>(ai [a,b,c] [.ne F (.k 36),.nl Z3 F,.nl F (.k 51),.nl Z3 G,.nl G Z6,.nl Z3 H,.nl H Z6] [1,1,0,0,0,0,0] rfl) c2 h1.1 h1.2.1 h1.2.2.1 h1.2.2.2.1 h1.2.2.2.2.1 h1.2.2.2.2.2) (fun c2=>(ai [a,b,c] [.ne F (.k 92),.nl Z3 F,.nl F (.k 51),.nl Z3 G,.nl G Z6,.nl Z3 H,.nl H Z6] [-1,0,1,0,0,0,0] rfl) c2 h1.1 h1.2.1 h1.2.2.1 h1.2.2.2.1 h1.2.2.2.2.1 h1.2.2.2.2.2))
theorem KR:a=34\/a=36\/a=92->¬(a=10):=fun h0 h1=>Or.elim h0 (fun c1=>(ai [a] [.ne F (.k 34),.ne F Z8] [-1,1] rfl) c1 h1) (fun c1=>Or.elim c1 (fun c2=>(ai [a] [.ne F (.k 36),.ne F Z8] [-1,1] rfl) c2 h1) (fun c2=>(ai [a] [.ne F (.k 92),.ne F Z8] [-1,1] rfl) c2 h1))
theorem KQ:¬(a=34\/a=36\/a=92)->¬(a<32\/a=127)->¬(a=34):=fun h0 h1 h2=>dw (fun c8=>(ai [a] [.nl (.a F W) (.k 34),.nn (.a F W) Z9,.ne F (.k 34)] [1,0,-1] rfl) c8 (fun a=>h1 (.inl a)) h2) (fun c8=>(ai [a] [.nl (.a (.k 34) W) F,.nn (.a F W) Z9,.ne F (.k 34)] [1,0,1] rfl) c8 (fun a=>h1 (.inl a)) h2) (fun a=>h0 (.inl a))
theorem KP:¬(a=34\/a=36\/a=92)->¬(a<32\/a=127)->¬(a=92):=fun h0 h1 h2=>dw (fun c2=>(ai [a] [.nl (.a F W) (.k 92),.nn (.a F W) Z9,.ne F (.k 92)] [1,0,-1] rfl) c2 (fun a=>h1 (.inl a)) h2) (fun c2=>(ai [a] [.nl (.a (.k 92) W) F,.nn (.a F W) Z9,.ne F (.k 92)] [1,0,1] rfl) c2 (fun a=>h1 (.inl a)) h2) (fun a=>(fun a=>h0 (.inr a)) (.inr a))
theorem KO:¬(a=34\/a=36\/a=92)->¬(a<32\/a=127)->¬(a=36):=fun h0 h1 h2=>dw (fun c4=>(ai [a] [.nl (.a F W) (.k 36),.nn (.a F W) Z9,.ne F (.k 36)] [1,0,-1] rfl) c4 (fun a=>h1 (.inl a)) h2) (fun c4=>(ai [a] [.nl (.a (.k 36) W) F,.nn (.a F W) Z9,.ne F (.k 36)] [1,0,1] rfl) c4 (fun a=>h1 (.inl a)) h2) (fun a=>(fun a=>h0 (.inr a)) (.inl a))
theorem RW:a+1<=b->a+1<=b:=ac [a,b] [.nl (.a F W) G] (.a F W) G [1,1] rfl
theorem RV:a+1<=b->b<=c->a<=c:=ac [a,b,c] [.nl (.a F W) G,.nl G H] F H [1,1,1] rfl
theorem RU:a<=b->c=a->b+1=a->d=e:=bh [a,b,c,d,e] [.nl F G,.ne H F,.ne (.a G W) F] I J [0,1,0,1] [0,1,0,1] rfl
theorem KN:a<=130->b=1000000->4*a<=b:=ac [a,b] [.nl F (.k 130),.ne G Z2] (.m 4 F) G [1,4,-1] rfl
theorem KM:a<=13->a+3<=140:=ac [a] [.nl F (.k 13)] (.a F Z4) (.k 140) [1,1] rfl
theorem KL:(3:Nat)*(41:Nat)+(12:Nat)<=(140:Nat):=ac [] [] (.a (.m 3 (.k 41)) (.k 12)) (.k 140) [1] rfl
theorem KK:a<=130->b=1000000->c<=20*a->d<=c->4*d+8<=b:=ac [a,b,c,d] [.nl F (.k 130),.ne G Z2,.nl H (.m 20 F),.nl I H] (.a (.m 4 I) Z7) G [1,80,-1,4,4] rfl
theorem KJ:a<=13->b<=a->b<=41:=ac [a,b] [.nl F (.k 13),.nl G F] G (.k 41) [1,1,1] rfl
theorem KI:a<=13->b<=a->c<=3*b+2->c+1<=8*140:=ac [a,b,c] [.nl F (.k 13),.nl G F,.nl H (.a (.m 3 G) Z1)] (.a H W) (.m 8 (.k 140)) [1,3,3,1] rfl
theorem KH:a<=130->b=1000000->c<=20*a->d<=c->e<=20*d->f<=e->4*f+8<=b:=ac [a,b,c,d,e,f] [.nl F (.k 130),.ne G Z2,.nl H (.m 20 F),.nl I H,.nl J (.m 20 I),.nl K J] (.a (.m 4 K) Z7) G [1,1600,-1,80,80,4,4] rfl
theorem KG:a<=13->b<=a->c<=3*b+2->d<=c->d<=41:=ac [a,b,c,d] [.nl F (.k 13),.nl G F,.nl H (.a (.m 3 G) Z1),.nl I H] I (.k 41) [1,3,3,1,1] rfl
theorem KD:(a:Int)-((b+1:Nat):Int)<(a:Int):=az [a,b] [] (.a (.s P (.c (.a G W))) Z) P [1] rfl
theorem KC:a<=b->0<=(b:Int)-(a:Int):=az [a,b] [.nl F G] W0 (.s Q P) [1,1] rfl
theorem KB:(a:Int)-((b+1:Nat):Int)+1=(a:Int)-(b:Int):=dY [a,b] [] (.a (.s P (.c (.a G W))) Z) (.s P Q) [1] [1] rfl
theorem KA:0<=p->p<0->(Int.toNat (max 0 (min (p+(a:Int)) (a:Int))))=(Int.toNat p):=by revert p;refine @bi _ ?_;intro p0 q0;exact bh [p0,q0,(Int.toNat (max (0:Int) (min ((p0-q0:Int)+(a:Int)) (a:Int)))),(Int.toNat (p0-q0:Int))] [.zl W0 (.s P Q),.zl (.a (.s P Q) Z) W0] H I [0,1,1] [0,1,1] rfl
theorem Kz:0<=p->0<=p+(a:Int):=by revert p;refine @bi _ ?_;intro p0 q0;exact az [p0,q0,a] [.zl W0 (.s P Q)] W0 (.a (.s P Q) R) [1,1] rfl
theorem Ky:a<=b->(c:Int)-(b:Int)+(a:Int)<=(c:Int):=az [a,b,c] [.nl F G] (.a (.s R Q) P) R [1,1] rfl
theorem Kx:¬(a<=b)->(c:Int)-(b:Int)+(a:Int)<0->(Int.toNat (max 0 (min ((c:Int)-(b:Int)+(a:Int)+(c:Int)) (c:Int))))=c:=bh [a,b,c,(Int.toNat (max (0:Int) (min ((((c:Int)-(b:Int))+(a:Int))+(c:Int)) (c:Int))))] [.nn F G,.zl (.a (.a (.s R Q) P) Z) W0] I H [0,1,1] [0,1,1] rfl
theorem Kw:a<=b->c=b->a<=b-(b-a):=bA b (b-a) (bA b a (ac [a,b,c,(b-(b-a)),(b-a)] [.nl F G,.ne (.a J F) G,.nl J G,.ne (.a I J) G,.nl F G,.ne H G] F I [1,0,1,0,-1,0,0] rfl) (ac [a,b,c,(b-(b-a)),(b-a)] [.nl G F,.ne J Z0,.nl J G,.ne (.a I J) G,.nl F G,.ne H G] F I [1,0,1,0,-1,1,0] rfl)) (bA b a (ac [a,b,c,(b-(b-a)),(b-a)] [.nl F G,.ne (.a J F) G,.nl G J,.ne I Z0,.nl F G,.ne H G] F I [1,0,1,1,-1,0,0] rfl) (ac [a,b,c,(b-(b-a)),(b-a)] [.nl G F,.ne J Z0,.nl G J,.ne I Z0,.nl F G,.ne H G] F I [1,0,1,1,-1,1,0] rfl))
theorem Kv:¬(a<=b)->b<=a:=ac [a,b] [.nn F G] G F [1,1] rfl
theorem Ku:a+b=c->a=c-b:=bA c b (bh [a,b,c,(c-b)] [.nl G H,.ne (.a I G) H,.ne (.a F G) H] F I [1,0,-1,1] [1,0,1,-1] rfl) (bh [a,b,c,(c-b)] [.nl H G,.ne I Z0,.ne (.a F G) H] F I [1,1,-1,1] [1,0,1,0] rfl)
theorem Kt:a<=b->b<=c->((c-b+(b-a):Nat):Int)=(c:Int)-(a:Int):=fun h k=>by rw [Nat.sub_add_sub_cancel k h,Int.ofNat_sub (TO h k)]
theorem Ks:a=b->¬(c<a)->¬(c<b):=ai [a,b,c] [.ne F G,.nn (.a H W) F,.nl (.a H W) G] [-1,1,1] rfl
theorem Kr:a-b>0->1<=a-b:=ac [(a-b),a,b] [.nl (.a Z0 W) F] W F [1,1] rfl
theorem RT:a<=a+1+2:=ac [a] [] F (.a (.a F W) Z1) [1] rfl
theorem RS:a<=b->a-1<=b:=bA a 1 (ac [a,b,(a-1)] [.nl W F,.ne (.a H W) F,.nl F G] H G [1,0,1,1] rfl) (ac [a,b,(a-1)] [.nl F W,.ne H Z0,.nl F G] H G [1,0,1,0] rfl)
theorem RQ:65<=(a:Int)->(a:Int)<=90->(65<=a/\a<=90\/97<=a/\a<=122\/a=95)\/48<=a/\a<=57:=fun h0 h1=>Tg fun c1=>Or.elim (Classical.not_and_iff_not_or_not.mp (fun a=>(fun a=>c1 (.inl a)) (.inl a))) (fun c22=>(ai [a] [.zl W4 P,.zl P (.k 90),.nn (.k 65) F] [1,0,1] rfl) h0 h1 c22) (fun c22=>(ai [a] [.zl W4 P,.zl P (.k 90),.nn F (.k 90)] [0,1,1] rfl) h0 h1 c22)
theorem RP:65<=(a:Int)->(a:Int)<=90->65<=a/\a<=90\/97<=a/\a<=122\/a=95:=fun h0 h1=>Tg fun c1=>Or.elim (Classical.not_and_iff_not_or_not.mp (fun a=>c1 (.inl a))) (fun c10=>(ai [a] [.zl W4 P,.zl P (.k 90),.nn (.k 65) F] [1,0,1] rfl) h0 h1 c10) (fun c10=>(ai [a] [.zl W4 P,.zl P (.k 90),.nn F (.k 90)] [0,1,1] rfl) h0 h1 c10)
theorem RO:97<=(a:Int)->(a:Int)<=122->(65<=a/\a<=90\/97<=a/\a<=122\/a=95)\/48<=a/\a<=57:=fun h0 h1=>Tg fun c1=>Or.elim (Classical.not_and_iff_not_or_not.mp (fun a=>(fun a=>(fun a=>c1 (.inl a)) (.inr a)) (.inl a))) (fun c8=>(ai [a] [.zl W5 P,.zl P (.k 122),.nn (.k 97) F] [1,0,1] rfl) h0 h1 c8) (fun c8=>(ai [a] [.zl W5 P,.zl P (.k 122),.nn F (.k 122)] [0,1,1] rfl) h0 h1 c8)
theorem RM:97<=(a:Int)->(a:Int)<=122->65<=a/\a<=90\/97<=a/\a<=122\/a=95:=fun h0 h1=>Tg fun c1=>Or.elim (Classical.not_and_iff_not_or_not.mp (fun a=>(fun a=>c1 (.inr a)) (.inl a))) (fun c4=>(ai [a] [.zl W5 P,.zl P (.k 122),.nn (.k 97) F] [1,0,1] rfl) h0 h1 c4) (fun c4=>(ai [a] [.zl W5 P,.zl P (.k 122),.nn F (.k 122)] [0,1,1] rfl) h0 h1 c4)
theorem RK:122<(a:Int)->((a:Int)<=57↔(65<=a/\a<=90\/97<=a/\a<=122\/a=95)\/48<=a/\a<=57):=fun h0=>⟨fun c1=>Tg fun c2=>(ai [a] [.zl (.a (.k 122) Z) P,.zl P Wa] [1,1] rfl) h0 c1,fun c1=>Or.elim c1 (fun c3=>Or.elim c3 (fun c4=>(az [a] [.zl (.a (.k 122) Z) P,.nl (.k 65) F,.nl F (.k 90)] P Wa [0,1,0,1] rfl) h0 c4.1 c4.2) (fun c4=>Or.elim c4 (fun c5=>(az [a] [.zl (.a (.k 122) Z) P,.nl (.k 97) F,.nl F (.k 122)] P Wa [0,1,0,1] rfl) h0 c5.1 c5.2) (fun c5=>(az [a] [.zl (.a (.k 122) Z) P,.ne F (.k 95)] P Wa [0,1,1] rfl) h0 c5))) (fun c3=>(az [a] [.zl (.a (.k 122) Z) P,.nl Z3 F,.nl F (.k 57)] P Wa [1,0,0,1] rfl) h0 c3.1 c3.2)⟩
theorem RJ:122<(a:Int)->(a:Int)<48->(48<=(a:Int)↔(65<=a/\a<=90\/97<=a/\a<=122\/a=95)\/48<=a/\a<=57):=fun h0 h1=>⟨fun c1=>Tg fun c2=>(ai [a] [.zl (.a (.k 122) Z) P,.zl (.a P Z) W1,.zl W1 P] [1,1,0] rfl) h0 h1 c1,fun c1=>(az [a] [.zl (.a (.k 122) Z) P,.zl (.a P Z) W1] W1 P [1,1,0] rfl) h0 h1⟩
theorem RI:122<(a:Int)->(65<=a->90<a)/\(97<=a->122<a)/\¬(a=95):=fun h0=>⟨fun c1=>(ac [a] [.zl (.a (.k 122) Z) P,.nl (.k 65) F] (.a (.k 90) W) F [1,1,0] rfl) h0 c1,⟨fun c2=>(ac [a] [.zl (.a (.k 122) Z) P,.nl (.k 97) F] (.a (.k 122) W) F [1,1,0] rfl) h0 c2,fun c3=>(ai [a] [.zl (.a (.k 122) Z) P,.ne F (.k 95)] [1,1] rfl) h0 c3⟩⟩
theorem RH:(a:Int)=95->(65<=a/\a<=90\/97<=a/\a<=122\/a=95)\/48<=a/\a<=57:=fun h0=>Tg fun c1=>dw (fun c3=>(ai [a] [.ze P (.k 95),.nl (.a F W) (.k 95)] [-1,1] rfl) h0 c3) (fun c3=>(ai [a] [.ze P (.k 95),.nl (.a (.k 95) W) F] [1,1] rfl) h0 c3) (fun a=>(fun a=>(fun a=>c1 (.inl a)) (.inr a)) (.inr a))
theorem RG:(a:Int)=95->65<=a/\a<=90\/97<=a/\a<=122\/a=95:=fun h0=>Tg fun c1=>dw (fun c2=>(ai [a] [.ze P (.k 95),.nl (.a F W) (.k 95)] [-1,1] rfl) h0 c2) (fun c2=>(ai [a] [.ze P (.k 95),.nl (.a (.k 95) W) F] [1,1] rfl) h0 c2) (fun a=>(fun a=>c1 (.inr a)) (.inr a))
theorem RE:90<(a:Int)->(a:Int)<97->(a:Int)<48->(48<=(a:Int)↔(65<=a/\a<=90\/97<=a/\a<=122\/a=95)\/48<=a/\a<=57):=fun h0 h1 h2=>⟨fun c1=>Tg fun c2=>(ai [a] [.zl (.a (.k 90) Z) P,.zl (.a P Z) W5,.zl (.a P Z) W1,.zl W1 P] [1,0,1,0] rfl) h0 h1 h2 c1,fun c1=>(az [a] [.zl (.a (.k 90) Z) P,.zl (.a P Z) W5,.zl (.a P Z) W1] W1 P [1,1,0,0] rfl) h0 h1 h2⟩
theorem RD:90<(a:Int)->(a:Int)<97->¬((a:Int)=95)->(65<=a->90<a)/\(97<=a->122<a)/\¬(a=95):=fun h0 h1 h2=>cJ (fun c4=>⟨fun c5=>(ac [a] [.zl (.a (.k 90) Z) P,.zl (.a P Z) W5,.zl (.a P Z) (.k 95),.nl (.k 65) F] (.a (.k 90) W) F [1,1,0,0,0] rfl) h0 h1 c4 c5,⟨fun c6=>(ac [a] [.zl (.a (.k 90) Z) P,.zl (.a P Z) W5,.zl (.a P Z) (.k 95),.nl (.k 97) F] (.a (.k 122) W) F [0,0,1,0,1] rfl) h0 h1 c4 c6,fun c7=>(ai [a] [.zl (.a (.k 90) Z) P,.zl (.a P Z) W5,.zl (.a P Z) (.k 95),.ne F (.k 95)] [0,0,1,-1] rfl) h0 h1 c4 c7⟩⟩) (fun c4=>⟨fun c8=>(ac [a] [.zl (.a (.k 90) Z) P,.zl (.a P Z) W5,.zl (.a (.k 95) Z) P,.nl (.k 65) F] (.a (.k 90) W) F [1,1,0,0,0] rfl) h0 h1 c4 c8,⟨fun c9=>(ac [a] [.zl (.a (.k 90) Z) P,.zl (.a P Z) W5,.zl (.a (.k 95) Z) P,.nl (.k 97) F] (.a (.k 122) W) F [0,0,1,0,1] rfl) h0 h1 c4 c9,fun c10=>(ai [a] [.zl (.a (.k 90) Z) P,.zl (.a P Z) W5,.zl (.a (.k 95) Z) P,.ne F (.k 95)] [0,0,1,1] rfl) h0 h1 c4 c10⟩⟩) h2
theorem RC:(a:Int)<65->97<=(a:Int)->(65<=a/\a<=90\/97<=a/\a<=122\/a=95)\/48<=a/\a<=57:=fun h0 h1=>Tg fun c1=>(ai [a] [.zl (.a P Z) W4,.zl W5 P] [1,1] rfl) h0 h1
theorem RB:(a:Int)<65->97<=(a:Int)->65<=a/\a<=90\/97<=a/\a<=122\/a=95:=fun h0 h1=>Tg fun c1=>(ai [a] [.zl (.a P Z) W4,.zl W5 P] [1,1] rfl) h0 h1
theorem RA:(a:Int)<65->97<=(a:Int)->((a:Int)<=57↔(65<=a/\a<=90\/97<=a/\a<=122\/a=95)\/48<=a/\a<=57):=fun h0 h1=>⟨fun c1=>Tg fun c2=>(ai [a] [.zl (.a P Z) W4,.zl W5 P,.zl P Wa] [1,1,0] rfl) h0 h1 c1,fun c1=>(az [a] [.zl (.a P Z) W4,.zl W5 P] P Wa [0,1,1] rfl) h0 h1⟩
theorem Rz:(a:Int)<65->97<=(a:Int)->(48<=(a:Int)↔(65<=a/\a<=90\/97<=a/\a<=122\/a=95)\/48<=a/\a<=57):=fun h0 h1=>⟨fun c1=>Tg fun c2=>(ai [a] [.zl (.a P Z) W4,.zl W5 P,.zl W1 P] [1,1,0] rfl) h0 h1 c1,fun c1=>(az [a] [.zl (.a P Z) W4,.zl W5 P] W1 P [1,0,1] rfl) h0 h1⟩
theorem Ry:(a:Int)<65->97<=(a:Int)->(65<=a->90<a)/\(97<=a->122<a)/\¬(a=95):=fun h0 h1=>⟨fun c1=>(ac [a] [.zl (.a P Z) W4,.zl W5 P,.nl (.k 65) F] (.a (.k 90) W) F [1,0,1,0] rfl) h0 h1 c1,⟨fun c2=>(ac [a] [.zl (.a P Z) W4,.zl W5 P,.nl (.k 97) F] (.a (.k 122) W) F [0,1,1,0] rfl) h0 h1 c2,fun c3=>(ai [a] [.zl (.a P Z) W4,.zl W5 P,.ne F (.k 95)] [1,1,0] rfl) h0 h1 c3⟩⟩
theorem Rx:(a:Int)<65->48<=(a:Int)->((a:Int)<=57↔(65<=a/\a<=90\/97<=a/\a<=122\/a=95)\/48<=a/\a<=57):=fun h0 h1=>⟨fun c1=>Tg fun c2=>Or.elim (Classical.not_and_iff_not_or_not.mp (fun a=>c2 (.inr a))) (fun c3=>(ai [a] [.zl (.a P Z) W4,.zl W1 P,.zl P Wa,.nn Z3 F] [0,1,0,1] rfl) h0 h1 c1 c3) (fun c3=>(ai [a] [.zl (.a P Z) W4,.zl W1 P,.zl P Wa,.nn F (.k 57)] [0,0,1,1] rfl) h0 h1 c1 c3),fun c1=>Or.elim c1 (fun c4=>Or.elim c4 (fun c5=>(az [a] [.zl (.a P Z) W4,.zl W1 P,.nl (.k 65) F,.nl F (.k 90)] P Wa [0,1,0,1,0] rfl) h0 h1 c5.1 c5.2) (fun c5=>Or.elim c5 (fun c6=>(az [a] [.zl (.a P Z) W4,.zl W1 P,.nl (.k 97) F,.nl F (.k 122)] P Wa [0,1,0,1,0] rfl) h0 h1 c6.1 c6.2) (fun c6=>(az [a] [.zl (.a P Z) W4,.zl W1 P,.ne F (.k 95)] P Wa [0,1,0,-1] rfl) h0 h1 c6))) (fun c4=>(az [a] [.zl (.a P Z) W4,.zl W1 P,.nl Z3 F,.nl F (.k 57)] P Wa [1,0,0,0,1] rfl) h0 h1 c4.1 c4.2)⟩
theorem Rw:(a:Int)<65->(a:Int)<48->(48<=(a:Int)↔(65<=a/\a<=90\/97<=a/\a<=122\/a=95)\/48<=a/\a<=57):=fun h0 h1=>⟨fun c1=>Tg fun c2=>(ai [a] [.zl (.a P Z) W4,.zl (.a P Z) W1,.zl W1 P] [0,1,1] rfl) h0 h1 c1,fun c1=>Or.elim c1 (fun c3=>Or.elim c3 (fun c4=>(az [a] [.zl (.a P Z) W4,.zl (.a P Z) W1,.nl (.k 65) F,.nl F (.k 90)] W1 P [1,0,0,1,0] rfl) h0 h1 c4.1 c4.2) (fun c4=>Or.elim c4 (fun c5=>(az [a] [.zl (.a P Z) W4,.zl (.a P Z) W1,.nl (.k 97) F,.nl F (.k 122)] W1 P [1,0,0,1,0] rfl) h0 h1 c5.1 c5.2) (fun c5=>(az [a] [.zl (.a P Z) W4,.zl (.a P Z) W1,.ne F (.k 95)] W1 P [1,0,0,-1] rfl) h0 h1 c5))) (fun c3=>(az [a] [.zl (.a P Z) W4,.zl (.a P Z) W1,.nl Z3 F,.nl F (.k 57)] W1 P [1,0,0,1,0] rfl) h0 h1 c3.1 c3.2)⟩
theorem Rv:(a:Int)<65->(65<=a->90<a)/\(97<=a->122<a)/\¬(a=95):=fun h0=>⟨fun c1=>(ac [a] [.zl (.a P Z) W4,.nl (.k 65) F] (.a (.k 90) W) F [0,1,1] rfl) h0 c1,⟨fun c2=>(ac [a] [.zl (.a P Z) W4,.nl (.k 97) F] (.a (.k 122) W) F [0,1,1] rfl) h0 c2,fun c3=>(ai [a] [.zl (.a P Z) W4,.ne F (.k 95)] [1,-1] rfl) h0 c3⟩⟩
theorem Rt:¬(a=97)->¬(a=98)->¬(a=101)->¬(a=102)->¬(a=110)->¬(a=114)->¬(a=115)->¬(a=116)->¬(a=118)->97≠(a:Int):=fun h0 h1 h2 h3 h4 h5 h6 h7 h8 h9=>dw (fun c256=>(ai [a] [.nl (.a F W) (.k 97),.ze W5 P] [1,1] rfl) c256 h9) (fun c256=>(ai [a] [.nl (.a (.k 97) W) F,.ze W5 P] [1,-1] rfl) c256 h9) h0
theorem Rs:¬(a=98)->¬(a=101)->¬(a=102)->¬(a=110)->¬(a=114)->¬(a=115)->¬(a=116)->¬(a=118)->98≠(a:Int):=fun h0 h1 h2 h3 h4 h5 h6 h7 h8=>dw (fun c128=>(ai [a] [.nl (.a F W) (.k 98),.ze (.k 98) P] [1,1] rfl) c128 h8) (fun c128=>(ai [a] [.nl (.a (.k 98) W) F,.ze (.k 98) P] [1,-1] rfl) c128 h8) h0
theorem Rr:¬(a=101)->¬(a=102)->¬(a=110)->¬(a=114)->¬(a=115)->¬(a=116)->¬(a=118)->101≠(a:Int):=fun h0 h1 h2 h3 h4 h5 h6 h7=>dw (fun c64=>(ai [a] [.nl (.a F W) (.k 101),.ze (.k 101) P] [1,1] rfl) c64 h7) (fun c64=>(ai [a] [.nl (.a (.k 101) W) F,.ze (.k 101) P] [1,-1] rfl) c64 h7) h0
theorem Rq:¬(a=102)->¬(a=110)->¬(a=114)->¬(a=115)->¬(a=116)->¬(a=118)->102≠(a:Int):=fun h0 h1 h2 h3 h4 h5 h6=>dw (fun c32=>(ai [a] [.nl (.a F W) (.k 102),.ze (.k 102) P] [1,1] rfl) c32 h6) (fun c32=>(ai [a] [.nl (.a (.k 102) W) F,.ze (.k 102) P] [1,-1] rfl) c32 h6) h0
theorem Ro:¬(a=110)->¬(a=114)->¬(a=115)->¬(a=116)->¬(a=118)->110≠(a:Int):=fun h0 h1 h2 h3 h4 h5=>dw (fun c16=>(ai [a] [.nl (.a F W) (.k 110),.ze (.k 110) P] [1,1] rfl) c16 h5) (fun c16=>(ai [a] [.nl (.a (.k 110) W) F,.ze (.k 110) P] [1,-1] rfl) c16 h5) h0
theorem Rn:¬(a=114)->¬(a=115)->¬(a=116)->¬(a=118)->114≠(a:Int):=fun h0 h1 h2 h3 h4=>dw (fun c8=>(ai [a] [.nl (.a F W) (.k 114),.ze (.k 114) P] [1,1] rfl) c8 h4) (fun c8=>(ai [a] [.nl (.a (.k 114) W) F,.ze (.k 114) P] [1,-1] rfl) c8 h4) h0
theorem Rm:¬(a=115)->¬(a=116)->¬(a=118)->115≠(a:Int):=fun h0 h1 h2 h3=>dw (fun c4=>(ai [a] [.nl (.a F W) (.k 115),.ze (.k 115) P] [1,1] rfl) c4 h3) (fun c4=>(ai [a] [.nl (.a (.k 115) W) F,.ze (.k 115) P] [1,-1] rfl) c4 h3) h0
theorem Rl:¬(a=116)->¬(a=118)->116≠(a:Int):=fun h0 h1 h2=>dw (fun c2=>(ai [a] [.nl (.a F W) (.k 116),.ze (.k 116) P] [1,1] rfl) c2 h2) (fun c2=>(ai [a] [.nl (.a (.k 116) W) F,.ze (.k 116) P] [1,-1] rfl) c2 h2) h0
theorem Rk:¬(a=118)->118≠(a:Int):=fun h0 h1=>dw (fun c1=>(ai [a] [.nl (.a F W) (.k 118),.ze (.k 118) P] [1,1] rfl) c1 h1) (fun c1=>(ai [a] [.nl (.a (.k 118) W) F,.ze (.k 118) P] [1,-1] rfl) c1 h1) h0
theorem Kq:(a:Int)<3->a<3:=ac [a] [.zl (.a P Z) W3] (.a F W) Z4 [1,1] rfl
theorem Kp:¬((a:Int)<=51)->¬(48<=a/\a<=51/\48<=b/\b<=55/\48<=c/\c<=55):=fun h0 h1=>(ai [a,b,c] [.zn P (.k 51),.nl Z3 F,.nl F (.k 51),.nl Z3 G,.nl G Z6,.nl Z3 H,.nl H Z6] [1,0,1,0,0,0,0] rfl) h0 h1.1 h1.2.1 h1.2.2.1 h1.2.2.2.1 h1.2.2.2.2.1 h1.2.2.2.2.2
theorem Ko:¬((a:Int)<=55)->¬(48<=b/\b<=51/\48<=a/\a<=55/\48<=c/\c<=55):=fun h0 h1=>(ai [a,b,c] [.zn P (.k 55),.nl Z3 G,.nl G (.k 51),.nl Z3 F,.nl F Z6,.nl Z3 H,.nl H Z6] [1,0,0,0,1,0,0] rfl) h0 h1.1 h1.2.1 h1.2.2.1 h1.2.2.2.1 h1.2.2.2.2.1 h1.2.2.2.2.2
theorem Kn:¬((a:Int)<=55)->¬(48<=b/\b<=51/\48<=c/\c<=55/\48<=a/\a<=55):=fun h0 h1=>(ai [a,b,c] [.zn P (.k 55),.nl Z3 G,.nl G (.k 51),.nl Z3 H,.nl H Z6,.nl Z3 F,.nl F Z6] [1,0,0,0,0,0,1] rfl) h0 h1.1 h1.2.1 h1.2.2.1 h1.2.2.2.1 h1.2.2.2.2.1 h1.2.2.2.2.2
theorem Km:¬(48<=(a:Int))->¬(48<=b/\b<=51/\48<=c/\c<=55/\48<=a/\a<=55):=fun h0 h1=>(ai [a,b,c] [.zn W1 P,.nl Z3 G,.nl G (.k 51),.nl Z3 H,.nl H Z6,.nl Z3 F,.nl F Z6] [1,0,0,0,0,1,0] rfl) h0 h1.1 h1.2.1 h1.2.2.1 h1.2.2.2.1 h1.2.2.2.2.1 h1.2.2.2.2.2
theorem Kl:¬(48<=(a:Int))->¬(48<=b/\b<=51/\48<=a/\a<=55/\48<=c/\c<=55):=fun h0 h1=>(ai [a,b,c] [.zn W1 P,.nl Z3 G,.nl G (.k 51),.nl Z3 F,.nl F Z6,.nl Z3 H,.nl H Z6] [1,0,0,1,0,0,0] rfl) h0 h1.1 h1.2.1 h1.2.2.1 h1.2.2.2.1 h1.2.2.2.2.1 h1.2.2.2.2.2
theorem Kk:¬(48<=(a:Int))->¬(48<=a/\a<=51/\48<=b/\b<=55/\48<=c/\c<=55):=fun h0 h1=>(ai [a,b,c] [.zn W1 P,.nl Z3 F,.nl F (.k 51),.nl Z3 G,.nl G Z6,.nl Z3 H,.nl H Z6] [1,1,0,0,0,0,0] rfl) h0 h1.1 h1.2.1 h1.2.2.1 h1.2.2.2.1 h1.2.2.2.2.1 h1.2.2.2.2.2
theorem Kj:a<=b->(b:Int)-(a:Int)=((b-a:Nat):Int):=bA b a (dY [a,b,(b-a)] [.nl F G,.ne (.a H F) G,.nl F G] (.s Q P) R [1,0,-1,0] [1,0,1,0] rfl) (dY [a,b,(b-a)] [.nl G F,.ne H Z0,.nl F G] (.s Q P) R [1,1,-1,0] [1,0,1,1] rfl)
theorem Rj:0<=p->p<0->2<=a:=by revert p;refine @bi _ ?_;intro p0 q0;exact ac [p0,q0,a] [.zl W0 (.s P Q),.zl (.a (.s P Q) Z) W0] Z1 H [0,1,1] rfl
theorem Ki:a+b<=1000000->c<=b->a+c<=1000000:=ac [a,b,c] [.nl (.a F G) Z2,.nl H G] (.a F H) Z2 [1,1,1] rfl
theorem Kh:¬((-(1:Int))<(0:Int))->False:=ai [] [.zn (.a (.k ((-(1:Int)))) Z) W0] [1] rfl
theorem Kg:(7:Nat)<(256:Nat):=ac [] [] (.a (.k 7) W) (.k 256) [1] rfl
theorem Kf:(8:Nat)<(256:Nat):=ac [] [] (.a Z7 W) (.k 256) [1] rfl
theorem Ke:(27:Nat)<(256:Nat):=ac [] [] (.a (.k 27) W) (.k 256) [1] rfl
theorem Kc:(12:Nat)<(256:Nat):=ac [] [] (.a (.k 12) W) (.k 256) [1] rfl
theorem Kb:(10:Nat)<(256:Nat):=ac [] [] (.a Z8 W) (.k 256) [1] rfl
theorem Ka:(13:Nat)<(256:Nat):=ac [] [] (.a (.k 13) W) (.k 256) [1] rfl
theorem J_:(32:Nat)<(256:Nat):=ac [] [] (.a Z9 W) (.k 256) [1] rfl
theorem J9:(9:Nat)<(256:Nat):=ac [] [] (.a (.k 9) W) (.k 256) [1] rfl
theorem J8:(11:Nat)<(256:Nat):=ac [] [] (.a (.k 11) W) (.k 256) [1] rfl
theorem J7:a<256->a<256:=ac [a] [.nl (.a F W) (.k 256)] (.a F W) (.k 256) [1,1] rfl
theorem J6:(a:Int)<=p->¬(p<(a:Int)):=by revert p;refine @bi _ ?_;intro p1 q1;exact ai [a,p1,q1] [.zl P (.s Q R),.zl (.a (.s Q R) Z) P] [1,1] rfl
theorem J5:(a:Int)-((b:Int)+1+1)+4=(a:Int)-((b:Int)+1)+3:=dY [a,b] [] (.a (.s P (.a (.a Q Z) Z)) (.k 4)) (.a (.s P (.a Q Z)) W3) [1] [1] rfl
theorem J4:(3:Nat)<=(1000000:Nat):=ac [] [] Z4 Z2 [1] rfl
theorem J3:a+b<=c->3<=b->a<=c:=ac [a,b,c] [.nl (.a F G) H,.nl Z4 G] F H [1,1,1] rfl
theorem J2:2<=a->(b:Int)-((a:Int)+1+1)+4=(b:Int)-((a-2:Nat):Int):=bA a 2 (dY [a,b,(a-2)] [.nl Z1 F,.ne (.a H Z1) F,.nl Z1 F] (.a (.s Q (.a (.a P Z) Z)) (.k 4)) (.s Q R) [1,0,1,0] [1,0,-1,0] rfl) (dY [a,b,(a-2)] [.nl F Z1,.ne H Z0,.nl Z1 F] (.a (.s Q (.a (.a P Z) Z)) (.k 4)) (.s Q R) [1,0,1,1] [1,1,-1,0] rfl)
theorem J1:(a:Int)≠10->¬(a=10):=fun h0 h1=>cJ (fun c1=>(ai [a] [.zl (.a P Z) W7,.ne F Z8] [1,-1] rfl) c1 h1) (fun c1=>(ai [a] [.zl (.a W7 Z) P,.ne F Z8] [1,1] rfl) c1 h1) h0
theorem J0:a+b<=c->a<=c:=ac [a,b,c] [.nl (.a F G) H] F H [1,1] rfl
theorem Ri:0<=a:=ac [a] [] Z0 F [1] rfl
theorem JZ:(a:Int)-(b:Int)=(a:Int)-(c:Int)↔b=c:=⟨fun c1=>(bh [a,b,c] [.ze (.s P Q) (.s P R)] G H [1,-1] [1,1] rfl) c1,fun c1=>(dY [b,c,a] [.ne F G] (.s R P) (.s R Q) [1,-1] [1,1] rfl) c1⟩
theorem JY:a<=b->c=b-a->((d:Int)-(c:Int)=(d:Int)-(b:Int)↔a=0):=fun h0 h1=>⟨fun c1=>(bA b a (bh [a,b,c,(b-a),d] [.nl F G,.ne (.a I F) G,.nl F G,.ne H I,.ze (.s T R) (.s T Q)] F Z0 [1,0,1,0,1,1] [1,0,0,0,0,0] rfl) (bh [a,b,c,(b-a),d] [.nl G F,.ne I Z0,.nl F G,.ne H I,.ze (.s T R) (.s T Q)] F Z0 [1,0,1,1,1,1] [1,0,0,0,0,0] rfl)) h0 h1 c1,fun c1=>(bA b a (dY [a,b,c,(b-a),d] [.nl F G,.ne (.a I F) G,.nl F G,.ne H I,.ne F Z0] (.s T R) (.s T Q) [1,0,-1,0,-1,1] [1,0,1,0,1,-1] rfl) (dY [a,b,c,(b-a),d] [.nl G F,.ne I Z0,.nl F G,.ne H I,.ne F Z0] (.s T R) (.s T Q) [1,1,0,0,0,1] [1,0,1,0,1,0] rfl)) h0 h1 c1⟩
theorem JX:a+3<=b->a<=b:=ac [a,b] [.nl (.a F Z4) G] F G [1,1] rfl
theorem JW:(0:Int)<=(36:Int):=az [] [] W0 (.k 36) [1] rfl
theorem JV:(36:Int)<(256:Int):=az [] [] (.a (.k 36) Z) (.k 256) [1] rfl
theorem JU:a+3*(b+1)<=c+3*d->a+3*b+3<=c+3*d:=ac [a,b,c,d] [.nl (.a F (.m 3 (.a G W))) (.a H (.m 3 I))] (.a (.a F (.m 3 G)) Z4) (.a H (.m 3 I)) [1,1] rfl
theorem JT:a+3*b<=c->d+3*e+3<=a+3*b->d+e<=c:=ac [a,b,c,d,e] [.nl (.a F (.m 3 G)) H,.nl (.a (.a I (.m 3 J)) Z4) (.a F (.m 3 G))] (.a I J) H [1,1,1] rfl
theorem JS:a+3*b+3<=c+3*d->e<=1->f<=b->a+e+3*f<=c+3*d:=ac [a,b,c,d,e,f] [.nl (.a (.a F (.m 3 G)) Z4) (.a H (.m 3 I)),.nl J W,.nl K G] (.a (.a F J) (.m 3 K)) (.a H (.m 3 I)) [1,1,1,3] rfl
theorem JR:a+3*b<=c->d+3*e+3<=a+3*b->d+3<=c:=ac [a,b,c,d,e] [.nl (.a F (.m 3 G)) H,.nl (.a (.a I (.m 3 J)) Z4) (.a F (.m 3 G))] (.a I Z4) H [1,1,1] rfl
theorem JQ:a+3*b+3<=c+3*d->e<=3->f<=b->a+e+3*f<=c+3*d:=ac [a,b,c,d,e,f] [.nl (.a (.a F (.m 3 G)) Z4) (.a H (.m 3 I)),.nl J Z4,.nl K G] (.a (.a F J) (.m 3 K)) (.a H (.m 3 I)) [1,1,1,3] rfl
theorem JP:(a:Int)≠34->¬((a:Int)=92)->¬((a:Int)=36)->¬(a=34):=fun h0 h1 h2 h3=>cJ (fun c4=>(ai [a] [.zl (.a P Z) (.k 34),.ne F (.k 34)] [1,-1] rfl) c4 h3) (fun c4=>(ai [a] [.zl (.a (.k 34) Z) P,.ne F (.k 34)] [1,1] rfl) c4 h3) h0
theorem JO:¬((a:Int)=92)->¬((a:Int)=36)->¬(a=92):=fun h0 h1 h2=>cJ (fun c2=>(ai [a] [.zl (.a P Z) W2,.ne F (.k 92)] [1,-1] rfl) c2 h2) (fun c2=>(ai [a] [.zl (.a W2 Z) P,.ne F (.k 92)] [1,1] rfl) c2 h2) h0
theorem JN:¬((a:Int)=36)->¬(a=36):=fun h0 h1=>cJ (fun c1=>(ai [a] [.zl (.a P Z) (.k 36),.ne F (.k 36)] [1,-1] rfl) c1 h1) (fun c1=>(ai [a] [.zl (.a (.k 36) Z) P,.ne F (.k 36)] [1,1] rfl) c1 h1) h0
theorem JM:a+3*b<=c->d+3*e+3<=a+3*b->d<=c:=ac [a,b,c,d,e] [.nl (.a F (.m 3 G)) H,.nl (.a (.a I (.m 3 J)) Z4) (.a F (.m 3 G))] I H [1,1,1] rfl
theorem JL:a+3*b+3<=c+3*d->a+1+3*b<=c+3*d:=ac [a,b,c,d] [.nl (.a (.a F (.m 3 G)) Z4) (.a H (.m 3 I))] (.a (.a F W) (.m 3 G)) (.a H (.m 3 I)) [1,1] rfl
theorem Rh:a=3->2<=a:=ac [a] [.ne F Z4] Z1 F [1,-1] rfl
theorem Rg:p<(a:Int)->(a:Int)<=p->2<=b:=by revert p;refine @bi _ ?_;intro p0 q0;exact ac [p0,q0,a,b] [.zl (.a (.s P Q) Z) R,.zl R (.s P Q)] Z1 I [0,1,1] rfl
theorem JK:a+3*(b+1)<=c+3*d->a+3*b<=c+3*d:=ac [a,b,c,d] [.nl (.a F (.m 3 (.a G W))) (.a H (.m 3 I))] (.a F (.m 3 G)) (.a H (.m 3 I)) [1,1] rfl
theorem JJ:a<=b->b-a+(a-1)<=b:=bA b a (bA a 1 (ac [a,b,(b-a),(a-1)] [.nl W F,.ne (.a I W) F,.nl F G,.ne (.a H F) G,.nl F G] (.a H I) G [1,0,1,0,1,0] rfl) (ac [a,b,(b-a),(a-1)] [.nl F W,.ne I Z0,.nl F G,.ne (.a H F) G,.nl F G] (.a H I) G [1,0,1,0,1,0] rfl)) (bA a 1 (ac [a,b,(b-a),(a-1)] [.nl W F,.ne (.a I W) F,.nl G F,.ne H Z0,.nl F G] (.a H I) G [1,0,1,0,1,1] rfl) (ac [a,b,(b-a),(a-1)] [.nl F W,.ne I Z0,.nl G F,.ne H Z0,.nl F G] (.a H I) G [1,0,1,0,1,0] rfl))
theorem JI:a+3*b+3<=3*c->d+e<=b->e<=b->a+d+3*e<=3*c:=ac [a,b,c,d,e] [.nl (.a (.a F (.m 3 G)) Z4) (.m 3 H),.nl (.a I J) G,.nl J G] (.a (.a F I) (.m 3 J)) (.m 3 H) [1,1,3,0] rfl
theorem JH:4*a<=b->a<=b->c<=a->d+3*e+3<=3*c->d+3*e<=b:=ac [a,b,c,d,e] [.nl (.m 4 F) G,.nl F G,.nl H F,.nl (.a (.a I (.m 3 J)) Z4) (.m 3 H)] (.a I (.m 3 J)) G [4,3,0,12,4] rfl
theorem JG:a=4->4<=a:=ac [a] [.ne F Z5] Z5 F [1,-1] rfl
theorem JF:a+3*b+3<=3*c->d+3*e<=a+3*b->d+3*e<=3*c:=ac [a,b,c,d,e] [.nl (.a (.a F (.m 3 G)) Z4) (.m 3 H),.nl (.a I (.m 3 J)) (.a F (.m 3 G))] (.a I (.m 3 J)) (.m 3 H) [3,3,3] rfl
theorem JE:a+3*b+3<=3*c->d<=1->e<=b->a+d+3*e<=3*c:=ac [a,b,c,d,e] [.nl (.a (.a F (.m 3 G)) Z4) (.m 3 H),.nl I W,.nl J G] (.a (.a F I) (.m 3 J)) (.m 3 H) [1,1,1,3] rfl
theorem JD:4*a<=b->c<=a->d+3*e+3<=3*c->d+3<=b:=ac [a,b,c,d,e] [.nl (.m 4 F) G,.nl H F,.nl (.a (.a I (.m 3 J)) Z4) (.m 3 H)] (.a I Z4) G [3,3,12,4] rfl
theorem JC:4*a<=b->a<=b->c<=a->d+3*e+3<=3*c->f<=3->d+f<=b:=ac [a,b,c,d,e,f] [.nl (.m 4 F) G,.nl F G,.nl H F,.nl (.a (.a I (.m 3 J)) Z4) (.m 3 H),.nl K Z4] (.a I K) G [3,3,0,12,4,3] rfl
theorem JB:a+3*b+3<=3*c->d<=3->a+d+3*b<=3*c:=ac [a,b,c,d] [.nl (.a (.a F (.m 3 G)) Z4) (.m 3 H),.nl I Z4] (.a (.a F I) (.m 3 G)) (.m 3 H) [1,1,1] rfl
theorem JA:(a:Int)=126->0<=(a:Int):=az [a] [.ze P W6] W0 P [1,-1] rfl
theorem Jz:(a:Int)=126->(a:Int)<256:=az [a] [.ze P W6] (.a P Z) (.k 256) [1,1] rfl
theorem Jy:¬((a:Int)=39)->¬((a:Int)=34)->¬((a:Int)=92)->¬((a:Int)=36)->¬((a:Int)=126)->¬(a=39):=fun h0 h1 h2 h3 h4 h5=>cJ (fun c16=>(ai [a] [.zl (.a P Z) W8,.ne F (.k 39)] [1,-1] rfl) c16 h5) (fun c16=>(ai [a] [.zl (.a W8 Z) P,.ne F (.k 39)] [1,1] rfl) c16 h5) h0
theorem Jx:¬((a:Int)=34)->¬((a:Int)=92)->¬((a:Int)=36)->¬((a:Int)=126)->¬(a=34):=fun h0 h1 h2 h3 h4=>cJ (fun c8=>(ai [a] [.zl (.a P Z) (.k 34),.ne F (.k 34)] [1,-1] rfl) c8 h4) (fun c8=>(ai [a] [.zl (.a (.k 34) Z) P,.ne F (.k 34)] [1,1] rfl) c8 h4) h0
theorem Jw:¬((a:Int)=92)->¬((a:Int)=36)->¬((a:Int)=126)->¬(a=92):=fun h0 h1 h2 h3=>cJ (fun c4=>(ai [a] [.zl (.a P Z) W2,.ne F (.k 92)] [1,-1] rfl) c4 h3) (fun c4=>(ai [a] [.zl (.a W2 Z) P,.ne F (.k 92)] [1,1] rfl) c4 h3) h0
theorem Jv:¬((a:Int)=36)->¬((a:Int)=126)->¬(a=36):=fun h0 h1 h2=>cJ (fun c2=>(ai [a] [.zl (.a P Z) (.k 36),.ne F (.k 36)] [1,-1] rfl) c2 h2) (fun c2=>(ai [a] [.zl (.a (.k 36) Z) P,.ne F (.k 36)] [1,1] rfl) c2 h2) h0
theorem Ju:4*a<=b->c<=a->d+3*e<=3*c->d<=b:=ac [a,b,c,d,e] [.nl (.m 4 F) G,.nl H F,.nl (.a I (.m 3 J)) (.m 3 H)] I G [3,3,12,4] rfl
theorem Jt:(a:Int)=10->¬((a:Int)=10)->False:=fun h0 h1=>cJ (fun c1=>(ai [a] [.ze P W7,.zl (.a P Z) W7] [-1,1] rfl) h0 c1) (fun c1=>(ai [a] [.ze P W7,.zl (.a W7 Z) P] [1,1] rfl) h0 c1) h1
theorem Js:(a:Int)=59->a=59:=bh [a] [.ze P (.k 59)] F (.k 59) [1,1] [1,-1] rfl
theorem Jr:(a:Int)=59->(a:Int)=10->False:=ai [a] [.ze P (.k 59),.ze P W7] [-1,1] rfl
theorem Jq:¬((a:Int)=10)->¬((a:Int)=59)->(a:Int)=10->False:=fun h0 h1 h2=>cJ (fun c2=>(ai [a] [.zl (.a P Z) W7,.ze P W7] [1,-1] rfl) c2 h2) (fun c2=>(ai [a] [.zl (.a W7 Z) P,.ze P W7] [1,1] rfl) c2 h2) h0
theorem Jp:a=10\/a=59->¬((a:Int)=10)->¬((a:Int)=59)->¬((a:Int)=10)->False:=fun h0 h1 h2 h3=>Or.elim h0 (fun c8=>cJ (fun c9=>(ai [a] [.ne F Z8,.zl (.a P Z) W7] [-1,1] rfl) c8 c9) (fun c9=>(ai [a] [.ne F Z8,.zl (.a W7 Z) P] [1,1] rfl) c8 c9) h3) (fun c8=>cJ (fun c11=>(ai [a] [.ne F (.k 59),.zl (.a P Z) (.k 59)] [-1,1] rfl) c8 c11) (fun c11=>(ai [a] [.ne F (.k 59),.zl (.a (.k 59) Z) P] [1,1] rfl) c8 c11) h2)
theorem Jo:((32:Nat):Int)=(59:Int)->False:=ai [] [.ze (.c Z9) (.k 59)] [-1] rfl
theorem Jm:a=3->1+1<=a:=ac [a] [.ne F Z4] (.a W W) F [1,-1] rfl
theorem Jl:a=5->5<=a:=ac [a] [.ne F (.k 5)] (.k 5) F [1,-1] rfl
theorem Jk:a=5->1+1<=a:=ac [a] [.ne F (.k 5)] (.a W W) F [1,-1] rfl
theorem Jj:4*a<=b->b=1000000->a<=250000:=ac [a,b] [.nl (.m 4 F) G,.ne G Z2] F (.k 250000) [4,1,1] rfl
theorem Ji:(a:Int)-(a:Int)=0:=dY [a] [] (.s P P) W0 [1] [1] rfl
theorem Jh:a<=b->c<=c-a+(b+1):=bA c a (ac [a,b,c,(c-a)] [.nl F H,.ne (.a I F) H,.nl F G] H (.a I (.a G W)) [1,0,-1,1] rfl) (ac [a,b,c,(c-a)] [.nl H F,.ne I Z0,.nl F G] H (.a I (.a G W)) [1,1,-1,1] rfl)
theorem Jg:a<=b-c->b-c<=b-d->a<=b-d:=ac [a,(b-c),b,c,(b-d),d] [.nl F G,.nl G J] F J [1,1,1] rfl
theorem Jf:(a:Int)=35->¬(a=123):=ai [a] [.ze P (.k 35),.ne F (.k 123)] [1,-1] rfl
theorem Je:(a:Int)=35->¬(a=125):=ai [a] [.ze P (.k 35),.ne F (.k 125)] [1,-1] rfl
theorem Jd:¬((a:Int)=123)->¬((a:Int)=125)->(a:Int)=35->b<=c->(c:Int)-(b:Int)=((c-b:Nat):Int):=fun h0 h1 h2 h3=>(bA c b (dY [a,b,c,(c-b)] [.nl G H,.ne (.a I G) H,.ze P (.k 35),.nl G H] (.s R Q) S [1,0,-1,0,0] [1,0,1,0,0] rfl) (dY [a,b,c,(c-b)] [.nl H G,.ne I Z0,.ze P (.k 35),.nl G H] (.s R Q) S [1,1,-1,0,0] [1,0,1,0,1] rfl)) h2 h3
theorem Jc:0<=p->¬(0<=p)->False:=by revert p;refine @bi _ ?_;intro p0 q0;exact ai [p0,q0] [.zl W0 (.s P Q),.zn W0 (.s P Q)] [1,1] rfl
theorem Jb:(0:Int)<=(-(1:Int))->False:=ai [] [.zl W0 (.k ((-(1:Int))))] [1] rfl
theorem Ja:(a:Int)=92->¬(a=125):=ai [a] [.ze P W2,.ne F (.k 125)] [1,-1] rfl
theorem I_:(a:Int)=92->¬(a=35):=ai [a] [.ze P W2,.ne F (.k 35)] [-1,1] rfl
theorem I9:(a:Int)=92->a≠123:=ai [a] [.ze P W2,.ne F (.k 123)] [1,-1] rfl
theorem I8:(a:Int)=92->a≠35:=ai [a] [.ze P W2,.ne F (.k 35)] [-1,1] rfl
theorem I7:(a:Int)=92->a≠125:=ai [a] [.ze P W2,.ne F (.k 125)] [1,-1] rfl
theorem Rf:¬((a:Int)=123)->¬((a:Int)=125)->¬((a:Int)=35)->¬((a:Int)=92)->a≠123:=fun h0 h1 h2 h3 h4=>cJ (fun c8=>(ai [a] [.zl (.a P Z) (.k 123),.ne F (.k 123)] [1,-1] rfl) c8 h4) (fun c8=>(ai [a] [.zl (.a (.k 123) Z) P,.ne F (.k 123)] [1,1] rfl) c8 h4) h0
theorem Re:¬((a:Int)=35)->¬((a:Int)=92)->a≠35:=fun h0 h1 h2=>cJ (fun c2=>(ai [a] [.zl (.a P Z) (.k 35),.ne F (.k 35)] [1,-1] rfl) c2 h2) (fun c2=>(ai [a] [.zl (.a (.k 35) Z) P,.ne F (.k 35)] [1,1] rfl) c2 h2) h0
theorem Rc:¬((a:Int)=125)->¬((a:Int)=35)->¬((a:Int)=92)->a≠125:=fun h0 h1 h2 h3=>cJ (fun c4=>(ai [a] [.zl (.a P Z) (.k 125),.ne F (.k 125)] [1,-1] rfl) c4 h3) (fun c4=>(ai [a] [.zl (.a (.k 125) Z) P,.ne F (.k 125)] [1,1] rfl) c4 h3) h0
theorem I6:(a:Int)=92->((a=32\/a=10)\/a=59)\/a=125->a=32\/a=10\/a=59:=fun h0 h1=>Or.elim h1 (fun c9=>Or.elim c9 (fun c18=>Or.elim c18 (fun c27=>Tg fun c28=>(ai [a] [.ze P W2,.ne F Z9] [-1,1] rfl) h0 c27) (fun c27=>Tg fun c29=>(ai [a] [.ze P W2,.ne F Z8] [-1,1] rfl) h0 c27)) (fun c18=>Tg fun c30=>(ai [a] [.ze P W2,.ne F (.k 59)] [-1,1] rfl) h0 c18)) (fun c9=>Tg fun c31=>(ai [a] [.ze P W2,.ne F (.k 125)] [1,-1] rfl) h0 c9)
theorem I4:4*a<=b->b=1000000->c=1000000->d<=a-e->d<=c:=bA a e (ac [a,b,c,d,(a-e),e] [.nl K F,.ne (.a J K) F,.nl (.m 4 F) G,.ne G Z2,.ne H Z2,.nl I J] I H [4,0,4,1,1,-4,4] rfl) (ac [a,b,c,d,(a-e),e] [.nl F K,.ne J Z0,.nl (.m 4 F) G,.ne G Z2,.ne H Z2,.nl I J] I H [1,0,1,0,0,-1,1] rfl)
theorem I3:4*a<=b->b=1000000->c=1000000->p=(a:Int)-(d:Int)->e+1<=a->e<=c:=by revert p;refine @bi _ ?_;intro p3 q3;exact ac [a,b,c,p3,q3,d,e] [.nl (.m 4 F) G,.ne G Z2,.ne H Z2,.ze (.s S T) (.s P U),.nl (.a L W) F] L H [4,1,1,-4,0,4] rfl
theorem I2:a<=250000->b<=a-c->a-c+1=a-d->e=1000000->b<=e:=bA a c (ac [a,b,(a-c),c,(a-d),d,e] [.nl I F,.ne (.a H I) F,.nl F (.k 250000),.nl G H,.ne (.a H W) J,.ne L Z2] G L [1,0,1,1,1,0,-1] rfl) (ac [a,b,(a-c),c,(a-d),d,e] [.nl F I,.ne H Z0,.nl F (.k 250000),.nl G H,.ne (.a H W) J,.ne L Z2] G L [1,0,1,0,1,0,-1] rfl)
theorem I0:a<=b-c->b-c+1=b-d->a+1<=b-d:=ac [a,(b-c),b,c,(b-d),d] [.nl F G,.ne (.a G W) J] (.a F W) J [1,1,1] rfl
theorem IZ:a=125->¬(a=123):=ai [a] [.ne F (.k 125),.ne F (.k 123)] [-1,1] rfl
theorem IY:a<=250000->a-b+1=a-c->d=1000000->e<=a-b->p=(a:Int)-(f:Int)->e<=d:=by revert p;refine @bi _ ?_;intro p5 q5;exact bA a b (ac [a,(a-b),b,(a-c),c,d,e,p5,q5,f] [.nl H F,.ne (.a G H) F,.nl F (.k 250000),.ne (.a G W) I,.ne K Z2,.nl L G,.ze (.s X Y) (.s P (.c O))] L K [1,0,1,1,0,-1,1,0] rfl) (ac [a,(a-b),b,(a-c),c,d,e,p5,q5,f] [.nl F H,.ne G Z0,.nl F (.k 250000),.ne (.a G W) I,.ne K Z2,.nl L G,.ze (.s X Y) (.s P (.c O))] L K [1,0,1,0,0,-1,1,0] rfl)
theorem IX:a<=250000->b=1000000->p=(a:Int)-(c:Int)->d+1<=a-(e+1)->d<=b:=by revert p;refine @bi _ ?_;intro p2 q2;exact bA a (e+1) (ac [a,b,p2,q2,c,d,(a-(e+1)),e] [.nl (.a M W) F,.ne (.a L (.a M W)) F,.nl F (.k 250000),.ne G Z2,.ze (.s R S) (.s P T),.nl (.a K W) L] K G [1,0,1,1,-1,0,1] rfl) (ac [a,b,p2,q2,c,d,(a-(e+1)),e] [.nl F (.a M W),.ne L Z0,.nl F (.k 250000),.ne G Z2,.ze (.s R S) (.s P T),.nl (.a K W) L] K G [0,0,1,0,0,0,1] rfl)
theorem IW:a<=250000->a-b+1=a-c->d=1000000->p=(a:Int)-(e:Int)->f<=a-b/\g<=a-b/\h<=a-b+1->f<=d:=by revert p;refine @bi _ ?_;intro p4 q4;exact fun h0 h1 h2 h3 h4=>(bA a b (ac [a,(a-b),b,(a-c),c,d,p4,q4,e,f,g,h] [.nl H F,.ne (.a G H) F,.nl F (.k 250000),.ne (.a G W) I,.ne K Z2,.ze (.s V X) (.s P Y),.nl O G,.nl (.v 10) G,.nl (.v 11) (.a G W)] O K [1,0,1,1,0,-1,0,1,0,0] rfl) (ac [a,(a-b),b,(a-c),c,d,p4,q4,e,f,g,h] [.nl F H,.ne G Z0,.nl F (.k 250000),.ne (.a G W) I,.ne K Z2,.ze (.s V X) (.s P Y),.nl O G,.nl (.v 10) G,.nl (.v 11) (.a G W)] O K [1,0,1,0,0,-1,0,1,0,0] rfl)) h0 h1 h2 h3 h4.1 h4.2.1 h4.2.2
theorem IV:a<=250000->a-b+1=a-c->d=1000000->p=(a:Int)-(e:Int)->f<=a-b/\g<=a-b/\h<=a-b+1->g<=d:=by revert p;refine @bi _ ?_;intro p4 q4;exact fun h0 h1 h2 h3 h4=>(bA a b (ac [a,(a-b),b,(a-c),c,d,p4,q4,e,f,g,h] [.nl H F,.ne (.a G H) F,.nl F (.k 250000),.ne (.a G W) I,.ne K Z2,.ze (.s V X) (.s P Y),.nl O G,.nl (.v 10) G,.nl (.v 11) (.a G W)] (.v 10) K [1,0,1,1,0,-1,0,0,1,0] rfl) (ac [a,(a-b),b,(a-c),c,d,p4,q4,e,f,g,h] [.nl F H,.ne G Z0,.nl F (.k 250000),.ne (.a G W) I,.ne K Z2,.ze (.s V X) (.s P Y),.nl O G,.nl (.v 10) G,.nl (.v 11) (.a G W)] (.v 10) K [1,0,1,0,0,-1,0,0,1,0] rfl)) h0 h1 h2 h3 h4.1 h4.2.1 h4.2.2
theorem IU:p=(a:Int)-(b:Int)->c+1<=a-(d+1)->c<=a-d:=by revert p;refine @bi _ ?_;intro p0 q0;exact bA a (d+1) (bA a d (ac [p0,q0,a,b,c,(a-(d+1)),d,(a-d)] [.nl L H,.ne (.a M L) H,.nl (.a L W) H,.ne (.a K (.a L W)) H,.ze (.s P Q) (.s R S),.nl (.a J W) K] J M [1,0,-1,0,1,0,1] rfl) (ac [p0,q0,a,b,c,(a-(d+1)),d,(a-d)] [.nl H L,.ne M Z0,.nl (.a L W) H,.ne (.a K (.a L W)) H,.ze (.s P Q) (.s R S),.nl (.a J W) K] J M [0,1,0,1,0,0,0] rfl)) (ac [p0,q0,a,b,c,(a-(d+1)),d,(a-d)] [.nl H (.a L W),.ne K Z0,.ze (.s P Q) (.s R S),.nl (.a J W) K] J M [0,0,1,0,1] rfl)
theorem IS:a-b+1=a-c->a-b+1<=a-c:=ac [(a-b),a,b,(a-c),c] [.ne (.a F W) I] (.a F W) I [1,1] rfl
theorem IR:a=32\/a=10\/a=59->b<=c->c-b+1=c-d->¬(a=123):=fun h0 h1 h2 h3=>Or.elim h0 (fun c1=>(ai [a,b,c,(c-b),(c-d),d] [.ne F Z9,.nl G H,.ne (.a I W) J,.ne F (.k 123)] [1,0,0,-1] rfl) c1 h1 h2 h3) (fun c1=>Or.elim c1 (fun c2=>(ai [a,b,c,(c-b),(c-d),d] [.ne F Z8,.nl G H,.ne (.a I W) J,.ne F (.k 123)] [1,0,0,-1] rfl) c2 h1 h2 h3) (fun c2=>(ai [a,b,c,(c-b),(c-d),d] [.ne F (.k 59),.nl G H,.ne (.a I W) J,.ne F (.k 123)] [1,0,0,-1] rfl) c2 h1 h2 h3))
theorem IQ:a=32\/a=10\/a=59->b<=c->c-b+1=c-d->¬(a=125):=fun h0 h1 h2 h3=>Or.elim h0 (fun c1=>(ai [a,b,c,(c-b),(c-d),d] [.ne F Z9,.nl G H,.ne (.a I W) J,.ne F (.k 125)] [1,0,0,-1] rfl) c1 h1 h2 h3) (fun c1=>Or.elim c1 (fun c2=>(ai [a,b,c,(c-b),(c-d),d] [.ne F Z8,.nl G H,.ne (.a I W) J,.ne F (.k 125)] [1,0,0,-1] rfl) c2 h1 h2 h3) (fun c2=>(ai [a,b,c,(c-b),(c-d),d] [.ne F (.k 59),.nl G H,.ne (.a I W) J,.ne F (.k 125)] [1,0,0,-1] rfl) c2 h1 h2 h3))
theorem IP:a=32\/a=10\/a=59->b<=c->c-b+1=c-d->¬(a=35):=fun h0 h1 h2 h3=>Or.elim h0 (fun c1=>(ai [a,b,c,(c-b),(c-d),d] [.ne F Z9,.nl G H,.ne (.a I W) J,.ne F (.k 35)] [1,0,0,-1] rfl) c1 h1 h2 h3) (fun c1=>Or.elim c1 (fun c2=>(ai [a,b,c,(c-b),(c-d),d] [.ne F Z8,.nl G H,.ne (.a I W) J,.ne F (.k 35)] [1,0,0,-1] rfl) c2 h1 h2 h3) (fun c2=>(ai [a,b,c,(c-b),(c-d),d] [.ne F (.k 59),.nl G H,.ne (.a I W) J,.ne F (.k 35)] [-1,0,0,1] rfl) c2 h1 h2 h3))
theorem IO:a=32->¬(a=10):=ai [a] [.ne F Z9,.ne F Z8] [-1,1] rfl
theorem IN:a=32->¬(a=59):=ai [a] [.ne F Z9,.ne F (.k 59)] [1,-1] rfl
theorem IM:a<=250000->a-b+1=a-c->d=1000000->e<=a-b->¬(f=32)->e<=d:=fun h0 h1 h2 h3 h4=>(bA a b (ac [a,(a-b),b,(a-c),c,d,e] [.nl H F,.ne (.a G H) F,.nl F (.k 250000),.ne (.a G W) I,.ne K Z2,.nl L G] L K [1,0,1,1,0,-1,1] rfl) (ac [a,(a-b),b,(a-c),c,d,e] [.nl F H,.ne G Z0,.nl F (.k 250000),.ne (.a G W) I,.ne K Z2,.nl L G] L K [1,0,1,0,0,-1,1] rfl)) h0 h1 h2 h3
theorem IL:a=32\/a=10\/a=59->b<=c->c-b+1=c-d->¬(a=32)->¬(a=10)->a=59:=fun h0 h1 h2 h3 h4=>Or.elim h0 (fun c4=>dw (fun c6=>(bh [a,b,c,(c-b),(c-d),d] [.ne F Z9,.nl G H,.ne (.a I W) J,.nl (.a F W) Z9] F (.k 59) [1,1,0,0,0] [0,-1,0,0,1] rfl) c4 h1 h2 c6) (fun c6=>(bh [a,b,c,(c-b),(c-d),d] [.ne F Z9,.nl G H,.ne (.a I W) J,.nl (.a Z9 W) F] F (.k 59) [1,1,0,0,0] [0,1,0,0,1] rfl) c4 h1 h2 c6) h3) (fun c4=>Or.elim c4 (fun c10=>dw (fun c11=>(bh [a,b,c,(c-b),(c-d),d] [.ne F Z8,.nl G H,.ne (.a I W) J,.nl (.a F W) Z8] F (.k 59) [1,1,0,0,0] [0,-1,0,0,1] rfl) c10 h1 h2 c11) (fun c11=>(bh [a,b,c,(c-b),(c-d),d] [.ne F Z8,.nl G H,.ne (.a I W) J,.nl (.a Z8 W) F] F (.k 59) [1,1,0,0,0] [0,1,0,0,1] rfl) c10 h1 h2 c11) h4) (fun c10=>(bh [a,b,c,(c-b),(c-d),d] [.ne F (.k 59),.nl G H,.ne (.a I W) J] F (.k 59) [1,1,0,0] [1,-1,0,0] rfl) c10 h1 h2))
theorem IK:4*a<=b->a-c+1=a-d->e=1000000->b=1000000->f<=a-c/\g<=a-c/\h<=a-c+1->¬(i=125)/\¬(i=10)/\¬(i=59)/\¬(i=32)->f<=e:=fun h0 h1 h2 h3 h4 h5=>(bA a c (ac [a,b,(a-c),c,(a-d),d,e,f,g,h] [.nl I F,.ne (.a H I) F,.nl (.m 4 F) G,.ne (.a H W) J,.ne L Z2,.ne G Z2,.nl M H,.nl N H,.nl O (.a H W)] M L [4,0,4,1,0,-4,1,4,0,0] rfl) (ac [a,b,(a-c),c,(a-d),d,e,f,g,h] [.nl F I,.ne H Z0,.nl (.m 4 F) G,.ne (.a H W) J,.ne L Z2,.ne G Z2,.nl M H,.nl N H,.nl O (.a H W)] M L [1,0,1,0,0,-1,0,1,0,0] rfl)) h0 h1 h2 h3 h4.1 h4.2.1 h4.2.2
theorem IJ:4*a<=b->a-c+1=a-d->e=1000000->b=1000000->f<=a-c/\g<=a-c/\h<=a-c+1->¬(i=125)/\¬(i=10)/\¬(i=59)/\¬(i=32)->g<=e:=fun h0 h1 h2 h3 h4 h5=>(bA a c (ac [a,b,(a-c),c,(a-d),d,e,f,g,h] [.nl I F,.ne (.a H I) F,.nl (.m 4 F) G,.ne (.a H W) J,.ne L Z2,.ne G Z2,.nl M H,.nl N H,.nl O (.a H W)] N L [4,0,4,1,0,-4,1,0,4,0] rfl) (ac [a,b,(a-c),c,(a-d),d,e,f,g,h] [.nl F I,.ne H Z0,.nl (.m 4 F) G,.ne (.a H W) J,.ne L Z2,.ne G Z2,.nl M H,.nl N H,.nl O (.a H W)] N L [1,0,1,0,0,-1,0,0,1,0] rfl)) h0 h1 h2 h3 h4.1 h4.2.1 h4.2.2
theorem II:a-b+1=a-c->a-c<=a-d->a-b+1<=a-d:=ac [(a-b),a,b,(a-c),c,(a-d),d] [.ne (.a F W) I,.nl I K] (.a F W) K [1,1,1] rfl
theorem IG:a-b+1=a-c->a-c<=a-d->a-b<=a-d:=ac [(a-b),a,b,(a-c),c,(a-d),d] [.ne (.a F W) I,.nl I K] F K [1,1,1] rfl
theorem IF:a<=b-c->b-c+1=b-d->b-d<=b-e->a<=b-e:=ac [a,(b-c),b,c,(b-d),d,(b-e),e] [.nl F G,.ne (.a G W) J,.nl J L] F L [1,1,1,1] rfl
theorem IE:9<=a->3+1<=a:=ac [a] [.nl (.k 9) F] (.a Z4 W) F [1,1] rfl
theorem ID:37=(a:Int)\/126=(a:Int)↔a=37\/a=126:=⟨fun c1=>Or.elim c1 (fun c6=>Tg fun c7=>dw (fun c9=>(ai [a] [.ze (.k 37) P,.nl (.a F W) (.k 37)] [1,1] rfl) c6 c9) (fun c9=>(ai [a] [.ze (.k 37) P,.nl (.a (.k 37) W) F] [-1,1] rfl) c6 c9) (fun a=>c7 (.inl a))) (fun c6=>Tg fun c10=>dw (fun c11=>(ai [a] [.ze W6 P,.nl (.a F W) (.k 126)] [1,1] rfl) c6 c11) (fun c11=>(ai [a] [.ze W6 P,.nl (.a (.k 126) W) F] [-1,1] rfl) c6 c11) (fun a=>c10 (.inr a))),fun c1=>Or.elim c1 (fun c16=>Tg fun c17=>cJ (fun c19=>(ai [a] [.ne F (.k 37),.zl (.a (.k 37) Z) P] [1,1] rfl) c16 c19) (fun c19=>(ai [a] [.ne F (.k 37),.zl (.a P Z) (.k 37)] [-1,1] rfl) c16 c19) (fun a=>c17 (.inl a))) (fun c16=>Tg fun c20=>cJ (fun c21=>(ai [a] [.ne F (.k 126),.zl (.a W6 Z) P] [1,1] rfl) c16 c21) (fun c21=>(ai [a] [.ne F (.k 126),.zl (.a P Z) W6] [-1,1] rfl) c16 c21) (fun a=>c20 (.inr a)))⟩
theorem IC:a<=4->b<=4*c->a+b<=4*(c+1):=ac [a,b,c] [.nl F Z5,.nl G (.m 4 H)] (.a F G) (.m 4 (.a H W)) [1,1,1] rfl
theorem IB:4*a+2<=b->b=1000000->a<=b:=ac [a,b] [.nl (.a (.m 4 F) Z1) G,.ne G Z2] F G [4,1,-3] rfl
theorem IA:a<2^8->p=92\/p=(a:Int)->0<=p/\p<256:=by revert p;refine @bi _ ?_;intro p1 q1;exact fun h0 h1=>Or.elim h1 (fun c1=>⟨(az [a,p1,q1] [.nl (.a F W) Za,.ze (.s Q R) W2] W0 (.s Q R) [1,0,-1] rfl) h0 c1,(az [a,p1,q1] [.nl (.a F W) Za,.ze (.s Q R) W2] (.a (.s Q R) Z) (.k 256) [1,0,1] rfl) h0 c1⟩) (fun c1=>⟨(az [a,p1,q1] [.nl (.a F W) Za,.ze (.s Q R) P] W0 (.s Q R) [1,0,-1] rfl) h0 c1,(az [a,p1,q1] [.nl (.a F W) Za,.ze (.s Q R) P] (.a (.s Q R) Z) (.k 256) [1,1,1] rfl) h0 c1⟩)
theorem Iz:4*a+2<=b->b=1000000->c<a->d<=4*e->e=c->d+1+(0+1+1)<=b:=ac [a,b,c,d,e] [.nl (.a (.m 4 F) Z1) G,.ne G Z2,.nl (.a H W) F,.nl I (.m 4 J),.ne J H] (.a (.a I W) (.a (.a Z0 W) W)) G [1,1,0,4,1,4] rfl
theorem Iy:a<2^8->(a:Int)<32->a<32\/a=127:=fun h0 h1=>Tg fun c1=>(ai [a] [.nl (.a F W) Za,.zl (.a P Z) (.k 32),.nn (.a F W) Z9] [0,1,1] rfl) h0 h1 (fun a=>c1 (.inl a))
theorem Ix:(a:Int)=127->a<32\/a=127:=fun h0=>Tg fun c1=>dw (fun c2=>(ai [a] [.ze P (.k 127),.nn (.a F W) Z9,.nl (.a F W) (.k 127)] [-1,0,1] rfl) h0 (fun a=>c1 (.inl a)) c2) (fun c2=>(ai [a] [.ze P (.k 127),.nn (.a F W) Z9,.nl (.a (.k 127) W) F] [1,0,1] rfl) h0 (fun a=>c1 (.inl a)) c2) (fun a=>c1 (.inr a))
theorem Iw:(a:Int)=127->¬(a=34\/a=36\/a=92):=fun h0 h1=>Or.elim h1 (fun c1=>(ai [a] [.ze P (.k 127),.ne F (.k 34)] [-1,1] rfl) h0 c1) (fun c1=>Or.elim c1 (fun c2=>(ai [a] [.ze P (.k 127),.ne F (.k 36)] [-1,1] rfl) h0 c2) (fun c2=>(ai [a] [.ze P (.k 127),.ne F (.k 92)] [-1,1] rfl) h0 c2))
theorem Iv:4*a+2<=b->b=1000000->c<a->d<=4*e->e=c->d+1<=b:=ac [a,b,c,d,e] [.nl (.a (.m 4 F) Z1) G,.ne G Z2,.nl (.a H W) F,.nl I (.m 4 J),.ne J H] (.a I W) G [1,1,0,4,1,4] rfl
theorem Iu:a<2^8->¬((a:Int)<32)->0<=(a:Int):=az [a] [.nl (.a F W) Za,.zn (.a P Z) (.k 32)] W0 P [1,0,1] rfl
theorem It:a<2^8->¬((a:Int)<32)->(a:Int)<256:=az [a] [.nl (.a F W) Za,.zn (.a P Z) (.k 32)] (.a P Z) (.k 256) [1,1,0] rfl
theorem Ir:a<2^8->¬((a:Int)<32)->¬((a:Int)=127)->¬(a<32\/a=127):=fun h0 h1 h2 h3=>cJ (fun c2=>Or.elim h3 (fun c3=>(ai [a] [.nl (.a F W) Za,.zn (.a P Z) (.k 32),.zl (.a P Z) (.k 127),.nl (.a F W) Z9] [0,1,0,1] rfl) h0 h1 c2 c3) (fun c3=>(ai [a] [.nl (.a F W) Za,.zn (.a P Z) (.k 32),.zl (.a P Z) (.k 127),.ne F (.k 127)] [0,0,1,-1] rfl) h0 h1 c2 c3)) (fun c2=>Or.elim h3 (fun c4=>(ai [a] [.nl (.a F W) Za,.zn (.a P Z) (.k 32),.zl (.a (.k 127) Z) P,.nl (.a F W) Z9] [0,1,0,1] rfl) h0 h1 c2 c4) (fun c4=>(ai [a] [.nl (.a F W) Za,.zn (.a P Z) (.k 32),.zl (.a (.k 127) Z) P,.ne F (.k 127)] [0,0,1,1] rfl) h0 h1 c2 c4)) h2
theorem Iq:4*a+2<=b->b=1000000->c<=4*a->c+1<=b:=ac [a,b,c] [.nl (.a (.m 4 F) Z1) G,.ne G Z2,.nl H (.m 4 F)] (.a H W) G [4,4,0,4] rfl
theorem Ip:4*a+2<=b->b=1000000->c<=4*a->c+1+1<=b:=ac [a,b,c] [.nl (.a (.m 4 F) Z1) G,.ne G Z2,.nl H (.m 4 F)] (.a (.a H W) W) G [4,4,0,4] rfl
theorem Io:a<=b->1<=c->a+1<=c+b:=ac [a,b,c] [.nl F G,.nl W H] (.a F W) (.a H G) [1,1,1] rfl
theorem Im:a<=b->a<=b+1+(0+1):=ac [a,b] [.nl F G] F (.a (.a G W) (.a Z0 W)) [1,1] rfl
theorem Il:a=1000000->4*b+8<=a->c<=b->4*c+2<=a:=ac [a,b,c] [.ne F Z2,.nl (.a (.m 4 G) Z7) F,.nl H G] (.a (.m 4 H) Z1) F [1,0,1,4] rfl
theorem Ik:a=3*b+3->3<=a:=ac [a,b] [.ne F (.a (.m 3 G) Z4)] Z4 F [1,-1] rfl
theorem Ij:a=1000000->4*(0+1+1+b+(0+1+1))+8<=a->4*b+8<=a:=ac [a,b] [.ne F Z2,.nl (.a (.m 4 (.a (.a (.a (.a Z0 W) W) G) (.a (.a Z0 W) W))) Z7) F] (.a (.m 4 G) Z7) F [1,0,1] rfl
theorem Ii:a=3*b+3->b=c+1->3*c+6<=a:=ac [a,b,c] [.ne F (.a (.m 3 G) Z4),.ne G (.a H W)] (.a (.m 3 H) (.k 6)) F [1,-1,-3] rfl
theorem Ih:a=1000000->4*(0+1+1+b+(0+1+1))+8<=a->0+1+1+b<=a:=ac [a,b] [.ne F Z2,.nl (.a (.m 4 (.a (.a (.a (.a Z0 W) W) G) (.a (.a Z0 W) W))) Z7) F] (.a (.a (.a Z0 W) W) G) F [1,0,1] rfl
theorem Ig:a=1000000->4*(0+1+1+b+(0+1+1))+8<=a->0+1+1+b+(0+1+1)<=a:=ac [a,b] [.ne F Z2,.nl (.a (.m 4 (.a (.a (.a (.a Z0 W) W) G) (.a (.a Z0 W) W))) Z7) F] (.a (.a (.a (.a Z0 W) W) G) (.a (.a Z0 W) W)) F [1,0,1] rfl
theorem Ie:a+b+(c+d+b*e)=a+(c+d)+(b*e+b):=bh [a,b,c,d,(b*e)] [] (.a (.a F G) (.a (.a H I) J)) (.a (.a F (.a H I)) (.a J G)) [1] [1] rfl
theorem Id:a+b+c=a+(b+c):=bh [a,b,c] [] (.a (.a F G) H) (.a F (.a G H)) [1] [1] rfl
theorem Ic:a<=a+b:=ac [a,b] [] F (.a F G) [1] rfl
theorem Ib:a<=b->a<=c+b:=ac [a,b,c] [.nl F G] F (.a H G) [1,1] rfl
theorem Ia:a=1000000->4*(b+(0+1)*(c-1))+8<=a->d<c->e<=b->4*e+8<=a:=ac [a,b,((0+1)*(c-1)),d,c,e] [.ne F Z2,.nl (.a (.m 4 (.a G H)) Z7) F,.nl (.a I W) J,.nl K G] (.a (.m 4 K) Z7) F [1,0,1,0,4] rfl
theorem H_:a=3*b+4->b=c->d<e->f<=c->g=a->3*f+4<=g:=ac [a,b,c,d,e,f,g] [.ne F (.a (.m 3 G) Z5),.ne G H,.nl (.a I W) J,.nl K H,.ne L F] (.a (.m 3 K) Z5) L [3,-3,-9,0,9,-3] rfl
theorem H9:a=1000000->4*(b+(0+1)*(c-1))+8<=a->b+(0+1)*(c-1)<=a:=ac [a,b,((0+1)*(c-1))] [.ne F Z2,.nl (.a (.m 4 (.a G H)) Z7) F] (.a G H) F [4,-3,1] rfl
theorem Rb:a<=2*b->1+a<=2*(b+1):=ac [a,b] [.nl F (.m 2 G)] (.a W F) (.m 2 (.a G W)) [1,1] rfl
theorem Ra:a<=2*b->2+a<=2*(b+1):=ac [a,b] [.nl F (.m 2 G)] (.a Z1 F) (.m 2 (.a G W)) [1,1] rfl
theorem H8:a<=b->a+1<=0+1+1+1+c+b:=ac [a,b,c] [.nl F G] (.a F W) (.a (.a (.a (.a (.a Z0 W) W) W) H) G) [1,1] rfl
theorem H7:a<=b->a+1<=0+1+c+b:=ac [a,b,c] [.nl F G] (.a F W) (.a (.a (.a Z0 W) H) G) [1,1] rfl
theorem H6:a<=b->a+1<=0+c+b+1:=ac [a,b,c] [.nl F G] (.a F W) (.a (.a (.a Z0 H) G) W) [1,1] rfl
theorem H5:a+1<b->a+1<c->a<b:=ac [a,b,c] [.nl (.a (.a F W) W) G,.nl (.a (.a F W) W) H] (.a F W) G [1,1,0] rfl
theorem H4:a=b->c+1<a->c+1<b->c<b:=ac [a,b,c] [.ne F G,.nl (.a (.a H W) W) F,.nl (.a (.a H W) W) G] (.a H W) G [1,0,0,1] rfl
theorem H3:4*a+8<=b->b=1000000->c=1000000->d<=a+1->e=d->f=a->g+1<d->e<=c:=ac [a,b,c,d,e,f,g] [.nl (.a (.m 4 F) Z7) G,.ne G Z2,.ne H Z2,.nl I (.a F W),.ne J I,.ne K F,.nl (.a (.a L W) W) I] J H [4,1,1,-4,4,4,0,0] rfl
theorem H2:a+1<b->0<=((a+1:Nat):Int)-1:=az [a,b] [.nl (.a (.a F W) W) G] W0 (.s (.c (.a F W)) Z) [1,0] rfl
theorem H1:a+1<b->c=d->c=e->(d:Int)=(f:Int)->e=f:=bh [a,b,c,d,e,f] [.nl (.a (.a F W) W) G,.ne H I,.ne H J,.ze S U] J K [1,0,1,-1,1] [1,0,-1,1,-1] rfl
theorem H0:a+1<b->c=d->c=e->¬((d:Int)=(f:Int))->¬(e=f):=fun h0 h1 h2 h3 h4=>cJ (fun c1=>(ai [a,b,c,d,e,f] [.nl (.a (.a F W) W) G,.ne H I,.ne H J,.zl (.a S Z) U,.ne J K] [0,1,-1,1,-1] rfl) h0 h1 h2 c1 h4) (fun c1=>(ai [a,b,c,d,e,f] [.nl (.a (.a F W) W) G,.ne H I,.ne H J,.zl (.a U Z) S,.ne J K] [0,-1,1,1,1] rfl) h0 h1 h2 c1 h4) h3
theorem HZ:a+1<b->¬(0<((a+1:Nat):Int))->0<((a+1:Nat):Int):=az [a,b] [.nl (.a (.a F W) W) G,.zn (.a W0 Z) (.c (.a F W))] (.a W0 Z) (.c (.a F W)) [1,0,0] rfl
theorem HY:4*a+8<=b->b=1000000->c=a->d<e->f<=a->4*f+8<=b:=ac [a,b,c,d,e,f] [.nl (.a (.m 4 F) Z7) G,.ne G Z2,.ne H F,.nl (.a I W) J,.nl K F] (.a (.m 4 K) Z7) G [1,1,0,0,0,4] rfl
theorem HW:a=3*b+5->c<d->e<=b->3*e+5<=a:=ac [a,b,c,d,e] [.ne F (.a (.m 3 G) (.k 5)),.nl (.a H W) I,.nl J G] (.a (.m 3 J) (.k 5)) F [1,-1,0,3] rfl
theorem Q_:a<b->1+b<c+1->a<c:=ac [a,b,c] [.nl (.a F W) G,.nl (.a (.a W G) W) (.a H W)] (.a F W) H [1,1,1] rfl
theorem Q9:a<b->1+c+b<d+1->a<d:=ac [a,b,c,d] [.nl (.a F W) G,.nl (.a (.a (.a W H) G) W) (.a I W)] (.a F W) I [1,1,1] rfl
theorem HV:a<b->(c:Int)≠(d:Int)->¬(d=c):=fun h0 h1 h2=>cJ (fun c1=>(ai [a,b,c,d] [.nl (.a F W) G,.zl (.a R Z) S,.ne I H] [0,1,1] rfl) h0 c1 h2) (fun c1=>(ai [a,b,d,c] [.nl (.a F W) G,.zl (.a R Z) S,.ne H I] [0,1,-1] rfl) h0 c1 h2) h1
theorem HU:4*a+8<=b->b=1000000->c=1000000->d<=a+1->e=d->f=a->g<e->g<d->h+1<=g->h+1<=c:=ac [a,b,c,d,e,f,g,h] [.nl (.a (.m 4 F) Z7) G,.ne G Z2,.ne H Z2,.nl I (.a F W),.ne J I,.ne K F,.nl (.a L W) J,.nl (.a L W) I,.nl (.a M W) L] (.a M W) H [4,1,1,-4,4,0,0,0,4,4] rfl
theorem HT:a<b->c+1<=a->c<=a:=ac [a,b,c] [.nl (.a F W) G,.nl (.a H W) F] H F [1,0,1] rfl
theorem HS:a<b->c<d->e<=f->e<=f+g*(h-1):=ac [a,b,c,d,e,f,(g*(h-1))] [.nl (.a F W) G,.nl (.a H W) I,.nl J K] J (.a K L) [1,0,0,1] rfl
theorem HQ:4*a+8<=b->b=1000000->c=a->d<e->f<=a->0+1+1+g+(0+1+1)<=f->4*g+8<=b:=ac [a,b,c,d,e,f,g] [.nl (.a (.m 4 F) Z7) G,.ne G Z2,.ne H F,.nl (.a I W) J,.nl K F,.nl (.a (.a (.a (.a Z0 W) W) L) (.a (.a Z0 W) W)) K] (.a (.m 4 L) Z7) G [1,1,0,0,0,4,4] rfl
theorem HP:a=b->c<d->e<=b->f=a->e=g->h+1<=g->h+1<=f:=ac [a,b,c,d,e,f,g,h] [.ne F G,.nl (.a H W) I,.nl J G,.ne K F,.ne J L,.nl (.a M W) L] (.a M W) K [1,-1,0,1,-1,-1,1] rfl
theorem HO:a<b->c<=a->c+1<=a+1:=ac [a,b,c] [.nl (.a F W) G,.nl H F] (.a H W) (.a F W) [1,0,1] rfl
theorem HN:a<b->c<=a->c<=a:=ac [a,b,c] [.nl (.a F W) G,.nl H F] H F [1,0,1] rfl
theorem Q8:a<b+1->1+c+d<a->1+e<d->e<b:=ac [a,b,c,d,e] [.nl (.a F W) (.a G W),.nl (.a (.a (.a W H) I) W) F,.nl (.a (.a W J) W) I] (.a J W) G [1,1,1,1] rfl
theorem HM:a=b+10->10<=a:=ac [a,b] [.ne F (.a G Z8)] Z8 F [1,-1] rfl
theorem HL:a=b+10->c<=b->c+1<=a:=ac [a,b,c] [.ne F (.a G Z8),.nl H G] (.a H W) F [1,-1,1] rfl
theorem HK:a=b->c+3<=b->c+3<=a:=ac [a,b,c] [.ne F G,.nl (.a H Z4) G] (.a H Z4) F [1,-1,1] rfl
theorem HJ:a=b->3*c+12<=b->c+11<=a:=ac [a,b,c] [.ne F G,.nl (.a (.m 3 H) (.k 12)) G] (.a H (.k 11)) F [1,-1,1] rfl
theorem HI:a=b->3*c+12<=b->d<=c->3*d+6<=a:=ac [a,b,c,d] [.ne F G,.nl (.a (.m 3 H) (.k 12)) G,.nl I H] (.a (.m 3 I) (.k 6)) F [1,-1,1,3] rfl
theorem HH:a=1000000->4*b+8<=a->4*b<=a:=ac [a,b] [.ne F Z2,.nl (.a (.m 4 G) Z7) F] (.m 4 G) F [1,0,1] rfl
theorem HG:a=b->3*c+12<=b->d<=c->10<=a:=ac [a,b,c,d] [.ne F G,.nl (.a (.m 3 H) (.k 12)) G,.nl I H] Z8 F [1,-1,1,0] rfl
theorem HF:a=b->3*c+12<=b->d<=c->d+1<=a:=ac [a,b,c,d] [.ne F G,.nl (.a (.m 3 H) (.k 12)) G,.nl I H] (.a I W) F [1,-1,1,3] rfl
theorem HE:0<=p/\p+100*(a:Int)<=999800->b=a+2->(a:Int)=2->0<=p/\p<=1000000:=by revert p;refine @bi _ ?_;intro p0 q0;exact fun h0 h1 h2=>⟨(az [p0,q0,a,b] [.zl W0 (.s P Q),.zl (.a (.s P Q) (.m 100 R)) (.k 999800),.ne I (.a H Z1),.ze R (.k 2)] W0 (.s P Q) [1,1,0,0,0] rfl) h0.1 h0.2 h1 h2,(az [p0,q0,a,b] [.zl W0 (.s P Q),.zl (.a (.s P Q) (.m 100 R)) (.k 999800),.ne I (.a H Z1),.ze R (.k 2)] (.s P Q) W9 [1,0,1,0,-100] rfl) h0.1 h0.2 h1 h2⟩
theorem HD:a=b+2->(b:Int)=2->1<=a:=ac [a,b] [.ne F (.a G Z1),.ze Q (.k 2)] W F [1,-1,-1] rfl
theorem HC:1+(a:Int)=((a+1:Nat):Int):=dY [a] [] (.a Z P) (.c (.a F W)) [1] [1] rfl
theorem HA:a=b+2->(b:Int)=2->b=2:=bh [a,b] [.ne F (.a G Z1),.ze Q (.k 2)] G Z1 [1,0,1] [1,0,-1] rfl
theorem Hz:0<=(a:Int)->(a:Int)<2->a+1<=2:=ac [a] [.zl W0 P,.zl (.a P Z) (.k 2)] (.a F W) Z1 [1,0,1] rfl
theorem Hy:(1:Nat)<=(1:Nat):=ac [] [] W W [1] rfl
theorem Hw:a<=2->b<=a->b<=1000000:=ac [a,b] [.nl F Z1,.nl G F] G Z2 [1,1,1] rfl
theorem Hv:p<=q->q<=p+1->q<=p+1+((0*(a+5):Nat):Int):=by revert p;refine @bi _ ?_;intro p0 q0;revert q;refine @bi _ ?_;intro p1 q1;exact az [p0,q0,p1,q1,a] [.zl (.s P Q) (.s R S),.zl (.s R S) (.a (.s P Q) Z)] (.s R S) (.a (.a (.s P Q) Z) (.c (.m 0 (.a J (.k 5))))) [1,0,1] rfl
theorem Hu:a<=2->b<=a->c<b->c<=1:=ac [a,b,c] [.nl F Z1,.nl G F,.nl (.a H W) G] H W [1,1,1,1] rfl
theorem Ht:4<=a->a<=1000->a+20<=1020:=ac [a] [.nl Z5 F,.nl F (.k 1000)] (.a F (.k 20)) (.k 1020) [1,0,1] rfl
theorem Hr:a<=20->a+5<=25:=ac [a] [.nl F (.k 20)] (.a F (.k 5)) (.k 25) [1,1] rfl
theorem Hq:a=1000000->b*(c+20)<=1*1020->d<=b*(c+20)->d+(0+1)<=a:=ac [a,(b*(c+20)),d] [.ne F Z2,.nl G (.m 1 (.k 1020)),.nl H G] (.a H (.a Z0 W)) F [1,-1,1,1] rfl
theorem Hp:a<=2->b=a+2->1<=b:=ac [a,b] [.nl F Z1,.ne G (.a F Z1)] W G [1,0,-1] rfl
theorem Ho:0<=(a:Int)->(a:Int)<3->a<=2:=ac [a] [.zl W0 P,.zl (.a P Z) W3] F Z1 [1,0,1] rfl
theorem Hm:a<=2->a<=1000000:=ac [a] [.nl F Z1] F Z2 [1,1] rfl
theorem Hl:a<=2->b<a->b<=1:=ac [a,b] [.nl F Z1,.nl (.a G W) F] G W [1,1,1] rfl
theorem Hk:4<=a->a<=1000->b<=0->b<=a+4:=ac [a,b] [.nl Z5 F,.nl F (.k 1000),.nl G Z0] G (.a F Z5) [1,1,0,1] rfl
theorem Hj:a<=1->b<=c+4+8*(a-1)->b<=c+4:=bA a 1 (ac [a,b,c,(a-1)] [.nl W F,.ne (.a I W) F,.nl F W,.nl G (.a (.a H Z5) (.m 8 I))] G (.a H Z5) [1,0,8,8,1] rfl) (ac [a,b,c,(a-1)] [.nl F W,.ne I Z0,.nl F W,.nl G (.a (.a H Z5) (.m 8 I))] G (.a H Z5) [1,0,8,0,1] rfl)
theorem Hi:a<=20->p+1<=q->q<=p+1+((0:Nat):Int)->q<=p+1+((a+2:Nat):Int):=by revert p;refine @bi _ ?_;intro p1 q1;revert q;refine @bi _ ?_;intro p2 q2;exact az [a,p1,q1,p2,q2] [.nl F (.k 20),.zl (.a (.s Q R) Z) (.s S T),.zl (.s S T) (.a (.a (.s Q R) Z) (.c Z0))] (.s S T) (.a (.a (.s Q R) Z) (.c (.a F Z1))) [1,0,0,1] rfl
theorem Hh:a<=1->p<=q+1+((b+2+(a-1):Nat):Int)->p<=q+1+((b+2:Nat):Int):=by revert p;refine @bi _ ?_;intro p1 q1;revert q;refine @bi _ ?_;intro p2 q2;exact bA a 1 (az [a,p1,q1,p2,q2,b,(a-1)] [.nl W F,.ne (.a L W) F,.nl F W,.zl (.s Q R) (.a (.a (.s S T) Z) (.c (.a (.a K Z1) L)))] (.s Q R) (.a (.a (.s S T) Z) (.c (.a K Z1))) [1,0,1,1,1] rfl) (az [a,p1,q1,p2,q2,b,(a-1)] [.nl F W,.ne L Z0,.nl F W,.zl (.s Q R) (.a (.a (.s S T) Z) (.c (.a (.a K Z1) L)))] (.s Q R) (.a (.a (.s S T) Z) (.c (.a K Z1))) [1,0,1,0,1] rfl)
theorem Hg:a<=2->b=a+2->0<(a:Int)->1<=b:=ac [a,b] [.nl F Z1,.ne G (.a F Z1),.zl (.a W0 Z) P] W G [1,0,-1,1] rfl
theorem Hf:a<=2->b=a+2->0<(a:Int)->0<a:=ac [a,b] [.nl F Z1,.ne G (.a F Z1),.zl (.a W0 Z) P] (.a Z0 W) F [1,0,0,1] rfl
theorem He:p+1<=p+((1:Nat):Int):=by revert p;refine @bi _ ?_;intro p0 q0;exact az [p0,q0] [] (.a (.s P Q) Z) (.a (.s P Q) (.c W)) [1] rfl
theorem Hd:a<=2->b=a+2->0<a->a=a-1+1:=bA a 1 (bh [a,b,(a-1)] [.nl W F,.ne (.a H W) F,.nl F Z1,.ne G (.a F Z1),.nl (.a Z0 W) F] F (.a H W) [1,0,-1,0,0,0] [1,0,1,0,0,0] rfl) (bh [a,b,(a-1)] [.nl F W,.ne H Z0,.nl F Z1,.ne G (.a F Z1),.nl (.a Z0 W) F] F (.a H W) [1,1,-1,0,0,0] [1,0,1,0,0,1] rfl)
theorem Hb:4<=a->a<=1000->b=1000000->c*(a+20)<=1*1020->d<=c*(a+20)->e<=a+4->d+(0+1)+e+(0+1+1)<=b:=ac [a,b,(c*(a+20)),d,e] [.nl Z5 F,.nl F (.k 1000),.ne G Z2,.nl H (.m 1 (.k 1020)),.nl I H,.nl J (.a F Z5)] (.a (.a (.a I (.a Z0 W)) J) (.a (.a Z0 W) W)) G [1,0,1,-1,1,1,1] rfl
theorem Ha:a+1<=2->b=a+1+2->2<=b:=ac [a,b] [.nl (.a F W) Z1,.ne G (.a (.a F W) Z1)] Z1 G [1,0,-1] rfl
theorem G_:4<=a->a<=1000->b=1000000->c*(a+20)<=1*1020->d<=c*(a+20)->e<=a+4->f<=1->d+(0+1)+e+(0+1+1)+f<=b:=ac [a,b,(c*(a+20)),d,e,f] [.nl Z5 F,.nl F (.k 1000),.ne G Z2,.nl H (.m 1 (.k 1020)),.nl I H,.nl J (.a F Z5),.nl K W] (.a (.a (.a (.a I (.a Z0 W)) J) (.a (.a Z0 W) W)) K) G [1,0,1,-1,1,1,1,1] rfl
theorem G9:((a+1:Nat):Int)-1=(a:Int):=dY [a] [] (.s (.c (.a F W)) Z) P [1] [1] rfl
theorem G8:a=b+1+2->b+3<=a:=ac [a,b] [.ne F (.a (.a G W) Z1)] (.a G Z4) F [1,-1] rfl
theorem G7:4<=a->a<=1000->b=1000000->c*(a+20)<=1*1020->d<=c*(a+20)->e<=a+4->f<=1->g<=a->d+(0+1)+e+(0+1+1)+f+g<=b:=ac [a,b,(c*(a+20)),d,e,f,g] [.nl Z5 F,.nl F (.k 1000),.ne G Z2,.nl H (.m 1 (.k 1020)),.nl I H,.nl J (.a F Z5),.nl K W,.nl L F] (.a (.a (.a (.a (.a I (.a Z0 W)) J) (.a (.a Z0 W) W)) K) L) G [1,0,2,-1,1,1,1,1,1] rfl
theorem G6:4<=a->a<=1000->b=1000000->c*(a+20)<=1*1020->d<=c*(a+20)->e<=a+4->f<=1->g<=a->d+(0+1)+e+(0+1+1)+f+g+(0+1)<=b:=ac [a,b,(c*(a+20)),d,e,f,g] [.nl Z5 F,.nl F (.k 1000),.ne G Z2,.nl H (.m 1 (.k 1020)),.nl I H,.nl J (.a F Z5),.nl K W,.nl L F] (.a (.a (.a (.a (.a (.a I (.a Z0 W)) J) (.a (.a Z0 W) W)) K) L) (.a Z0 W)) G [1,0,2,-1,1,1,1,1,1] rfl
theorem G5:p+1<=q->q+1+1<=r->p+1<=r:=by revert p;refine @bi _ ?_;intro p0 q0;revert q;refine @bi _ ?_;intro p1 q1;revert r;refine @bi _ ?_;intro p2 q2;exact az [p0,q0,p1,q1,p2,q2] [.zl (.a (.s P Q) Z) (.s R S),.zl (.a (.a (.s R S) Z) Z) (.s T U)] (.a (.s P Q) Z) (.s T U) [1,1,1] rfl
theorem G4:2+(1+(a+1))<=a+4:=ac [a] [] (.a Z1 (.a W (.a F W))) (.a F Z5) [1] rfl
theorem G3:1+a<=a+1:=ac [a] [] (.a W F) (.a F W) [1] rfl
theorem G2:p+1<=q->r<=q+1+1+(a:Int)->q<=p+1->r<=p+1+((a:Int)+2):=by revert p;refine @bi _ ?_;intro p0 q0;revert q;refine @bi _ ?_;intro p1 q1;revert r;refine @bi _ ?_;intro p2 q2;exact az [p0,q0,p1,q1,p2,q2,a] [.zl (.a (.s P Q) Z) (.s R S),.zl (.s T U) (.a (.a (.a (.s R S) Z) Z) V),.zl (.s R S) (.a (.s P Q) Z)] (.s T U) (.a (.a (.s P Q) Z) (.a V (.k 2))) [1,0,1,1] rfl
theorem GZ:4<=a->a<=1000->b=1000000->c*(a+20)<=1*1020->d<=c*(a+20)->e<=a+4->d+(0+1)+e+(0+1)<=b:=ac [a,b,(c*(a+20)),d,e] [.nl Z5 F,.nl F (.k 1000),.ne G Z2,.nl H (.m 1 (.k 1020)),.nl I H,.nl J (.a F Z5)] (.a (.a (.a I (.a Z0 W)) J) (.a Z0 W)) G [1,0,1,-1,1,1,1] rfl
theorem GY:a=24->0<a/\a<=1000000:=fun h0=>⟨(ac [a] [.ne F (.k 24)] (.a Z0 W) F [1,-1] rfl) h0,(ac [a] [.ne F (.k 24)] F Z2 [1,1] rfl) h0⟩
theorem GW:4<=a->a<=1000->b=1000000->c*(a+20)<=1*1020->d<=c*(a+20)->e<=a+4->f<=7->d+(0+1)+e+(0+1)+f<=b:=ac [a,b,(c*(a+20)),d,e,f] [.nl Z5 F,.nl F (.k 1000),.ne G Z2,.nl H (.m 1 (.k 1020)),.nl I H,.nl J (.a F Z5),.nl K (.k 7)] (.a (.a (.a (.a I (.a Z0 W)) J) (.a Z0 W)) K) G [1,0,1,-1,1,1,1,1] rfl
theorem GV:a<=20->p+1<=q->q<=p+1+((a+2:Nat):Int)->q<=r->p+1<=r+1:=by revert p;refine @bi _ ?_;intro p1 q1;revert q;refine @bi _ ?_;intro p2 q2;revert r;refine @bi _ ?_;intro p3 q3;exact az [a,p1,q1,p2,q2,p3,q3] [.nl F (.k 20),.zl (.a (.s Q R) Z) (.s S T),.zl (.s S T) (.a (.a (.s Q R) Z) (.c (.a F Z1))),.zl (.s S T) (.s U V)] (.a (.s Q R) Z) (.a (.s U V) Z) [1,0,1,0,1] rfl
theorem GU:4<=a->a<=1000->b=0->0+(1+7)<=a+4+8*b:=ac [a,b] [.nl Z5 F,.nl F (.k 1000),.ne G Z0] (.a Z0 (.a W (.k 7))) (.a (.a F Z5) (.m 8 G)) [1,1,0,-8] rfl
theorem GT:a<=1->¬(a=0)->b+4+8*(a-1)+(1+7)<=b+4+8*a:=fun h0 h1=>dw (fun c1=>(ac [a,b,(a-1)] [.nl F W,.nl (.a F W) Z0] (.a (.a (.a G Z5) (.m 8 H)) (.a W (.k 7))) (.a (.a G Z5) (.m 8 F)) [0,0,1] rfl) h0 c1) (fun c1=>(bA a 1 (ac [a,b,(a-1)] [.nl W F,.ne (.a H W) F,.nl F W,.nl (.a Z0 W) F] (.a (.a (.a G Z5) (.m 8 H)) (.a W (.k 7))) (.a (.a G Z5) (.m 8 F)) [1,0,8,0,0] rfl) (ac [a,b,(a-1)] [.nl F W,.ne H Z0,.nl F W,.nl (.a Z0 W) F] (.a (.a (.a G Z5) (.m 8 H)) (.a W (.k 7))) (.a (.a G Z5) (.m 8 F)) [1,0,8,0,8] rfl)) h0 c1) h1
theorem GS:a=0->0+(0+1)<=b+1+a:=ac [a,b] [.ne F Z0] (.a Z0 (.a Z0 W)) (.a (.a G W) F) [1,-1] rfl
theorem GR:a<=1->¬(a=0)->b+1+(a-1)+(0+1)<=b+1+a:=fun h0 h1=>dw (fun c1=>(ac [a,b,(a-1)] [.nl F W,.nl (.a F W) Z0] (.a (.a (.a G W) H) (.a Z0 W)) (.a (.a G W) F) [0,0,1] rfl) h0 c1) (fun c1=>(bA a 1 (ac [a,b,(a-1)] [.nl W F,.ne (.a H W) F,.nl F W,.nl (.a Z0 W) F] (.a (.a (.a G W) H) (.a Z0 W)) (.a (.a G W) F) [1,0,1,0,0] rfl) (ac [a,b,(a-1)] [.nl F W,.ne H Z0,.nl F W,.nl (.a Z0 W) F] (.a (.a (.a G W) H) (.a Z0 W)) (.a (.a G W) F) [1,0,1,0,1] rfl)) h0 c1) h1
theorem GQ:¬(a=0)->a=0->p+1<=q+1+((b+2+a:Nat):Int):=by revert p;refine @bi _ ?_;intro p1 q1;revert q;refine @bi _ ?_;intro p2 q2;exact fun h0 h1=>dw (fun c1=>(az [a,p1,q1,p2,q2,b] [.nl (.a F W) Z0,.ne F Z0] (.a (.s Q R) Z) (.a (.a (.s S T) Z) (.c (.a (.a K Z1) F))) [0,1,-1] rfl) c1 h1) (fun c1=>(az [a,p1,q1,p2,q2,b] [.nl (.a Z0 W) F,.ne F Z0] (.a (.s Q R) Z) (.a (.a (.s S T) Z) (.c (.a (.a K Z1) F))) [0,1,1] rfl) c1 h1) h0
theorem GP:4<=a->a<=1000->0<=a+12:=ac [a] [.nl Z5 F,.nl F (.k 1000)] Z0 (.a F (.k 12)) [1,1,0] rfl
theorem GO:a<=2->b+4+8*(a-1)<=b+12:=bA a 1 (ac [a,b,(a-1)] [.nl W F,.ne (.a H W) F,.nl F Z1] (.a (.a G Z5) (.m 8 H)) (.a G (.k 12)) [1,0,8,8] rfl) (ac [a,b,(a-1)] [.nl F W,.ne H Z0,.nl F Z1] (.a (.a G Z5) (.m 8 H)) (.a G (.k 12)) [1,0,8,0] rfl)
theorem GN:0<=a+2:=ac [a] [] Z0 (.a F Z1) [1] rfl
theorem GM:a<=2->b+1+(a-1)<=b+2:=bA a 1 (ac [a,b,(a-1)] [.nl W F,.ne (.a H W) F,.nl F Z1] (.a (.a G W) H) (.a G Z1) [1,0,1,1] rfl) (ac [a,b,(a-1)] [.nl F W,.ne H Z0,.nl F Z1] (.a (.a G W) H) (.a G Z1) [1,0,1,0] rfl)
theorem GL:p+1<=q->p<=q:=by revert p;refine @bi _ ?_;intro p0 q0;revert q;refine @bi _ ?_;intro p1 q1;exact az [p0,q0,p1,q1] [.zl (.a (.s P Q) Z) (.s R S)] (.s P Q) (.s R S) [1,1] rfl
theorem GK:a<=20->p+1<=q->q<=p+1+((0:Nat):Int)->q<=p+((a+4:Nat):Int):=by revert p;refine @bi _ ?_;intro p1 q1;revert q;refine @bi _ ?_;intro p2 q2;exact az [a,p1,q1,p2,q2] [.nl F (.k 20),.zl (.a (.s Q R) Z) (.s S T),.zl (.s S T) (.a (.a (.s Q R) Z) (.c Z0))] (.s S T) (.a (.s Q R) (.c (.a F Z5))) [1,0,0,1] rfl
theorem GJ:a<=2->p<=q+1+((b+2+(a-1):Nat):Int)->p<=q+((b+4:Nat):Int):=by revert p;refine @bi _ ?_;intro p1 q1;revert q;refine @bi _ ?_;intro p2 q2;exact bA a 1 (az [a,p1,q1,p2,q2,b,(a-1)] [.nl W F,.ne (.a L W) F,.nl F Z1,.zl (.s Q R) (.a (.a (.s S T) Z) (.c (.a (.a K Z1) L)))] (.s Q R) (.a (.s S T) (.c (.a K Z5))) [1,0,1,1,1] rfl) (az [a,p1,q1,p2,q2,b,(a-1)] [.nl F W,.ne L Z0,.nl F Z1,.zl (.s Q R) (.a (.a (.s S T) Z) (.c (.a (.a K Z1) L)))] (.s Q R) (.a (.s S T) (.c (.a K Z5))) [1,0,1,0,1] rfl)
theorem GI:4<=a->a<=1000->b=1000000->c*(a+20)<=1*1020->d<=c*(a+20)->e<=a+12->f<=7->d+(0+1)+e+f<=b:=ac [a,b,(c*(a+20)),d,e,f] [.nl Z5 F,.nl F (.k 1000),.ne G Z2,.nl H (.m 1 (.k 1020)),.nl I H,.nl J (.a F (.k 12)),.nl K (.k 7)] (.a (.a (.a I (.a Z0 W)) J) K) G [1,0,1,-1,1,1,1,1] rfl
theorem GG:a<=20->p<=q->q<=r->r<=q+((a+4:Nat):Int)->p<=r+1:=by revert p;refine @bi _ ?_;intro p1 q1;revert q;refine @bi _ ?_;intro p2 q2;revert r;refine @bi _ ?_;intro p3 q3;exact az [a,p1,q1,p2,q2,p3,q3] [.nl F (.k 20),.zl (.s Q R) (.s S T),.zl (.s S T) (.s U V),.zl (.s U V) (.a (.s S T) (.c (.a F Z5)))] (.s Q R) (.a (.s U V) Z) [1,0,1,1,0] rfl
theorem GF:a*(b+20)+1+(b+12)+7<=a*(b+20)+(b+20):=ac [(a*(b+20)),b] [] (.a (.a (.a F W) (.a G (.k 12))) (.k 7)) (.a F (.a G (.k 20))) [1] rfl
theorem GE:a*(b+2)+0+(b+2)+0<=a*(b+2)+(b+2):=ac [(a*(b+2)),b] [] (.a (.a (.a F Z0) (.a G Z1)) Z0) (.a F (.a G Z1)) [1] rfl
theorem GD:p<=q+1+((a*(b+5):Nat):Int)->r<=p+((b+4:Nat):Int)->r+1<=q+1+((a*(b+5)+(b+5):Nat):Int):=by revert p;refine @bi _ ?_;intro p0 q0;revert q;refine @bi _ ?_;intro p1 q1;revert r;refine @bi _ ?_;intro p4 q4;exact az [p0,q0,p1,q1,(a*(b+5)),p4,q4,b] [.zl (.s P Q) (.a (.a (.s R S) Z) T),.zl (.s U V) (.a (.s P Q) (.c (.a M Z5)))] (.a (.s U V) Z) (.a (.a (.s R S) Z) (.c (.a J (.a M (.k 5))))) [1,1,1] rfl
theorem GC:p<=q+1+((a*(b+5):Nat):Int)->a*(b+5)<=c*(b+5)->p<=q+((1+c*(b+5):Nat):Int):=by revert p;refine @bi _ ?_;intro p0 q0;revert q;refine @bi _ ?_;intro p1 q1;exact az [p0,q0,p1,q1,(a*(b+5)),(c*(b+5))] [.zl (.s P Q) (.a (.a (.s R S) Z) T),.nl J K] (.s P Q) (.a (.s R S) (.c (.a W K))) [1,1,1] rfl
theorem GB:(0:Nat)<=(2:Nat):=ac [] [] Z0 Z1 [1] rfl
theorem Gz:(4:Nat)<=(4:Nat):=ac [] [] Z5 Z5 [1] rfl
theorem Gy:(4:Nat)<=(1000:Nat):=ac [] [] Z5 (.k 1000) [1] rfl
theorem Gx:(0:Nat)<=(20:Nat):=ac [] [] Z0 (.k 20) [1] rfl
theorem Gw:0=a+1->False:=ai [a] [.ne Z0 (.a F W)] [-1] rfl
theorem Gv:(4:Nat)<=(24:Nat):=ac [] [] Z5 (.k 24) [1] rfl
theorem Gu:(24:Nat)<=(1000:Nat):=ac [] [] (.k 24) (.k 1000) [1] rfl
theorem Gr:(6:Nat)<=(20:Nat):=ac [] [] (.k 6) (.k 20) [1] rfl
theorem Gq:(4:Nat)<=(44:Nat):=ac [] [] Z5 (.k 44) [1] rfl
theorem Gp:(44:Nat)<=(1000:Nat):=ac [] [] (.k 44) (.k 1000) [1] rfl
theorem Go:(12:Nat)<=(20:Nat):=ac [] [] (.k 12) (.k 20) [1] rfl
theorem Gn:a<b->a<=b:=ac [a,b] [.nl (.a F W) G] F G [1,1] rfl
theorem Gm:a<=b->b=a+(b-a):=bA b a (bh [a,b,(b-a)] [.nl F G,.ne (.a H F) G,.nl F G] G (.a F H) [1,0,-1,0] [1,0,1,0] rfl) (bh [a,b,(b-a)] [.nl G F,.ne H Z0,.nl F G] G (.a F H) [1,1,-1,0] [1,0,1,1] rfl)
theorem Gk:a<=b->c=d+b->d+a<=c:=ac [a,b,c,d] [.nl F G,.ne H (.a I G)] (.a I F) H [1,1,-1] rfl
theorem Gj:a<=b->c+d<=a->e<=1->f=c+e+d->c+e+d<=b+1:=ac [a,b,c,d,e,f] [.nl F G,.nl (.a H I) F,.nl J W,.ne K (.a (.a H J) I)] (.a (.a H J) I) (.a G W) [1,1,1,1,0] rfl
theorem Gi:60<=a->b=a+1->2+3<=b:=ac [a,b] [.nl (.k 60) F,.ne G (.a F W)] (.a Z1 Z4) G [1,1,-1] rfl
theorem Gh:a=1000000->b<=128->b<=a:=ac [a,b] [.ne F Z2,.nl G (.k 128)] G F [1,-1,1] rfl
theorem Gg:0<=p->p<=0+((35:Nat):Int)->0<=p/\p<=1000000:=by revert p;refine @bi _ ?_;intro p0 q0;exact fun h0 h1=>⟨(az [p0,q0] [.zl W0 (.s P Q),.zl (.s P Q) (.a W0 (.c (.k 35)))] W0 (.s P Q) [1,1,0] rfl) h0 h1,(az [p0,q0] [.zl W0 (.s P Q),.zl (.s P Q) (.a W0 (.c (.k 35)))] (.s P Q) W9 [1,0,1] rfl) h0 h1⟩
theorem Gf:a<=128->0<((a+1:Nat):Int)/\((a+1:Nat):Int)<=1000000:=fun h0=>⟨(az [a] [.nl F (.k 128)] (.a W0 Z) (.c (.a F W)) [1,0] rfl) h0,(az [a] [.nl F (.k 128)] (.c (.a F W)) W9 [1,1] rfl) h0⟩
theorem Ge:0<=p->p<=0+((35:Nat):Int)->0<=p+1/\p+1<=1000000:=by revert p;refine @bi _ ?_;intro p0 q0;exact fun h0 h1=>⟨(az [p0,q0] [.zl W0 (.s P Q),.zl (.s P Q) (.a W0 (.c (.k 35)))] W0 (.a (.s P Q) Z) [1,1,0] rfl) h0 h1,(az [p0,q0] [.zl W0 (.s P Q),.zl (.s P Q) (.a W0 (.c (.k 35)))] (.a (.s P Q) Z) W9 [1,0,1] rfl) h0 h1⟩
theorem Gd:0<=p->p<=0+((35:Nat):Int)->0<=p+1+1/\p+1+1<=1000000:=by revert p;refine @bi _ ?_;intro p0 q0;exact fun h0 h1=>⟨(az [p0,q0] [.zl W0 (.s P Q),.zl (.s P Q) (.a W0 (.c (.k 35)))] W0 (.a (.a (.s P Q) Z) Z) [1,1,0] rfl) h0 h1,(az [p0,q0] [.zl W0 (.s P Q),.zl (.s P Q) (.a W0 (.c (.k 35)))] (.a (.a (.s P Q) Z) Z) W9 [1,0,1] rfl) h0 h1⟩
theorem Gc:60<=a->b=a+1->2<=b:=ac [a,b] [.nl (.k 60) F,.ne G (.a F W)] Z1 G [1,1,-1] rfl
theorem Gb:p=(a:Int)->a<2^8->0<=p/\p<256:=by revert p;refine @bi _ ?_;intro p0 q0;exact fun h0 h1=>⟨(az [p0,q0,a] [.ze (.s P Q) R,.nl (.a H W) Za] W0 (.s P Q) [1,-1,0] rfl) h0 h1,(az [p0,q0,a] [.ze (.s P Q) R,.nl (.a H W) Za] (.a (.s P Q) Z) (.k 256) [1,1,1] rfl) h0 h1⟩
theorem Ga:a=1000000->b<=128->c<=b->d<=b->c+d<=a:=ac [a,b,c,d] [.ne F Z2,.nl G (.k 128),.nl H G,.nl I G] (.a H I) F [1,-1,2,1,1] rfl
theorem F_:a=1000000->b<=128->c<=b->c+(0+1)<=a:=ac [a,b,c] [.ne F Z2,.nl G (.k 128),.nl H G] (.a H (.a Z0 W)) F [1,-1,1,1] rfl
theorem FZ:a=1000000->b<=128->c<=b->d<=b->c+(0+1)+d<=a:=ac [a,b,c,d] [.ne F Z2,.nl G (.k 128),.nl H G,.nl I G] (.a (.a H (.a Z0 W)) I) F [1,-1,2,1,1] rfl
theorem FY:a<=128->0<=(b:Int)->(b:Int)<((a+1:Nat):Int)->0<=(c:Int)->(c:Int)<3->¬((c:Int)=0)->(b:Int)+(c:Int)-1=((b+c-1:Nat):Int):=fun h0 h1 h2 h3 h4 h5=>cJ (fun c1=>(dY [a,b,c,((b+c)-1)] [.nl F (.k 128),.zl W0 Q,.zl (.a Q Z) (.c (.a F W)),.zl W0 R,.zl (.a R Z) W3,.zl (.a R Z) W0] (.s (.a Q R) Z) S [0,0,0,0,1,0,1] [0,0,0,0,1,0,1] rfl) h0 h1 h2 h3 h4 c1) (fun c1=>(bA (b+c) 1 (dY [a,b,c,((b+c)-1)] [.nl W (.a G H),.ne (.a I W) (.a G H),.nl F (.k 128),.zl W0 Q,.zl (.a Q Z) (.c (.a F W)),.zl W0 R,.zl (.a R Z) W3,.zl (.a W0 Z) R] (.s (.a Q R) Z) S [1,0,-1,0,0,0,0,0,0] [1,0,1,0,0,0,0,0,0] rfl) (dY [a,b,c,((b+c)-1)] [.nl (.a G H) W,.ne I Z0,.nl F (.k 128),.zl W0 Q,.zl (.a Q Z) (.c (.a F W)),.zl W0 R,.zl (.a R Z) W3,.zl (.a W0 Z) R] (.s (.a Q R) Z) S [1,1,-1,0,0,0,0,0,0] [1,0,1,0,1,0,0,0,1] rfl)) h0 h1 h2 h3 h4 c1) h5
theorem FX:a<=128->0<=(b:Int)->(b:Int)<((a+1:Nat):Int)->0<=(c:Int)->(c:Int)<3->¬((c:Int)=0)->b<=b+c-1:=fun h0 h1 h2 h3 h4 h5=>cJ (fun c1=>(ac [a,b,c,((b+c)-1)] [.nl F (.k 128),.zl W0 Q,.zl (.a Q Z) (.c (.a F W)),.zl W0 R,.zl (.a R Z) W3,.zl (.a R Z) W0] G I [0,0,0,0,1,0,1] rfl) h0 h1 h2 h3 h4 c1) (fun c1=>(bA (b+c) 1 (ac [a,b,c,((b+c)-1)] [.nl W (.a G H),.ne (.a I W) (.a G H),.nl F (.k 128),.zl W0 Q,.zl (.a Q Z) (.c (.a F W)),.zl W0 R,.zl (.a R Z) W3,.zl (.a W0 Z) R] G I [1,0,-1,0,0,0,0,0,1] rfl) (ac [a,b,c,((b+c)-1)] [.nl (.a G H) W,.ne I Z0,.nl F (.k 128),.zl W0 Q,.zl (.a Q Z) (.c (.a F W)),.zl W0 R,.zl (.a R Z) W3,.zl (.a W0 Z) R] G I [1,1,-1,0,0,0,0,0,1] rfl)) h0 h1 h2 h3 h4 c1) h5
theorem FW:a<=128->a<=130:=ac [a] [.nl F (.k 128)] F (.k 130) [1,1] rfl
theorem FV:a<=12->a<=13:=ac [a] [.nl F (.k 12)] F (.k 13) [1,1] rfl
theorem FU:a<=129->a<=130:=ac [a] [.nl F (.k 129)] F (.k 130) [1,1] rfl
theorem FT:60<=a->b=a+1->c=0->c+3<=b:=ac [a,b,c] [.nl (.k 60) F,.ne G (.a F W),.ne H Z0] (.a H Z4) G [1,1,-1,1] rfl
theorem FS:60<=a->b=a+1->c=2->c+1<=8*b:=ac [a,b,c] [.nl (.k 60) F,.ne G (.a F W),.ne H Z1] (.a H W) (.m 8 G) [1,8,-8,1] rfl
theorem FR:a<=b->(min a b)=a:=jo a b (bh [a,b,(min a b)] [.nl F G,.ne H F,.nl F G] H F [1,0,1,0] [1,0,-1,0] rfl) (bh [a,b,(min a b)] [.nl G F,.ne H G,.nl F G] H F [1,1,1,0] [1,0,-1,1] rfl)
theorem FQ:0<a/\a<=1000000->p<(a:Int)->(Int.toNat p)<a:=by revert p;refine @bi _ ?_;intro p1 q1;exact fun h0 h1=>(jl (p1-q1:Int) (ac [a,p1,q1,(Int.toNat (p1-q1:Int))] [.zl W0 (.s Q R),.ze S (.s Q R),.nl (.a Z0 W) F,.nl F Z2,.zl (.a (.s Q R) Z) P] (.a I W) F [1,0,1,0,0,1] rfl) (ac [a,p1,q1,(Int.toNat (p1-q1:Int))] [.zl (.s Q R) W0,.ne I Z0,.nl (.a Z0 W) F,.nl F Z2,.zl (.a (.s Q R) Z) P] (.a I W) F [1,0,1,1,0,0] rfl)) h0.1 h0.2 h1
theorem FP:a=1000000->b<=8->(min c b)<=a:=fun h0 h1=>(jo c b (ac [a,b,(min c b),c] [.nl I G,.ne H I,.ne F Z2,.nl G Z7] H F [1,1,1,-1,1] rfl) (ac [a,b,(min c b),c] [.nl G I,.ne H G,.ne F Z2,.nl G Z7] H F [1,0,1,-1,1] rfl)) h0 h1
theorem FO:a=1000000->b<=3->(min c b)<=a:=fun h0 h1=>(jo c b (ac [a,b,(min c b),c] [.nl I G,.ne H I,.ne F Z2,.nl G Z4] H F [1,1,1,-1,1] rfl) (ac [a,b,(min c b),c] [.nl G I,.ne H G,.ne F Z2,.nl G Z4] H F [1,0,1,-1,1] rfl)) h0 h1
theorem FN:(a:Int)=3->(min b a)<=a:=fun h0=>(jo b a (ac [a,(min b a),b] [.nl H F,.ne G H,.ze P W3] G F [1,1,1,0] rfl) (ac [a,(min b a),b] [.nl F H,.ne G F,.ze P W3] G F [1,0,1,0] rfl)) h0
theorem FM:a<2^8->b<2^8->c<2^8->((0<=(a:Int)-48/\(a:Int)-48<8)/\(0<=(b:Int)-48/\(b:Int)-48<8)/\0<=(c:Int)-48/\(c:Int)-48<8↔(48<=a/\a<=55)/\(48<=b/\b<=55)/\48<=c/\c<=55):=fun _ _ _=>and_congr d8 (and_congr d8 d8)
theorem FJ:a<2^8->b<2^8->c<2^8->(48<=a/\a<=55)/\(48<=b/\b<=55)/\48<=c/\c<=55->(a:Int)-48<4->48<=a/\a<=51/\48<=b/\b<=55/\48<=c/\c<=55:=fun _ _ _ h k=>⟨h.1.1,Nat.le_of_lt_succ (Int.ofNat_lt.mp (Int.lt_add_of_sub_right_lt k)),h.2.1.1,h.2.1.2,h.2.2⟩
theorem FI:a<2^8->b<2^8->c<2^8->48<=a/\a<=51/\48<=b/\b<=55/\48<=c/\c<=55->(48<=a/\a<=55)/\(48<=b/\b<=55)/\48<=c/\c<=55:=fun _ _ _ h=>⟨⟨h.1,TO h.2.1 (by decide)⟩,⟨h.2.2.1,h.2.2.2.1⟩,h.2.2.2.2⟩
theorem FH:a=b->¬((a:Int)=3)->b=(min 3 c)->c<3:=fun h0 h1 h2=>cJ (fun c1=>(jo 3 c (ac [a,b,(min 3 c),c] [.nl Z4 I,.ne H Z4,.ne F G,.zl (.a P Z) W3,.ne G H] (.a I W) Z4 [0,0,-1,-1,1,-1] rfl) (ac [a,b,(min 3 c),c] [.nl I Z4,.ne H I,.ne F G,.zl (.a P Z) W3,.ne G H] (.a I W) Z4 [1,0,-1,-1,1,-1] rfl)) h0 c1 h2) (fun c1=>(jo 3 c (ac [a,b,(min 3 c),c] [.nl Z4 I,.ne H Z4,.ne F G,.zl (.a W3 Z) P,.ne G H] (.a I W) Z4 [0,0,1,1,1,1] rfl) (ac [a,b,(min 3 c),c] [.nl I Z4,.ne H I,.ne F G,.zl (.a W3 Z) P,.ne G H] (.a I W) Z4 [0,1,1,1,1,1] rfl)) h0 c1 h2) h1
theorem FG:a<2^8->b<256->48<=a/\48<=c/\48<=d/\b=(a-48)*64+(c-48)*8+(d-48)->p=64*((a:Int)-48)+8*((c:Int)-48)+((d:Int)-48)->0<=p/\p<256:=fun _ l h e=>by rw [jJ h.1,jJ h.2.1,jJ h.2.2.1,Int.mul_comm 64,Int.mul_comm 8] at e;rw [e];exact⟨Int.natCast_nonneg _,Int.ofNat_lt.mpr (h.2.2.2▸l)⟩
theorem FF:a<2^8->b<256->48<=a/\48<=c/\48<=d/\b=(a-48)*64+(c-48)*8+(d-48)->(Int.toNat (64*((a:Int)-48)+8*((c:Int)-48)+((d:Int)-48)))=b:=fun _ _ h=>by rw [h.2.2.2,jJ h.1,jJ h.2.1,jJ h.2.2.1,Int.mul_comm 64,Int.mul_comm 8];rfl
theorem zI:¬((a:Int)≠10)->a=10:=fun h0=>(bh [a] [.ze P W7] F Z8 [1,1] [1,-1] rfl) (Classical.not_not.mp h0)
theorem FE:a<2^8->¬((a:Int)=125)->¬(a=10)->(a=59\/a=10)\/a=125->a=59:=fun h0 h1 h2 h3=>Or.elim h3 (fun c1=>Or.elim c1 (fun c2=>(bh [a] [.nl (.a F W) Za,.ne F (.k 59)] F (.k 59) [1,0,1] [1,0,-1] rfl) h0 c2) (fun c2=>(h2 c2).elim)) (fun c1=>((ni h1) c1).elim)
theorem FD:(¬(a=59)/\¬(a=10))/\¬(a=125)->a≠59/\a≠10/\a≠125:=fun h0=>⟨fun c1=>h0.1.1 c1,⟨fun c2=>h0.1.2 c2,fun c3=>h0.2 c3⟩⟩
theorem FC:¬((a:Int)=92)->¬((a:Int)=123)->a=92/\A->False:=fun h0 h1 h2=>(ni h0) h2.1
theorem FA:¬((a:Int)=32)->¬((a:Int)=92)->¬((a:Int)=123)->¬(a=92/\A)->¬(a=32):=fun h0 h1 h2 h3 h4=>(ni h0) h4
theorem Fz:a≠59/\a≠10/\a≠125->¬((a:Int)=32)->¬((a:Int)=92)->¬((a:Int)=123)->¬(a=92/\A)->((¬(a=32)/\¬(a=10))/\¬(a=59))/\¬(a=125):=fun h0 h1 h2 h3 h4=>⟨⟨⟨fun c1=>(ni h1) c1,fun c2=>h0.2.1 c2⟩,fun c3=>h0.1 c3⟩,fun c4=>h0.2.2 c4⟩
theorem Fy:0+((a+1:Nat):Int)*1=0+(a:Int)*1+1:=by rw [Int.mul_one,Int.mul_one,Int.zero_add,Int.zero_add];rfl
theorem Fv:0<a->(Int.toNat ((-1)+(a:Int)))=a-1:=fun _=>(congrArg Int.toNat (Int.add_comm ..)).trans (Int.toNat_sub _ 1)
theorem Fu:a<=1000000->(Int.toNat p)<a->p<2^63:=by revert p;refine @bi _ ?_;intro p1 q1;exact jl (p1-q1:Int) (az [a,(Int.toNat (p1-q1:Int)),p1,q1] [.zl W0 (.s R S),.ze Q (.s R S),.nl F Z2,.nl (.a G W) F] (.a (.s R S) Z) (.k (((2:Int) ^ 63))) [1,0,-1,1,1] rfl) (az [a,(Int.toNat (p1-q1:Int)),p1,q1] [.zl (.s R S) W0,.ne G Z0,.nl F Z2,.nl (.a G W) F] (.a (.s R S) Z) (.k (((2:Int) ^ 63))) [1,1,0,0,0] rfl)
theorem Ft:a=b+1->(Int.toNat ((-1)+((b+1:Nat):Int)))=b:=jl ((-(1:Int))+(((b+1):Nat):Int)) (bh [a,b,(Int.toNat ((-(1:Int))+(((b+1):Nat):Int)))] [.zl W0 (.a (.k ((-(1:Int)))) (.c (.a G W))),.ze R (.a (.k ((-(1:Int)))) (.c (.a G W))),.ne F (.a G W)] H G [1,0,1,0] [1,0,-1,0] rfl) (bh [a,b,(Int.toNat ((-(1:Int))+(((b+1):Nat):Int)))] [.zl (.a (.k ((-(1:Int)))) (.c (.a G W))) W0,.ne H Z0,.ne F (.a G W)] H G [1,0,1,0] [1,1,-1,0] rfl)
theorem Fs:a<=1000000->(Int.toNat p)<a->b=a->p<2^63:=by revert p;refine @bi _ ?_;intro p1 q1;exact jl (p1-q1:Int) (az [a,(Int.toNat (p1-q1:Int)),p1,q1,b] [.zl W0 (.s R S),.ze Q (.s R S),.nl F Z2,.nl (.a G W) F,.ne J F] (.a (.s R S) Z) (.k (((2:Int) ^ 63))) [1,0,-1,1,1,0] rfl) (az [a,(Int.toNat (p1-q1:Int)),p1,q1,b] [.zl (.s R S) W0,.ne G Z0,.nl F Z2,.nl (.a G W) F,.ne J F] (.a (.s R S) Z) (.k (((2:Int) ^ 63))) [1,1,0,0,0,0] rfl)
theorem Fr:0<=p->(Int.toNat p)<a->b=a->p<(b:Int):=by revert p;refine @bi _ ?_;intro p0 q0;exact jl (p0-q0:Int) (az [p0,q0,(Int.toNat (p0-q0:Int)),a,b] [.zl W0 (.s P Q),.ze R (.s P Q),.zl W0 (.s P Q),.nl (.a H W) I,.ne J I] (.a (.s P Q) Z) T [1,0,-1,0,1,-1] rfl) (az [p0,q0,(Int.toNat (p0-q0:Int)),a,b] [.zl (.s P Q) W0,.ne H Z0,.zl W0 (.s P Q),.nl (.a H W) I,.ne J I] (.a (.s P Q) Z) T [1,1,-1,0,1,-1] rfl)
theorem Fq:(min (a-b) (c-b))<=c:=TO (Nat.min_le_right ..) (Nat.sub_le ..)
theorem Fp:a=123->¬(a=92/\A):=fun h0 h1=>absurd (h1.1.symm.trans h0) (by decide)
theorem Fo:a=10->¬(a=92/\A):=fun h0 h1=>absurd (h1.1.symm.trans h0) (by decide)
theorem Fn:a=59->¬(a=92/\A):=fun h0 h1=>absurd (h1.1.symm.trans h0) (by decide)
theorem Fm:a=32->¬(a=92/\A):=fun h0 h1=>absurd (h1.1.symm.trans h0) (by decide)
theorem Fl:(max a (max b c))=(max (max a b) c):=(Nat.max_assoc ..).symm
theorem Fk:(max a (max b 0))=(max a b):=by rw [Nat.max_zero]
theorem Fj:(max a (max b 0))<=(max (max a 0) b):=by rw [Nat.max_zero,Nat.max_zero];exact Tj _
theorem Fi:(max a (max b (max c 0)))<=(max (max a b) c):=by rw [Nat.max_zero,Nat.max_assoc];exact Tj _
theorem Fh:(max a (b+1))<=a+(b+1):=NZ a (b+1) (ac [(max a (b+1)),a,b] [.nl G (.a H W),.ne F (.a H W)] F (.a G (.a H W)) [1,0,1] rfl) (ac [(max a (b+1)),a,b] [.nl (.a H W) G,.ne F G] F (.a G (.a H W)) [1,0,1] rfl)
theorem Fg:(Int.toNat (((a+b:Nat):Int)-(b:Int)))=a:=jl ((((a+b):Nat):Int)-(b:Int)) (bh [(Int.toNat ((((a+b):Nat):Int)-(b:Int))),a,b] [.zl W0 (.s (.c (.a G H)) R),.ze P (.s (.c (.a G H)) R)] F G [1,0,1] [1,0,-1] rfl) (bh [(Int.toNat ((((a+b):Nat):Int)-(b:Int))),a,b] [.zl (.s (.c (.a G H)) R) W0,.ne F Z0] F G [1,0,1] [1,1,-1] rfl)
theorem Ff:0<=p->p<=(a:Int)->(Int.toNat (max 0 (min p (a:Int))))=(Int.toNat p):=fun h0 h1=>by rw [Int.min_eq_left h1,Int.max_eq_right h0]
theorem zF:a<=b->(Int.toNat ((b:Int)-(a:Int)))=b-a:=fun _=>Int.toNat_sub ..
theorem Fe:a<=b->c<=a->(Int.toNat ((b:Int)-(c:Int)))-(Int.toNat ((b:Int)-(a:Int)))=a-c:=fun h k=>by rw [Int.toNat_sub,Int.toNat_sub,←Nat.sub_add_sub_cancel h k,Nat.add_sub_cancel_left]
theorem Fc:a<=b->(Int.toNat ((b:Int)-(a:Int)+(c:Int)))-(b-a)=c:=fun h=>by rw [←Int.ofNat_sub h];exact Nat.add_sub_cancel_left ..
theorem Fb:a<=b->¬(c<=a)->(Int.toNat (max 0 (min ((b:Int)-(a:Int)+(c:Int)) (b:Int))))=b:=fun _ h=>by rw [Int.min_eq_right (Int.le_trans (Int.le_of_eq (Int.sub_add_cancel (b:Int) a).symm) (Int.add_le_add_left (TQ.mpr (Nat.le_of_not_le h)) _)),Int.max_eq_right (Int.natCast_nonneg _)];rfl
theorem Q7:90<(a:Int)->(a:Int)<97->¬((a:Int)=95)->((a:Int)<=57↔(65<=a/\a<=90\/97<=a/\a<=122\/a=95)\/48<=a/\a<=57):=fun h0 h1 h2=>⟨fun c1=>Tg fun c2=>(ai [a] [.zl (.a (.k 90) Z) P,.zl (.a P Z) W5,.zl P Wa] [1,0,1] rfl) h0 h1 c1,fun c1=>Or.elim c1 (fun c3=>Or.elim c3 (fun c4=>(az [a] [.zl (.a (.k 90) Z) P,.zl (.a P Z) W5,.nl (.k 65) F,.nl F (.k 90)] P Wa [0,1,0,0,1] rfl) h0 h1 c4.1 c4.2) (fun c4=>Or.elim c4 (fun c5=>(az [a] [.zl (.a (.k 90) Z) P,.zl (.a P Z) W5,.nl (.k 97) F,.nl F (.k 122)] P Wa [0,0,1,1,0] rfl) h0 h1 c5.1 c5.2) (fun c5=>((ni h2) c5).elim))) (fun c3=>(az [a] [.zl (.a (.k 90) Z) P,.zl (.a P Z) W5,.nl Z3 F,.nl F (.k 57)] P Wa [1,0,0,0,1] rfl) h0 h1 c3.1 c3.2)⟩
theorem uR:¬((0:Int)<=(0:Int))->False:=ai [] [.zn W0 W0] [1] rfl
theorem zD:¬((a:Int)<3)->¬(0<(a:Int))->False:=ai [a] [.zn (.a P Z) W3,.zn (.a W0 Z) P] [1,1] rfl
theorem zC:¬((0:Int)<=(1:Int))->False:=ai [] [.zn W0 Z] [1] rfl
theorem zB:¬((a:Int)<3)->¬(1<(a:Int))->False:=ai [a] [.zn (.a P Z) W3,.zn (.a Z Z) P] [1,1] rfl
theorem zA:¬((0:Int)<=(2:Int))->False:=ai [] [.zn W0 (.k 2)] [1] rfl
theorem zy:¬((a:Int)<3)->¬(2<(a:Int))->False:=ai [a] [.zn (.a P Z) W3,.zn (.a (.k 2) Z) P] [1,1] rfl
theorem Fa:48<=(a:Int)->(a:Int)<=51->48<=(b:Int)->(b:Int)<=55->48<=(c:Int)->(c:Int)<=55->48<=a/\a<=51/\48<=b/\b<=55/\48<=c/\c<=55:=fun a b c d e f=>⟨TQ.mp a,TQ.mp b,TQ.mp c,TQ.mp d,TQ.mp e,TQ.mp f⟩
theorem E_:48<=(a:Int)->(a:Int)<=51->48<=(b:Int)->(b:Int)<=55->48<=(c:Int)->(c:Int)<=55->((a:Int)-48)*64+((b:Int)-48)*8+(c:Int)-48=(((a-48)*64+(b-48)*8+(c-48):Nat):Int):=fun a _ b _ c _=>by rw [Int.add_sub_assoc,jJ (TQ.mp a),jJ (TQ.mp b),jJ (TQ.mp c)];rfl
theorem zx:0<=p->p<0->False:=by revert p;refine @bi _ ?_;intro p0 q0;exact ai [p0,q0] [.zl W0 (.s P Q),.zl (.a (.s P Q) Z) W0] [1,1] rfl
theorem og:a=2->¬(2<=a)->False:=fun h0 h1=>(ai [a] [.ne F Z1,.nn Z1 F] [-1,1] rfl) h0 h1
theorem E9:48<=a/\a<=51/\48<=b/\b<=55/\48<=c/\c<=55->(a-48)*64+(b-48)*8+(c-48)<256:=fun h0=>(bA a 48 (bA b 48 (bA c 48 (ac [a,b,c,(a-48),(b-48),(c-48)] [.nl Z3 H,.ne (.a K Z3) H,.nl Z3 G,.ne (.a J Z3) G,.nl Z3 F,.ne (.a I Z3) F,.nl Z3 F,.nl F (.k 51),.nl Z3 G,.nl G Z6,.nl Z3 H,.nl H Z6] (.a (.a (.a (.r I 64) (.r J 8)) K) W) (.k 256) [1,0,1,0,8,0,64,0,64,0,8,0,1] rfl) (ac [a,b,c,(a-48),(b-48),(c-48)] [.nl H Z3,.ne K Z0,.nl Z3 G,.ne (.a J Z3) G,.nl Z3 F,.ne (.a I Z3) F,.nl Z3 F,.nl F (.k 51),.nl Z3 G,.nl G Z6,.nl Z3 H,.nl H Z6] (.a (.a (.a (.r I 64) (.r J 8)) K) W) (.k 256) [1,0,1,0,8,0,64,0,64,0,8,0,0] rfl)) (bA c 48 (ac [a,b,c,(a-48),(b-48),(c-48)] [.nl Z3 H,.ne (.a K Z3) H,.nl G Z3,.ne J Z0,.nl Z3 F,.ne (.a I Z3) F,.nl Z3 F,.nl F (.k 51),.nl Z3 G,.nl G Z6,.nl Z3 H,.nl H Z6] (.a (.a (.a (.r I 64) (.r J 8)) K) W) (.k 256) [1,0,1,0,8,0,64,0,64,0,0,0,1] rfl) (ac [a,b,c,(a-48),(b-48),(c-48)] [.nl H Z3,.ne K Z0,.nl G Z3,.ne J Z0,.nl Z3 F,.ne (.a I Z3) F,.nl Z3 F,.nl F (.k 51),.nl Z3 G,.nl G Z6,.nl Z3 H,.nl H Z6] (.a (.a (.a (.r I 64) (.r J 8)) K) W) (.k 256) [1,0,1,0,8,0,64,0,64,0,0,0,0] rfl))) (bA b 48 (bA c 48 (ac [a,b,c,(a-48),(b-48),(c-48)] [.nl Z3 H,.ne (.a K Z3) H,.nl Z3 G,.ne (.a J Z3) G,.nl F Z3,.ne I Z0,.nl Z3 F,.nl F (.k 51),.nl Z3 G,.nl G Z6,.nl Z3 H,.nl H Z6] (.a (.a (.a (.r I 64) (.r J 8)) K) W) (.k 256) [1,0,1,0,8,0,64,0,0,0,8,0,1] rfl) (ac [a,b,c,(a-48),(b-48),(c-48)] [.nl H Z3,.ne K Z0,.nl Z3 G,.ne (.a J Z3) G,.nl F Z3,.ne I Z0,.nl Z3 F,.nl F (.k 51),.nl Z3 G,.nl G Z6,.nl Z3 H,.nl H Z6] (.a (.a (.a (.r I 64) (.r J 8)) K) W) (.k 256) [1,0,1,0,8,0,64,0,0,0,8,0,0] rfl)) (bA c 48 (ac [a,b,c,(a-48),(b-48),(c-48)] [.nl Z3 H,.ne (.a K Z3) H,.nl G Z3,.ne J Z0,.nl F Z3,.ne I Z0,.nl Z3 F,.nl F (.k 51),.nl Z3 G,.nl G Z6,.nl Z3 H,.nl H Z6] (.a (.a (.a (.r I 64) (.r J 8)) K) W) (.k 256) [1,0,1,0,8,0,64,0,0,0,0,0,1] rfl) (ac [a,b,c,(a-48),(b-48),(c-48)] [.nl H Z3,.ne K Z0,.nl G Z3,.ne J Z0,.nl F Z3,.ne I Z0,.nl Z3 F,.nl F (.k 51),.nl Z3 G,.nl G Z6,.nl Z3 H,.nl H Z6] (.a (.a (.a (.r I 64) (.r J 8)) K) W) (.k 256) [1,0,1,0,8,0,64,0,0,0,0,0,0] rfl)))) h0.1 h0.2.1 h0.2.2.1 h0.2.2.2.1 h0.2.2.2.2.1 h0.2.2.2.2.2
theorem E8:a=3->¬(2<=a)->False:=fun h0 h1=>(ai [a] [.ne F Z4,.nn Z1 F] [-1,1] rfl) h0 h1
theorem zv:p<(a:Int)->(a:Int)<=p->False:=by revert p;refine @bi _ ?_;intro p0 q0;exact ai [p0,q0,a] [.zl (.a (.s P Q) Z) R,.zl R (.s P Q)] [1,1] rfl
theorem E7:a=5->¬(2<=a)->False:=fun h0 h1=>(ai [a] [.ne F (.k 5),.nn Z1 F] [-1,1] rfl) h0 h1
theorem E6:¬((a:Int)=92)->a=92/\A->False:=fun h0 h1=>(ni h0) h1.1
theorem E5:¬((a:Int)=123)->¬((a:Int)=125)->¬((a:Int)=35)->¬((a:Int)=92)->¬(a=92/\A)->a≠123:=fun h0 h1 h2 h3 h4 h5=>(ni h0) h5
theorem E4:¬((a:Int)=35)->¬((a:Int)=92)->¬(a=92/\A)->a≠35:=fun h0 h1 h2 h3=>(ni h0) h3
theorem E3:¬((a:Int)=125)->¬((a:Int)=35)->¬((a:Int)=92)->¬(a=92/\A)->a≠125:=fun h0 h1 h2 h3 h4=>(ni h0) h4
theorem E2:a≠123/\a≠35/\a≠125->((a=32\/a=10)\/a=59)\/a=125->a=32\/a=10\/a=59:=fun h0 h1=>Or.elim h1 (fun c9=>Or.elim c9 (fun c18=>Or.elim c18 (fun c27=>Tg fun c28=>(fun a=>c28 (.inl a)) c27) (fun c27=>Tg fun c29=>(fun a=>(fun a=>c29 (.inr a)) (.inl a)) c27)) (fun c18=>Tg fun c30=>(fun a=>(fun a=>c30 (.inr a)) (.inr a)) c18)) (fun c9=>(h0.2.2 c9).elim)
theorem zu:a=7->¬(2<=a)->False:=fun h0 h1=>(ai [a] [.ne F (.k 7),.nn Z1 F] [-1,1] rfl) h0 h1
theorem E1:a=32\/a=10\/a=59->b<=c->c-b+1=c-d->¬(a=92/\A):=fun h0 h1 h2 h3=>Or.elim h0 (fun c1=>absurd (h3.1.symm.trans c1) (by decide)) (fun c1=>Or.elim c1 (fun c2=>absurd (h3.1.symm.trans c2) (by decide)) (fun c2=>absurd (h3.1.symm.trans c2) (by decide)))
theorem E0:a=32\/a=10\/a=59->b<=c->c-b+1=c-d->¬(a=32)->a=10\/a=59:=fun h0 h1 h2 h3=>Or.elim h0 (fun c10=>(h3 c10).elim) (fun c10=>Or.elim c10 (fun c20=>Tg fun c21=>(fun a=>c21 (.inl a)) c20) (fun c20=>Tg fun c22=>(fun a=>c22 (.inr a)) c20))
theorem EZ:((¬(a=32)/\¬(a=10))/\¬(a=59))/\¬(a=125)->¬(a=125)/\¬(a=10)/\¬(a=59)/\¬(a=32):=fun h0=>⟨fun c1=>h0.2 c1,⟨fun c2=>h0.1.1.2 c2,⟨fun c3=>h0.1.2 c3,fun c4=>h0.1.1.1 c4⟩⟩⟩
theorem EY:a<=b->b-a+1=b-c->¬(d=125)/\¬(d=10)/\¬(d=59)/\¬(d=32)->e+3*f<=3*a->f<=c->b-c<=b-f:=fun _ _ _ _ h=>Nat.sub_le_sub_left h _
theorem EX:a<b->(min a b)=a:=jo a b (bh [a,b,(min a b)] [.nl F G,.ne H F,.nl (.a F W) G] H F [1,0,1,0] [1,0,-1,0] rfl) (bh [a,b,(min a b)] [.nl G F,.ne H G,.nl (.a F W) G] H F [0,1,0,1] [0,1,0,1] rfl)
theorem EW:a<2^8->(34=(a:Int)\/36=(a:Int)\/92=(a:Int)↔a=34\/a=36\/a=92):=fun h0=>⟨fun c1=>Or.elim c1 (fun c10=>Tg fun c11=>(fun a=>c11 (.inl a)) (iq c10.symm)) (fun c10=>Or.elim c10 (fun c20=>Tg fun c21=>(fun a=>(fun a=>c21 (.inr a)) (.inl a)) (iq c20.symm)) (fun c20=>Tg fun c22=>(fun a=>(fun a=>c22 (.inr a)) (.inr a)) (iq c20.symm))),fun c1=>Or.elim c1 (fun c31=>Tg fun c32=>cJ (fun c36=>(ai [a] [.nl (.a F W) Za,.ne F (.k 34),.zl (.a (.k 34) Z) P] [0,1,1] rfl) h0 c31 c36) (fun c36=>(ai [a] [.nl (.a F W) Za,.ne F (.k 34),.zl (.a P Z) (.k 34)] [0,-1,1] rfl) h0 c31 c36) (fun a=>c32 (.inl a))) (fun c31=>Or.elim c31 (fun c45=>Tg fun c46=>cJ (fun c48=>(ai [a] [.nl (.a F W) Za,.ne F (.k 36),.zl (.a (.k 36) Z) P] [0,1,1] rfl) h0 c45 c48) (fun c48=>(ai [a] [.nl (.a F W) Za,.ne F (.k 36),.zl (.a P Z) (.k 36)] [0,-1,1] rfl) h0 c45 c48) (fun a=>(fun a=>c46 (.inr a)) (.inl a))) (fun c45=>Tg fun c49=>cJ (fun c50=>(ai [a] [.nl (.a F W) Za,.ne F (.k 92),.zl (.a W2 Z) P] [0,1,1] rfl) h0 c45 c50) (fun c50=>(ai [a] [.nl (.a F W) Za,.ne F (.k 92),.zl (.a P Z) W2] [0,-1,1] rfl) h0 c45 c50) (fun a=>(fun a=>c49 (.inr a)) (.inr a))))⟩
theorem EV:a<2^8->(a:Int)<32->p=((a/8%8:Nat):Int)->q=((a%8:Nat):Int)->r=92\/r=48+((a/64:Nat):Int)\/r=48+((a/8%8:Nat):Int)\/r=48+((a%8:Nat):Int)->0<=r/\r<256:=fun h _ _ _ k=>k.elim (fun e=>e▸by decide) fun k=>k.elim (fun e=>e▸vp (Nat.div_lt_of_lt_mul (Nat.lt_of_lt_of_le h (by decide)))) fun k=>k.elim (fun e=>e▸vp (Nat.lt_of_lt_of_le (Nat.mod_lt _ (by decide)) (by decide))) fun e=>e▸vp (Nat.lt_of_lt_of_le (Nat.mod_lt _ (by decide)) (by decide))
theorem EU:a<2^8->(a:Int)<32->p=((a/8%8:Nat):Int)->q=((a%8:Nat):Int)->¬(a=34\/a=36\/a=92):=by revert p;refine @bi _ ?_;intro p1 q1;revert q;refine @bi _ ?_;intro p2 q2;exact fun h0 h1 h2 h3 h4=>Or.elim h4 (fun c1=>(ai [a,p1,q1,((a/8)%8),(a/8),((a/8)/8),p2,q2,(a%8)] [.nl (.a F W) Za,.zl (.a P Z) (.k 32),.ze (.s Q R) S,.ze (.s V X) Y,.ne F (.k 34)] [0,1,0,0,-1] rfl) h0 h1 h2 h3 c1) (fun c1=>Or.elim c1 (fun c2=>(ai [a,p1,q1,((a/8)%8),(a/8),((a/8)/8),p2,q2,(a%8)] [.nl (.a F W) Za,.zl (.a P Z) (.k 32),.ze (.s Q R) S,.ze (.s V X) Y,.ne F (.k 36)] [0,1,0,0,-1] rfl) h0 h1 h2 h3 c2) (fun c2=>(ai [a,p1,q1,((a/8)%8),(a/8),((a/8)/8),p2,q2,(a%8)] [.nl (.a F W) Za,.zl (.a P Z) (.k 32),.ze (.s Q R) S,.ze (.s V X) Y,.ne F (.k 92)] [0,1,0,0,-1] rfl) h0 h1 h2 h3 c2))
theorem ES:a<2^8->(a:Int)<32->p=((a/8%8:Nat):Int)->q=((a%8:Nat):Int)->(Int.toNat (48+((a/64:Nat):Int)))=48+a/64:=fun _ _ _ _=>rfl
theorem ER:p=((a/8%8:Nat):Int)->(Int.toNat (48+((a/8%8:Nat):Int)))=48+a/8%8:=fun _=>rfl
theorem EQ:p=((a/8%8:Nat):Int)->q=((a%8:Nat):Int)->(Int.toNat (48+((a%8:Nat):Int)))=48+a%8:=fun _ _=>rfl
theorem EP:(a:Int)=127->p=92\/p=48+((a/64:Nat):Int)\/p=48+((a/8%8:Nat):Int)\/p=48+((a%8:Nat):Int)->0<=p/\p<256:=fun h k=>by cases Int.ofNat.inj h;rcases k with rfl|rfl|rfl|rfl<;>decide
theorem EO:(a:Int)=127->(Int.toNat (48+((a/64:Nat):Int)))=48+a/64:=fun h0=>(jl ((48:Int)+(((a/64):Nat):Int)) (bh [a,(Int.toNat ((48:Int)+(((a/64):Nat):Int))),(a/64)] [.zl W0 (.a W1 R),.ze Q (.a W1 R),.ze P (.k 127)] G (.a Z3 H) [1,0,1,0] [1,0,-1,0] rfl) (bh [a,(Int.toNat ((48:Int)+(((a/64):Nat):Int))),(a/64)] [.zl (.a W1 R) W0,.ne G Z0,.ze P (.k 127)] G (.a Z3 H) [0,1,0,0] [0,1,0,0] rfl)) h0
theorem EN:(a:Int)=127->(Int.toNat (48+((a/8%8:Nat):Int)))=48+a/8%8:=fun h0=>(jl ((48:Int)+((((a/8)%8):Nat):Int)) (bh [a,(Int.toNat ((48:Int)+((((a/8)%8):Nat):Int))),((a/8)%8),(a/8),((a/8)/8)] [.zl W0 (.a W1 R),.ze Q (.a W1 R),.ze P (.k 127)] G (.a Z3 H) [1,0,1,0] [1,0,-1,0] rfl) (bh [a,(Int.toNat ((48:Int)+((((a/8)%8):Nat):Int))),((a/8)%8),(a/8),((a/8)/8)] [.zl (.a W1 R) W0,.ne G Z0,.ze P (.k 127)] G (.a Z3 H) [0,1,0,0] [0,1,0,0] rfl)) h0
theorem EM:(a:Int)=127->(Int.toNat (48+((a%8:Nat):Int)))=48+a%8:=fun h0=>(jl ((48:Int)+(((a%8):Nat):Int)) (bh [a,(Int.toNat ((48:Int)+(((a%8):Nat):Int))),(a%8),(a/8)] [.zl W0 (.a W1 R),.ze Q (.a W1 R),.ze P (.k 127)] G (.a Z3 H) [1,0,1,0] [1,0,-1,0] rfl) (bh [a,(Int.toNat ((48:Int)+(((a%8):Nat):Int))),(a%8),(a/8)] [.zl (.a W1 R) W0,.ne G Z0,.ze P (.k 127)] G (.a Z3 H) [0,1,0,0] [0,1,0,0] rfl)) h0
theorem EL:a=1000000->4*(b+(0+1)*(c-1))+8<=a->c<=1000000:=fun h0 h1=>(bA c 1 (ac [a,b,(c-1),c] [.nl W I,.ne (.a H W) I,.ne F Z2,.nl (.a (.m 4 (.a G (.m (0+1) H))) Z7) F] I Z2 [4,0,-4,1,1] rfl) (ac [a,b,(c-1),c] [.nl I W,.ne H Z0,.ne F Z2,.nl (.a (.m 4 (.a G (.m (0+1) H))) Z7) F] I Z2 [1,1,0,0,0] rfl)) h0 h1
theorem EK:a=1000000->b=c->c<=1000000->d<=c->(min d c)<=a:=fun h0 h1 h2 h3=>(jo d c (ac [a,b,c,d,(min d c)] [.nl I H,.ne J I,.ne F Z2,.ne G H,.nl H Z2,.nl I H] J F [1,1,1,-1,0,1,0] rfl) (ac [a,b,c,d,(min d c)] [.nl H I,.ne J H,.ne F Z2,.ne G H,.nl H Z2,.nl I H] J F [1,0,1,-1,0,1,0] rfl)) h0 h1 h2 h3
theorem EJ:a+1<b->(Int.toNat (((a+1:Nat):Int)-1))=a:=jl ((((a+1):Nat):Int)-(1:Int)) (bh [a,b,(Int.toNat ((((a+1):Nat):Int)-(1:Int)))] [.zl W0 (.s (.c (.a F W)) Z),.ze R (.s (.c (.a F W)) Z),.nl (.a (.a F W) W) G] H F [1,0,1,0] [1,0,-1,0] rfl) (bh [a,b,(Int.toNat ((((a+1):Nat):Int)-(1:Int)))] [.zl (.s (.c (.a F W)) Z) W0,.ne H Z0,.nl (.a (.a F W) W) G] H F [1,0,1,0] [1,1,-1,0] rfl)
theorem EI:a<b->c<=d+(0+1)*(c-1)+1:=bA c 1 (ac [a,b,c,d,(c-1)] [.nl W H,.ne (.a J W) H,.nl (.a F W) G] H (.a (.a I (.m (0+1) J)) W) [1,0,-1,0] rfl) (ac [a,b,c,d,(c-1)] [.nl H W,.ne J Z0,.nl (.a F W) G] H (.a (.a I (.m (0+1) J)) W) [1,1,-1,0] rfl)
theorem EH:a<b->¬((c:Int)≠(d:Int))->d=c:=fun h0 h1=>(bh [a,b,c,d] [.nl (.a F W) G,.ze R S] I H [1,0,-1] [1,0,1] rfl) h0 (Classical.not_not.mp h1)
theorem EG:4*a+8<=b->b=1000000->c=1000000->d=a->e<f->g<=a->h<=g+1->i<=h->j=(min i h)->j<=c:=fun h0 h1 h2 h3 h4 h5 h6 h7 h8=>(jo i h (ac [a,b,c,d,e,f,g,h,i,j,(min i h)] [.nl N M,.ne (.v 10) N,.nl (.a (.m 4 F) Z7) G,.ne G Z2,.ne H Z2,.ne I F,.nl (.a J W) K,.nl L F,.nl M (.a L W),.nl N M,.ne O (.v 10)] O H [4,4,4,1,1,-4,0,0,4,4,0,4] rfl) (ac [a,b,c,d,e,f,g,h,i,j,(min i h)] [.nl M N,.ne (.v 10) M,.nl (.a (.m 4 F) Z7) G,.ne G Z2,.ne H Z2,.ne I F,.nl (.a J W) K,.nl L F,.nl M (.a L W),.nl N M,.ne O (.v 10)] O H [4,0,4,1,1,-4,0,0,4,4,0,4] rfl)) h0 h1 h2 h3 h4 h5 h6 h7 h8
theorem EF:a<=2->0<=p/\p+100*(a:Int)<=999800->b=a+2->p<=q->q<=p+1+((c*(d+5):Nat):Int)->c*(d+5)<=1*25->0<=q/\q<=1000000:=by revert p;refine @bi _ ?_;intro p1 q1;revert q;refine @bi _ ?_;intro p3 q3;exact fun h0 h1 h2 h3 h4 h5=>⟨(az [a,p1,q1,b,p3,q3,(c*(d+5))] [.nl F Z1,.zl W0 (.s Q R),.zl (.a (.s Q R) (.m 100 P)) (.k 999800),.ne I (.a F Z1),.zl (.s Q R) (.s T U),.zl (.s T U) (.a (.a (.s Q R) Z) V),.nl L (.m 1 (.k 25))] W0 (.s T U) [1,0,1,0,0,1,0,0] rfl) h0 h1.1 h1.2 h2 h3 h4 h5,(az [a,p1,q1,b,p3,q3,(c*(d+5))] [.nl F Z1,.zl W0 (.s Q R),.zl (.a (.s Q R) (.m 100 P)) (.k 999800),.ne I (.a F Z1),.zl (.s Q R) (.s T U),.zl (.s T U) (.a (.a (.s Q R) Z) V),.nl L (.m 1 (.k 25))] (.s T U) W9 [1,0,0,1,0,0,1,1] rfl) h0 h1.1 h1.2 h2 h3 h4 h5⟩
theorem EE:a<=2->b<=20->0<=p/\p+100*(a:Int)<=999800->c=a+2->p<=q->q<=p+1+((d*(b+5):Nat):Int)->d*(b+5)<=1*25->q+1<=r->r<=q+1+((b+2:Nat):Int)->0<(a:Int)->0<=r/\r<=1000000:=by revert p;refine @bi _ ?_;intro p2 q2;revert q;refine @bi _ ?_;intro p4 q4;revert r;refine @bi _ ?_;intro p6 q6;exact fun h0 h1 h2 h3 h4 h5 h6 h7 h8 h9=>⟨(az [a,b,p2,q2,c,p4,q4,(d*(b+5)),p6,q6] [.nl F Z1,.nl G (.k 20),.zl W0 (.s R S),.zl (.a (.s R S) (.m 100 P)) (.k 999800),.ne J (.a F Z1),.zl (.s R S) (.s U V),.zl (.s U V) (.a (.a (.s R S) Z) X),.nl M (.m 1 (.k 25)),.zl (.a (.s U V) Z) (.s Y (.c O)),.zl (.s Y (.c O)) (.a (.a (.s U V) Z) (.c (.a G Z1))),.zl (.a W0 Z) P] W0 (.s Y (.c O)) [1,0,0,1,0,0,1,0,0,1,0,0] rfl) h0 h1 h2.1 h2.2 h3 h4 h5 h6 h7 h8 h9,(az [a,b,p2,q2,c,p4,q4,(d*(b+5)),p6,q6] [.nl F Z1,.nl G (.k 20),.zl W0 (.s R S),.zl (.a (.s R S) (.m 100 P)) (.k 999800),.ne J (.a F Z1),.zl (.s R S) (.s U V),.zl (.s U V) (.a (.a (.s R S) Z) X),.nl M (.m 1 (.k 25)),.zl (.a (.s U V) Z) (.s Y (.c O)),.zl (.s Y (.c O)) (.a (.a (.s U V) Z) (.c (.a G Z1))),.zl (.a W0 Z) P] (.s Y (.c O)) W9 [1,0,1,0,1,0,0,1,1,0,1,100] rfl) h0 h1 h2.1 h2.2 h3 h4 h5 h6 h7 h8 h9⟩
theorem ED:a<=20->p<=q->q<=p+1+((b*(a+5):Nat):Int)->b*(a+5)<=1*25->q+1<=r->r<=q+1+((a+2:Nat):Int)->c+1<=2->0<=p/\p+100*((c+1:Nat):Int)<=999800->d=c+1+2->0<=r+1/\r+1<=1000000:=by revert p;refine @bi _ ?_;intro p1 q1;revert q;refine @bi _ ?_;intro p2 q2;revert r;refine @bi _ ?_;intro p4 q4;exact fun h0 h1 h2 h3 h4 h5 h6 h7 h8=>⟨(az [a,p1,q1,p2,q2,(b*(a+5)),p4,q4,c,d] [.nl F (.k 20),.zl (.s Q R) (.s S T),.zl (.s S T) (.a (.a (.s Q R) Z) U),.nl K (.m 1 (.k 25)),.zl (.a (.s S T) Z) (.s V X),.zl (.s V X) (.a (.a (.s S T) Z) (.c (.a F Z1))),.nl (.a N W) Z1,.zl W0 (.s Q R),.zl (.a (.s Q R) (.m 100 (.c (.a N W)))) (.k 999800),.ne O (.a (.a N W) Z1)] W0 (.a (.s V X) Z) [1,0,1,0,0,1,0,0,1,0,0] rfl) h0 h1 h2 h3 h4 h5 h6 h7.1 h7.2 h8,(az [a,p1,q1,p2,q2,(b*(a+5)),p4,q4,c,d] [.nl F (.k 20),.zl (.s Q R) (.s S T),.zl (.s S T) (.a (.a (.s Q R) Z) U),.nl K (.m 1 (.k 25)),.zl (.a (.s S T) Z) (.s V X),.zl (.s V X) (.a (.a (.s S T) Z) (.c (.a F Z1))),.nl (.a N W) Z1,.zl W0 (.s Q R),.zl (.a (.s Q R) (.m 100 (.c (.a N W)))) (.k 999800),.ne O (.a (.a N W) Z1)] (.a (.s V X) Z) W9 [1,1,0,1,1,0,1,0,0,1,0] rfl) h0 h1 h2 h3 h4 h5 h6 h7.1 h7.2 h8⟩
theorem EC:a<=20->p<=q->q<=p+1+((b*(a+5):Nat):Int)->b*(a+5)<=1*25->q+1<=r->r<=q+1+((a+2:Nat):Int)->0<=p/\p+100*((c+1:Nat):Int)<=999800->d=c+1+2->0<=r+1+1/\r+1+1+100*(c:Int)<=999800:=by revert p;refine @bi _ ?_;intro p1 q1;revert q;refine @bi _ ?_;intro p2 q2;revert r;refine @bi _ ?_;intro p4 q4;exact fun h0 h1 h2 h3 h4 h5 h6 h7=>⟨(az [a,p1,q1,p2,q2,(b*(a+5)),p4,q4,c,d] [.nl F (.k 20),.zl (.s Q R) (.s S T),.zl (.s S T) (.a (.a (.s Q R) Z) U),.nl K (.m 1 (.k 25)),.zl (.a (.s S T) Z) (.s V X),.zl (.s V X) (.a (.a (.s S T) Z) (.c (.a F Z1))),.zl W0 (.s Q R),.zl (.a (.s Q R) (.m 100 (.c (.a N W)))) (.k 999800),.ne O (.a (.a N W) Z1)] W0 (.a (.a (.s V X) Z) Z) [1,0,1,0,0,1,0,1,0,0] rfl) h0 h1 h2 h3 h4 h5 h6.1 h6.2 h7,(az [a,p1,q1,p2,q2,(b*(a+5)),p4,q4,c,d] [.nl F (.k 20),.zl (.s Q R) (.s S T),.zl (.s S T) (.a (.a (.s Q R) Z) U),.nl K (.m 1 (.k 25)),.zl (.a (.s S T) Z) (.s V X),.zl (.s V X) (.a (.a (.s S T) Z) (.c (.a F Z1))),.zl W0 (.s Q R),.zl (.a (.s Q R) (.m 100 (.c (.a N W)))) (.k 999800),.ne O (.a (.a N W) Z1)] (.a (.a (.a (.s V X) Z) Z) (.m 100 Y)) (.k 999800) [1,1,0,1,1,0,1,0,1,0] rfl) h0 h1 h2 h3 h4 h5 h6.1 h6.2 h7⟩
theorem EB:a<=2->b<=20->0<=p/\p+100*(a:Int)<=999800->c=a+2->p<=q->q<=p+1+((d*(b+5):Nat):Int)->d*(b+5)<=1*25->q+1<=r->r<=q+1+((b+2:Nat):Int)->r<=s->s<=r+((1:Nat):Int)->0<=s/\s<=1000000:=by revert p;refine @bi _ ?_;intro p2 q2;revert q;refine @bi _ ?_;intro p4 q4;revert r;refine @bi _ ?_;intro p6 q6;revert s;refine @bi _ ?_;intro p7 q7;exact fun h0 h1 h2 h3 h4 h5 h6 h7 h8 h9 Sj=>⟨(az [a,b,p2,q2,c,p4,q4,(d*(b+5)),p6,q6,p7,q7] [.nl F Z1,.nl G (.k 20),.zl W0 (.s R S),.zl (.a (.s R S) (.m 100 P)) (.k 999800),.ne J (.a F Z1),.zl (.s R S) (.s U V),.zl (.s U V) (.a (.a (.s R S) Z) X),.nl M (.m 1 (.k 25)),.zl (.a (.s U V) Z) (.s Y (.c O)),.zl (.s Y (.c O)) (.a (.a (.s U V) Z) (.c (.a G Z1))),.zl (.s Y (.c O)) (.s (.c (.v 10)) (.c (.v 11))),.zl (.s (.c (.v 10)) (.c (.v 11))) (.a (.s Y (.c O)) (.c W))] W0 (.s (.c (.v 10)) (.c (.v 11))) [1,0,0,1,0,0,1,0,0,1,0,1,0] rfl) h0 h1 h2.1 h2.2 h3 h4 h5 h6 h7 h8 h9 Sj,(az [a,b,p2,q2,c,p4,q4,(d*(b+5)),p6,q6,p7,q7] [.nl F Z1,.nl G (.k 20),.zl W0 (.s R S),.zl (.a (.s R S) (.m 100 P)) (.k 999800),.ne J (.a F Z1),.zl (.s R S) (.s U V),.zl (.s U V) (.a (.a (.s R S) Z) X),.nl M (.m 1 (.k 25)),.zl (.a (.s U V) Z) (.s Y (.c O)),.zl (.s Y (.c O)) (.a (.a (.s U V) Z) (.c (.a G Z1))),.zl (.s Y (.c O)) (.s (.c (.v 10)) (.c (.v 11))),.zl (.s (.c (.v 10)) (.c (.v 11))) (.a (.s Y (.c O)) (.c W))] (.s (.c (.v 10)) (.c (.v 11))) W9 [1,0,1,0,1,0,0,1,1,0,1,0,1] rfl) h0 h1 h2.1 h2.2 h3 h4 h5 h6 h7 h8 h9 Sj⟩
theorem EA:a<=2->b<=20->0<=p/\p+100*(a:Int)<=999800->c=a+2->p<=q->q<=p+1+((d*(b+5):Nat):Int)->d*(b+5)<=1*25->q+1<=r->r<=q+1+((b+2:Nat):Int)->r<=s->s<=r+((0:Nat):Int)->0<=s/\s<=1000000:=by revert p;refine @bi _ ?_;intro p2 q2;revert q;refine @bi _ ?_;intro p4 q4;revert r;refine @bi _ ?_;intro p6 q6;revert s;refine @bi _ ?_;intro p7 q7;exact fun h0 h1 h2 h3 h4 h5 h6 h7 h8 h9 Sj=>⟨(az [a,b,p2,q2,c,p4,q4,(d*(b+5)),p6,q6,p7,q7] [.nl F Z1,.nl G (.k 20),.zl W0 (.s R S),.zl (.a (.s R S) (.m 100 P)) (.k 999800),.ne J (.a F Z1),.zl (.s R S) (.s U V),.zl (.s U V) (.a (.a (.s R S) Z) X),.nl M (.m 1 (.k 25)),.zl (.a (.s U V) Z) (.s Y (.c O)),.zl (.s Y (.c O)) (.a (.a (.s U V) Z) (.c (.a G Z1))),.zl (.s Y (.c O)) (.s (.c (.v 10)) (.c (.v 11))),.zl (.s (.c (.v 10)) (.c (.v 11))) (.a (.s Y (.c O)) (.c Z0))] W0 (.s (.c (.v 10)) (.c (.v 11))) [1,0,0,1,0,0,1,0,0,1,0,1,0] rfl) h0 h1 h2.1 h2.2 h3 h4 h5 h6 h7 h8 h9 Sj,(az [a,b,p2,q2,c,p4,q4,(d*(b+5)),p6,q6,p7,q7] [.nl F Z1,.nl G (.k 20),.zl W0 (.s R S),.zl (.a (.s R S) (.m 100 P)) (.k 999800),.ne J (.a F Z1),.zl (.s R S) (.s U V),.zl (.s U V) (.a (.a (.s R S) Z) X),.nl M (.m 1 (.k 25)),.zl (.a (.s U V) Z) (.s Y (.c O)),.zl (.s Y (.c O)) (.a (.a (.s U V) Z) (.c (.a G Z1))),.zl (.s Y (.c O)) (.s (.c (.v 10)) (.c (.v 11))),.zl (.s (.c (.v 10)) (.c (.v 11))) (.a (.s Y (.c O)) (.c Z0))] (.s (.c (.v 10)) (.c (.v 11))) W9 [1,0,1,0,1,0,0,1,1,0,1,0,1] rfl) h0 h1 h2.1 h2.2 h3 h4 h5 h6 h7 h8 h9 Sj⟩
theorem Ez:a<=20->p+1<=q->q<=r->b=0->q<=p+1+((0:Nat):Int)->r<=q+((1:Nat):Int)->r+1<=p+1+((a+2+b:Nat):Int):=by revert p;refine @bi _ ?_;intro p1 q1;revert q;refine @bi _ ?_;intro p2 q2;revert r;refine @bi _ ?_;intro p3 q3;exact fun h0 h1 h2 h3 h4 h5=>(az [a,p1,q1,p2,q2,p3,q3,b] [.nl F (.k 20),.zl (.a (.s Q R) Z) (.s S T),.zl (.s S T) (.s U V),.ne M Z0,.zl (.s S T) (.a (.a (.s Q R) Z) (.c Z0)),.zl (.s U V) (.a (.s S T) (.c W))] (.a (.s U V) Z) (.a (.a (.s Q R) Z) (.c (.a (.a F Z1) M))) [1,0,0,0,-1,1,1] rfl) h0 h1 h2 h3 h4 h5
theorem Ey:a<=1->p<=q+1+((b+2:Nat):Int)->p<=r->¬(a=0)->r<=p+((0:Nat):Int)->r+1<=q+1+((b+2+a:Nat):Int):=by revert p;refine @bi _ ?_;intro p1 q1;revert q;refine @bi _ ?_;intro p2 q2;revert r;refine @bi _ ?_;intro p4 q4;exact fun h0 h1 h2 h3 h4=>dw (fun c1=>(az [a,p1,q1,p2,q2,b,p4,q4] [.nl F W,.zl (.s Q R) (.a (.a (.s S T) Z) (.c (.a K Z1))),.zl (.s Q R) (.s V X),.nl (.a F W) Z0,.zl (.s V X) (.a (.s Q R) (.c Z0))] (.a (.s V X) Z) (.a (.a (.s S T) Z) (.c (.a (.a K Z1) F))) [0,0,0,0,1,0] rfl) h0 h1 h2 c1 h4) (fun c1=>(az [a,p1,q1,p2,q2,b,p4,q4] [.nl F W,.zl (.s Q R) (.a (.a (.s S T) Z) (.c (.a K Z1))),.zl (.s Q R) (.s V X),.nl (.a Z0 W) F,.zl (.s V X) (.a (.s Q R) (.c Z0))] (.a (.s V X) Z) (.a (.a (.s S T) Z) (.c (.a (.a K Z1) F))) [1,0,1,0,1,1] rfl) h0 h1 h2 c1 h4) h3
theorem Ex:a<=2->b<=20->0<=p/\p+100*(a:Int)<=999800->c=a+2->p<=q->q<=p+1+((d*(b+5):Nat):Int)->d*(b+5)<=1*25->q<=r->r<=q+((b+4:Nat):Int)->0<=r/\r<=1000000:=by revert p;refine @bi _ ?_;intro p2 q2;revert q;refine @bi _ ?_;intro p4 q4;revert r;refine @bi _ ?_;intro p6 q6;exact fun h0 h1 h2 h3 h4 h5 h6 h7 h8=>⟨(az [a,b,p2,q2,c,p4,q4,(d*(b+5)),p6,q6] [.nl F Z1,.nl G (.k 20),.zl W0 (.s R S),.zl (.a (.s R S) (.m 100 P)) (.k 999800),.ne J (.a F Z1),.zl (.s R S) (.s U V),.zl (.s U V) (.a (.a (.s R S) Z) X),.nl M (.m 1 (.k 25)),.zl (.s U V) (.s Y (.c O)),.zl (.s Y (.c O)) (.a (.s U V) (.c (.a G Z5)))] W0 (.s Y (.c O)) [1,0,0,1,0,0,1,0,0,1,0] rfl) h0 h1 h2.1 h2.2 h3 h4 h5 h6 h7 h8,(az [a,b,p2,q2,c,p4,q4,(d*(b+5)),p6,q6] [.nl F Z1,.nl G (.k 20),.zl W0 (.s R S),.zl (.a (.s R S) (.m 100 P)) (.k 999800),.ne J (.a F Z1),.zl (.s R S) (.s U V),.zl (.s U V) (.a (.a (.s R S) Z) X),.nl M (.m 1 (.k 25)),.zl (.s U V) (.s Y (.c O)),.zl (.s Y (.c O)) (.a (.s U V) (.c (.a G Z5)))] (.s Y (.c O)) W9 [1,0,1,0,1,0,0,1,1,0,1] rfl) h0 h1 h2.1 h2.2 h3 h4 h5 h6 h7 h8⟩
theorem Ew:(Int.toNat (max 0 (min (a:Int) (b:Int))))=(min a b):=(Nat.le_total a b).elim (fun h=>by rw [Nat.min_eq_left h,Int.min_eq_left (TQ.mpr h),Int.max_eq_right (Int.natCast_nonneg _)];rfl) fun h=>by rw [Nat.min_eq_right h,Int.min_eq_right (TQ.mpr h),Int.max_eq_right (Int.natCast_nonneg _)];rfl
theorem Eu:a<=b->c<=d->e<=1->(min a c)+e+(c-b)<=d+1:=jo a c (bA c b (ac [a,b,c,d,e,(min a c),(c-b)] [.nl G H,.ne (.a L G) H,.nl F H,.ne K F,.nl F G,.nl H I,.nl J W] (.a (.a K J) L) (.a I W) [1,0,1,0,1,1,1,1] rfl) (ac [a,b,c,d,e,(min a c),(c-b)] [.nl H G,.ne L Z0,.nl F H,.ne K F,.nl F G,.nl H I,.nl J W] (.a (.a K J) L) (.a I W) [1,0,1,1,1,0,1,1] rfl)) (bA c b (ac [a,b,c,d,e,(min a c),(c-b)] [.nl G H,.ne (.a L G) H,.nl H F,.ne K H,.nl F G,.nl H I,.nl J W] (.a (.a K J) L) (.a I W) [1,0,1,1,1,1,1,1] rfl) (ac [a,b,c,d,e,(min a c),(c-b)] [.nl H G,.ne L Z0,.nl H F,.ne K H,.nl F G,.nl H I,.nl J W] (.a (.a K J) L) (.a I W) [1,0,1,0,1,0,1,1] rfl))
theorem oA:4*a+8<=b->b=1000000->c=1000000->d<=a+1->e<d->f<=2*g->g<=e->f<=c:=ac [a,b,c,d,e,f,g] [.nl (.a (.m 4 F) Z7) G,.ne G Z2,.ne H Z2,.nl I (.a F W),.nl (.a J W) I,.nl K (.m 2 L),.nl L J] K H [4,2,2,-4,8,8,4,8] rfl
theorem oB:4*a+8<=b->b=1000000->c=1000000->d<=a+1->e<d->f<=2*g->g<=e->h<=1->f+h<=c:=ac [a,b,c,d,e,f,g,h] [.nl (.a (.m 4 F) Z7) G,.ne G Z2,.ne H Z2,.nl I (.a F W),.nl (.a J W) I,.nl K (.m 2 L),.nl L J,.nl M W] (.a K M) H [4,2,2,-4,8,8,4,8,4] rfl
theorem oC:a=1000000->4*(b+(0+1)*(c-1))+8<=a->(0+1)*(c-1)+b<=a:=ac [a,b,c-1] [.ne F Z2,.nl (.a (.m 4 (.a G (.m (0+1) H))) Z7) F] (.a (.m (0+1) H) G) F [4,-3,1] rfl
theorem oD:a+3*b<=c+3*d->c<=e+3->d<=f->a+3*b<=e+3*(f+1):=ac [a,b,c,d,e,f] [.nl (.a F (.m 3 G)) (.a H (.m 3 I)),.nl H (.a J Z4),.nl I K] (.a F (.m 3 G)) (.a J (.m 3 (.a K W))) [1,1,1,3] rfl
end
theorem ad {α:Type} {a:α} {l:List α}:a∈a::l:=SZ ..
theorem a7 {α:Type} {a b0:α} {l:List α}:a∈b0::a::l:=Td _ ad
theorem aQ {α:Type} {a b0 b1:α} {l:List α}:a∈b0::b1::a::l:=Td _ a7
theorem dc {α:Type} {a b0 b1 b2:α} {l:List α}:a∈b0::b1::b2::a::l:=Td _ aQ
theorem gy {α:Type} {a b0 b1 b2 b3:α} {l:List α}:a∈b0::b1::b2::b3::a::l:=Td _ dc
theorem d7 {α:Type} {a b0 b1 b2 b3 b4:α} {l:List α}:a∈b0::b1::b2::b3::b4::a::l:=Td _ gy
theorem m9 {α:Type} {a b0 b1 b2 b3 b4 b5:α} {l:List α}:a∈b0::b1::b2::b3::b4::b5::a::l:=Td _ d7
theorem A6 {α:Type} {a b0 b1 b2 b3 b4 b5 b6:α} {l:List α}:a∈b0::b1::b2::b3::b4::b5::b6::a::l:=Td _ m9
theorem ow {α:Type} {a b0 b1 b2 b3 b4 b5 b6 b7:α} {l:List α}:a∈b0::b1::b2::b3::b4::b5::b6::b7::a::l:=Td _ A6
theorem ou {α:Type} {a b0 b1 b2 b3 b4 b5 b6 b7 b8:α} {l:List α}:a∈b0::b1::b2::b3::b4::b5::b6::b7::b8::a::l:=Td _ ow
theorem NY {α:Type} {a b0 b1 b2 b3 b4 b5 b6 b7 b8 b9:α} {l:List α}:a∈b0::b1::b2::b3::b4::b5::b6::b7::b8::b9::a::l:=Td _ ou
theorem NX {α:Type} {a b0 b1 b2 b3 b4 b5 b6 b7 b8 b9 b10:α} {l:List α}:a∈b0::b1::b2::b3::b4::b5::b6::b7::b8::b9::b10::a::l:=Td _ NY
theorem NW {α:Type} {a b0 b1 b2 b3 b4 b5 b6 b7 b8 b9 b10 b11:α} {l:List α}:a∈b0::b1::b2::b3::b4::b5::b6::b7::b8::b9::b10::b11::a::l:=Td _ NX
theorem NV {α:Type} {a b0 b1 b2 b3 b4 b5 b6 b7 b8 b9 b10 b11 b12:α} {l:List α}:a∈b0::b1::b2::b3::b4::b5::b6::b7::b8::b9::b10::b11::b12::a::l:=Td _ NW
theorem NU {α:Type} {a b0 b1 b2 b3 b4 b5 b6 b7 b8 b9 b10 b11 b12 b13:α} {l:List α}:a∈b0::b1::b2::b3::b4::b5::b6::b7::b8::b9::b10::b11::b12::b13::a::l:=Td _ NV
theorem Sg {α:Type} {a b0 b1 b2 b3 b4 b5 b6 b7 b8 b9 b10 b11 b12 b13 b14:α} {l:List α}:a∈b0::b1::b2::b3::b4::b5::b6::b7::b8::b9::b10::b11::b12::b13::b14::a::l:=Td _ NU
noncomputable def jA (k:List UInt8):Value->Bool
 | .bytes b _=>b.toList==k
 |_=>false
theorem eq {k:List UInt8} {v:Value} (h:jA k v=true):∃t,v= .bytes k.toArray t:=by
 cases v with
 |bytes b t=>exact⟨t,by rw [←show b.toList=k from eq_of_beq h]⟩
 |_=>exact Bool.noConfusion h
theorem rK (k:List UInt8) (t:Tok):jA k (.bytes k.toArray t)=true:=by exact beq_self_eq_true _
noncomputable def ww (w:World) (k:List UInt8):Int:=reduceHash (PyData.keyHash w.params ⟨(k.toArray).map (·.toNat)⟩)
theorem ty {prog:Program} {w:World} {A:Around} {E:Value->Shared->Prop} {s:Shared} {k:List UInt8} {t:Tok} {Q:Int->Shared->Prop} (h:Q (ww w k) {s with toks:=s.toks+1}):wpAny (model prog w) A (pyHash (.bytes k.toArray t)) Q E s:=by
 show wpAny _ _ (pyHashByItsType (.bytes k.toArray t)) _ _ _;refine pyHash_slot (typeIs_bytes _ _ _) FB.slot_bytes_hash FB.entry_bytes_hash (FB.args_bytes_hash_1 _) (by decide) (.inl rfl) ?_;unfold Builtin.«bytes.__hash__»;refine Te (Tm ?_);refine Te (Te (Tm (Tm ?_)));have:∀{x:Str} {Q:Int->Shared->Prop} {A:Around} {E:Value->Shared->Prop} {s:Shared},Q (PyData.keyHash w.params x) s->wpAny (model prog w) A (strHash x) Q E s:=fun hq=>fun _ _ _=>hq;refine Te (this ?_);unfold retInt;exact Te (wpAny_mkInt (Tm (cT _ _ rfl h)))
theorem tF {prog:Program} {w:World} {A:Around} {E:Value->Shared->Prop} {s:Shared} {a b:List UInt8} {t u:Tok} {Q:Bool->Shared->Prop} (h:Q (decide (a=b)) s):wpAny (model prog w) A (eqBool (.bytes a.toArray t) (.bytes b.toArray u)) Q E s:=by
 unfold eqBool;refine wpAny_holding ?_;by_cases q:(Value.bytes a.toArray t==Value.bytes b.toArray u)=true
 ·rw [Tk q];have e:=eq_of_beq q;injection e with e1 e2
  have e3:a=b:=by simpa using e1
  rw [decide_eq_true e3] at h;exact Te (wpAny_rule (Tm h))
 ·rw [Tc q];refine Te ?_;refine eq_bytes (wpAny_truthy_bool ?_);rw [show(a.toArray.toList==b.toArray.toList)=decide (a=b) from by by_cases q:a=b<;>simp [q]];exact h
noncomputable def jf (prog:Program) (w:World):KeyKind prog w (List UInt8) where
 is:=jA
 hash:=ww w
 inj:=fun v a b ha hb=>by
  (refine ax (eq ha) fun t j'=>?_;subst j');refine ax (eq hb) fun u e=>?_;injection e with e1 e2
  simpa using e1
 byValue:=fun k v h=>by(refine ax (eq h) fun t j'=>?_;subst j');rfl
 pyHash:=fun hv h=>by(refine ax (eq hv) fun t j'=>?_;subst j');exact ty h
 eqBool:=fun hu hv h=>by
  (refine ax (eq hu) fun t j'=>?_;subst j');(refine ax (eq hv) fun u j'=>?_;subst j');exact tF h
 «strs»:=fun k x t v h=>Bool.noConfusion h
noncomputable abbrev PG:Program:=Challenge.rw_og0264_01.row.prog
inductive AV where
 |none|bool (b:Bool)|int (i:Int)|bytes (l:List UInt8)|str (x:Str)|type (n:String)|builtin (id:String)|ref (a:Addr)
noncomputable def AV.Is:AV->Value->Prop
 | .none,v=>v= .none
 | .bool b,v=>v= .bool b
 | .int i,v=>∃t,v= .int i t
 | .bytes l,v=>∃t,v= .bytes l.toArray t
 | .str x,v=>∃t,v= .str x t
 | .type n,v=>v= .type n
 | .builtin n,v=>v= .builtin n
 | .ref a,v=>v= .ref a
inductive aA:List AV->List Value->Prop
 |nil:aA [] []
 |cons {a v r s}:AV.Is a v->aA r s->aA (a::r) (v::s)
theorem aA.length {l:List AV} {m:List Value} (h:aA l m):l.length=m.length:=by
 induction h with
 |nil=>rfl
 |cons _ _ ih=>exact congrArg (·+1) ih
theorem aA.append {l l':List AV} {m m':List Value} (h:aA l m) (h':aA l' m'):aA (l++l') (m++m'):=by
 induction h with
 |nil=>exact h'
 |cons a _ ih=>exact .cons a ih
theorem aA.get {l:List AV} {m:List Value} (h:aA l m):∀{i:Nat} {a:AV},l[i]? =some a->∃v,m[i]? =some v/\AV.Is a v:=by
 induction h with
 |nil=>intro i a e;cases e
 |cons a _ ih=>
  intro i b e;cases i with
  |zero=>cases e;exact(aj _ rfl a)
  |succ i=>exact ih (i:=i) e
theorem aA.take {l:List AV} {m:List Value} (h:aA l m):∀n:Nat,aA (l.take n) (m.take n):=by
 induction h with
 |nil=>intro n;cases n<;>exact .nil
 |cons a _ ih=>intro n;cases n with
  |zero=>exact .nil
  |succ n=>exact .cons a (ih n)
theorem aA.rev {l:List AV} {m:List Value} (h:aA l m):aA l.reverse m.reverse:=by
 induction h with
 |nil=>exact .nil
 |cons a _ ih=>rw [List.reverse_cons,List.reverse_cons];exact ih.append (.cons a .nil)
inductive AO where
 |inst (C dx:Addr) (fs:List (Str×AV))
 |list (xs:List AV)
 |tuple (xs:List AV)
 |barr (l:List UInt8)
 |dictS (ks:List (Str×AV))
 |dictI (ks:List (Int×AV))
 |dictB (ks:List (List UInt8×AV))
 |raw (o:Obj)
inductive dS:List (Str×AV)->List DictEntry->Prop
 |nil:dS [] []
 |cons {x v r t e s}:e.key= .str x t->AV.Is v e.val->dS r s->dS ((x,v)::r) (e::s)
noncomputable def dD {w:World} {K:Type} [DecidableEq K] (knd:KeyKind PG w K) (h:Heap) (a:Addr) (ks:List (K×AV)):Prop:=
 (a==sysModules)=false/\∃F8:List (K×Value),h.DictOf knd a F8/\F8.map (·.1)=ks.map (·.1)/\aA (ks.map (·.2)) (F8.map (·.2))
theorem dD.keep {w:World} {K:Type} [DecidableEq K] {knd:KeyKind PG w K} {h h':Heap} {a:Addr} {ks:List (K×AV)} (x:dD knd h a ks) (k:∀y,h.get? a=some y->h'.get? a=some y):dD knd h' a ks:=by
 refine hV (x) fun ns F8 D r=>?_;refine aw (Heap.dictOf_iff.mp D) fun o e i=>?_;exact(cN ns (dH F8 (cN (Heap.dictOf_iff.mpr (aj o (k o e) i)) r)))
theorem dD.there {w:World} {K:Type} [DecidableEq K] {knd:KeyKind PG w K} {h:Heap} {a:Addr} {ks:List (K×AV)} (x:dD knd h a ks):∃y,h.get? a=some y:=by
 refine hV (x) fun _ F8 D r=>?_;refine aw (Heap.dictOf_iff.mp D) fun o e i=>?_;exact⟨o,e⟩
noncomputable def AO.addrs (a:Addr):AO->List Addr
 | .inst _ dx _=>[a,dx]
 |_=>[a]
noncomputable def AO.slack:AO->Bool
 | .raw _| .dictS _| .dictI _| .dictB _=>false
 |_=>true
inductive vN (T:String) (h:Heap) (a:Addr) (xs:List AV):Prop
 |mk (cs:Array Value) (n:Nat) (sl:Array (Option Value)) (e:h.get? a=some ⟨.type T,none,.seq cs n,sl⟩) (f:aA xs cs.toList):vN T h a xs
noncomputable def AO.At (w:World) (h:Heap) (a:Addr):AO->Prop
 | .inst C dx fs=>(∃sl,h.get? a=some ⟨.ref C,some dx,.plain,sl⟩)/\∃es n sl,h.get? dx=some ⟨.type "dict",none,.dict es n,sl⟩/\dS fs es.toList/\(fs.map (·.1)).Nodup/\fs.length<=100
 | .list xs=>vN "list" h a xs
 | .tuple xs=>vN "tuple" h a xs
 | .barr l=>∃sl,h.get? a=some ⟨.type "bytearray",none,.bytearray l.toArray 0,sl⟩
 | .dictS ks=>dD (strKind PG w) h a ks
 | .dictI ks=>dD (intKind PG w) h a ks
 | .dictB ks=>dD (jf PG w) h a ks
 | .raw o=>h.get? a=some o
noncomputable abbrev LD:=List (Addr×AO)
noncomputable abbrev GH:=Addr×AO->Prop
noncomputable abbrev LV:=List (Str×Option AV)
noncomputable def aD:LD->List Addr
 |[]=>[]
 |p::r=>p.2.addrs p.1++aD r
theorem ce (l m:LD):aD (l++m)=aD l++aD m:=by
 induction l with
 |nil=>rfl
 |cons p r ih=>exact(congrArg (p.2.addrs p.1++·) ih).trans (Tw ..).symm
theorem rC (l:LD):aD l=l.flatMap fun p=>p.2.addrs p.1:=by
 induction l with
 |nil=>rfl
 |cons p r ih=>exact congrArg (p.2.addrs p.1++·) ih
theorem bU {b:Addr} {l:LD}:b∈aD l↔∃p∈l,b∈p.2.addrs p.1:=by rw [rC];exact List.mem_flatMap
theorem AO.self_mem (a:Addr) (o:AO):a∈o.addrs a:=by cases o<;>exact SZ ..
theorem AO.At.congr {P:World} {h h':Heap} {a:Addr} {o:AO} (x:o.At P h a) (k:∀b∈o.addrs a,∀y,h.get? b=some y->h'.get? b=some y):o.At P h' a:=by
 cases o with
 |inst C dx fs=>
  (refine a0 (x) fun j' El=>dM El fun es n sl' La=>a0 La fun e' f=>?_;refine ax (j') fun sl e=>?_);exact(cN ⟨sl,k _ (SZ ..) _ e⟩ (bc es n sl' (cN (k _ (Td _ (SZ ..)) _ e') f)))
 |list xs=>obtain⟨cs,n,sl,e,f⟩:=x;exact⟨cs,n,sl,k _ (SZ ..) _ e,f⟩
 |tuple xs=>obtain⟨cs,n,sl,e,f⟩:=x;exact⟨cs,n,sl,k _ (SZ ..) _ e,f⟩
 |barr l=>refine ax (x) fun sl e=>?_;exact⟨sl,k _ (SZ ..) _ e⟩
 |dictS ks=>exact dD.keep x fun y=>k _ (SZ ..) y
 |dictI ks=>exact dD.keep x fun y=>k _ (SZ ..) y
 |dictB ks=>exact dD.keep x fun y=>k _ (SZ ..) y
 |raw o=>exact k _ (SZ ..) _ x
theorem AO.At.loose {P:World} {h h':Heap} {a:Addr} {o:AO} (x:o.At P h a) (hs:o.slack=true)
 (k:∀b∈o.addrs a,∀y,h.get? b=some y->(∀vs,y.data≠ .fields vs)->∃sl,h'.get? b=some {y with slots:=sl}):o.At P h' a:=by
 cases o with
 |inst C dx fs=>
  (refine a0 (x) fun j' El=>dM El fun es n sl' La=>a0 La fun e' f=>?_;refine ax (j') fun sl e=>?_);refine ax (k _ (SZ ..) _ e (fun _ q=>by cases q)) fun s1 e1=>?_;refine ax (k _ (Td _ (SZ ..)) _ e' (fun _ q=>by cases q)) fun s2 e2=>?_;exact(cN ⟨s1,e1⟩ (bc es n s2 (cN e2 f)))
 |list xs=>obtain⟨cs,n,sl,e,f⟩:=x;refine ax (k _ (SZ ..) _ e (fun _ q=>by cases q)) fun s1 e1=>?_;exact⟨cs,n,s1,e1,f⟩
 |tuple xs=>obtain⟨cs,n,sl,e,f⟩:=x;refine ax (k _ (SZ ..) _ e (fun _ q=>by cases q)) fun s1 e1=>?_;exact⟨cs,n,s1,e1,f⟩
 |barr l=>refine ax (x) fun sl e=>?_;refine ax (k _ (SZ ..) _ e (fun _ q=>by cases q)) fun s1 e1=>?_;exact⟨s1,e1⟩
 |dictS ks=>cases hs
 |dictI ks=>cases hs
 |dictB ks=>cases hs
 |raw o=>cases hs
theorem AO.At.there {P:World} {h:Heap} {a:Addr} {o:AO} (x:o.At P h a):∀b∈o.addrs a,∃y,h.get? b=some y:=by
 intro b hb;cases o with
 |inst C dx fs=>
  (refine a0 (x) fun j' El=>dM El fun es n sl' La=>a0 La fun e' f=>?_;refine ax (j') fun sl e=>?_);rcases T4.mp hb with rfl|hb
  ·exact⟨_,e⟩
  ·rw [Ti.mp hb];exact⟨_,e'⟩
 |list xs=>obtain⟨cs,n,sl,e,f⟩:=x;rw [Ti.mp hb];exact⟨_,e⟩
 |tuple xs=>obtain⟨cs,n,sl,e,f⟩:=x;rw [Ti.mp hb];exact⟨_,e⟩
 |barr l=>refine ax (x) fun sl e=>?_;rw [Ti.mp hb];exact⟨_,e⟩
 |dictS ks=>rw [Ti.mp hb];exact dD.there x
 |dictI ks=>rw [Ti.mp hb];exact dD.there x
 |dictB ks=>rw [Ti.mp hb];exact dD.there x
 |raw o=>rw [Ti.mp hb];exact⟨_,x⟩
structure Wd (w:World) (H:Heap):Prop where
 X:(hd.heap_1 w.params).In H
 T:∃loose mean mg mb,Top QQ loose mean mg mb H
noncomputable def lI (l:List Env):List Addr:=l.filterMap (·.frame)
theorem gR {base h h':Heap} {l:List Env} (x:h.FunFrames base l) (k:∀b∈lI l,∀o,h.get? b=some o->(∀vs,o.data≠ .fields vs)->∃o',h'.get? b=some o'/\o'.data=o.data):h'.FunFrames base l:=by
 induction l with
 |nil=>trivial
 |cons env r ih=>
  refine bp x fun hk hf hr=>dl hf fun L o hf hn ho hd=>?_;refine aw (k L (List.mem_filterMap.mpr (aj env (.head _) hf)) o ho hd) fun o' e1 e2=>?_;exact(aN hk (bu L o' hf hn e1 (fun vs=>e2▸hd vs)) (ih hr fun b hb=>k b (aw (List.mem_filterMap.mp hb) fun e he hq=>List.mem_filterMap.mpr (aj e (.tail _ he) hq))))
noncomputable def dN (st:Bool) (h':Heap) (b:Addr) (o:Obj):Prop:=
 if st=true then h'.get? b=some o else(∃o',h'.get? b=some o')/\((∀vs,o.data≠ .fields vs)->∃sl,h'.get? b=some {o with slots:=sl})
theorem dN.loose {st:Bool} {h':Heap} {b:Addr} {o:Obj} (x:dN st h' b o):dN false h' b o:=by
 cases st with
 |false=>exact x
 |true=>exact⟨⟨_,x⟩,fun _=>⟨o.slots,x⟩⟩
theorem dN.of_eq {st:Bool} {h':Heap} {b:Addr} {o:Obj} (x:h'.get? b=some o):dN st h' b o:=by
 cases st with
 |false=>exact⟨⟨_,x⟩,fun _=>⟨o.slots,x⟩⟩
 |true=>exact x
theorem dN.step {st st':Bool} {h h':Heap} {b:Addr} {o:Obj} (x:dN st h b o) (hs:st=true->st'=true) (k:∀o,h.get? b=some o->dN st' h' b o):dN st h' b o:=by
 cases st with
 |true=>rw [hs rfl] at k;exact k _ x
 |false=>
  (refine a0 (x) fun j' x=>?_;refine ax (j') fun o' e'=>?_);refine⟨(k _ e').loose.1,fun hn=>?_⟩;refine ax (x hn) fun sl e=>?_;refine ax ((k _ e).loose.2 hn) fun sl' e'=>?_;exact⟨sl',e'⟩
theorem dN.ex {st:Bool} {h':Heap} {b:Addr} {o:Obj} (x:dN st h' b o):∃o',h'.get? b=some o':=x.loose.1
structure Hs (w:World) (H₀:Heap) (outer:List Env) (g:GH) (h:Heap) (an:LD):Prop where
 H:H₀.StaysIn h
 ff:h.FunFrames H₀ outer
 ledAt:∀p∈an,p.2.At w h p.1
 gAt:∀p,g p->p.2.At w h p.1
 nd:(aD an).Nodup
 ga:∀p,g p->∀b∈p.2.addrs p.1,b∉aD an
 hl:∀b∈aD an,H₀.get? b=none
 fo:∀b∈aD an,b∉lI outer
 gs:∀p,g p->p.2.slack=true
structure l5 (st:Bool) (h:Heap) (own:List Addr) (g:GH) (h':Heap) (g':GH) (led':LD):Prop where
 kept:∀b o,h.get? b=some o->b∉own->dN st h' b o
 dom:∀b∈aD led',b∈own\/h.get? b=none
 gdom:∀p,g' p->g p\/∀b∈p.2.addrs p.1,b∈own\/h.get? b=none
 sub:∀p,g p->g' p
noncomputable def Em (h:Heap) (L:Addr) (vs:LV):Prop:=∃m,h.Ns L m/\∀x v,(x,some v)∈vs->∃c,m x=some c/\AV.Is v c
structure aY where
 f:Addr
 qual:Str
 scope:Scope
 cdv:Value
 cl:List (Str×Addr)
 names:List Str
 hk:scope.kind= .function
 nd:names.Nodup
 loc:∀L,∀x∈names,(envX qual scope L f cdv cl).kindOf x=some .local/\(x==("__debug__":Str))=false
structure Fx (F:aY) where
 w:World
 H₀:Heap
 wd:Wd w H₀
 L:Addr
 outer:List Env
 A:Around
 he:Heap
 own:List Addr
 g₀:GH
 strict:Bool
 room:Nat
 gens:Array GenState
 os:OsState
 inl:Bool
 frm:Option Addr
 hA:A.frames=some (if inl=true then outer else envX F.qual F.scope L F.f F.cdv F.cl::outer)
 hh:A.handled=none
 heL:he.get? L=none
 stays:H₀.StaysIn he
 ff:he.FunFrames H₀ outer
 ownH:∀b∈own,H₀.get? b=none
 ownF:∀b∈own,b∉lI outer
 dp:A.depth+2*room<recursionLimit
 un:A.units+8*room<cLine
noncomputable abbrev Fx.env {F:aY} (Φ:Fx F):Env:=
 {scope:=F.scope,locals:=Φ.L,globals:=mainGlobals,cells:=F.cl,qual:=F.qual++".<locals>.",func:=if Φ.inl=true then none else some F.f,code:=F.cdv,frame:=if Φ.inl=true then Φ.frm else some Φ.L,builtins:=builtinsNs}
noncomputable abbrev Fx.fr {F:aY} (Φ:Fx F):List Env:=if Φ.inl=true then Φ.outer else envX F.qual F.scope Φ.L F.f F.cdv F.cl::Φ.outer
theorem Fx.env_eq {F:aY} (Φ:Fx F) (h:Φ.inl=false):Φ.env=envX F.qual F.scope Φ.L F.f F.cdv F.cl:=by
 unfold Fx.env;rw [h];rfl
theorem Fx.fr_eq {F:aY} (Φ:Fx F) (h:Φ.inl=false):Φ.fr=Φ.env::Φ.outer:=by
 unfold Fx.fr;rw [Φ.env_eq h,h];rfl
structure St {F:aY} (Φ:Fx F) (st:Bool) (g:GH) (h:Heap) (vs:LV) (an:LD):Prop where
 hs:Hs Φ.w Φ.H₀ Φ.outer g h an
 tr:l5 st Φ.he Φ.own Φ.g₀ h g an
 loc:Em h Φ.L vs
 nms:vs.map (·.1)=F.names
 Ll:Φ.L∉aD an
 Lg:∀p,g p->Φ.L∉p.2.addrs p.1
theorem Fx.L_H {F:aY} (Φ:Fx F):Φ.H₀.get? Φ.L=none:=by
 cases q:Φ.H₀.get? Φ.L with
 |none=>rfl
 |some o=>have:=Φ.stays _ _ q;rw [Φ.heL] at this;cases this
theorem Fx.L_fr {F:aY} (Φ:Fx F):Φ.L∉lI Φ.outer:=fun hm=>by
 refine hV (Φ.ff.mem hm) fun _ o ho _=>?_;rw [Φ.heL] at ho;cases ho
theorem St.next {F:aY} {Φ:Fx F} {st:Bool} {g:GH} {h h':Heap} {vs Ab:LV} {an led':LD} (S:St Φ st g h vs an) (tch:List Addr)
 (ht:∀b∈tch,b=Φ.L\/b∈aD an)
 (k:∀b o,b∉tch->h.get? b=some o->h'.get? b=some o)
 (hloc:Em h' Φ.L Ab) (hn:Ab.map (·.1)=vs.map (·.1)) (hled:∀p∈led',p.2.At Φ.w h' p.1) (hnd:(aD led').Nodup)
 (hfr:∀b∈aD led',b∈aD an\/h.get? b=none):St Φ st g h' Ab led':=by
 have nH:∀b o,Φ.H₀.get? b=some o->b∉tch:=fun b o e hb=>by
  rcases ht b hb with rfl|q
  ·rw [Φ.L_H] at e;cases e
  ·rw [S.hs.hl b q] at e;cases e
 have Ss:∀b,h.get? b=none->Φ.H₀.get? b=none:=fun b e=>by
  cases q:Φ.H₀.get? b with
  |none=>rfl
  |some o=>have:=S.hs.H _ _ q;rw [e] at this;cases this
 have fL:∀b∈lI Φ.outer,b∉tch:=fun b hb ht'=>by
  rcases ht b ht' with rfl|q
  ·exact Φ.L_fr hb
  ·exact S.hs.fo b q hb
 have gat:∀p,g p->∀b∈p.2.addrs p.1,b∉tch:=fun p hp b hb ht'=>by
  rcases ht b ht' with rfl|q
  ·exact S.Lg p hp hb
  ·exact S.hs.ga p hp b hb q
 have there:∀p,g p->∀b∈p.2.addrs p.1,h.get? b≠none:=fun p hp b hb e=>by
  refine ax ((S.hs.gAt p hp).there b hb) fun y hy=>?_;rw [e] at hy;cases hy
 have Lth:h.get? Φ.L≠none:=fun e=>by
  (refine aw (S.loc) fun m j' _=>?_;refine eu (j') fun o _ _ ho _=>?_);rw [e] at ho;cases ho
 have hdom:∀b,h.get? b=none->Φ.he.get? b=none\/b∈Φ.own:=fun b e=>by
  by_cases hb:b∈Φ.own
  ·exact .inr hb
  ·left;cases q:Φ.he.get? b with
   |none=>rfl
   |some o=>
    refine ax ((S.tr.kept b o q hb).ex) fun o' e'=>?_;rw [e] at e';cases e'
 refine⟨⟨fun b o e=>k b o (nH b o e) (S.hs.H b o e),gR S.hs.ff fun b hb o ho _=>(aj o (k b o (fL b hb) ho) rfl),hled,fun p hp=>(S.hs.gAt p hp).congr fun b hb y hy=>k b y (gat p hp b hb) hy,hnd,
  fun p hp b hb q=>?_,fun b hb=>?_,fun b hb hm=>?_,S.hs.gs⟩,⟨fun b o e hb=>?_,fun b hb=>?_,S.tr.gdom,S.tr.sub⟩,hloc,hn.trans S.nms,fun q=>?_,S.Lg⟩
 ·rcases hfr b q with q|q
  ·exact S.hs.ga p hp b hb q
  ·exact there p hp b hb q
 ·rcases hfr b hb with q|q
  ·exact S.hs.hl b q
  ·exact Ss b q
 ·rcases hfr b hb with q|q
  ·exact S.hs.fo b q hm
  ·refine hV (S.hs.ff.mem hm) fun _ o ho _=>?_;rw [q] at ho;cases ho
 ·refine(S.tr.kept b o e hb).step (st':=true) (fun _=>rfl) fun o' ho'=>?_;refine k b o' (fun ht'=>?_) ho';rcases ht b ht' with rfl|q
  ·rw [Φ.heL] at e;cases e
  ·rcases S.tr.dom b q with q|q
   ·exact hb q
   ·rw [e] at q;cases q
 ·rcases hfr b hb with q|q
  ·exact S.tr.dom b q
  ·rcases hdom b q with q|q
   ·exact .inr q
   ·exact .inl q
 ·rcases hfr _ q with q|q
  ·exact S.Ll q
  ·exact Lth q
theorem St.drop {F:aY} {Φ:Fx F} {g:GH} {h:Heap} {vs:LV} {an led':LD} {st:Bool} (S:St Φ st g h vs an) (hs:∀p∈led',p∈an) (hn:(aD led').Nodup):St Φ st g h vs led':=by
 have sub:∀b∈aD led',b∈aD an:=fun b hb=>by
  refine aw (bU.mp hb) fun p hp q=>?_;exact bU.mpr (aj p (hs p hp) q)
 exact⟨⟨S.hs.H,S.hs.ff,fun p hp=>S.hs.ledAt p (hs p hp),S.hs.gAt,hn,fun p hp b hb q=>S.hs.ga p hp b hb (sub b q),fun b hb=>S.hs.hl b (sub b hb),fun b hb=>S.hs.fo b (sub b hb),S.hs.gs⟩,
  ⟨S.tr.kept,fun b hb=>S.tr.dom b (sub b hb),S.tr.gdom,S.tr.sub⟩,S.loc,S.nms,fun q=>S.Ll (sub _ q),S.Lg⟩
theorem St.loose {F:aY} {Φ:Fx F} {g:GH} {h:Heap} {vs:LV} {an:LD} {st:Bool} (S:St Φ st g h vs an):St Φ false g h vs an:=
 ⟨S.hs,⟨fun b o e hb=>(S.tr.kept b o e hb).loose,S.tr.dom,S.tr.gdom,S.tr.sub⟩,S.loc,S.nms,S.Ll,S.Lg⟩
inductive vQ (H₀ h:Heap) (e:Addr) (or:AV) (P:Array Value->Prop):Prop
 |mk (oe:Obj) (vs:Array Value) (d:Addr) (a1:h.get? e=some oe) (a2:oe.cls= .ref 45) (a3:oe.dict=some d) (a4:oe.data= .fields vs) (a5:vs.size=6) (a6:H₀.get? e=none)
  (a8:∃es n sl,h.get? d=some ⟨.type "dict",none,.dict es n,sl⟩/\dS [("told",or)] es.toList) (a9:P vs):vQ H₀ h e or P
structure j1 (H₀ h:Heap) (e:Addr) (or:AV):Prop where
 ex:vQ H₀ h e or fun vs=>
  (vs[1]? =some .none\/∃T oT ts,vs[1]? =some (.ref T)/\T≠e/\H₀.get? T=none/\h.get? T=some oT/\oT.data= .fields ts/\4<=ts.size)
noncomputable def aZ {F:aY} (Φ:Fx F) (st:Bool) (g:GH) (s:Shared) (vs:LV) (an:LD):Prop:=St Φ st g s.heap vs an/\s.gens=Φ.gens/\s.os=Φ.os
noncomputable abbrev QT (β:Type):=β->GH->LV->LD->Prop
noncomputable abbrev ET:=AV->GH->LV->Prop
inductive il {α β:Type} {F:aY} (R:β->α->Prop) (Φ:Fx F) (Q:QT β) (a:α) (s':Shared):Prop
 |mk (b:β) (g':GH) (Ab:LV) (led':LD) (S:aZ Φ Φ.strict g' s' Ab led') (r:R b a) (q:Q b g' Ab led'):il R Φ Q a s'
inductive dz {F:aY} (Φ:Fx F) (E:ET) (v:Value) (s':Shared):Prop
 |mk (e:Addr) (or:AV) (g':GH) (Ab:LV) (hv:v= .ref e) (S:aZ Φ false g' s' Ab []) (X:j1 Φ.H₀ s'.heap e or) (q:E or g' Ab):dz Φ E v s'
theorem il.u {α β:Type} {F:aY} {R:β->α->Prop} {Φ:Fx F} {Q:QT β} {a:α} {s':Shared} {G:Prop} (h:il R Φ Q a s') (k:∀b g' Ab led',aZ Φ Φ.strict g' s' Ab led'->R b a->Q b g' Ab led'->G):G:=h.casesOn k
theorem dz.u {F:aY} {Φ:Fx F} {E:ET} {v:Value} {s':Shared} {G:Prop} (h:dz Φ E v s') (k:∀e or g' Ab,v= .ref e->aZ Φ false g' s' Ab []->j1 Φ.H₀ s'.heap e or->E or g' Ab->G):G:=h.casesOn k
noncomputable def TG {α β:Type} {F:aY} (R:β->α->Prop) (Φ:Fx F) (g:GH) (vs:LV) (an:LD) (t:Sem α) (Q:QT β) (E:ET):Prop:=
 ∀s,aZ Φ Φ.strict g s vs an->al (model PG Φ.w) Φ.A t (il R Φ Q) (dz Φ E) s
inductive AF where
 |next|cont|brk|ret (v:AV)
noncomputable def AF.Is:AF->Flow->Prop
 | .next,f=>f= .next
 | .cont,f=>f= .cont
 | .brk,f=>f= .brk
 | .ret v,f=>∃c,f= .ret c/\AV.Is v c
noncomputable abbrev TV {F:aY}:=@TG Value AV F AV.Is
noncomputable abbrev TB {F:aY}:=@TG Bool Bool F Eq
noncomputable abbrev TU {F:aY}:=@TG Unit Unit F Eq
noncomputable abbrev TF {F:aY}:=@TG Flow AF F AF.Is
noncomputable abbrev TL {F:aY}:=@TG (List Value) (List AV) F aA
section
variable {F:aY} {Φ:Fx F} {g:GH} {vs:LV} {an:LD} {E:ET}
theorem TG.mono {α β:Type} {R:β->α->Prop} {t:Sem α} {Q Q':QT β} {E':ET} (h:TG R Φ g vs an t Q E) (hq:∀b g vs an,Q b g vs an->Q' b g vs an) (he:∀a g vs,E a g vs->E' a g vs):TG R Φ g vs an t Q' E':=
 fun s S=>cy (h s S) (fun _ _ zp45=>zp45.u fun b g' Ab led' S' r q=>⟨b,g',Ab,led',S',r,hq _ _ _ _ q⟩) (fun _ _ zp30=>zp30.u fun e t g' Ab a b c d=>⟨e,t,g',Ab,a,b,c,he _ _ _ d⟩)
theorem TG.use {α β:Type} {R:β->α->Prop} {t:Sem α} {Q:QT β} {s:Shared} {Qc:α->Shared->Prop} (h:TG R Φ g vs an t Q E) (S:aZ Φ Φ.strict g s vs an)
 (k:∀a s1 b g1 Lu KE,aZ Φ Φ.strict g1 s1 Lu KE->R b a->Q b g1 Lu KE->Qc a s1):al (model PG Φ.w) Φ.A t Qc (dz Φ E) s:=
 cy (h s S) (fun a s1 zp50=>zp50.u fun b g1 Lu KE S1 r q=>k a s1 b g1 Lu KE S1 r q) fun _ _ z=>z
theorem TG.pure {α β:Type} {R:β->α->Prop} {a:α} {b:β} {Q:QT β} (r:R b a) (q:Q b g vs an):TG R Φ g vs an (pure a) Q E:=
 fun _ S=>aG ⟨b,g,vs,an,S,r,q⟩
theorem aZ.toks {st:Bool} {s:Shared} (S:aZ Φ st g s vs an) (t:Nat):aZ Φ st g {s with toks:=t} vs an:=S
noncomputable def jW {F:aY} (Φ:Fx F) (g:GH) (vs:LV) (an:LD) (op:Operator) (a b:AV) (Q:QT AV) (E:ET):Prop:=∀va vb,AV.Is a va->AV.Is b vb->TV Φ g vs an (binaryOp op va vb) Q E
noncomputable def Cq {F:aY} (Φ:Fx F) (g:GH) (vs:LV) (an:LD) (op:UnaryOp) (a:AV) (Q:QT AV) (E:ET):Prop:=∀va,AV.Is a va->TV Φ g vs an (unaryOp op va) Q E
noncomputable def d0 {F:aY} (Φ:Fx F) (g:GH) (vs:LV) (an:LD) (op:CmpOp) (a b:AV) (Q:QT AV) (E:ET):Prop:=∀va vb,AV.Is a va->AV.Is b vb->TV Φ g vs an (compareOp op va vb) Q E
noncomputable def pu {F:aY} (Φ:Fx F) (g:GH) (vs:LV) (an:LD) (a:AV) (Q:QT Bool) (E:ET):Prop:=∀va,AV.Is a va->TB Φ g vs an (truthy va) Q E
noncomputable def mP {F:aY} (Φ:Fx F) (g:GH) (vs:LV) (an:LD) (pos:Pos) (a:AV) (J':List CmpOp) (rs:List (Sem Value)) (Q:QT Bool) (E:ET):Prop:=∀va,AV.Is a va->TB Φ g vs an (testChain pos va J' rs) Q E
noncomputable def kR {F:aY} (Φ:Fx F) (g:GH) (vs:LV) (an:LD) (pos:Pos) (a:AV) (J':List CmpOp) (rs:List (Sem Value)) (Q:QT AV) (E:ET):Prop:=∀va,AV.Is a va->TV Φ g vs an (compareChain pos va J' rs) Q E
section
variable {F:aY}
noncomputable abbrev N_ (Φ:Fx F) (op:Operator) (a:AV) (Q:QT AV) (E:ET):QT AV:=fun b g vs an=>jW Φ g vs an op a b Q E
noncomputable abbrev C9 (Φ:Fx F) (r:Expr) (op:Operator) (Q:QT AV) (E:ET):QT AV:=fun a g vs an=>TV Φ g vs an (eval r Φ.env) (N_ Φ op a Q E) E
noncomputable abbrev Qr (Φ:Fx F) (op:UnaryOp) (Q:QT AV) (E:ET):QT AV:=fun a g vs an=>Cq Φ g vs an op a Q E
noncomputable abbrev u0 (Φ:Fx F) (op:CmpOp) (a:AV) (Q:QT AV) (E:ET):QT AV:=fun b g vs an=>d0 Φ g vs an op a b Q E
noncomputable abbrev C7 (Φ:Fx F) (r:Expr) (op:CmpOp) (Q:QT AV) (E:ET):QT AV:=fun a g vs an=>TV Φ g vs an (eval r Φ.env) (u0 Φ op a Q E) E
noncomputable abbrev N8 (Φ:Fx F) (a b:Expr) (Q:QT AV) (E:ET):QT Bool:=fun t g vs an=>if t=true then TV Φ g vs an (eval a Φ.env) Q E else TV Φ g vs an (eval b Φ.env) Q E
noncomputable abbrev C_ (Φ:Fx F) (y:Expr) (a:AV) (Q:QT AV) (E:ET):QT Bool:=fun t g vs an=>if t=true then TV Φ g vs an (eval y Φ.env) Q E else Q a g vs an
noncomputable abbrev Oa (Φ:Fx F) (y:Expr) (Q:QT AV) (E:ET):QT AV:=fun a g vs an=>pu Φ g vs an a (C_ Φ y a Q E) E
noncomputable abbrev N5 (Φ:Fx F) (y:Expr) (a:AV) (Q:QT AV) (E:ET):QT Bool:=fun t g vs an=>if t=true then Q a g vs an else TV Φ g vs an (eval y Φ.env) Q E
noncomputable abbrev Qt (Φ:Fx F) (y:Expr) (Q:QT AV) (E:ET):QT AV:=fun a g vs an=>pu Φ g vs an a (N5 Φ y a Q E) E
noncomputable abbrev C6 (a:AV) (Q:QT (List AV)):QT (List AV):=fun l g vs an=>Q (a::l) g vs an
noncomputable abbrev tn (Φ:Fx F) (pos:Pos) (a':List Expr) (Q:QT (List AV)) (E:ET):QT AV:=fun a g vs an=>TL Φ g vs an (spliced (backTo pos (starEach a' Φ.env))) (C6 a Q) E
noncomputable abbrev rE (Φ:Fx F) (Q:QT Bool) (E:ET):QT AV:=fun c g vs an=>pu Φ g vs an c Q E
noncomputable abbrev rF (Φ:Fx F) (op:CmpOp) (a:AV) (Q:QT Bool) (E:ET):QT AV:=fun b g vs an=>d0 Φ g vs an op a b (rE Φ Q E) E
noncomputable abbrev Bd (Φ:Fx F) (r:Expr) (op:CmpOp) (Q:QT Bool) (E:ET):QT AV:=fun a g vs an=>TV Φ g vs an (eval r Φ.env) (rF Φ op a Q E) E
noncomputable abbrev N6 (Q:QT Bool):QT Bool:=fun c g vs an=>Q (!c) g vs an
noncomputable abbrev C2 (Φ:Fx F) (a':List Expr) (pos:Pos) (u':Sem Value) (Q:QT Bool) (E:ET):QT Bool:=fun c g vs an=>if c=true then TB Φ g vs an (isTrue (.BoolOp .And a' pos) Φ.env u') Q E else Q false g vs an
noncomputable abbrev N1 (Φ:Fx F) (a':List Expr) (pos:Pos) (u':Sem Value) (Q:QT Bool) (E:ET):QT Bool:=fun c g vs an=>if c=true then Q true g vs an else TB Φ g vs an (isTrue (.BoolOp .Or a' pos) Φ.env u') Q E
noncomputable abbrev Bl (Φ:Fx F) (pos:Pos) (J':List CmpOp) (rs:List (Sem Value)) (Q:QT Bool) (E:ET):QT AV:=fun a g vs an=>mP Φ g vs an pos a J' rs Q E
noncomputable abbrev wt (Φ:Fx F) (pos:Pos) (J':List CmpOp) (rs:List (Sem Value)) (Q:QT AV) (E:ET):QT AV:=fun a g vs an=>kR Φ g vs an pos a J' rs Q E
noncomputable abbrev C5 (Φ:Fx F) (pos:Pos) (b:AV) (J':List CmpOp) (rs:List (Sem Value)) (Q:QT Bool) (E:ET):QT Bool:=fun t g vs an=>if t=true then mP Φ g vs an pos b J' rs Q E else Q false g vs an
noncomputable abbrev Bj (Φ:Fx F) (pos:Pos) (op:CmpOp) (a:AV) (J':List CmpOp) (rs:List (Sem Value)) (Q:QT Bool) (E:ET):QT AV:=fun b g vs an=>d0 Φ g vs an op a b (rE Φ (C5 Φ pos b J' rs Q E) E) E
noncomputable abbrev Bh (Φ:Fx F) (pos:Pos) (b c:AV) (J':List CmpOp) (rs:List (Sem Value)) (Q:QT AV) (E:ET):QT Bool:=fun t g vs an=>if t=true then kR Φ g vs an pos b J' rs Q E else Q c g vs an
noncomputable abbrev Bi (Φ:Fx F) (pos:Pos) (b:AV) (J':List CmpOp) (rs:List (Sem Value)) (Q:QT AV) (E:ET):QT AV:=fun c g vs an=>pu Φ g vs an c (Bh Φ pos b c J' rs Q E) E
noncomputable abbrev wq (Φ:Fx F) (pos:Pos) (op:CmpOp) (a:AV) (J':List CmpOp) (rs:List (Sem Value)) (Q:QT AV) (E:ET):QT AV:=fun b g vs an=>d0 Φ g vs an op a b (Bi Φ pos b J' rs Q E) E
noncomputable abbrev Qy (Φ:Fx F) (body B':List Stmt) (Q:QT AF) (E:ET):QT Bool:=fun t g vs an=>if t=true then TF Φ g vs an (execs body Φ.env) Q E else TF Φ g vs an (execs B' Φ.env) Q E
noncomputable abbrev Bf (Q:QT AF):QT AV:=fun v g vs an=>Q (.ret v) g vs an
noncomputable abbrev wr (Q:QT AF):QT AV:=fun v g vs an=>v= .none/\Q .next g vs an
noncomputable abbrev tm (Q:QT AF):QT Unit:=fun _ g vs an=>Q .next g vs an
end
theorem au {i k pos} {Q:QT AV} (h:Q (.int i) g vs an):TV Φ g vs an (eval (.Constant (.int i) k pos) Φ.env) Q E:=
 fun s S=>.of (wpAny_Constant_int ⟨.int i,g,vs,an,S,⟨_,rfl⟩,h⟩)
theorem fm {i k pos} {Q:QT AV} (h:Q (.str i) g vs an):TV Φ g vs an (eval (.Constant (.str i) k pos) Φ.env) Q E:=
 fun s S=>.of (wpAny_Constant_str ⟨.str i,g,vs,an,S,⟨_,rfl⟩,h⟩)
theorem cP {k pos} {Q:QT AV} (h:Q .none g vs an):TV Φ g vs an (eval (.Constant .none k pos) Φ.env) Q E:=
 fun s S=>.of (wpAny_Constant_none ⟨.none,g,vs,an,S,rfl,h⟩)
theorem fg {b k pos} {Q:QT AV} (h:Q (.bool b) g vs an):TV Φ g vs an (eval (.Constant (.bool b) k pos) Φ.env) Q E:=
 fun s S=>.of (wpAny_Constant_bool ⟨.bool b,g,vs,an,S,rfl,h⟩)
theorem bn {b k pos} {Q:QT AV} (h:Q (.bytes b) g vs an):TV Φ g vs an (eval (.Constant (.bytes b) k pos) Φ.env) Q E:=
 fun s S=>.of (wpAny_mkTextBytes (Q:=il AV.Is Φ Q) ⟨.bytes b,g,vs,an,S,⟨_,rfl⟩,h⟩:wpAny _ _ (mkTextBytes b.toArray) _ _ _)
theorem ak {l op r pos} {Q:QT AV} (h:TV Φ g vs an (eval l Φ.env) (C9 Φ r op Q E) E):
 TV Φ g vs an (eval (.BinOp l op r pos) Φ.env) Q E:=
 fun _ S=>zb (h.use S fun _ _ _ _ _ _ S1 r1 q1=>q1.use S1 fun _ _ _ _ _ _ S2 r2 q2=>q2 _ _ r1 r2 _ S2)
theorem gk {op x pos} {Q:QT AV} (h:TV Φ g vs an (eval x Φ.env) (Qr Φ op Q E) E):
 TV Φ g vs an (eval (.UnaryOp op x pos) Φ.env) Q E:=
 fun _ S=>um (h.use S fun _ _ _ _ _ _ S1 r1 q1=>q1 _ r1 _ S1)
theorem iC {l op r pos} {Q:QT AV} (h:TV Φ g vs an (eval l Φ.env) (C7 Φ r op Q E) E)
 (hm:behindInMarks op r=false:=by rfl):TV Φ g vs an (eval (.Compare l [op] [r] pos) Φ.env) Q E:=
 fun _ S=>su (hm:=hm) (h.use S fun _ _ _ _ _ _ S1 r1 q1=>q1.use S1 fun _ _ _ _ _ _ S2 r2 q2=>q2 _ _ r1 r2 _ S2)
theorem cw {c a b pos} {Q:QT AV} (h:TB Φ g vs an (isTrue c Φ.env (eval c Φ.env)) (N8 Φ a b Q E) E):
 TV Φ g vs an (eval (.IfExp c a b pos) Φ.env) Q E:=
 fun _ S=>za (h.use S fun c _ b _ _ _ S1 r1 q1=>by subst r1;cases b<;>exact q1 _ S1)
theorem sd {x y pos} {Q:QT AV} (h:TV Φ g vs an (eval x Φ.env) (Oa Φ y Q E) E):
 TV Φ g vs an (eval (.BoolOp .And [x,y] pos) Φ.env) Q E:=
 fun _ S=>DA (h.use S fun _ _ _ _ _ _ S1 r1 q1=>(q1 _ r1).use S1 fun c _ b _ _ _ S2 r2 q2=>by subst r2;cases b<;>first|exact kC (q2 _ S2)|exact⟨_,_,_,_,S2,r1,q2⟩)
theorem Cm {x y pos} {Q:QT AV} (h:TV Φ g vs an (eval x Φ.env) (Qt Φ y Q E) E):
 TV Φ g vs an (eval (.BoolOp .Or [x,y] pos) Φ.env) Q E:=
 fun _ S=>P2 (h.use S fun _ _ _ _ _ _ S1 r1 q1=>(q1 _ r1).use S1 fun c _ b _ _ _ S2 r2 q2=>by subst r2;cases b<;>first|exact kC (q2 _ S2)|exact⟨_,_,_,_,S2,r1,q2⟩)
theorem af {pos} {Q:QT (List AV)} (h:Q [] g vs an):TL Φ g vs an (spliced (backTo pos (starEach [] Φ.env))) Q E:=TG.pure .nil h
theorem qU {pos e a'} {Q:QT (List AV)} (h:TV Φ g vs an (eval e Φ.env) (tn Φ pos a' Q E) E)
 (he:starEach (e::a') Φ.env=(false,eval e Φ.env)::starEach a' Φ.env):TL Φ g vs an (spliced (backTo pos (starEach (e::a') Φ.env))) Q E:=
 fun _ S=>y7 (he:=he) (h.use S fun _ _ _ _ _ _ S1 r1 q1=>q1.use S1 fun _ _ _ _ _ _ S2 r2 q2=>⟨_,_,_,_,S2,.cons r1 r2,q2⟩)
theorem aK {l op r pos u'} {Q:QT Bool} (h:TV Φ g vs an (eval l Φ.env) (Bd Φ r op Q E) E)
 (hm:behindInMarks op r=false:=by rfl):TB Φ g vs an (isTrue (.Compare l [op] [r] pos) Φ.env u') Q E:=
 fun _ S=>kU (hm:=hm) (h.use S fun _ _ _ _ _ _ S1 r1 q1=>q1.use S1 fun _ _ _ _ _ _ S2 r2 q2=>(q2 _ _ r1 r2).use S2 fun _ _ _ _ _ _ S3 r3 q3=>q3 _ r3 _ S3)
theorem ib {x pos u'} {Q:QT Bool} (h:TB Φ g vs an (isTrue x Φ.env (eval x Φ.env)) (N6 Q) E):TB Φ g vs an (isTrue (.UnaryOp .Not x pos) Φ.env u') Q E:=
 fun _ S=>pJ (h.use S fun _ _ _ _ _ _ S1 r1 q1=>⟨_,_,_,_,S1,by rw [r1],q1⟩)
theorem bQ {pos u'} {Q:QT Bool} (h:Q true g vs an):TB Φ g vs an (isTrue (.BoolOp .And [] pos) Φ.env u') Q E:=fun _ S=>.of (isTrue_and_nil ⟨_,_,_,_,S,rfl,h⟩)
theorem cL {pos u'} {Q:QT Bool} (h:Q false g vs an):TB Φ g vs an (isTrue (.BoolOp .Or [] pos) Φ.env u') Q E:=fun _ S=>.of (isTrue_or_nil ⟨_,_,_,_,S,rfl,h⟩)
theorem aR {x a' pos u'} {Q:QT Bool} (h:TB Φ g vs an (isTrue x Φ.env (eval x Φ.env)) (C2 Φ a' pos u' Q E) E):
 TB Φ g vs an (isTrue (.BoolOp .And (x::a') pos) Φ.env u') Q E:=
 fun _ S=>pK (h.use S fun c _ b _ _ _ S1 r1 q1=>by subst r1;cases b<;>first|exact q1 _ S1|exact⟨_,_,_,_,S1,rfl,q1⟩)
theorem ch {x a' pos u'} {Q:QT Bool} (h:TB Φ g vs an (isTrue x Φ.env (eval x Φ.env)) (N1 Φ a' pos u' Q E) E):
 TB Φ g vs an (isTrue (.BoolOp .Or (x::a') pos) Φ.env u') Q E:=
 fun _ S=>qg (h.use S fun c _ b _ _ _ S1 r1 q1=>by subst r1;cases b<;>first|exact q1 _ S1|exact⟨_,_,_,_,S1,rfl,q1⟩)
theorem vK {e u'} {Q:QT Bool} (h:TV Φ g vs an u' (rE Φ Q E) E) (he:isTrue e Φ.env u'=(do let v ←u';standAt e.pos;holding [v] (truthy v))):
 TB Φ g vs an (isTrue e Φ.env u') Q E:=
 fun _ S=>mU (he:=he) (h.use S fun _ _ _ _ _ _ S1 r1 q1=>q1 _ r1 _ S1)
theorem vL {l K4 op₂ J' Om r₂ rs pos u'} {Q:QT Bool} (h:TV Φ g vs an (eval l Φ.env) (Bl Φ pos (K4::op₂::J') (eval Om Φ.env::eval r₂ Φ.env::evalEach rs Φ.env) Q E) E)
 (hm:markedEach (K4::op₂::J') (Om::r₂::rs) (evalEach (Om::r₂::rs) Φ.env)=evalEach (Om::r₂::rs) Φ.env):
 TB Φ g vs an (isTrue (.Compare l (K4::op₂::J') (Om::r₂::rs) pos) Φ.env u') Q E:=by
 intro s S;show al _ Φ.A (do testChain pos (←eval l Φ.env) (K4::op₂::J') (markedEach (K4::op₂::J') (Om::r₂::rs) (evalEach (Om::r₂::rs) Φ.env))) _ _ s;rw [hm];exact be (h.use S fun _ _ _ _ _ _ S1 r1 q1=>q1 _ r1 _ S1)
theorem Cj {pos a op op' J' r r' rs} {Q:QT Bool} (h:TV Φ g vs an r (Bj Φ pos op a (op'::J') (r'::rs) Q E) E):
 mP Φ g vs an pos a (op::op'::J') (r::r'::rs) Q E:=
 fun _ ra _ S=>qf (h.use S fun _ _ _ _ _ _ S1 r1 q1=>(q1 _ _ ra r1).use S1 fun _ _ _ _ _ _ S2 r2 q2=>(q2 _ r2).use S2 fun c _ b _ _ _ S3 r3 q3=>by
  subst r3;cases b<;>first|exact q3 _ r1 _ S3|exact⟨_,_,_,_,S3,rfl,q3⟩)
theorem Ck {pos a op r} {Q:QT Bool} (h:TV Φ g vs an r (rF Φ op a Q E) E):mP Φ g vs an pos a [op] [r] Q E:=
 fun _ ra _ S=>k_ (h.use S fun _ _ _ _ _ _ S1 r1 q1=>(q1 _ _ ra r1).use S1 fun _ _ _ _ _ _ S2 r2 q2=>q2 _ r2 _ S2)
theorem bq {Q:QT AF} (h:Q .next g vs an):TF Φ g vs an (execs [] Φ.env) Q E:=fun _ S=>.of (wpAny_execs_nil ⟨.next,_,_,_,S,rfl,h⟩)
theorem pq {st a'} {Q:QT AF} (h:TF Φ g vs an (exec st Φ.env) (fun f g vs an=>match f with| .next=>TF Φ g vs an (execs a' Φ.env) Q E|f=>Q f g vs an) E):TF Φ g vs an (execs (st::a') Φ.env) Q E:=
 fun _ S=>pL (h.use S fun f _ b _ _ _ S1 r1 q1=>by
  cases b with
  |next=>cases r1;exact q1 _ S1
  |cont=>cases r1;exact⟨.cont,_,_,_,S1,rfl,q1⟩
  |brk=>cases r1;exact⟨.brk,_,_,_,S1,rfl,q1⟩
  |ret v=>(refine aw (r1) fun c j' rc=>?_;subst j');exact⟨.ret v,_,_,_,S1,(aj _ rfl rc),q1⟩)
theorem aS {test body B' pos} {Q:QT AF} (h:TB Φ g vs an (isTrue test Φ.env (eval test Φ.env)) (Qy Φ body B' Q E) E):
 TF Φ g vs an (exec (.If test body B' pos) Φ.env) Q E:=
 fun _ S=>P3 (h.use S fun c _ b _ _ _ S1 r1 q1=>by subst r1;cases b<;>exact q1 _ S1)
theorem aE {e pos} {Q:QT AF} (h:TV Φ g vs an (eval e Φ.env) (Bf Q) E):TF Φ g vs an (exec (.Return (some e) pos) Φ.env) Q E:=
 fun _ S=>vW (h.use S fun _ _ b _ _ _ S1 r1 q1=>⟨.ret b,_,_,_,S1,(aj _ rfl r1),q1⟩)
theorem l9 {pos} {Q:QT AF} (h:Q .cont g vs an):TF Φ g vs an (exec (.Continue pos) Φ.env) Q E:=
 fun _ S=>.of (wpAny_Continue ⟨.cont,_,_,_,S,rfl,h⟩)
theorem Cn {e pos} {Q:QT AF} (h:TV Φ g vs an (eval e Φ.env) (wr Q) E) (hs:swapsWith e none pos.line Φ.env=pure false):
 TF Φ g vs an (exec (.Expr e pos) Φ.env) Q E:=
 fun _ S=>CO (hs:=hs) (hi:=by show(F.scope.kind== .module&&_)=false;rw [F.hk];rfl) (h.use S fun v _ b _ _ _ S1 r1 q1=>by
  (refine a0 (q1) fun j' q=>?_;subst j');cases r1;exact⟨.next,_,_,_,S1,rfl,q⟩)
end
inductive cM:LV->Str->AV->LV->Prop
 |head {x o r v}:cM ((x,o)::r) x v ((x,some v)::r)
 |tail {p r x v r'}:cM r x v r'->cM (p::r) x v (p::r')
theorem cM.fst {vs Ab:LV} {x:Str} {v:AV} (h:cM vs x v Ab):Ab.map (·.1)=vs.map (·.1):=by
 induction h with
 |head=>rfl
 |tail _ ih=>exact congrArg (List.cons _) ih
theorem cM.has {vs Ab:LV} {x:Str} {v:AV} (h:cM vs x v Ab):x∈vs.map (·.1):=by
 induction h with
 |head=>exact SZ ..
 |tail _ ih=>exact Td _ ih
theorem cM.of {vs Ab:LV} {x:Str} {v:AV} (h:cM vs x v Ab):(vs.map (·.1)).Nodup->∀y u,(y,some u)∈Ab->(y=x/\u=v)\/(y≠x/\(y,some u)∈vs):=by
 induction h with
 |@head x o r v=>
  intro nd y u hm;rcases T4.mp hm with q|q
  ·cases q;exact .inl ⟨rfl,rfl⟩
  ·refine .inr ⟨?_,Td _ q⟩;rintro rfl;exact(TA.mp nd).1 (TP (f:=(·.1)) q)
 |@tail p r x v r' h ih=>
  intro nd y u hm;rcases T4.mp hm with q|q
  ·subst q;refine .inr ⟨?_,SZ ..⟩;rintro rfl;exact(TA.mp nd).1 h.has
  ·rcases ih (TA.mp nd).2 y u q with q|q
   ·exact .inl q
   ·exact .inr ⟨q.1,Td _ q.2⟩
section
variable {F:aY} {Φ:Fx F} {g:GH} {vs:LV} {an:LD} {E:ET}
theorem St.isLoc {st:Bool} {h:Heap} (S:St Φ st g h vs an) {x:Str} (hx:x∈vs.map (·.1)):Φ.env.kindOf x=some .local/\(x==("__debug__":Str))=false:=F.loc Φ.L x (S.nms▸hx)
theorem aa {x pos v} {Q:QT AV} (hm:(x,some v)∈vs) (h:Q v g vs an):TV Φ g vs an (eval (.Name x pos) Φ.env) Q E:=by
 intro s S;refine aw (S.1.loc) fun m hn hv=>?_;refine aw (hv x v hm) fun c e r=>?_;have q:=S.1.isLoc (TP (f:=(·.1)) hm);exact .of (wpAny_Name (wpAny_loadName_local F.hk q.1 hn e ⟨v,g,vs,an,S,r,h⟩) q.2)
theorem mL {x:Str} {v:AV} {c:Value} {Ab:LV} {Q:QT Unit} (sv:cM vs x v Ab) (r:AV.Is v c) (h:Q () g Ab an):TU Φ g vs an (storeName Φ.env x c) Q E:=by
 intro s S;refine aw (S.1.loc) fun m hn hv=>?_;have q:=S.1.isLoc sv.has;have nd:(vs.map (·.1)).Nodup:=S.1.nms▸F.nd;refine .of (wpAny_storeName_local q.1 hn (fun h' Sn hs=>⟨(),g,Ab,an,⟨?_,S.2⟩,rfl,h⟩) (by show(F.scope.kind== .class||(F.scope.kind== .module&&_))=false;rw [F.hk];rfl));refine S.1.next [Φ.L] (fun b hb=>.inl (Ti.mp hb)) (fun b o hb e=>(hs.2 b fun z=>hb (Ti.mpr z)).trans e) (aj _ Sn (fun y u hm=>?_)) sv.fst
  (fun p hp=>(S.1.hs.ledAt p hp).congr fun b hb y e=>(hs.2 b fun z=>S.1.Ll (bU.mpr (aj p hp (by rw [z] at hb;exact hb)))).trans e) S.1.hs.nd fun b hb=>.inl hb
 rcases sv.of nd y u hm with⟨rfl,rfl⟩|⟨Fd,hm⟩
 ·exact(aj c (Tk rfl) r)
 ·refine aw (hv y u hm) fun c' e' r'=>?_;exact(aj c' (by show(if y=x then some c else m y)=_;rw [Tc Fd];exact e') r')
noncomputable abbrev Ea (x:Str) (Q:QT AF):QT AV:=fun v g vs an=>∃Ab,cM vs x v Ab/\Q .next g Ab an
theorem iW {x pos' value pos} {Q:QT AF} (h:TV Φ g vs an (eval value Φ.env) (Ea x Q) E)
 (hs:swapsWith value (some (.Name x pos')) pos.line Φ.env=pure false):TF Φ g vs an (exec (.Assign [.Name x pos'] value pos) Φ.env) Q E:=
 fun _ S=>nF (hs:=hs) (h.use S fun _ _ _ g1 Lu KE S1 r1 zp51=>aw zp51 fun Ab sv q=>(mL (Q:=fun _ g vs an=>Q .next g vs an) (E:=E) sv r1 q).use S1 fun _ _ _ _ _ _ S2 _ q2=>⟨.next,_,_,_,S2,rfl,q2⟩)
theorem aZ.tb {s s':Shared} (S:aZ Φ false g s vs []) (k1:∀b o,s.heap.get? b=some o->(∀vs,o.data≠ .fields vs)->∃sl,s'.heap.get? b=some {o with slots:=sl})
 (k2:∀b o,s.heap.get? b=some o->∃o',s'.heap.get? b=some o') (hH:Φ.H₀.StaysIn s'.heap) (e1:s'.gens=s.gens) (e2:s'.os=s.os):aZ Φ false g s' vs []:=by
 (refine bp (S) fun j' hg ho=>?_;obtain⟨hs,tr,loc,nms,Ll,Lg⟩:=j');refine aw (loc) fun m hn hv=>?_;refine(aN ⟨⟨hH,gR hs.ff fun b _ o e hd=>?_,(fun _ hp=>nomatch hp),fun p hp=>(hs.gAt p hp).loose (hs.gs p hp) fun b _ y e=>k1 b y e,hs.nd,hs.ga,hs.hl,hs.fo,hs.gs⟩,
  ⟨fun b o e hb=>(tr.kept b o e hb).step (st':=false) (fun z=>nomatch z) fun o' e'=>⟨k2 b o' e',k1 b o' e'⟩,tr.dom,tr.gdom,tr.sub⟩,(aj m ?_ hv),nms,Ll,Lg⟩ (e1.trans hg) (e2.trans ho))
 ·refine ax (k1 b o e hd) fun sl e'=>?_;exact(aj _ e' rfl)
 ·refine jP (hn) fun o es ep eo hd r=>?_;refine ax (k1 _ o eo fun vs q=>by rw [hd] at q;cases q) fun sl e'=>?_;exact(bc _ es ep (aN e' hd r))
structure fu (H₀ h:Heap) (e:Addr) (or:AV):Prop where
 ex:vQ H₀ h e or fun vs=>
  (∃T oT ts,vs[1]? =some (.ref T)/\T≠e/\H₀.get? T=none/\h.get? T=some oT/\oT.data= .fields ts/\4<=ts.size)
theorem fu.at {H₀ h:Heap} {e:Addr} {or:AV} (x:fu H₀ h e or):j1 H₀ h e or:=by
 obtain⟨oe,vs,d,a1,a2,a3,a4,a5,a6,a8,a9⟩:=x.ex;exact⟨oe,vs,d,a1,a2,a3,a4,a5,a6,a8,.inr a9⟩
theorem oN {s:Shared} {e:Addr} {or:AV} {x:Value} {M:Model} {A:Around} {Ec:Value->Shared->Prop} {Q:Unit->Shared->Prop} {oe:Obj} {ws:Array Value} {T:Addr} {oT:Obj} {ts:Array Value}
 (S:aZ Φ false g s vs []) (X:fu Φ.H₀ s.heap e or) (a1:s.heap.get? e=some oe) (a4:oe.data= .fields ws) (h1:ws[1]? =some (.ref T)) (b4:s.heap.get? T=some oT) (b5:oT.data= .fields ts) (b6:4<=ts.size) (b3:Φ.H₀.get? T=none)
 (h:∀s',aZ Φ false g s' vs []->fu Φ.H₀ s'.heap e or->Q () s'):
 wpAny M A (setField (.ref T) 3 x) Q Ec s:=by
 refine wpAny_setField b4 b5 (Nat.lt_of_lt_of_le (by decide) b6) (h _ ?_ ?_)
 ·refine S.tb (fun b o eb hd=>⟨o.slots,?_⟩) (fun b o eb=>?_) (fun b o eb=>?_) rfl rfl
  ·have Fd:T≠b:=by rintro rfl;rw [b4] at eb;cases eb;exact hd _ b5
   exact(T6 _ _ Fd).trans eb
  ·by_cases Fd:T=b
   ·subst Fd;exact⟨_,Heap.get?_update_self _ b4 (Obj.isFreed_of_fields (Obj.data_mapFields b5 _))⟩
   ·exact⟨o,(T6 _ _ Fd).trans eb⟩
  ·have Fd:T≠b:=by rintro rfl;rw [b3] at eb;cases eb
   exact(T6 _ _ Fd).trans (S.1.hs.H b o eb)
 ·obtain⟨oe',SH,d,c1,c2,c3,c4,c5,c6,⟨es,n,sl,c8,c9⟩,T',oT',ts',d1,d2,d3,d4,d5,d6⟩:=X.ex;rw [a1] at c1;cases c1;rw [a4] at c4;cases c4;rw [h1] at d1;cases d1;rw [b4] at d4;cases d4;rw [b5] at d5;cases d5;refine⟨oe,ws,d,(T6 _ _ d2).trans a1,c2,c3,a4,c5,c6,(dI es n sl ?_ c9),T,_,_,h1,d2,b3,Heap.get?_update_self _ b4 (Obj.isFreed_of_fields (Obj.data_mapFields b5 _)),Obj.data_mapFields b5 _,?_⟩
  ·have Fd:T≠d:=by rintro rfl;rw [b4] at c8;cases c8;cases b5
   exact(T6 _ _ Fd).trans c8
  ·rw [Array.size_setIfInBounds];exact b6
theorem gD {s:Shared} {e:Addr} {or:AV} {fr:Option Addr} {M:Model} {A:Around} {Ec:Value->Shared->Prop} {Q:Unit->Shared->Prop}
 (S:aZ Φ false g s vs []) (X:fu Φ.H₀ s.heap e or) (h:∀s',aZ Φ false g s' vs []->fu Φ.H₀ s'.heap e or->Q () s'):
 wpAny M A (setFlight (.ref e) fr) Q Ec s:=by
 obtain⟨oe,ws,d,a1,a2,a3,a4,a5,a6,a8,T,oT,ts,h1,d2,b3,b4,b5,b6⟩:=X.ex;unfold setFlight;refine Te (wpAny_field a1 a4 h1 ?_);rw [Tk (show(Value.ref T !=Value.none)=true from by rfl)];exact oN S X a1 a4 h1 b4 b5 b6 b3 h
theorem nc (hi:Φ.inl=false) {s:Shared} {e:Addr} {or:AV} {head:Value} {b:Bool} {Ec:Value->Shared->Prop} {Q:Unit->Shared->Prop}
 (S:aZ Φ false g s vs []) (X:j1 Φ.H₀ s.heap e or) (h:∀s',aZ Φ false g s' vs []->fu Φ.H₀ s'.heap e or->Q () s'):
 wpAny (model PG Φ.w) Φ.A (do setField (.ref e) 1 (←EntryCells.newEntry head (←frameOf Φ.env) .none (rawInt Φ.L) .none (←entryPlaceOf Φ.L b))) Q Ec s:=by
 have hl:s.heap.FunFrames Φ.H₀ (Φ.env::Φ.outer):=by
  refine aw (S.1.loc) fun m hn _=>?_;exact .cons (by show F.scope.kind≠_;rw [F.hk];decide) (by rw [Φ.env_eq hi]) hn Φ.L_H S.1.hs.ff
 refine Te (wpAny_frameOf_fun (Φ.hA.trans (congrArg some (Φ.fr_eq hi))) hl (by rw [Φ.env_eq hi]) fun F5 hs₁=>?_);refine Te (wpAny_entryPlaceOf fun pl hpl=>?_);unfold EntryCells.newEntry newFields;refine Te (wpAny_newObj_type ?_ (hpl.sizeOk5 _ _ _ _ _));obtain⟨oe,ws,d,a1,a2,a3,a4,a5,a6,⟨es,n,sl,a8,a9⟩,_⟩:=X.ex;have nfr:∀b,(∃o vs,s.heap.get? b=some o/\o.data= .fields vs)->b∉(Φ.env::Φ.outer).filterMap (·.frame):=fun b zp19 hm=>eU zp19 fun o vs eo ed=>by
  refine hV (hl.mem hm) fun _ o' ho' hnf=>?_;rw [eo] at ho';cases ho';exact hnf _ ed
 have b1:F5.get? e=some oe:=(hs₁.2.1 e (nfr e (cT _ _ a1 a4))).trans a1;have b2:=Tp (h:=F5) {cls:=.type "traceback",dict:=none,data:=.fields ([head,.ref Φ.L,.none,rawInt Φ.L,.none]++(if pl.isEmpty then List.replicate 6 Value.none else pl)).toArray} b1;refine wpAny_setField b2 a4 (by rw [a5];decide) (h _ ?_ ?_)
 ·refine S.tb (fun b o eb hd=>?_) (fun b o eb=>?_) (fun b o eb=>?_) rfl rfl
  ·have Fd:e≠b:=by rintro rfl;rw [a1] at eb;cases eb;exact hd _ a4
   refine ax (hs₁.2.2 b o eb) fun sl' e1=>?_;exact⟨sl',(T6 _ _ Fd).trans (Tp _ e1)⟩
  ·by_cases Fd:e=b
   ·subst Fd;exact⟨_,Heap.get?_update_self _ b2 (Obj.isFreed_of_fields (Obj.data_mapFields a4 _))⟩
   ·refine ax (hs₁.2.2 b o eb) fun sl' e1=>?_;exact⟨_,(T6 _ _ Fd).trans (Tp _ e1)⟩
  ·have Fd:e≠b:=by rintro rfl;rw [a6] at eb;cases eb
   refine(T6 _ _ Fd).trans (Tp _ ((hs₁.2.1 b fun hm=>?_).trans (S.1.hs.H b o eb)));rw [(hl.mem hm).1] at eb;cases eb
 ·have hT:F5.objs.size≠e:=Nat.ne_of_gt (Heap.lt_size b1);refine ax (hs₁.2.2 d _ a8) fun sl' e8=>?_;have hed:e≠d:=by rintro rfl;rw [a1] at a8;cases a8;cases a4
  refine⟨_,_,d,Heap.get?_update_self _ b2 (Obj.isFreed_of_fields (Obj.data_mapFields a4 _)),(Obj.cls_mapFields _ _).trans a2,?_,Obj.data_mapFields a4 _,by rw [Array.size_setIfInBounds];exact a5,a6,
   (dI es n sl' ((T6 _ _ hed).trans (Tp _ e8)) a9),F5.objs.size,_,_,?_,hT,?_,(T6 _ _ (Ne.symm hT)).trans (Heap.get?_push_size F5 rfl),rfl,?_⟩
  ·obtain⟨c,dd,dt,sl⟩:=oe;subst a4;exact a3
  ·rw [Array.getElem?_setIfInBounds_self_of_lt (by rw [a5];decide)]
  ·cases q:Φ.H₀.get? F5.objs.size with
   |none=>rfl
   |some o=>
    refine ax (hs₁.2.2 _ _ (S.1.hs.H _ o q)) fun _ e2=>?_;exact absurd (Heap.lt_size e2) (Nat.lt_irrefl _)
  ·simp only [TK,Tf,Tu,TC];exact Nu
theorem jO (hi:Φ.inl=false) {s:Shared} {e:Addr} {or:AV} {Ec:Value->Shared->Prop} {Q:Unit->Shared->Prop}
 (S:aZ Φ false g s vs []) (X:j1 Φ.H₀ s.heap e or) (h:∀s',aZ Φ false g s' vs []->fu Φ.H₀ s'.heap e or->Q () s'):
 wpAny (model PG Φ.w) Φ.A (noteFrame (.ref e) Φ.env) Q Ec s:=by
 obtain⟨oe,ws,d,a1,a2,a3,a4,a5,a6,a8,h1|⟨T,oT,ts,h1,d2,b3,b4,b5,b6⟩⟩:=X.ex
 ·unfold noteFrame;rw [show Φ.env.frame=some Φ.L from by rw [Φ.env_eq hi]];refine Te (wpAny_field a1 a4 h1 ?_);rw [Tc (by decide)];exact nc hi S X h
 ·have X':fu Φ.H₀ s.heap e or:=⟨oe,ws,d,a1,a2,a3,a4,a5,a6,a8,T,oT,ts,h1,d2,b3,b4,b5,b6⟩
  unfold noteFrame;rw [show Φ.env.frame=some Φ.L from by rw [Φ.env_eq hi]];refine Te (wpAny_field a1 a4 h1 ?_);rw [Tk (show(Value.ref T !=Value.none)=true from by rfl)];obtain⟨u,hu⟩:∃u,ts[3]? =some u:=⟨ts[3],Array.getElem?_eq_getElem (Nat.lt_of_lt_of_le (by decide) b6)⟩
  refine Te (wpAny_field b4 b5 hu ?_)
  split
  ·exact Tm (h s S X')
  ·refine Te (oN S X' a1 a4 h1 b4 b5 b6 b3 fun Op S₂ X₂=>?_);exact nc hi S₂ X₂.at fun Ls So X₃=>h Ls So X₃
theorem dz.noted (hi:Φ.inl=false) {v:Value} {s:Shared} {Ec:Value->Shared->Prop} (x:dz Φ E v s)
 (k:∀s' e or g' Ab,v= .ref e->aZ Φ false g' s' Ab []->fu Φ.H₀ s'.heap e or->E or g' Ab->Ec v s'):fv (model PG Φ.w) Φ.A Φ.env Ec v s:=by
 obtain⟨e,or,g',Ab,rfl,S,X,q⟩:=x;exact .of<|jO hi S X fun h' S' X'=>k _ e or g' Ab rfl S' X' q
theorem dz.back {v:Value} {s:Shared} {e:Addr} {or:AV} (hv:v= .ref e) (S:aZ Φ false g s vs []) (X:fu Φ.H₀ s.heap e or) (q:E or g vs):
 iA (model PG Φ.w) Φ.A Φ.env (dz Φ E) v s:=by
 subst hv;obtain⟨oe,ws,d,a1,a2,a3,a4,a5,a6,a8,T,oT,ts,h1,r⟩:=X.ex;unfold iA;refine aX (wpAny_field a1 a4 h1 ?_);rw [Tc (by exact Bool.false_ne_true)];exact .of<|gD S X fun h' S' X'=>⟨e,or,g,vs,rfl,S',X'.at,q⟩
theorem yT (hi:Φ.inl=false) {test body pos} {Q:QT AF} (I:Nat->GH->LV->LD->Prop)
 (turn:∀n g vs an,I n g vs an->TB Φ g vs an (isTrue test Φ.env (eval test Φ.env)) (fun b g vs an=>if b=true then TF Φ g vs an (execs body Φ.env) (fun f g vs an=>match f with
  | .next| .cont=>∃m,m<n/\I m g vs an
  | .brk=>Q .next g vs an
  | .ret v=>Q (.ret v) g vs an) E else Q .next g vs an) E)
 (n:Nat) (h:I n g vs an):TF Φ g vs an (exec (.While test body [] pos) Φ.env) Q E:=by
 intro s S;refine y9 (lV (R:=fun r s'=>match r with| .ok f=>il AF.Is Φ Q f s'| .error e=>iA (model PG Φ.w) Φ.A Φ.env (dz Φ E) e s')
  (fun n s=>∃g vs an,aZ Φ Φ.strict g s vs an/\I n g vs an) (fun n s zp81=>eu zp81 fun g vs an S hI=>?_) n (dI g vs an S h))
 have xr:∀v s',dz Φ E v s'->fv (model PG Φ.w) Φ.A Φ.env (fun e s'=>iA (model PG Φ.w) Φ.A Φ.env (dz Φ E) e s') v s':=
  fun v s' x=>x.noted hi fun s' e or g' Ab hv S' X' q=>dz.back hv S' X' q
 refine cy (turn n g vs an hI s S) (fun b w' zp78=>zp78.u fun b' g2 SL SM S2 r2 q2=>?_) xr;subst r2;cases b' with
 |false=>exact .of (wpAny_execs_nil ⟨.next,_,_,_,S2,rfl,q2⟩)
 |true=>
  refine cy (q2 w' S2) (fun f C' zp75=>zp75.u fun f' g3 vs3 G' S3 r3 q3=>?_) xr;cases f' with
  |next=>cases r3;refine aw (q3) fun m hm hi=>?_;exact(dH m (cN hm (bc _ _ _ (cN S3 hi))))
  |cont=>cases r3;refine aw (q3) fun m hm hi=>?_;exact(dH m (cN hm (bc _ _ _ (cN S3 hi))))
  |brk=>cases r3;exact⟨.next,_,_,_,S3,rfl,q3⟩
  |ret v=>(refine aw (r3) fun c j' rc=>?_;subst j');exact⟨.ret v,_,_,_,S3,(aj _ rfl rc),q3⟩
end
section
variable {F:aY} {Φ:Fx F} {g:GH} {vs:LV} {an:LD} {E:ET}
theorem bD {a b:Int} {Q:QT AV} (h:Q (.int (a+b)) g vs an):jW Φ g vs an .Add (.int a) (.int b) Q E:=by
 (intro _ _ j' th s S;refine ax (j') fun t to=>?_;subst to;refine ax (th) fun u Ce=>?_;subst Ce);exact .of (PyProof.Rows.add_int ⟨.int (a+b),g,vs,an,S,⟨_,rfl⟩,h⟩)
theorem nM {a b:Int} {Q:QT AV} (h:Q (.int (a-b)) g vs an):jW Φ g vs an .Sub (.int a) (.int b) Q E:=by
 (intro _ _ j' th s S;refine ax (j') fun t to=>?_;subst to;refine ax (th) fun u Ce=>?_;subst Ce);exact .of (PyProof.Rows.sub_int ⟨.int (a-b),g,vs,an,S,⟨_,rfl⟩,h⟩)
theorem fq {a b:Int} {Q:QT AV} (hm:IntMulOk a b) (h:Q (.int (a*b)) g vs an):jW Φ g vs an .Mult (.int a) (.int b) Q E:=by
 (intro _ _ j' th s S;refine ax (j') fun t to=>?_;subst to;refine ax (th) fun u Ce=>?_;subst Ce);exact .of (PyProof.Rows.mul_int (hm:=hm) ⟨.int (a*b),g,vs,an,S,⟨_,rfl⟩,h⟩)
theorem ei {a b:Int} {Q:QT AV} (hb:b≠0) (h:Q (.int (a.fmod b)) g vs an):jW Φ g vs an .Mod (.int a) (.int b) Q E:=by
 (intro _ _ j' th s S;refine ax (j') fun t to=>?_;subst to;refine ax (th) fun u Ce=>?_;subst Ce);exact .of (PyProof.Rows.mod_int' hb ⟨.int (a.fmod b),g,vs,an,S,⟨_,rfl⟩,h⟩)
theorem ef {a b:Int} {Q:QT AV} (h:Q (.bool (decide (a<b))) g vs an):d0 Φ g vs an .Lt (.int a) (.int b) Q E:=by
 (intro _ _ j' th s S;refine ax (j') fun t to=>?_;subst to;refine ax (th) fun u Ce=>?_;subst Ce);exact .of (PyProof.Rows.lt_int ⟨.bool _,g,vs,an,S,rfl,h⟩)
theorem im {a b:Int} {Q:QT AV} (h:Q (.bool (decide (a<=b))) g vs an):d0 Φ g vs an .LtE (.int a) (.int b) Q E:=by
 (intro _ _ j' th s S;refine ax (j') fun t to=>?_;subst to;refine ax (th) fun u Ce=>?_;subst Ce);exact .of (PyProof.Rows.le_int ⟨.bool _,g,vs,an,S,rfl,h⟩)
theorem OL {a b:Int} {Q:QT AV} (h:Q (.bool (decide (b<a))) g vs an):d0 Φ g vs an .Gt (.int a) (.int b) Q E:=by
 (intro _ _ j' th s S;refine ax (j') fun t to=>?_;subst to;refine ax (th) fun u Ce=>?_;subst Ce);exact .of (PyProof.Rows.gt_int ⟨.bool _,g,vs,an,S,rfl,h⟩)
theorem sg {a b:Int} {Q:QT AV} (h:Q (.bool (decide (b<=a))) g vs an):d0 Φ g vs an .GtE (.int a) (.int b) Q E:=by
 (intro _ _ j' th s S;refine ax (j') fun t to=>?_;subst to;refine ax (th) fun u Ce=>?_;subst Ce);exact .of (PyProof.Rows.ge_int ⟨.bool _,g,vs,an,S,rfl,h⟩)
theorem gI {a b:Int} {Q:QT AV} (h:Q (.bool (decide (a=b))) g vs an):d0 Φ g vs an .Eq (.int a) (.int b) Q E:=by
 (intro _ _ j' th s S;refine ax (j') fun t to=>?_;subst to;refine ax (th) fun u Ce=>?_;subst Ce);refine .of (PyProof.Rows.eq_int ⟨.bool _,g,vs,an,S,rfl,?_⟩);rw [show(a==b)=decide (a=b) from by by_cases q:a=b<;>rfl];exact h
theorem sf {a b:Int} {Q:QT AV} (h:Q (.bool (decide (a≠b))) g vs an):d0 Φ g vs an .NotEq (.int a) (.int b) Q E:=by
 (intro _ _ j' th s S;refine ax (j') fun t to=>?_;subst to;refine ax (th) fun u Ce=>?_;subst Ce);refine .of (PyProof.Rows.ne_int ⟨.bool _,g,vs,an,S,rfl,?_⟩);rw [show(a !=b)=decide (a≠b) from by by_cases q:a=b<;>simp [q]];exact h
theorem aF {b:Bool} {Q:QT Bool} (h:Q b g vs an):pu Φ g vs an (.bool b) Q E:=by
 rintro _ rfl s S;exact .of (wpAny_truthy_bool ⟨b,g,vs,an,S,rfl,h⟩)
theorem Dv {b:Bool} {Q:QT AV} (h:Q (.bool (!b)) g vs an):Cq Φ g vs an .Not (.bool b) Q E:=by
 rintro _ rfl s S;exact .of (not_of (wpAny_truthy_bool ⟨.bool _,g,vs,an,S,rfl,h⟩))
noncomputable def AV.isNone:AV->Bool
 | .none=>true
 |_=>false
theorem AV.Is.isNone {a:AV} {v:Value} (r:AV.Is a v):(v== .none)=a.isNone:=by
 cases a with
 |none=>cases r;rfl
 |int|bytes|str=>(refine ax (r) fun t j'=>?_;subst j');rfl
 |_=>cases r;rfl
theorem e9 {a:AV} {Q:QT AV} (h:Q (.bool a.isNone) g vs an):d0 Φ g vs an .Is a .none Q E:=by
 rintro va _ ra rfl s S;exact .of (is_none ⟨.bool _,g,vs,an,S,by rw [ra.isNone];rfl,h⟩)
theorem js {a:AV} {Q:QT AV} (h:Q (.bool (!a.isNone)) g vs an):d0 Φ g vs an .IsNot a .none Q E:=by
 rintro va _ ra rfl s S;exact .of (isNot_none ⟨.bool _,g,vs,an,S,by rw [ra.isNone];rfl,h⟩)
noncomputable def bf:Nat:=1000000
theorem dA {a b:List UInt8} {Q:QT AV} (hz:a.length+b.length<=bf) (h:Q (.bytes (a++b)) g vs an):jW Φ g vs an .Add (.bytes a) (.bytes b) Q E:=by
 (intro _ _ j' th s S;refine ax (j') fun t to=>?_;subst to;refine ax (th) fun u Ce=>?_;subst Ce);refine .of (KBy.add_bytes (by simp only [TK];unfold bf at hz;exact z6 hz) fun t' k=>⟨.bytes (a++b),g,vs,an,S,⟨t',by simp⟩,h⟩)
theorem jZ {a b:List UInt8} {Q:QT AV} (h:Q (.bool (decide (a=b))) g vs an):d0 Φ g vs an .Eq (.bytes a) (.bytes b) Q E:=by
 (intro _ _ j' th s S;refine ax (j') fun t to=>?_;subst to;refine ax (th) fun u Ce=>?_;subst Ce);refine .of (eq_bytes ⟨.bool _,g,vs,an,S,rfl,?_⟩);rw [show(a.toArray.toList==b.toArray.toList)=decide (a=b) from by by_cases q:a=b<;>simp [q]];exact h
theorem Dx {a b:List UInt8} {Q:QT AV} (h:Q (.bool (decide (a≠b))) g vs an):d0 Φ g vs an .NotEq (.bytes a) (.bytes b) Q E:=by
 (intro _ _ j' th s S;refine ax (j') fun t to=>?_;subst to;refine ax (th) fun u Ce=>?_;subst Ce);refine .of (ne_bytes ⟨.bool _,g,vs,an,S,rfl,?_⟩);rw [show(a.toArray.toList !=b.toArray.toList)=decide (a≠b) from by by_cases q:a=b<;>simp [q]];exact h
noncomputable def gG (Φ:Fx F) (g:GH) (vs:LV) (an:LD) (value A':Expr) (o i:AV) (Q:QT AV) (E:ET):Prop:=∀vo vi,AV.Is o vo->AV.Is i vi->TV Φ g vs an (subscriptTail value A' vo vi) Q E
noncomputable abbrev N3 (Φ:Fx F) (value A':Expr) (o:AV) (Q:QT AV) (E:ET):QT AV:=fun i g vs an=>gG Φ g vs an value A' o i Q E
noncomputable abbrev C3 (Φ:Fx F) (value A':Expr) (Q:QT AV) (E:ET):QT AV:=fun o g vs an=>TV Φ g vs an (eval A' Φ.env) (N3 Φ value A' o Q E) E
theorem bg {value A' pos} {Q:QT AV} (h:TV Φ g vs an (eval value Φ.env) (C3 Φ value A' Q E) E):
 TV Φ g vs an (eval (.Subscript value A' pos) Φ.env) Q E:=
 fun _ S=>ju (h.use S fun _ _ _ _ _ _ S1 r1 q1=>q1.use S1 fun _ _ _ _ _ _ S2 r2 q2=>q2 _ _ r1 r2 _ S2)
theorem y3 {value A':Expr} {l:List UInt8} {i:Int} {Q:QT AV} (hz:l.length<=bf) (h0:0<=i) (h1:i<l.length) (h:Q (.int ((l.getD i.toNat 0).toNat:Nat)) g vs an)
 (hs:∀b t u,subscripted A' false (.bytes b t) (.int i u)=operate [.bytes b t,.int i u] (getItem (.bytes b t) (.int i u)))
 (ht:∀b t r,letTemporaryGo value (.bytes b t) r=pure ()):gG Φ g vs an value A' (.bytes l) (.int i) Q E:=by
 (intro _ _ j' th s S;refine ax (j') fun t to=>?_;subst to;refine ax (th) fun u Ce=>?_;subst Ce);exact .of (tail_of_ItemOn (cf ("bytes") _ FB.slot_bytes_getitem.lookup (typeIs_bytes _ _ _) (getItem_bytes (by unfold bf at hz;exact AJ hz) h0 h1 ⟨.int _,g,vs,an,S,⟨_,rfl⟩,h⟩)) (hs _ _ _) (ht _ _))
noncomputable def iD (Φ:Fx F) (g:GH) (vs:LV) (an:LD) (e:Option Expr) (Q:QT (Option Int)) (E:ET):Prop:=TG (fun(o:Option Int) v=>IsPart v o) Φ g vs an (evalPart e Φ.env) Q E
theorem gi {Q:QT (Option Int)} (h:Q none g vs an):iD Φ g vs an none Q E:=fun _ S=>aG ⟨none,_,_,_,S,.none,h⟩
noncomputable abbrev C4 (Q:QT (Option Int)):QT AV:=fun v g vs an=>∃i,v= .int i/\Q (some i) g vs an
theorem bP {e} {Q:QT (Option Int)} (h:TV Φ g vs an (eval e Φ.env) (C4 Q) E):iD Φ g vs an (some e) Q E:=
 fun _ S=>sp (h.use S fun _ _ _ _ _ _ S1 r1 zp55=>aw zp55 fun i e q=>by subst e;(refine ax (r1) fun t j'=>?_;subst j');exact⟨some i,_,_,_,S1,.int i t,q⟩)
noncomputable def eW (l:List UInt8) (lo hi:Option Int):List UInt8:=(l.drop (lo.elim 0 (clipAt l.length))).take (hi.elim l.length (clipAt l.length)-lo.elim 0 (clipAt l.length))
theorem oY (l:List UInt8) (lo hi:Option Int):(eW l lo hi).length<=l.length:=by
 unfold eW;rw [List.length_take,List.length_drop];exact Fq
theorem aZ.push {st:Bool} {s:Shared} (S:aZ Φ st g s vs an) (o:Obj):aZ Φ st g {s with heap:=s.heap.push o} vs an:=by
 refine⟨?_,S.2⟩;refine aw (S.1.loc) fun m hn hv=>?_;exact S.1.next [] (fun _ hb=>nomatch hb) (fun b o' _ e=>Tp _ e) (aj m (hn.push _) hv) rfl (fun p hp=>(S.1.hs.ledAt p hp).congr fun b _ y e=>Tp _ e) S.1.hs.nd fun b hb=>.inl hb
noncomputable abbrev N4 (Φ:Fx F) (M':Option Expr) (l:List UInt8) (Q:QT AV) (E:ET):QT (Option Int):=fun lo g vs an=>iD Φ g vs an M' (fun hi g vs an=>Q (.bytes (eW l lo hi)) g vs an) E
noncomputable abbrev Qs (Φ:Fx F) (P' M':Option Expr) (Q:QT AV) (E:ET):QT AV:=fun o g vs an=>∃l,o= .bytes l/\l.length<=bf/\iD Φ g vs an P' (N4 Φ M' l Q E) E
theorem cR {value P' M' p pos} {Q:QT AV}
 (h:TV Φ g vs an (eval value Φ.env) (Qs Φ P' M' Q E) E)
 (hs:∀b t a,subscripted (.Slice P' M' none p) false (.bytes b t) (.ref a)=operate [.ref a,.bytes b t] (getItem (.bytes b t) (.ref a)):=by intros;rfl)
 (ht:∀b t r,letTemporaryGo value (.bytes b t) r=pure ():=by intros;rfl):TV Φ g vs an (eval (.Subscript value (.Slice P' M' none p) pos) Φ.env) Q E:=by
 intro s S;refine ju (h.use S fun vo s1 o g1 Lu KE S1 r1 zp56=>cB zp56 fun l e hz q1=>?_);subst e;(refine ax (r1) fun t j'=>?_;subst j');refine rb (TG.use q1 S1 fun vl s2 lo g2 SL SM S2 r2 q2=>TG.use q2 S2 fun vu s3 hi g3 vs3 G' S3 r3 q3=>.of (wpAny_evalPart_none ?_));have hpk:KBy.picked l.toArray lo hi=(eW l lo hi).toArray:=by rw [KBc.picked_eq];simp only [TK];rfl
 refine .of (tail_of_ItemOn (cf ("bytes") _ FB.slot_bytes_getitem.lookup (typeIs_bytes _ _ _) (getItem_meets (typeIs_bytes _ _ _) (by decide) FB.slot_bytes_getitem FB.entry_bytes_getitem (FB.args_bytes_getitem_2 _ _) (KBc.meets_slice2 l.toArray t _ r2 r3)
  (aN (Heap.IsSliceOf.new _ _ _ _) ?_ (fun t' k=>?_)))) (hs _ _ _) (ht _ _))
 ·rw [hpk];have:=oY l lo hi;unfold bf at hz;rw [sizeLine_eq];simp only [TK];exact L6 hz this
 ·exact⟨.bytes (eW l lo hi),g3,vs3,G',S3.push _,⟨t',by rw [hpk]⟩,q3⟩
end
structure Ar (A:Around) (outer:List Env) (n:Nat):Prop where
 fr:A.frames=some outer
 hh:A.handled=none
 dp:A.depth+2*n<recursionLimit
 un:A.units+8*n<cLine
inductive xZ (w:World) (H₀:Heap) (outer:List Env) (s:Shared) (g:GH) (own:LD) (st:Bool) (Q:AV->GH->LD->Prop) (v:Value) (s':Shared):Prop
 |mk (av:AV) (g':GH) (own':LD) (H:Hs w H₀ outer g' s'.heap own') (T:l5 st s.heap (aD own) g s'.heap g' own') (r:AV.Is av v) (q:Q av g' own'):xZ w H₀ outer s g own st Q v s'
inductive x0 (w:World) (H₀:Heap) (outer:List Env) (s:Shared) (g:GH) (own:LD) (E:AV->Prop) (v:Value) (s':Shared):Prop
 |mk (e:Addr) (or:AV) (hv:v= .ref e) (H:Hs w H₀ outer g s'.heap []) (T:l5 false s.heap (aD own) g s'.heap g []) (X:j1 H₀ s'.heap e or) (q:E or):x0 w H₀ outer s g own E v s'
noncomputable def P1 (w:World) (H₀:Heap) (outer:List Env) (s:Shared) (g:GH) (own:LD) (st:Bool) (Q:AV->GH->LD->Prop) (E:AV->Prop) (r:Result) (s':Shared):Prop:=
 s'.gens=s.gens/\s'.os=s.os/\match r with
  | .ok (.ret v)=>xZ w H₀ outer s g own st Q v s'
  | .error v=>x0 w H₀ outer s g own E v s'
  |_=>False
noncomputable def cz (w:World) (H₀:Heap) (g:GH) (own:LD) (c:Code) (n:Nat) (st:Bool) (Q:AV->GH->LD->Prop) (E:AV->Prop):Prop:=
 ∀A outer s,Ar A outer n->Hs w H₀ outer g s.heap own->bW (model PG w) A c (P1 w H₀ outer s g own st Q E) s
section
variable {F:aY} {Φ:Fx F} {g:GH} {vs:LV} {an:LD} {E:ET}
theorem St.none_dom {st:Bool} {h:Heap} (S:St Φ st g h vs an) {b:Addr} (e:h.get? b=none):b∈Φ.own\/Φ.he.get? b=none:=by
 by_cases hb:b∈Φ.own
 ·exact .inl hb
 ·right;cases q:Φ.he.get? b with
  |none=>rfl
  |some o=>
   refine ax ((S.tr.kept b o q hb).ex) fun o' e'=>?_;rw [e] at e';cases e'
theorem St.L_some {st:Bool} {h:Heap} (S:St Φ st g h vs an):∃o,h.get? Φ.L=some o/\∀vs,o.data≠ .fields vs:=by
 (refine aw (S.loc) fun m j' _=>?_;refine jP (j') fun o _ _ ho hd _=>?_);exact(aj o ho (fun vs q=>by rw [hd] at q;cases q))
theorem St.ffL {st:Bool} {h:Heap} (S:St Φ st g h vs an):h.FunFrames Φ.H₀ Φ.fr:=by
 refine aw (S.loc) fun m hn _=>?_;unfold Fx.fr
 split
 ·exact S.hs.ff
 exact .cons (by show F.scope.kind≠_;rw [F.hk];decide) rfl hn Φ.L_H S.hs.ff
theorem St.sub {st:Bool} {h:Heap} {own a':LD} (S:St Φ st g h vs (own++a')):Hs Φ.w Φ.H₀ Φ.fr g h own:=by
 have m:∀b∈aD own,b∈aD (own++a'):=fun b hb=>by rw [ce];exact TN _ hb
 have hnd:=S.hs.nd;rw [ce] at hnd;refine⟨S.hs.H,S.ffL,fun p hp=>S.hs.ledAt p (TN _ hp),S.hs.gAt,(TH.mp hnd).1,fun p hp b hb q=>S.hs.ga p hp b hb (m b q),fun b hb=>S.hs.hl b (m b hb),fun b hb hf=>?_,S.hs.gs⟩;unfold lI Fx.fr at hf
 split at hf
 ·exact S.hs.fo b (m b hb) hf
 rw [List.filterMap_cons] at hf;rcases T4.mp hf with q|q
 ·subst q;exact S.Ll (m _ hb)
 ·exact S.hs.fo b (m b hb) q
theorem St.after {st:Bool} {h h':Heap} {own own' a':LD} {g':GH} {s2:Bool} (S:St Φ st g h vs (own++a')) (H':Hs Φ.w Φ.H₀ Φ.fr g' h' own') (T:l5 s2 h (aD own) g h' g' own')
 (Kd:st=true->s2=true) (hsl:s2=true\/∀p∈a',p.2.slack=true):St Φ st g' h' vs (own'++a'):=by
 have mo:∀b∈aD own,b∈aD (own++a'):=fun b hb=>by rw [ce];exact TN _ hb
 have mr:∀b∈aD a',b∈aD (own++a'):=fun b hb=>by rw [ce];exact To _ hb
 have hnd:=S.hs.nd;rw [ce] at hnd;refine bp (TH.mp hnd) fun nd1 nd2 ndx=>?_;have apart:∀b∈aD a',b∉aD own:=fun b hb hc=>ndx b hc b hb rfl;have there:∀b∈aD a',∃y,h.get? b=some y:=fun b hb=>by
  refine aw (bU.mp hb) fun p hp q=>?_;exact(S.hs.ledAt p (To _ hp)).there b q
 have own'rest:∀b∈aD own',b∉aD a':=fun b hb hc=>by
  rcases T.dom b hb with q|q
  ·exact apart b hc q
  ·refine ax (there b hc) fun y hy=>?_;rw [q] at hy;cases hy
 have Lown:Φ.L∉aD own:=fun q=>S.Ll (mo _ q);refine aw (S.L_some) fun oL eL dL=>?_;have ffo:h'.FunFrames Φ.H₀ Φ.outer:=by
  have:=H'.ff;unfold Fx.fr at this
  split at this
  ·exact this
  ·exact this.2.2
 have fro:∀b,b∈lI Φ.outer->b∈lI Φ.fr:=fun b hb=>by
  unfold Fx.fr
  split
  ·exact hb
  ·refine aw (List.mem_filterMap.mp hb) fun e he q=>?_;exact List.mem_filterMap.mpr (aj e (.tail _ he) q)
 have g'rest:∀p,g' p->∀b∈p.2.addrs p.1,b∉aD a':=fun p hp b hb hc=>by
  rcases T.gdom p hp with q|q
  ·exact S.hs.ga p q b hb (mr b hc)
  ·rcases q b hb with q|q
   ·exact apart b hc q
   ·refine ax (there b hc) fun y hy=>?_;rw [q] at hy;cases hy
 have g'L:∀p,g' p->Φ.L∉p.2.addrs p.1:=fun p hp hb=>by
  rcases T.gdom p hp with q|q
  ·exact S.Lg p q hb
  ·rcases q _ hb with q|q
   ·exact Lown q
   ·rw [q] at eL;cases eL
 refine⟨⟨H'.H,ffo,fun p hp=>?_,H'.gAt,?_,fun p hp b hb hc=>?_,fun b hb=>?_,fun b hb=>?_,H'.gs⟩,⟨fun b o e hb=>?_,fun b hb=>?_,fun p hp=>?_,fun p hp=>T.sub p (S.tr.sub p hp)⟩,?_,S.nms,fun hc=>?_,g'L⟩
 ·rcases T3.mp hp with hp|hp
  ·exact H'.ledAt p hp
  ·have a:=S.hs.ledAt p (To _ hp);have nb:∀b∈p.2.addrs p.1,b∉aD own:=fun b hb=>apart b (bU.mpr (aj p hp hb));rcases hsl with q|q
   ·subst q;exact a.congr fun b hb y hy=>T.kept b y hy (nb b hb)
   ·exact a.loose (q p hp) fun b hb y hy=>(T.kept b y hy (nb b hb)).loose.2
 ·rw [ce];exact TH.mpr (aN H'.nd nd2 (fun a ha b hb e=>own'rest a ha (e▸hb)))
 ·rw [ce] at hc;rcases T3.mp hc with hc|hc
  ·exact H'.ga p hp b hb hc
  ·exact g'rest p hp b hb hc
 ·rw [ce] at hb;rcases T3.mp hb with hb|hb
  ·exact H'.hl b hb
  ·exact S.hs.hl b (mr b hb)
 ·rw [ce] at hb;rcases T3.mp hb with hb|hb
  ·intro hf;exact H'.fo b hb (fro b hf)
  ·exact S.hs.fo b (mr b hb)
 ·refine(S.tr.kept b o e hb).step Kd fun o' e'=>T.kept b o' e' fun hc=>?_;rcases S.tr.dom b (mo b hc) with q|q
  ·exact hb q
  ·rw [e] at q;cases q
 ·rw [ce] at hb;rcases T3.mp hb with hb|hb
  ·rcases T.dom b hb with q|q
   ·exact S.tr.dom b (mo b q)
   ·exact S.none_dom q
  ·exact S.tr.dom b (mr b hb)
 ·rcases T.gdom p hp with q|q
  ·exact S.tr.gdom p q
  ·refine .inr fun b hb=>?_;rcases q b hb with q|q
   ·exact S.tr.dom b (mo b q)
   ·exact S.none_dom q
 ·(refine aw (S.loc) fun m j' hv=>?_;refine jP (j') fun o es ep eo hd r=>?_);refine ax ((T.kept _ o eo Lown).loose.2 fun vs q=>by rw [hd] at q;cases q) fun sl e'=>?_;exact(aj m (bc _ es ep (aN e' hd r)) hv)
 ·rw [ce] at hc;rcases T3.mp hc with hc|hc
  ·rcases T.dom _ hc with q|q
   ·exact Lown q
   ·rw [q] at eL;cases eL
  ·exact S.Ll (mr _ hc)
noncomputable def bG (Φ:Fx F) (g:GH) (vs:LV) (an:LD) (f:AV) (as:List AV) (Q:QT AV) (E:ET):Prop:=∀vf K9,AV.Is f vf->aA as K9->TV Φ g vs an (call vf K9) Q E
theorem jg {f:Addr} {as:List AV} {own a':LD} {n:Nat} {st:Bool} {Qc:AV->GH->LD->Prop} {Ec:AV->Prop} {Q:QT AV}
 (C:∀K9,aA as K9->cz Φ.w Φ.H₀ g own (.call (.ref f) ⟨K9,[]⟩) n st Qc Ec) (hn:n<=Φ.room) (Kd:Φ.strict=true->st=true) (hsl:st=true\/∀p∈a',p.2.slack=true)
 (hq:∀v g' own',Qc v g' own'->(∀p,g p->g' p)->Q v g' vs (own'++a')) (hx:∀or,Ec or->E or g vs):bG Φ g vs (own++a') (.ref f) as Q E:=by
 rintro _ K9 rfl ra s S;have dp:=Φ.dp;have un:=Φ.un;refine gM (cZ (C K9 ra Φ.A Φ.fr s ⟨Φ.hA,Φ.hh,by exact D2 hn dp,by exact D1 hn un⟩ S.1.sub) fun r s' zp50=>bp zp50 fun e1 e2 hr=>?_);rcases r with v|(v|_|_|v)
 ·obtain⟨e,or,rfl,H',T,X,q⟩:=hr;have S':St Φ Φ.strict g s.heap vs (own++[]):=by
   rw [T7];exact S.1.drop (fun p hp=>TN _ hp) (by have:=S.1.hs.nd;rw [ce] at this;exact(TH.mp this).1)
  exact⟨e,or,g,vs,rfl,(aN (S'.loose.after (own':=[]) H' T (fun z=>nomatch z) (.inr fun _ h=>nomatch h)) (e1.trans S.2.1) (e2.trans S.2.2)),X,hx _ q⟩
 ·exact hr.elim
 ·exact hr.elim
 ·exact hr.elim
 ·obtain⟨av,g',own',H',T,ra',q⟩:=hr;exact⟨av,g',vs,own'++a',(aN (S.1.after H' T Kd hsl) (e1.trans S.2.1) (e2.trans S.2.2)),ra',hq _ _ _ q T.sub⟩
end
structure bE (F:aY) (body:List Stmt) (params:List Str) (F3:Nat) (SK:List AV):Prop where
 at':∀w:World,∃oc od osl fd dv,(hd.heap_1 w.params).lookup F.f=some ⟨oc,od,.func fd,osl⟩/\fd.body= .stmts body/\fd.scope=F.scope/\
  (∀L,callEnv fd L F.f=envX F.qual F.scope L F.f F.cdv F.cl)/\fd.code=F.cdv/\fd.qualname=F.qual/\codeIn (hd.heap_1 w.params) F.cdv F.qual=true/\
  aA SK dv/\(∀(s:Shared) on,(hd.heap_1 w.params).In s.heap->on.length=F3->BindsTo s fd ⟨on,[]⟩ (params.zip (on++dv)))
 len:F3+SK.length=params.length
 co:F.scope.isCoroutine=false
 gen:F.scope.isGenerator=false
 cell:∀x∈F.scope.names,x.2≠ .cell
 loc:∀x∈params,F.scope.names.lookup x=some .local
noncomputable def fV (params a':List Str) (as:List AV):LV:=params.zip (as.map some)++a'.map (·,none)
theorem nP:∀{params:List Str} {as:List AV} {on:List Value},params.Nodup->aA as on->∀x v,(x,some v)∈params.zip (as.map some)->∃c,(params.zip on).reverse.lookup x=some c/\AV.Is v c:=by
 intro params;induction params with
 |nil=>intro as on _ _ x v h;cases h
 |cons p r ih=>
  intro as on nd ra x v h;cases ra with
  |nil=>cases h
  |@cons a c as cs hac ra=>
   rw [List.zip_cons_cons,List.reverse_cons,List.lookup_append];rw [TM,List.zip_cons_cons] at h;rcases T4.mp h with q|q
   ·cases q;have hn:(r.zip cs).reverse.lookup p=none:=by
     refine List.lookup_eq_none_iff.mpr fun y hy=>?_;have:=List.mem_reverse.mp hy;have hm:=(List.of_mem_zip this).1;have:p≠y.1:=fun e=>(TA.mp nd).1 (e▸hm);simp [this]
    rw [hn];exact(aj c (by simp) hac)
   ·refine aw (ih (TA.mp nd).2 ra x v q) fun c' e r'=>?_;exact(aj c' (by rw [e];rfl) r')
theorem Wd.nolimit {w:World} {H h:Heap} (W:Wd w H) (k:H.StaysIn h):h.NoLimit:=by
 refine eS (W.T) fun _ _ _ _ T=>?_;exact T.nolimit.keeps k
theorem enter {F:aY} {body:List Stmt} {params a':List Str} {F3:Nat} {SK:List AV} (FK:bE F body params F3 SK) (hnames:F.names=params++a') {w:World} {H₀:Heap} (W:Wd w H₀)
 {g:GH} {own:LD} {as:List AV} {st:Bool} {n:Nat} {Q:AV->GH->LD->Prop} {E:AV->Prop} (hlen:as.length=F3)
 (h:∀Φ:Fx F,Φ.w=w->Φ.H₀=H₀->Φ.g₀=g->Φ.strict=st->Φ.room=n->Φ.own=aD own->Φ.inl=false->
  TF Φ g (fV params a' (as++SK)) own (execs body Φ.env) (fun f g' _ led'=>match f with| .ret v=>Q v g' led'| .next=>Q .none g' led'|_=>False) (fun or _ _=>E or)):
 ∀on,aA as on->cz w H₀ g own (.call (.ref F.f) ⟨on,[]⟩) (n+1) st Q E:=by
 intro on ra A outer s ar Hx;refine f_ (FK.at' w) fun oc od osl fd dv El=>kZ El fun f1 f2 f3 f4 f5 f6 f7 f8 f9=>?_;have X:(hd.heap_1 w.params).In s.heap:=W.X.keeps Hx.H;have dp:=ar.dp;have un:=ar.un;have hvl:on.length=F3:=by rw [←ra.length];exact hlen
 have nd:params.Nodup:=(TH.mp (hnames▸F.nd)).1;have rall:=ra.append f8;refine mF (fd:=fd) (body:=body) (binds:=params.zip (on++dv)) (DY dp) (X _ _ f1) rfl (W.nolimit Hx.H) (by rw [f5,f6];exact codeRec_of X f7) f2
  (f9 s on X hvl) (by rw [f3];exact FK.cell) (fun x hx=>by rw [f3];exact FK.loc x.1 (List.of_mem_zip hx).1) (fun Pu hns hk=>?_) (by rw [f3];exact FK.co) (by rw [f3];exact FK.gen) (by rw [f3];exact F.hk)
 rw [f4];have hL:s.heap.get? s.heap.objs.size=none:=T9 (Tj _)
 let Φ:Fx F:=Fx.mk w H₀ W s.heap.objs.size outer (A.deeper (envX F.qual F.scope s.heap.objs.size F.f F.cdv F.cl)) s.heap (aD own) g st n s.gens s.os false none (by show A.frames.map _=_;rw [ar.fr];rfl) ar.hh hL Hx.H Hx.ff Hx.hl Hx.fo
  (by show A.depth+1+2*n<_;exact DX dp) (by show A.units+3+8*n<_;exact DW un)
 have there:∀b∈aD own,∃y,s.heap.get? b=some y:=fun b hb=>by
  refine aw (bU.mp hb) fun p hp q=>?_;exact(Hx.ledAt p hp).there b q
 have S:aZ Φ st g {s with heap:=Pu,toks:=s.toks+(params.zip (on++dv)).length} (fV params a' (as++SK)) own:=by
  refine(aN ⟨⟨fun b o e=>hk b o (Hx.H b o e),gR Hx.ff fun b _ o e _=>(aj o (hk b o e) rfl),fun p hp=>(Hx.ledAt p hp).congr fun b _ y e=>hk b y e,fun p hp=>(Hx.gAt p hp).congr fun b _ y e=>hk b y e,Hx.nd,Hx.ga,Hx.hl,Hx.fo,Hx.gs⟩,
   ⟨fun b o e _=>dN.of_eq (hk b o e),fun b hb=>.inl hb,fun p hp=>.inl hp,fun p hp=>hp⟩,(aj _ hns (fun x v hm=>?_)),?_,fun hb=>?_,fun p hp hb=>?_⟩ rfl rfl)
  ·unfold fV at hm;rcases T3.mp hm with q|q
   ·exact nP nd rall x v q
   ·refine aw (List.mem_map.mp q) fun y _ q=>?_;cases q
  ·unfold fV;rw [TE,List.map_map,hnames];congr 1
   ·exact List.map_fst_zip (by rw [Tx,Tf,hlen,FK.len];exact Tj _)
   ·exact List.map_id' _
  ·refine ax (there _ hb) fun y hy=>?_;change s.heap.get? s.heap.objs.size=_ at hy;rw [hL] at hy;cases hy
  ·refine ax ((Hx.gAt p hp).there _ hb) fun y hy=>?_;change s.heap.get? s.heap.objs.size=_ at hy;rw [hL] at hy;cases hy
 refine cy (h Φ rfl rfl rfl rfl rfl rfl rfl _ S) (fun fl s' zp52=>zp52.u fun f' g' Ab led' S' rf q=>?_) fun e s' x=>?_
 ·cases f' with
  |next=>cases rf;exact⟨S'.2.1,S'.2.2,.none,g',led',S'.1.hs,S'.1.tr,rfl,q⟩
  |ret v=>(refine aw (rf) fun c j' rc=>?_;subst j');exact⟨S'.2.1,S'.2.2,v,g',led',S'.1.hs,S'.1.tr,rc,q⟩
  |cont=>exact q.elim
  |brk=>exact q.elim
 ·obtain⟨ea,or,g',Ab,rfl,S',X',q⟩:=x;unfold leaving;refine .of ?_;refine Te (jO rfl S' X' fun Op S₂ X₂=>?_);refine gD S₂ X₂ fun Ls So X₃=>?_;refine⟨So.2.1,So.2.2,ea,or,rfl,?_,?_,X₃.at,q⟩
  ·exact⟨So.1.hs.H,So.1.hs.ff,fun _ hp=>(nomatch hp),fun p hp=>So.1.hs.gAt p (So.1.tr.sub p hp),List.nodup_nil,fun _ _ _ _ hb=>(nomatch hb),fun _ hb=>(nomatch hb),fun _ hb=>(nomatch hb),Hx.gs⟩
  ·exact⟨So.1.tr.kept,fun _ hb=>(nomatch hb),fun p hp=>.inl hp,fun p hp=>hp⟩
theorem dS.look {fs:List (Str×AV)} {es:List DictEntry} (h:dS fs es):(fs.map (·.1)).Nodup->∀x v,(x,v)∈fs->∃e,es.find? (·.key.isStr x)=some e/\AV.Is v e.val:=by
 induction h with
 |nil=>intro _ x v hm;cases hm
 |@cons y u r t e s hk hv h ih=>
  intro nd x v hm;rw [List.find?_cons];rcases T4.mp hm with q|q
  ·cases q;rw [hk];refine(aj e (by simp [Value.isStr]) hv)
  ·have Fd:y≠x:=by
    rintro rfl;exact(TA.mp nd).1 (TP (f:=(·.1)) q)
   rw [hk];have:(Value.str y t).isStr x=false:=by simp [Value.isStr,Fd]
   rw [this];exact ih (TA.mp nd).2 x v q
theorem dS.miss {fs:List (Str×AV)} {es:List DictEntry} (h:dS fs es):∀x,x∉fs.map (·.1)->es.find? (·.key.isStr x)=none:=by
 induction h with
 |nil=>intro x _;rfl
 |@cons y u r t e s hk hv h ih=>
  intro x hx;have Fd:y≠x:=fun q=>hx (by rw [q];exact SZ ..);rw [List.find?_cons,hk];have:(Value.str y t).isStr x=false:=by simp [Value.isStr,Fd]
  rw [this];exact ih x fun q=>hx (Td _ q)
theorem dS.noRef {fs:List (Str×AV)} {es:List DictEntry} (h:dS fs es):es.any (·.refKey)=false:=by
 induction h with
 |nil=>rfl
 |cons hk hv h ih=>rw [List.any_cons,ih];simp [DictEntry.refKey,hk]
theorem dS.length {fs:List (Str×AV)} {es:List DictEntry} (h:dS fs es):fs.length=es.length:=by
 induction h with
 |nil=>rfl
 |cons _ _ _ ih=>exact congrArg (·+1) ih
inductive aB:List (Str×AV)->Str->AV->List (Str×AV)->Prop
 |head {x o r v}:aB ((x,o)::r) x v ((x,v)::r)
 |tail {p r x v r'}:aB r x v r'->aB (p::r) x v (p::r')
theorem aB.keys {fs fs':List (Str×AV)} {x:Str} {v:AV} (h:aB fs x v fs'):fs'.map (·.1)=fs.map (·.1):=by
 induction h with
 |head=>rfl
 |tail _ ih=>exact congrArg (List.cons _) ih
theorem aB.mem {fs fs':List (Str×AV)} {x:Str} {v:AV} (h:aB fs x v fs'):x∈fs.map (·.1):=by
 induction h with
 |head=>exact SZ ..
 |tail _ ih=>exact Td _ ih
inductive b_ (fs:List (Str×AV)) (x:Str) (v:AV):List (Str×AV)->Prop
 |set {fs'}:aB fs x v fs'->b_ fs x v fs'
 |new (ks:List Str):fs.map (·.1)=ks->ks.contains x=false->fs.length<100->b_ fs x v (fs++[(x,v)])
theorem dS.put {fs fs':List (Str×AV)} {x:Str} {v:AV} (hp:aB fs x v fs'):∀{es:List DictEntry},dS fs es->(fs.map (·.1)).Nodup->∀(c:Value) (hsh:Int) (tk:Tok),AV.Is v c->dS fs' (putL x hsh (.str x tk) c es):=by
 induction hp with
 |head=>
  intro es h nd c hsh tk hc;cases h with
  |@cons _ _ _ t e s hk hv h=>
   unfold putL;rw [Tk (by rw [hk];exact beq_self_eq_true _)];exact .cons hk hc h
 |@tail p r x v r' hp ih=>
  intro es h nd c hsh tk hc;cases h with
  |@cons y u _ t e s hk hv h=>
   have Fd:y≠x:=by
    rintro rfl;exact(TA.mp nd).1 hp.mem
   unfold putL;rw [Tc (by rw [hk];simp [Value.isStr,Fd])];exact .cons hk hv (ih h (TA.mp nd).2 c hsh tk hc)
theorem dS.add {fs:List (Str×AV)} {x:Str} {v:AV} {es:List DictEntry} (h:dS fs es) (c:Value) (hsh:Int) (tk:Tok) (hc:AV.Is v c):x∉fs.map (·.1)->dS (fs++[(x,v)]) (putL x hsh (.str x tk) c es):=by
 induction h with
 |nil=>intro _;exact .cons rfl hc .nil
 |@cons y u r t e s hk hv h ih=>
  intro hx;have Fd:y≠x:=fun q=>hx (by rw [q];exact SZ ..);unfold putL;rw [Tc (by rw [hk];simp [Value.isStr,Fd])];exact .cons hk hv (ih fun q=>hx (Td _ q))
theorem eZ (x:Str) (hsh:Int) (key c:Value) (es:Array DictEntry) (n:Nat) (sl:Array (Option Value)):
 Obj.putName x hsh key c ⟨.type "dict",none,.dict es n,sl⟩=⟨.type "dict",none,.dict (putL x hsh key c es.toList).toArray (putN x es.toList n),sl⟩:=by
 have h:=putName_dict x hsh key c es.toList n;simp only [dictOf,Array.toArray_toList] at h;rw [Obj.putName_eq] at h ⊢;unfold Obj.putNameByArray at h ⊢;cases q:es.findIdx? (·.key.isStr x) with
 |none=>dsimp only at h ⊢;simp only [q] at h ⊢;injection h with _ _ h3 _;rw [h3]
 |some i=>dsimp only at h ⊢;simp only [q] at h ⊢;injection h with _ _ h3 _;rw [h3]
theorem b_.is {fs fs':List (Str×AV)} {x:Str} {v:AV} (hp:b_ fs x v fs') {es:List DictEntry} (h:dS fs es) (nd:(fs.map (·.1)).Nodup) (hz:fs.length<=100) (c:Value) (hsh:Int) (tk:Tok) (hc:AV.Is v c):
 dS fs' (putL x hsh (.str x tk) c es)/\(fs'.map (·.1)).Nodup/\fs'.length<=100:=by
 cases hp with
 |set q=>
  refine(aN (h.put q nd c hsh tk hc) (by rw [q.keys];exact nd) ?_);have:=congrArg List.length q.keys;simp only [Tx] at this;exact Nt hz this
 |new ks e1 e2 e3=>
  have hx:x∉fs.map (·.1):=fun q=>by
   rw [e1] at q;have:=List.contains_iff_mem.mpr q;rw [e2] at this;cases this
  refine(aN (h.add c hsh tk hc hx) ?_ (by rw [Tf];exact e3));rw [TE];exact TH.mpr (aN nd (by exact Tb rfl) (fun a ha b hb e=>hx (by simp at hb;rw [←hb,←e];exact ha)))
theorem At.inst_at {P:World} {h:Heap} {a C dx:Addr} {fs:List (Str×AV)} (x:(AO.inst C dx fs).At P h a):
 ∃ox es n sl,InstAt h a ox C (some ⟨.type "dict",none,.dict es n,sl⟩)/\ox.dict=some dx/\h.get? dx=some ⟨.type "dict",none,.dict es n,sl⟩/\dS fs es.toList/\(fs.map (·.1)).Nodup/\fs.length<=100:=by
 (refine a0 (x) fun j' El=>dM El fun es n sl' La=>cU La fun e' f nd z=>?_;refine ax (j') fun sl e=>?_);exact(ge _ es n sl' (bF ⟨e,rfl,rfl,e'⟩ rfl e' f nd z))
structure fE (C:Addr) (x:Str):Prop where
 all:∀w:World,hasDictIn (hd.heap_1 w.params) C=true/\findIn (hd.heap_1 w.params) (.ref C) "__getattribute__"=some (some (.builtin "object.__getattribute__"))/\
  findIn (hd.heap_1 w.params) (.ref C) x=some none/\findIn (hd.heap_1 w.params) (.ref C) "__setattr__"=some (some (.builtin "object.__setattr__"))/\
  plainOver (hd.heap_1 w.params) C=true/\takerIn (hd.heap_1 w.params) C x=some none
structure gc (C:Addr) (x:Str) (f:Addr):Prop where
 all:∀w:World,findIn (hd.heap_1 w.params) (.ref C) "__getattribute__"=some (some (.builtin "object.__getattribute__"))/\findIn (hd.heap_1 w.params) (.ref C) "__getattr__"=some none/\
  findIn (hd.heap_1 w.params) (.ref C) x=some (some (.ref f))/\typeIn (hd.heap_1 w.params) (.ref f)=some (.type "function")/\keepIn (hd.heap_1 w.params) (.ref f)=true
section
variable {F:aY} {Φ:Fx F} {g:GH} {vs:LV} {an:LD} {E:ET}
theorem aZ.X {st:Bool} {s:Shared} (S:aZ Φ st g s vs an):(hd.heap_1 Φ.w.params).In s.heap:=Φ.wd.X.keeps S.1.hs.H
noncomputable def nL (Φ:Fx F) (g:GH) (vs:LV) (an:LD) (o:AV) (x:Str) (Q:QT AV) (E:ET):Prop:=∀vo,AV.Is o vo->TV Φ g vs an (getAttr vo x true) Q E
noncomputable abbrev rH (Φ:Fx F) (x:Str) (Q:QT AV) (E:ET):QT AV:=fun o g vs an=>nL Φ g vs an o x Q E
theorem Cp {value:Expr} {x:Str} {pos:Pos} {Q:QT AV} (h:TV Φ g vs an (eval value Φ.env) (rH Φ x Q E) E)
 (he:eval (.Attribute value x pos) Φ.env=(do
  let o ←eval value Φ.env
  standAt pos.atName
  let r ←holding [o] (getAttr o x true)
  letTemporaryGo value o r
  pure r)) (ht:∀o r,letTemporaryGo value o r=pure ()):TV Φ g vs an (eval (.Attribute value x pos) Φ.env) Q E:=
 fun _ S=>qj (he:=he) (ht:=ht) (h.use S fun _ _ _ _ _ _ S1 r1 q1=>q1 _ r1 _ S1)
noncomputable def AV.handed:AV->Bool
 | .builtin _=>false
 |_=>true
theorem AV.Is.handed {a:AV} {v:Value} (r:AV.Is a v) (h:a.handed=true):handedIn v=true:=by
 cases a with
 |builtin=>cases h
 |int|bytes|str=>(refine ax (r) fun t j'=>?_;subst j');rfl
 |_=>cases r;rfl
noncomputable def bM (g:GH) (an:LD) (p:Addr×AO):Prop:=p∈an\/g p
theorem bM.at {st:Bool} {h:Heap} (S:St Φ st g h vs an) {p:Addr×AO} (x:bM g an p):p.2.At Φ.w h p.1:=x.elim (S.hs.ledAt p) (S.hs.gAt p)
theorem eY {a C dx:Addr} {fs:List (Str×AV)} {x:Str} {v:AV} {Q:QT AV} (hm:bM g an (a,.inst C dx fs)) (hf:(x,v)∈fs) (K:fE C x) (h:Q v g vs an) (hh:v.handed=true:=by rfl):
 nL Φ g vs an (.ref a) x Q E:=by
 rintro _ rfl s S;refine eF (K.all Φ.w) fun k1 k2 k3 k4 k5 k6=>?_;refine eT (At.inst_at (hm.at S.1)) fun ox es n sl I _ _ f nd z=>?_;refine aw (f.look nd x v hf) fun e he hv=>?_;refine .of (get_value S.X I k2 (findObj_own k1 k3 rfl (v:=e.val) ?_) (hv.handed hh) ⟨v,g,vs,an,S,hv,h⟩);show(match es.toList.find? _ with|some e=>some (some e.val)|none=>_)=_;rw [he]
theorem yg {prog:Program} {w:World} {A:Around} {R:Result->Shared->Prop} {s:Shared} {K:Frag} {x C dx:Addr} {ox:Obj} {es:Array DictEntry} {n:Nat} {sl:Array (Option Value)} {name:Str} {tk:Tok} {v:Value}
 (X:K.In s.heap) (I:InstAt s.heap x ox C (some ⟨.type "dict",none,.dict es n,sl⟩)) (hd:ox.dict=some dx) (D:s.heap.get? dx=some ⟨.type "dict",none,.dict es n,sl⟩)
 (hp:plainOver K C=true) (ht:takerIn K C name=some none) (hh:hasDictIn K C=true) (hr:es.toList.any (·.refKey)=false) (hz:es.size<=1000)
 (h:R (.ok (.ret .none)) {s with heap:=s.heap.update dx (Obj.putName name (PyData.keyHash w.params name) (.str name s.toks) v),toks:=s.toks+1}):
 codeAny (model prog w) A (.call (.builtin "object.__setattr__") ⟨[.ref x,.str name tk,v],[]⟩) R s:=by
 refine osa_open X I hp ht fun b=>?_;refine aw (any_some hh) fun cd hc K6=>?_;obtain⟨hx,hcl,hn,-⟩:=I;obtain⟨oc,odi,oda,osl⟩:=ox;dsimp only at hcl hd;subst hcl hd;refine Te (Tm (Te (Te (wpAny_loadPart hx (Te ((looks_clsIn X hc).here ?_))))));rw [K6];refine Tm (a:=some dx) (Te (Tm (Te ?_)));unfold nsSet;refine Te (Te (wpAny_askSetting (Tm (Te (wpAny_mkText (Te (wpAny_loadPart D ?_)))))));dsimp only;have c:(!es.any (·.key.isStr name)&&es.any (·.refKey))=false:=by
  rw [←Array.any_toList,←Array.any_toList,hr,Bool.and_false]
 rw [aRefKeyMayBeTheName_at,c];refine wpAny_updatePart D ?_;have D':(s.heap.update dx (Obj.putName name (PyData.keyHash w.params name) (.str name s.toks) v)).get? dx=_:=Heap.get?_update_self _ D (by rw [eZ];rfl);refine Te (wpAny_lookBehind D' (by
  rw [eZ];refine pastItsLine_dict ?_;rw [TK,sizeLine_eq];have:(putL name (PyData.keyHash w.params name) (.str name s.toks) v es.toList).length<=es.toList.length+1:=by
   generalize es.toList=l;induction l with
   |nil=>exact Tj _
   |cons e r ih=>unfold putL;split<;>simp only [Tu]<;>(first|exact Nr|exact Nq ih)
  have e:=TR (xs:=es);exact Np hz this e) ?_)
 exact Tm h
noncomputable def pw (Φ:Fx F) (g:GH) (vs:LV) (an:LD) (o:AV) (x:Str) (v:AV) (Q:QT Unit) (E:ET):Prop:=∀vo vv,AV.Is o vo->AV.Is v vv->TU Φ g vs an (setAttr vo x vv) Q E
inductive ay:LD->Addr->AO->AO->LD->Prop
 |head {a o o' r}:ay ((a,o)::r) a o o' ((a,o')::r)
 |tail {p r a o o' r'}:ay r a o o' r'->ay (p::r) a o o' (p::r')
theorem ay.mem {an led':LD} {a:Addr} {o o':AO} (h:ay an a o o' led'):(a,o)∈an:=by
 induction h with
 |head=>exact SZ ..
 |tail _ ih=>exact Td _ ih
theorem ay.adrs {an led':LD} {a:Addr} {o o':AO} (h:ay an a o o' led') (he:o'.addrs a=o.addrs a):aD led'=aD an:=by
 induction h with
 |head=>show _++_=_++_;rw [he]
 |tail _ ih=>show _++_=_++_;rw [ih he]
theorem ay.of {an led':LD} {a:Addr} {o o':AO} (h:ay an a o o' led'):(aD an).Nodup->∀p∈led',p=(a,o')\/(p∈an/\∀b∈p.2.addrs p.1,b∉o.addrs a):=by
 induction h with
 |@head a o o' r=>
  intro nd p hp;refine bp (TH.mp (show(o.addrs a++aD r).Nodup from nd)) fun n1 n2 n3=>?_;rcases T4.mp hp with q|q
  ·exact .inl q
  ·exact .inr ⟨Td _ q,fun b hb hc=>n3 b hc b (bU.mpr (aj p q hb)) rfl⟩
 |@tail p0 r a o o' r' h ih=>
  intro nd p hp;refine bp (TH.mp (show(p0.2.addrs p0.1++aD r).Nodup from nd)) fun n1 n2 n3=>?_;rcases T4.mp hp with q|q
  ·subst q;exact .inr ⟨SZ ..,fun b hb hc=>n3 b hb b (bU.mpr (aj _ h.mem hc)) rfl⟩
  ·rcases ih n2 p q with q|q
   ·exact .inl q
   ·exact .inr ⟨Td _ q.1,q.2⟩
theorem St.upd {st:Bool} {h h':Heap} {led':LD} {a:Addr} {o o':AO} (S:St Φ st g h vs an) (U:ay an a o o' led') (he:o'.addrs a=o.addrs a) (k:∀b y,b∉o.addrs a->h.get? b=some y->h'.get? b=some y)
 (hat:o'.At Φ.w h' a):St Φ st g h' vs led':=by
 have I':∀b∈o.addrs a,b∈aD an:=fun b hb=>bU.mpr (aj _ U.mem hb);(refine aw (S.loc) fun m j' hv=>?_;refine eu (j') fun oL es ep eo r=>?_);refine S.next (o.addrs a) (fun b hb=>.inr (I' b hb)) k (aj m (dI oL es ep (k _ _ (fun q=>S.Ll (I' _ q)) eo) r) hv) rfl (fun p hp=>?_) (by rw [U.adrs he];exact S.hs.nd) fun b hb=>.inl (by rw [←U.adrs he];exact hb);rcases U.of S.hs.nd p hp with rfl|⟨q,n⟩
 ·exact hat
 ·exact(S.hs.ledAt p q).congr fun b hb y e=>k b y (n b hb) e
theorem bR {a C dx:Addr} {fs fs':List (Str×AV)} {x:Str} {v:AV} {led':LD} {Q:QT Unit} (U:ay an a (.inst C dx fs) (.inst C dx fs') led') (hf:b_ fs x v fs') (K:fE C x) (h:Q () g vs led'):
 pw Φ g vs an (.ref a) x v Q E:=by
 rintro _ vv rfl rv s S;refine eF (K.all Φ.w) fun k1 k2 k3 k4 k5 k6=>?_;have hat:=S.1.hs.ledAt _ U.mem;refine eT (At.inst_at hat) fun ox es n sl I hdx D f nd z=>?_;refine .of ?_;refine set_plain S.X I k4 (yg (s:={s with toks:=s.toks+1}) S.X I hdx D k5 k6 k1 f.noRef (by have:=f.length;have e:=TR (xs:=es);exact No z this e) ?_);have Fd:dx≠a:=by
  have:=S.1.hs.nd;refine iy (List.append_of_mem U.mem) fun l1 l2 e=>?_;rw [e,ce] at this;have:=(TH.mp (TH.mp this).2.1).1;have:=(TA.mp this).1;exact fun q=>this (by rw [q];exact SZ ..)
 refine⟨(),g,vs,led',⟨S.1.upd U rfl (fun b y hb e=>?_) ?_,S.2⟩,rfl,h⟩
 ·exact(T6 _ _ fun q=>hb (by rw [←q];exact Td _ (SZ ..))).trans e
 ·(refine a0 (hat) fun j' _=>?_;refine ax (j') fun slx ex=>?_);refine bp (hf.is f nd z vv (PyData.keyHash Φ.w.params x) (s.toks+1) rv) fun p1 p2 p3=>?_;refine(cN ⟨slx,(T6 _ _ Fd).trans ex⟩ (bc _ _ _ (bJ ((Heap.get?_update_self _ D (by rw [eZ];rfl)).trans (congrArg some (eZ ..))) ?_ p2 p3)));exact p1
end
section
variable {F:aY} {Φ:Fx F} {g:GH} {vs:LV} {an:LD} {E:ET}
theorem lH (an:LD) (p:Addr×AO):aD (an++[p])=aD an++p.2.addrs p.1:=by
 rw [ce];show _++(_++[])=_;rw [T7]
theorem St.alloc {st:Bool} {h h':Heap} {a:Addr} {o:AO} (S:St Φ st g h vs an) (hn:∀b∈o.addrs a,h.get? b=none) (hd:(o.addrs a).Nodup) (k:∀b y,h.get? b=some y->h'.get? b=some y) (hat:o.At Φ.w h' a):
 St Φ st g h' vs (an++[(a,o)]):=by
 (refine aw (S.loc) fun m j' hv=>?_;refine eu (j') fun oL es ep eo r=>?_);have nin:∀b∈o.addrs a,b∉aD an:=fun b hb hc=>by
  refine aw (bU.mp hc) fun p hp q=>?_;refine ax ((S.hs.ledAt p hp).there b q) fun y hy=>?_;rw [hn b hb] at hy;cases hy
 refine S.next [] (fun _ hb=>nomatch hb) (fun b y _ e=>k b y e) (aj m (dI oL es ep (k _ _ eo) r) hv) rfl (fun p hp=>?_) ?_ fun b hb=>?_
 ·rcases T3.mp hp with hp|hp
  ·exact(S.hs.ledAt p hp).congr fun b _ y e=>k b y e
  ·rw [Ti.mp hp];exact hat
 ·rw [lH];exact TH.mpr (aN S.hs.nd hd (fun x hx y hy e=>nin y hy (e▸hx)))
 ·rw [lH] at hb;rcases T3.mp hb with hb|hb
  ·exact .inl hb
  ·exact .inr (hn b hb)
noncomputable abbrev N0 (Q:QT AV):QT (List AV):=fun xs g vs an=>xs.length<=1000/\∀a,a∉aD an->Q (.ref a) g vs (an++[(a,.tuple xs)])
noncomputable abbrev N7 (Q:QT AV):QT (List AV):=fun xs g vs an=>xs.length<=1000/\∀a,a∉aD an->Q (.ref a) g vs (an++[(a,.list xs)])
theorem bV {F1 k pos} {Q:QT AV} (h:TL Φ g vs an (spliced (backTo pos (starEach F1 Φ.env))) (N0 Q) E):
 TV Φ g vs an (eval (.Tuple F1 k pos) Φ.env) Q E:=
 fun _ S=>y_ (h.use S fun cs s1 xs g1 Lu KE S1 r1 zp11=>a0 zp11 fun hz q=>by
  have Ss:s1.heap.get? s1.heap.objs.size=none:=T9 (Tj _);have S2:St Φ Φ.strict g1 _ Lu (KE++[(s1.heap.objs.size,.tuple xs)]):=S1.1.alloc (o:=.tuple xs) (a:=s1.heap.objs.size) (h':=s1.heap.push {cls:=.type "tuple",data:=.seq cs.toArray}) (fun b hb=>by rw [Ti.mp hb];exact Ss) (by exact Tb rfl)
   (fun b y e=>Tp _ e) ⟨cs.toArray,0,#[],Heap.get?_push_size _ rfl,r1⟩
  refine⟨by rw [←r1.length,sizeLine_eq];omega,.ref s1.heap.objs.size,g1,Lu,_,⟨S2,S1.2⟩,rfl,q _ fun hc=>?_⟩;refine aw (bU.mp hc) fun p hp hq=>?_;refine ax ((S1.1.hs.ledAt p hp).there _ hq) fun y hy=>?_;rw [Ss] at hy;cases hy)
theorem bL {F1 pos} {Q:QT AV} (h:TL Φ g vs an (spliced (backTo pos (starEach F1 Φ.env))) (N7 Q) E):
 TV Φ g vs an (eval (.List F1 pos) Φ.env) Q E:=
 fun _ S=>CN (h.use S fun cs s1 xs g1 Lu KE S1 r1 zp55=>a0 zp55 fun hz q=>by
  have Ss:s1.heap.get? s1.heap.objs.size=none:=T9 (Tj _);have S2:St Φ Φ.strict g1 _ Lu (KE++[(s1.heap.objs.size,.list xs)]):=S1.1.alloc (o:=.list xs) (a:=s1.heap.objs.size) (h':=s1.heap.push {cls:=.type "list",data:=.seq cs.toArray}) (fun b hb=>by rw [Ti.mp hb];exact Ss) (by exact Tb rfl)
   (fun b y e=>Tp _ e) ⟨cs.toArray,0,#[],Heap.get?_push_size _ rfl,r1⟩
  refine⟨by rw [←r1.length,sizeLine_eq];omega,.ref s1.heap.objs.size,g1,Lu,_,⟨S2,S1.2⟩,rfl,q _ fun hc=>?_⟩;refine aw (bU.mp hc) fun p hp hq=>?_;refine ax ((S1.1.hs.ledAt p hp).there _ hq) fun y hy=>?_;rw [Ss] at hy;cases hy)
theorem ez {l m:LD} (h:l.Perm m):(aD l).Perm (aD m):=by
 induction h with
 |nil=>exact .nil
 |cons p _ ih=>exact List.Perm.append_left _ ih
 |swap p q l=>
  show(q.2.addrs q.1++(p.2.addrs p.1++aD l)).Perm (p.2.addrs p.1++(q.2.addrs q.1++aD l));rw [←Tw,←Tw];exact List.Perm.append_right _ List.perm_append_comm
 |trans _ _ a b=>exact a.trans b
theorem ij {l m:LD} (h:l.Sublist m):(aD l).Sublist (aD m):=by
 induction h with
 |slnil=>exact .slnil
 |cons a _ ih=>exact ih.trans (List.sublist_append_right _ _)
 |cons_cons a _ ih=>exact List.Sublist.append (List.Sublist.refl _) ih
theorem TG.turn {α β:Type} {R:β->α->Prop} {t:Sem α} {Q:QT β} {led':LD} (hp:an.Perm led') (h:TG R Φ g vs led' t Q E):TG R Φ g vs an t Q E:=
 fun s S=>h s ⟨S.1.drop (fun p hq=>hp.mem_iff.mpr hq) ((ez hp).nodup S.1.hs.nd),S.2⟩
theorem TG.less {α β:Type} {R:β->α->Prop} {t:Sem α} {Q:QT β} {led':LD} (hp:led'.Sublist an) (h:TG R Φ g vs led' t Q E):TG R Φ g vs an t Q E:=
 fun s S=>h s ⟨S.1.drop (fun p hq=>hp.subset hq) (List.Nodup.sublist (ij hp) S.1.hs.nd),S.2⟩
noncomputable abbrev Be (Φ:Fx F) (x:Str) (v:AV) (Q:QT Unit) (E:ET):QT AV:=fun ov g vs an=>pw Φ g vs an ov x v Q E
noncomputable abbrev wo (Φ:Fx F) (o:Expr) (x:Str) (Q:QT AF) (E:ET):QT AV:=fun v g vs an=>TV Φ g vs an (eval o Φ.env) (Be Φ x v (tm Q) E) E
theorem kt {o x pos' value pos} {Q:QT AF} (h:TV Φ g vs an (eval value Φ.env) (wo Φ o x Q E) E)
 (hs:swapsWith value (some (.Attribute o x pos')) pos.line Φ.env=pure false):TF Φ g vs an (exec (.Assign [.Attribute o x pos'] value pos) Φ.env) Q E:=
 fun _ S=>kD (hs:=hs) (h.use S fun _ _ _ _ _ _ S1 r1 q1=>q1.use S1 fun _ _ _ _ _ _ S2 r2 q2=>(q2 _ _ r2 r1).use S2 fun _ _ _ _ _ _ S3 _ q3=>⟨.next,_,_,_,S3,rfl,q3⟩)
noncomputable def lr (Φ:Fx F) (g:GH) (vs:LV) (an:LD) (t:Value->Sem Unit) (v:AV) (Q:QT Unit) (E:ET):Prop:=∀c,AV.Is v c->TU Φ g vs an (t c) Q E
noncomputable def pz (Φ:Fx F) (g:GH) (vs:LV) (an:LD) (ts:List (Value->Sem Unit)) (xs:List AV) (Q:QT Unit) (E:ET):Prop:=∀cs,aA xs cs->TU Φ g vs an (assignInOrder ts cs) Q E
theorem cu {Q:QT Unit} (h:Q () g vs an):pz Φ g vs an [] [] Q E:=by
 intro cs r s S;cases r;exact aG ⟨(),_,_,_,S,rfl,h⟩
noncomputable abbrev Qw (Φ:Fx F) (ts:List (Value->Sem Unit)) (xs:List AV) (Q:QT Unit) (E:ET):QT Unit:=fun _ g vs an=>pz Φ g vs an ts xs Q E
theorem aW {t ts x xs} {Q:QT Unit} (h:lr Φ g vs an t x (Qw Φ ts xs Q E) E):pz Φ g vs an (t::ts) (x::xs) Q E:=by
 intro cs r s S;cases r with
 |cons r rs=>exact mh ((h _ r).use S fun _ _ _ _ _ _ S1 _ q1=>q1 _ rs _ S1)
theorem bt {x pos v} {Q:QT Unit} (h:∃Ab,cM vs x v Ab/\Q () g Ab an):lr Φ g vs an (assign (.Name x pos) Φ.env) v Q E:=by
 intro c r s S;refine aw (h) fun Ab sv q=>?_;show al _ _ (do standAt pos;bindName Φ.env x c) _ _ s;exact bo (j4 ((mL sv r q) s S))
theorem gj {o x pos v} {Q:QT Unit} (h:TV Φ g vs an (eval o Φ.env) (Be Φ x v Q E) E):lr Φ g vs an (assign (.Attribute o x pos) Φ.env) v Q E:=by
 intro c r s S;exact nt (h.use S fun _ _ _ _ _ _ S1 r1 q1=>(q1 _ _ r1 r).use S1 fun _ _ b _ _ _ S2 r2 q2=>⟨b,_,_,_,S2,rfl,q2⟩)
theorem aJ {x v} {Q:QT Unit} (h:∃Ab,cM vs x v Ab/\Q () g Ab an):lr Φ g vs an (fun c=>bindName Φ.env x c) v Q E:=by
 intro c r s S;refine aw (h) fun Ab sv q=>?_;exact j4 ((mL sv r q) s S)
theorem aZ.ext {st:Bool} {s:Shared} {h':Heap} (S:aZ Φ st g s vs an) (k:Heap.ExtBut s.heap.objs.size s.heap h'):aZ Φ st g {s with heap:=h'} vs an:=by
 refine⟨?_,S.2⟩;(refine aw (S.1.loc) fun m j' hv=>?_;refine eu (j') fun oL es ep eo r=>?_);have kk:∀b y,s.heap.get? b=some y->h'.get? b=some y:=fun b y e=>k b y (Nat.ne_of_lt (Heap.lt_size e)) e;exact S.1.next [] (fun _ hb=>nomatch hb) (fun b y _ e=>kk b y e) (aj m (dI oL es ep (kk _ _ eo) r) hv) rfl (fun p hp=>(S.1.hs.ledAt p hp).congr fun b _ y e=>kk b y e) S.1.hs.nd fun b hb=>.inl hb
noncomputable abbrev Da (Φ:Fx F) (F1:List Expr) (Q:QT AF) (E:ET):QT AV:=fun v g vs an=>∃a xs,v= .ref a/\bM g an (a,.tuple xs)/\(assignEach F1 Φ.env).length=xs.length/\
 pz Φ g vs an ((assignEach F1 Φ.env).map (·.2)) xs (tm Q) E
noncomputable abbrev Ob (Φ:Fx F) (F1:List Expr) (Q:QT AF) (E:ET):QT (List AV):=fun xs g vs an=>(assignEach F1 Φ.env).length=xs.length/\xs.length<=1000/\
 pz Φ g vs an ((assignEach F1 Φ.env).map (·.2)) xs (tm Q) E
noncomputable abbrev Oc (Φ:Fx F) (names:List Str) (Q:QT AF) (E:ET):QT (List AV):=fun xs g vs an=>names.length=xs.length/\xs.length<=1000/\
 pz Φ g vs an (names.reverse.map fun n=>bindName Φ.env n) xs.reverse (tm Q) E
theorem dj {F1 k tpos value pos} {Q:QT AF}
 (h:TV Φ g vs an (eval value Φ.env) (Da Φ F1 Q E) E)
 (hstar:(assignEach F1 Φ.env).findIdx? (·.1)=none:=by rfl)
 (hs:swapsWithSole [.Tuple F1 k tpos] value pos.line Φ.env=pure false:=by rfl) (hw:swappedStores [.Tuple F1 k tpos] value Φ.env=pure none:=by rfl):
 TF Φ g vs an (exec (.Assign [.Tuple F1 k tpos] value pos) Φ.env) Q E:=
 fun _ S=>nu (he:=by rfl) (hs:=hs) (hw:=hw) (h.use S fun c s1 v g1 Lu KE S1 r1 zp43=>dl zp43 fun a xs e hh hl q=>by
  subst e;cases r1;obtain⟨cs,n,sl,ec,ra⟩:=hh.at S1.1;refine jG Φ.hh (fh _ ec rfl n rfl) (by rw [hl,ra.length,TR]) hstar fun h' he=>?_;exact(q _ ra).use (S1.ext he) fun _ _ _ _ _ _ S2 _ q2=>⟨.next,_,_,_,S2,rfl,q2⟩)
theorem l_ {F1 k tpos on k2 vpos pos} {Q:QT AF}
 (h:TL Φ g vs an (spliced (backTo vpos (starEach on Φ.env))) (Ob Φ F1 Q E) E)
 (hstar:(assignEach F1 Φ.env).findIdx? (·.1)=none)
 (hs:swapsWithSole [.Tuple F1 k tpos] (.Tuple on k2 vpos) pos.line Φ.env=pure false) (hw:swappedStores [.Tuple F1 k tpos] (.Tuple on k2 vpos) Φ.env=pure none):
 TF Φ g vs an (exec (.Assign [.Tuple F1 k tpos] (.Tuple on k2 vpos) pos) Φ.env) Q E:=
 dj (hstar:=hstar) (hs:=hs) (hw:=hw) (bV (h.mono (fun xs g vs an zp45=>bp zp45 fun h1 h2 h3=>⟨h2,fun a _=>(bu a xs rfl (.inl (To _ (SZ ..))) h1 (fun cs r=>(h3 cs r).less (List.sublist_append_left _ _)))⟩) fun _ _ _ z=>z))
theorem bX {F1 k tpos on k2 vpos pos} {names:List Str} {Q:QT AF}
 (h:TL Φ g vs an (spliced (backTo vpos (starEach on Φ.env))) (Oc Φ names Q E) E)
 (hs:swapsWithSole [.Tuple F1 k tpos] (.Tuple on k2 vpos) pos.line Φ.env=pure false:=by rfl) (hw:swappedStores [.Tuple F1 k tpos] (.Tuple on k2 vpos) Φ.env=pure (some names):=by rfl):
 TF Φ g vs an (exec (.Assign [.Tuple F1 k tpos] (.Tuple on k2 vpos) pos) Φ.env) Q E:=
 fun _ S=>lx (hs:=hs) (hw:=hw) ((bV (Q:=fun v g vs an=>∃a xs,v= .ref a/\(a,AO.tuple xs)∈an/\names.length=xs.length/\pz Φ g vs an (names.reverse.map fun n=>bindName Φ.env n) xs.reverse (fun _ g vs an=>Q .next g vs an) E)
  (h.mono (fun xs g vs an zp6=>bp zp6 fun h1 h2 h3=>⟨h2,fun a _=>(bu a xs rfl (To _ (SZ ..)) h1 (fun cs r=>(h3 cs r).less (List.sublist_append_left _ _)))⟩) fun _ _ _ z=>z)).use S fun c s1 v g1 Lu KE S1 r1 zp20=>dl zp20 fun a xs e hh hl q=>by
  subst e;cases r1;obtain⟨cs,n,sl,ec,ra⟩:=S1.1.hs.ledAt _ hh;have hsz:names.length=cs.size:=by rw [hl,ra.length,TR]
  rw [hsz];refine .of ?_;refine PyProof.Rows.unpackItems_tuple Φ.hh (fh _ ec rfl n rfl) fun h' he=>?_;exact(q _ ra.rev).use (S1.ext he) fun _ _ _ _ _ _ S2 _ q2=>⟨.next,_,_,_,S2,rfl,q2⟩)
noncomputable def bB (a:AV):Prop:=match a with
 | .builtin _| .type _=>True
 | .ref f=>∀w:World,keepIn (hd.heap_1 w.params) (.ref f)=true
 |_=>False
theorem bB.keeps {a:AV} {c:Value} (h:bB a) (r:AV.Is a c) (w:World) (hp:Heap) (X:(hd.heap_1 w.params).In hp):
 ∃k,(k=Keeper.frame\/k=Keeper.machine\/k=Keeper.boundFrame)/\Looks (model PG w) hp (keeperOf c) k:=by
 cases a with
 |builtin n=>cases r;exact(aj .machine (.inr (.inl rfl)) .now)
 |type n=>cases r;exact(aj .machine (.inr (.inl rfl)) .now)
 |ref f=>cases r;exact keeps_K (h w) hp X
 |_=>exact h.elim
theorem l8 {pos:Pos} {f:AV} {c:Value} {as:List AV} {first:List Value} {args:List Expr} {Q:QT AV} (hf:bB f) (rf:AV.Is f c) (ra:aA as first)
 (h:TL Φ g vs an (spliced (backTo pos (starEach args Φ.env))) (fun l g vs an=>bG Φ g vs an f (as++l) Q E) E) (hplain:(backTo pos (starEach args Φ.env)).all (fun x=>!x.1)=true):
 TV Φ g vs an (callWith pos c first (backTo pos (starEach args Φ.env)) []) Q E:=by
 intro s S;have hp:((backTo pos (starEach args Φ.env)).any (·.1))=false:=by
  rw [List.any_eq_false];intro x hx;have:=TW.mp hplain x hx;simpa using this
 refine j3 (P:=fun h=>(hd.heap_1 Φ.w.params).In h) (by rw [hp];rfl) (fun h X=>hf.keeps rf Φ.w h X) ?_;revert hplain h;generalize backTo pos (starEach args Φ.env)=l at hp ⊢;intro h hplain;cases l with
 |nil=>exact gL (h.use S fun _ _ _ _ _ _ S1 r1 q1=>⟨S1.X,(q1 _ _ rf (ra.append r1)) _ S1⟩)
 |cons x r=>
  obtain⟨b,t⟩:=x;have hb:b=false:=by have:=TW.mp hplain (b,t) (SZ ..);simpa using this
  subst hb;exact j2 (h.use S fun _ _ _ _ _ _ S1 r1 q1=>⟨S1.X,(q1 _ _ rf (ra.append r1)) _ S1⟩)
end
section
variable {F:aY} {Φ:Fx F} {g:GH} {vs:LV} {an:LD} {E:ET}
noncomputable abbrev tu (Φ:Fx F) (f:AV) (Q:QT AV) (E:ET):QT (List AV):=fun l g vs an=>bG Φ g vs an f l Q E
noncomputable abbrev wu (Φ:Fx F) (args:List Expr) (pos:Pos) (Q:QT AV) (E:ET):QT AV:=fun f g vs an=>bB f/\TL Φ g vs an (spliced (backTo pos (starEach args Φ.env))) (tu Φ f Q E) E
theorem Co {x np args pos} {Q:QT AV} (h:TV Φ g vs an (eval (.Name x np) Φ.env) (wu Φ args pos Q E) E)
 (hplain:(backTo pos (starEach args Φ.env)).all (fun x=>!x.1)=true):TV Φ g vs an (eval (.Call (.Name x np) args [] pos) Φ.env) Q E:=
 fun _ S=>j7 (h.use S fun _ _ _ _ _ _ S1 r1 zp20=>a0 zp20 fun k q1=>l8 k r1 .nil q1 hplain _ S1)
noncomputable def ee (Φ:Fx F) (g:GH) (vs:LV) (an:LD) (o:AV) (x:Str) (Q:QT (AV×List AV)) (E:ET):Prop:=
 ∀vo pl,AV.Is o vo->TG (fun(p:AV×List AV) (c:Value×List Value)=>AV.Is p.1 c.1/\aA p.2 c.2) Φ g vs an (getMethod vo x pl) Q E
noncomputable abbrev Qv (Φ:Fx F) (f:AV) (as:List AV) (Q:QT AV) (E:ET):QT (List AV):=fun l g vs an=>bG Φ g vs an f (as++l) Q E
noncomputable abbrev Qu (Φ:Fx F) (args:List Expr) (pos:Pos) (Q:QT AV) (E:ET):QT (AV×List AV):=fun fx g vs an=>bB fx.1/\TL Φ g vs an (spliced (backTo pos (starEach args Φ.env))) (Qv Φ fx.1 fx.2 Q E) E
noncomputable abbrev Bg (Φ:Fx F) (x:Str) (args:List Expr) (pos:Pos) (Q:QT AV) (E:ET):QT AV:=fun ov g vs an=>ee Φ g vs an ov x (Qu Φ args pos Q E) E
theorem mM {o x Jn args pos} {pl:Sem Bool} {Q:QT AV}
 (h:TV Φ g vs an (eval o Φ.env) (Bg Φ x args pos Q E) E)
 (he:eval (.Call (.Attribute o x Jn) args [] pos) Φ.env=(do
  let ov ←eval o Φ.env
  standAt Jn.atName
  let (f,first) ←holding [ov] (getMethod ov x pl)
  callWith pos f first (backTo pos (starEach args Φ.env)) []))
 (hplain:(backTo pos (starEach args Φ.env)).all (fun x=>!x.1)=true):TV Φ g vs an (eval (.Call (.Attribute o x Jn) args [] pos) Φ.env) Q E:=
 fun _ S=>pM (he:=he) (h.use S fun _ _ _ _ _ _ S1 r1 q1=>(q1 _ pl r1).use S1 fun _ _ _ _ _ _ S2 r2 zp2=>a0 zp2 fun k q2=>l8 k r2.1 r2.2 q2 hplain _ S2)
theorem c_ {a C dx f:Addr} {fs:List (Str×AV)} {x:Str} {Q:QT (AV×List AV)} (hm:bM g an (a,.inst C dx fs)) (K:gc C x f) (hx:∃ks,fs.map (·.1)=ks/\ks.contains x=false) (h:Q (.ref f,[.ref a]) g vs an):
 ee Φ g vs an (.ref a) x Q E:=by
 rintro _ pl rfl s S;refine eV (K.all Φ.w) fun k1 k2 k3 k4 _=>?_;refine eT (At.inst_at (hm.at S.1)) fun ox es n sl I _ _ f' nd z=>?_;refine aw (hx) fun ks e1 e2=>?_;have hmiss:es.toList.find? (·.key.isStr x)=none:=f'.miss x fun q=>by
  rw [e1] at q;have:=List.contains_iff_mem.mpr q;rw [e2] at this;cases this
 refine .of (method_fn S.X I k1 k2 k3 k4 ?_ ⟨(.ref f,[.ref a]),g,vs,an,S,⟨rfl,.cons rfl .nil⟩,h⟩);show(match es.toList.find? _ with|some e=>some (some e.val)|none=>if es.toList.any _ then none else some none).map _=_;rw [hmiss,f'.noRef];rfl
theorem gn {a:AV} {T id:String} {x:Str} {Q:QT (AV×List AV)} (pa:PlainAttrs T) (slot:Slot T x id) (hty:typeOf (.builtin id)=pure (.type "method_descriptor"))
 (hT:∀(s:Shared) v,aZ Φ Φ.strict g s vs an->AV.Is a v->s.TypeIs v T/\∀b,v= .ref b->∃o,s.heap.get? b=some o/\o.dict=none) (h:Q (.builtin id,[a]) g vs an):ee Φ g vs an a x Q E:=by
 intro vo pl ra s S;refine a0 (hT s vo S ra) fun t1 t2=>?_;exact .of (getMethod_builtin t1 pa slot hty t2 ⟨(.builtin id,[a]),g,vs,an,S,⟨rfl,.cons ra .nil⟩,h⟩)
theorem qX {a:Addr} {xs:List AV} (hm:bM g an (a,.list xs)):∀(s:Shared) v,aZ Φ Φ.strict g s vs an->AV.Is (.ref a) v->s.TypeIs v "list"/\∀b,v= .ref b->∃o,s.heap.get? b=some o/\o.dict=none:=by
 rintro s _ S rfl;obtain⟨cs,n,sl,e,_⟩:=hm.at S.1;exact⟨(aj _ e rfl),fun b q=>by cases q;exact(aj _ e rfl)⟩
theorem qZ {a:Addr} {xs:List UInt8} (hm:bM g an (a,.barr xs)):∀(s:Shared) v,aZ Φ Φ.strict g s vs an->AV.Is (.ref a) v->s.TypeIs v "bytearray"/\∀b,v= .ref b->∃o,s.heap.get? b=some o/\o.dict=none:=by
 rintro s _ S rfl;refine ax (hm.at S.1) fun sl e=>?_;exact⟨(aj _ e rfl),fun b q=>by cases q;exact(aj _ e rfl)⟩
theorem ue {w:World} {K:Type} [DecidableEq K] {knd:KeyKind PG w K} {a:Addr} {ks:List (K×AV)} {h:Heap} (x:dD knd h a ks):∃o,h.get? a=some o/\o.cls= .type "dict"/\o.dict=none:=by
 refine hV (x) fun _ F8 D r=>?_;refine ax (Heap.dictOf_iff.mp D) fun o El=>a0 El fun e La=>iy La fun es ep zq2=>a0 zq2 fun i _=>?_;exact(eP o e i.1 i.2.1)
theorem qY {a:Addr} {o:AO} (hm:bM g an (a,o)) (ho:(∃ks,o= .dictS ks)\/(∃ks,o= .dictI ks)\/∃ks,o= .dictB ks):∀(s:Shared) v,aZ Φ Φ.strict g s vs an->AV.Is (.ref a) v->s.TypeIs v "dict"/\∀b,v= .ref b->∃o,s.heap.get? b=some o/\o.dict=none:=by
 rintro s _ S rfl;have h:∃o,s.heap.get? a=some o/\o.cls= .type "dict"/\o.dict=none:=by
  rcases ho with⟨ks,rfl⟩|⟨ks,rfl⟩|⟨ks,rfl⟩<;>exact ue (hm.at S.1)
 refine cB (h) fun ob e c d=>?_;exact⟨(aj ob e c),fun b q=>by cases q;exact(aj ob e d)⟩
theorem pA {l:List UInt8}:∀(s:Shared) v,aZ Φ Φ.strict g s vs an->AV.Is (.bytes l) v->s.TypeIs v "bytes"/\∀b,v= .ref b->∃o,s.heap.get? b=some o/\o.dict=none:=by
 (intro s _ S j';refine ax (j') fun t th=>?_;subst th);exact⟨rfl,fun b q=>by cases q⟩
structure Gl (x:Str) (v:AV):Prop where
 all:∀w:World,(∃c,nsIn (hd.heap_1 w.params) mainGlobals x=some (some c)/\AV.Is v c)\/(nsIn (hd.heap_1 w.params) mainGlobals x=some none/\x≠"__name__"/\∃c,bootBuiltins x=some c/\AV.Is v c)
 nd:(x==("__debug__":Str))=false
theorem fT {x pos v} {Q:QT AV} (G:Gl x v) (h:Q v g vs an) (hx:Φ.env.kindOf x=some .globalImplicit:=by rfl):TV Φ g vs an (eval (.Name x pos) Φ.env) Q E:=by
 intro s S;refine eS (Φ.wd.T) fun loose mean mg mb T=>?_;rcases G.all Φ.w with⟨c,e,r⟩|⟨e,hn,c,e2,r⟩
 ·exact .of (Name_function_global F.hk hx (loadGlobal_global (env:=Φ.env) (T.g.keeps S.1.hs.H) (mg_of Φ.wd.X T.g e) ⟨v,g,vs,an,S,r,h⟩) G.nd)
 ·exact .of (Name_function_global F.hk hx (loadGlobal_builtin (env:=Φ.env) (T.g.keeps S.1.hs.H) (mg_none_of Φ.wd.X T.g e) (T.b.keeps S.1.hs.H) ((T.builtins x hn).trans e2) ⟨v,g,vs,an,S,r,h⟩) G.nd)
theorem fO {l:List UInt8} {Q:QT AV} (hz:l.length<=bf) (h:Q (.int l.length) g vs an):bG Φ g vs an (.builtin "len") [.bytes l] Q E:=by
 rintro _ _ rfl ra s S;cases ra with|cons r rs=>cases rs;(refine ax (r) fun t j'=>?_;subst j');exact .of (len_bytes (by simp only [TK];unfold bf at hz;exact AJ hz) ⟨.int l.length,g,vs,an,S,⟨_,rfl⟩,h⟩)
theorem pr {C fI:Addr} {as:List AV} {n:Nat} {Qc:AV->GH->LD->Prop} {Q:QT AV} (hm:∀w:World,makesIn (hd.heap_1 w.params) C=true)
 (hi:∀w:World,findIn (hd.heap_1 w.params) (.ref C) "__init__"=some (some (.ref fI))/\typeIn (hd.heap_1 w.params) (.ref fI)=some (.type "function"))
 (Cc:∀x dx,x∉aD an->∀K9,aA as K9->cz Φ.w Φ.H₀ g [(x,.inst C dx [])] (.call (.ref fI) ⟨.ref x::K9,[]⟩) n true (fun v g' own'=>v= .none/\Qc (.ref x) g' own') (fun _=>False))
 (hn:n+1<=Φ.room) (hq:∀v g' own',Qc v g' own'->(∀p,g p->g' p)->Q v g' vs (an++own')):bG Φ g vs an (.ref C) as Q E:=by
 rintro _ K9 rfl ra s S;have dp:=Φ.dp;have un:=Φ.un;refine gM ?_;obtain⟨hh,gg,dd,tt,oo⟩:=s;have X:=S.X;refine rV (makes_of X (hm Φ.w)) (looks_findIn X (hi Φ.w).1) (fun self=>bind_fn X self (hi Φ.w).2) rfl ?_;have n1:hh.get? hh.objs.size=none:=T9 (Tj _);have n2:hh.get? (hh.objs.size+1)=none:=T9 (Nat.le_succ _);have kk:∀b y,hh.get? b=some y->((hh.push emptyDict).push (instObj C hh.objs.size)).get? b=some y:=fun b y e=>Tp _ (Tp _ e);have S1:=S.1.alloc (o:=.inst C hh.objs.size []) (a:=hh.objs.size+1) (h':=(hh.push emptyDict).push (instObj C hh.objs.size)) (fun b hb=>by
  rcases T4.mp hb with rfl|hb
  ·exact n2
  ·rw [Ti.mp hb];exact n1) (List.pairwise_pair.mpr (Nat.succ_ne_self _)) kk
  (cN ⟨#[],by heap_get⟩ (bc (#[]) 0 (#[]) (bJ (by heap_get) .nil List.nodup_nil (by exact Tn _))))
 have S2:St Φ Φ.strict g ((hh.push emptyDict).push (instObj C hh.objs.size)) vs ([(hh.objs.size+1,.inst C hh.objs.size [])]++an):=
  S1.drop (fun p hp=>T3.mpr (T3.mp hp).symm) ((ez List.perm_append_comm).nodup S1.hs.nd)
 have hx:hh.objs.size+1∉aD an:=fun hc=>by
  refine aw (bU.mp hc) fun p hp q=>?_;refine ax ((S.1.hs.ledAt p hp).there _ q) fun y hy=>?_;rw [n2] at hy;cases hy
 have ar:Ar (Φ.A.under (.builtin "type.__call__" ⟨.ref C::K9,[]⟩)) Φ.fr n:=by
  have e:(Φ.A.under (.builtin "type.__call__" ⟨.ref C::K9,[]⟩)).frames=Φ.A.frames:=rfl;exact⟨e.trans Φ.hA,Φ.hh,by rw [depth_under_make];exact L8 hn dp,by rw [units_under_make];exact L7 hn un⟩
 refine cZ (Cc _ _ hx K9 ra _ _ ⟨(hh.push emptyDict).push (instObj C hh.objs.size),gg,dd,tt,oo⟩ ar S2.sub) fun r s' zp22=>bp zp22 fun e1 e2 hr=>?_;rcases r with v|(v|_|_|v)
 ·obtain⟨e,or,rfl,H',T,Xx,q⟩:=hr;exact q.elim
 ·exact hr.elim
 ·exact hr.elim
 ·exact hr.elim
 ·obtain⟨av,g',own',H',T,ra',rfl,q⟩:=hr;cases ra';have S3:=S2.after H' T (fun _=>rfl) (.inl rfl);exact⟨rfl,.ref (hh.objs.size+1),g',vs,an++own',(aN (S3.drop (fun p hp=>T3.mpr (T3.mp hp).symm) ((ez List.perm_append_comm).nodup S3.hs.nd)) (e1.trans S.2.1) (e2.trans S.2.2)),rfl,hq _ _ _ q T.sub⟩
end
section
open PySem PySem.W PyProof.Rows PySem.Calls PySem.SeqAt
noncomputable abbrev lo (cs:Array Value) (n:Nat) (sl:Array (Option Value)):Obj:=⟨.type "list",none,.seq cs n,sl⟩
theorem CZ (l:Addr) (items:Array Value) (n:Nat) (sl) (y:Value) (hy:items[items.size-1]? =some y) (hs1:items.size<=sizeLine):
 Meets (Builtin.«list.pop» ⟨[.ref l],[]⟩)
  (fun _ R s=>s.heap.get? l=some (lo items n sl)/\R (.ok (.ret y)) {s with heap:=s.heap.update l (Obj.mapSeq fun xs=>xs.eraseIdxIfInBounds (items.size-1))}):=
 .of_wp fun prog w A R s h=>by
  obtain⟨hp,g,d,tk,os⟩:=s;refine a0 (h) fun hl h=>?_;have hpos:0<items.size:=by
   rcases Nat.eq_zero_or_pos items.size with h0|h0
   ·simp [h0] at hy
   ·exact h0
  have Fd:¬items.isEmpty=true:=by
   intro he;have:items.size=0:=by simpa using he
   exact Mj hpos this
  have hk:seqIndex? (-1) items.size=some (items.size-1):=by
   rw [seqIndex_neg Mi (Mh hpos)];congr 1;exact Fv hpos
  wp_walk using wpAny_loadPart' hl
  simp only [hk,hy,Option.bind_some,Option.map_some];have hz':(items.eraseIdxIfInBounds (items.size-1)).size<=sizeLine+1:=by
   unfold Array.eraseIdxIfInBounds
   split
   ·rw [Array.size_eraseIdx];exact Mg hs1 ‹_›
   ·exact z7 hs1
  wp_walk using (wpAny_updateSeq hl rfl (hz:=hs1) (_hz':=hz')),wpAny_loadPart' hl
  exact(aj _ rfl h)
theorem uW (l:Addr) (items:Array Value) (n:Nat) (sl) (x:Value) (hsz:items.size<=sizeLine):
 Meets (Builtin.«list.append» ⟨[.ref l,x],[]⟩) (fun _ R s=>s.heap.get? l=some (lo items n sl)/\R (.ok (.ret Value.none)) {s with heap:=s.heap.update l (Obj.mapSeq fun x_1=>x_1.push x),toks:=s.toks}):=
 .of_wp fun prog w A R s h=>by
  obtain⟨hp,g,d,tk,os⟩:=s;refine a0 (h) fun hl h=>?_;have hz':(items.push x).size<=sizeLine+1:=by rw [Array.size_push];exact Mf hsz
  wp_walk using (wpAny_updateSeq hl rfl (hz:=hsz) (_hz':=hz'));exact(aj _ rfl h)
theorem C0 (l:Addr) (items:Array Value) (n:Nat) (sl) (b:Addr) (items2:Array Value) (n2:Nat) (sl2) (hc0:items.size+items2.size<=sizeLine):
 Meets (Builtin.«list.__add__» ⟨[.ref l,.ref b],[]⟩) (fun _ R s=>s.heap.get? l=some (lo items n sl)/\s.heap.get? b=some (lo items2 n2 sl2)/\
  R (.ok (.ret (Value.ref s.heap.objs.size))) {s with heap:=s.heap.push {cls:=Value.type "list",data:=Data.seq (items++items2)},toks:=s.toks}):=
 .of_wp fun prog w A R s h=>by
  obtain⟨hp,g,d,tk,os⟩:=s;refine bp (h) fun hl hb h=>?_;have f3:=AutoSeq1.sub_list_list
  wp_walk using wpAny_loadPart' hl,wpAny_loadPart' hb
  exact(aj _ rfl h)
section
variable {F:aY} {Φ:Fx F} {g:GH} {vs:LV} {an:LD} {E:ET}
noncomputable def cq:Nat:=1000000
theorem qm {h:Heap} {a:Addr} {cs:Array Value} {n:Nat} {sl} {f:Array Value->Array Value} (e:h.get? a=some (lo cs n sl)):∃n',(h.update a (Obj.mapSeq f)).get? a=some (lo (f cs) n' sl):=by
 refine ax (Obj.data_mapSeq (o:=lo cs n sl) rfl f) fun n' h1=>?_;refine⟨n',(Heap.get?_update_self _ e (Obj.isFreed_of_seq h1)).trans (congrArg some ?_)⟩;have h2:(Obj.mapSeq f (lo cs n sl)).data= .seq (f cs) n':=h1;revert h2;generalize hq:Obj.mapSeq f (lo cs n sl)=o;obtain⟨c,dd,dt,sl'⟩:=o;intro h2;have e1:c= .type "list"/\dd=none/\sl'=sl:=by
  unfold Obj.mapSeq at hq;cases hq;exact(aN rfl rfl rfl)
 (refine bp (e1) fun j' th to=>?_;subst j';subst th;subst to);simp only at h2;rw [h2]
theorem aA.pop {xs:List AV} {cs:Array Value} {x:AV} (h:aA (xs++[x]) cs.toList):∃y,cs[cs.size-1]? =some y/\AV.Is x y/\aA xs (cs.eraseIdxIfInBounds (cs.size-1)).toList:=by
 have hl:xs.length+1=cs.size:=by simpa using h.length
 refine aw (h.get (i:=xs.length) (a:=x) (by exact List.getElem?_concat_length ..)) fun y hy r=>?_;have hs:cs.size-1=xs.length:=by exact Me hl
 refine(eP y ?_ r ?_)
 ·rw [hs,←TJ];exact hy
 ·have:=h.take xs.length;rw [List.take_append_of_le_length (Tj _),List.take_length] at this;have e:(cs.eraseIdxIfInBounds (cs.size-1)).toList=cs.toList.take xs.length:=by
   unfold Array.eraseIdxIfInBounds;rw [dif_pos (Md hl hs),Array.toList_eraseIdx,List.eraseIdx_eq_take_drop_succ,hs];rw [List.drop_eq_nil_of_le (by rw [TR];exact Mc hl),T7]
  rw [e];exact this
theorem aA.size {xs:List AV} {cs:Array Value} (h:aA xs cs.toList):cs.size=xs.length:=by simpa using h.length.symm
theorem jI {a:Addr} {o:AO} {h:Heap} {f:Obj->Obj} (hb:a∈o.addrs a):∀b y,b∉o.addrs a->h.get? b=some y->(h.update a f).get? b=some y:=
 fun b y hb' ey=>(T6 _ _ fun q=>hb' (by rw [←q];exact hb)).trans ey
theorem dB {a:Addr} {xs:List AV} {v:AV} {led':LD} {Q:QT AV} (U:ay an a (.list xs) (.list (xs++[v])) led') (hz:xs.length<=cq) (h:Q .none g vs led'):bG Φ g vs an (.builtin "list.append") [.ref a,v] Q E:=by
 rintro _ _ rfl ra s S;cases ra with
 |cons r1 ra=>
 cases ra with
 |@cons _ c _ _ r2 ra=>
 cases ra;cases r1;obtain⟨cs,n,sl,e,f⟩:=S.1.hs.ledAt _ U.mem;have hsz:cs.size<=sizeLine:=by rw [f.size,sizeLine_eq];unfold cq at hz;exact o8 hz
 refine .of (call_meets PySem.F.slot_list_append (aj _ e rfl) PySem.F.entry_list_append (PySem.F.args_list_append_2 _ _) (uW a cs n sl c hsz) ⟨e,?_⟩);refine ax (qm (f:=fun xs=>xs.push c) e) fun n' e'=>?_;exact⟨.none,g,vs,led',⟨S.1.upd U rfl (jI (AO.self_mem a (.list xs))) ⟨_,n',sl,e',by rw [Array.toList_push];exact f.append (.cons r2 .nil)⟩,S.2⟩,rfl,h⟩
theorem xx {a:Addr} {xs:List AV} {v:AV} {led':LD} {Q:QT AV} (U:ay an a (.list (xs++[v])) (.list xs) led') (hz:xs.length<=cq) (h:Q v g vs led'):bG Φ g vs an (.builtin "list.pop") [.ref a] Q E:=by
 rintro _ _ rfl ra s S;cases ra with
 |cons r1 ra=>
 cases ra;cases r1;obtain⟨cs,n,sl,e,f⟩:=S.1.hs.ledAt _ U.mem;have hsz:cs.size<=sizeLine:=by rw [f.size,sizeLine_eq,Tf,List.length_singleton];unfold cq at hz;exact Mb hz
 refine cB (f.pop) fun y hy r f'=>?_;refine .of (call_meets PySem.F.slot_list_pop (aj _ e rfl) PySem.F.entry_list_pop (PySem.F.args_list_pop_1 _) (CZ a cs n sl y hy hsz) ⟨e,?_⟩);refine ax (qm (f:=fun xs=>xs.eraseIdxIfInBounds (cs.size-1)) e) fun n' e'=>?_;exact⟨v,g,vs,led',⟨S.1.upd U rfl (jI (AO.self_mem a (.list (xs++[v])))) ⟨_,n',sl,e',f'⟩,S.2⟩,r,h⟩
theorem bM.isList {st:Bool} {h:Heap} (S:St Φ st g h vs an) {a:Addr} {xs:List AV} (x:bM g an (a,.list xs)):∃cs:Array Value,h.IsList a cs/\aA xs cs.toList/\∃n sl,h.get? a=some (lo cs n sl):=
 let ⟨cs,n,sl,e,f⟩:=x.at S;(dH cs (aN (fh _ e rfl n rfl) f (cA n sl e)))
theorem aZ.fresh {st:Bool} {s:Shared} (S:aZ Φ st g s vs an):s.heap.objs.size∉aD an:=fun hc=>by
 refine aw (bU.mp hc) fun p hp hq=>?_;refine ax ((S.1.hs.ledAt p hp).there _ hq) fun y hy=>?_;rw [T9 (Tj _)] at hy;cases hy
theorem aZ.newList {st:Bool} {s:Shared} (S:aZ Φ st g s vs an) {cs:Array Value} {xs:List AV} (r:aA xs cs.toList):aZ Φ st g {s with heap:=s.heap.push {cls:=.type "list",data:=.seq cs}} vs (an++[(s.heap.objs.size,.list xs)]):=
 ⟨S.1.alloc (o:=.list xs) (a:=s.heap.objs.size) (fun b hb=>by rw [Ti.mp hb];exact T9 (Tj _)) (by exact Tb rfl) (fun b y e=>Tp _ e) ⟨cs,0,#[],Heap.get?_push_size _ rfl,r⟩,S.2⟩
theorem ic {a b:Addr} {xs ys:List AV} {Q:QT AV} (ha:bM g an (a,.list xs)) (hb:bM g an (b,.list ys)) (hz:xs.length+ys.length<=cq) (h:∀c,c∉aD an->Q (.ref c) g vs (an++[(c,.list (xs++ys))])):
 jW Φ g vs an .Add (.ref a) (.ref b) Q E:=by
 rintro _ _ rfl rfl s S;refine gT (ha.isList S.1) fun cs la fa n1 sl1 ea=>?_;refine gT (hb.isList S.1) fun ds lb fb n2 sl2 eb=>?_;have hsz:cs.size+ds.size<=sizeLine:=by rw [fa.size,fb.size,sizeLine_eq];unfold cq at hz;exact z6 hz
 refine .of (concat_meets (aj _ ea rfl) (aj _ eb rfl) noFill_list_add seq_list_add PySem.F.slot_list_add PySem.F.entry_list_add (PySem.F.args_list_add_2 _ _) (C0 a cs n1 sl1 b ds n2 sl2 hsz) (aN ea eb ?_));exact⟨.ref s.heap.objs.size,g,vs,_,S.newList (by rw [Array.toList_append];exact fa.append fb),rfl,h _ S.fresh⟩
theorem y2 {value A':Expr} {a:Addr} {xs:List AV} {i:Int} {v:AV} {Q:QT AV} (ha:bM g an (a,.list xs)) (hz:xs.length<=cq) (h0:0<=i) (hx:xs[i.toNat]? =some v) (h:Q v g vs an)
 (hs:∀b u,subscripted A' false (.ref b) (.int i u)=operate [.ref b,.int i u] (getItem (.ref b) (.int i u))):gG Φ g vs an value A' (.ref a) (.int i) Q E:=by
 (intro _ _ j' th s S;subst j';refine ax (th) fun u to=>?_;subst to);refine gT (ha.isList S.1) fun cs la fa n sl ea=>?_;refine aw (fa.get hx) fun c hc r=>?_;have Lc:i.toNat<xs.length:=by
  rcases Nat.lt_or_ge i.toNat xs.length with q|q
  ·exact q
  ·rw [List.getElem?_eq_none q] at hx;cases hx
 exact .of (tail_any (T:="list") (aj _ ea rfl) PySem.F.slot_list_getitem.lookup (wpAny_getItem_list la h0 (by unfold cq at hz;exact Fu hz Lc) (by rw [←TJ];exact hc) ⟨v,g,vs,an,S,r,h⟩) (hs _ _))
theorem q9 {value A':Expr} {a:Addr} {xs:List AV} {v:AV} {Q:QT AV} (ha:bM g an (a,.list (xs++[v]))) (hz:xs.length<=cq) (h:Q v g vs an)
 (hs:∀b u,subscripted A' false (.ref b) (.int (-1) u)=operate [.ref b,.int (-1) u] (getItem (.ref b) (.int (-1) u))):gG Φ g vs an value A' (.ref a) (.int (-1)) Q E:=by
 (intro _ _ j' th s S;subst j';refine ax (th) fun u to=>?_;subst to);refine gT (ha.isList S.1) fun cs la fa n sl ea=>?_;refine aw (fa.get (i:=xs.length) (a:=v) (by exact List.getElem?_concat_length ..)) fun c hc r=>?_;have hsz:cs.size=xs.length+1:=by rw [fa.size,Tf,List.length_singleton]
 refine .of (tail_any (T:="list") (aj _ ea rfl) PySem.F.slot_list_getitem.lookup (wpAny_getItem_list_neg la (by decide) (Ma hsz) (by decide) ?_ ⟨v,g,vs,an,S,r,h⟩) (hs _ _));rw [hsz,←TJ,←hc];congr 1;exact Ft hsz
theorem q8 {value A':Expr} {a:Addr} {xs:List AV} {i:Int} {v:AV} {Q:QT AV} (ha:bM g an (a,.tuple xs)) (hz:xs.length<=cq) (h0:0<=i) (hx:xs[i.toNat]? =some v) (h:Q v g vs an)
 (hs:∀b u,subscripted A' false (.ref b) (.int i u)=operate [.ref b,.int i u] (getItem (.ref b) (.int i u))):gG Φ g vs an value A' (.ref a) (.int i) Q E:=by
 (intro _ _ j' th s S;subst j';refine ax (th) fun u to=>?_;subst to);obtain⟨cs,n,sl,ea,fa⟩:=ha.at S.1;refine aw (fa.get hx) fun c hc r=>?_;have Lc:i.toNat<xs.length:=by
  rcases Nat.lt_or_ge i.toNat xs.length with q|q
  ·exact q
  ·rw [List.getElem?_eq_none q] at hx;cases hx
 have hsz:=fa.size;refine .of (tail_any (T:="tuple") (aj _ ea rfl) PySem.F.slot_tuple_getitem.lookup (PyProof.Rows.getItem_tuple (j:=i.toNat) (fh _ ea rfl n rfl) (L_ h0) (by unfold cq at hz;exact Fs hz Lc hsz) ?_ (by rw [←TJ];exact hc) ⟨v,g,vs,an,S,r,h⟩) (hs _ _));unfold seqIndex?;have hn:¬i<0:=by exact L9 h0
 have hl:i<cs.size:=by exact Fr h0 Lc hsz
 simp [hn,h0,hl]
theorem q_ {a b:Addr} {xs:List AV} {Q:QT AV} (ha:bM g an (a,.list xs)) (hb:bM g an (b,.list [])) (hu:Φ.A.units<cLine) (h:Q (.bool (decide (xs=[]))) g vs an):d0 Φ g vs an .Eq (.ref a) (.ref b) Q E:=by
 rintro _ _ rfl rfl s S;refine cB (ha.isList S.1) fun cs la fa _=>?_;refine cB (hb.isList S.1) fun ds lb fb _=>?_;have e1:=fa.size;have e2:=fb.size;cases xs with
 |nil=>
  refine .of (eq_listAt (e:=fun _=>true) la lb (by rw [e1,e2]) hu (fun j h1=>by rw [e1] at h1;exact absurd h1 (Nat.not_lt_zero _)) ⟨.bool _,g,vs,an,S,?_,h⟩);simp at e1;subst e1;rfl
 |cons x r=>exact .of (eq_list_lengthsAt la lb (by rw [e1,e2];rfl) hu ⟨.bool _,g,vs,an,S,by rfl,h⟩)
theorem y1 {a b:Addr} {xs:List AV} {Q:QT AV} (ha:bM g an (a,.list xs)) (hb:bM g an (b,.list [])) (hu:Φ.A.units<cLine) (h:Q (.bool (decide (xs≠[]))) g vs an):d0 Φ g vs an .NotEq (.ref a) (.ref b) Q E:=by
 rintro _ _ rfl rfl s S;refine cB (ha.isList S.1) fun cs la fa _=>?_;refine cB (hb.isList S.1) fun ds lb fb _=>?_;have e1:=fa.size;have e2:=fb.size;cases xs with
 |nil=>
  refine .of (RcNeAt.lists (e:=fun _=>true) la lb (by rw [e1,e2]) hu (fun j h1=>by rw [e1] at h1;exact absurd h1 (Nat.not_lt_zero _)) _ _ _ _ ⟨.bool _,g,vs,an,S,?_,h⟩);simp at e1;subst e1;rfl
 |cons x r=>exact .of (RcNeAt.lists_lengths la lb (by rw [e1,e2];rfl) hu _ _ _ _ ⟨.bool _,g,vs,an,S,by rfl,h⟩)
theorem Fx.units {F:aY} (Φ:Fx F):Φ.A.units<cLine:=by have:=Φ.un;exact DT this
end
end
section
open Builtin Builtin.Bytes
section
variable {M:Model} {A:Around} {E:Value->Shared->Prop} {s:Shared}
theorem me {self:Value} {Q:Bool->Shared->Prop} (h:Q false s):al M A (exported self) Q E s:=fun Γ p i c=>by
 unfold exported;rw [Sem.wp_bind'];show Sem.wp M Γ (.stack .pure) _ _ p s;rw [Sem.wp_stack];refine(?_ :Q (List.any _ _) s);rw [show(List.any ((Γ.code,p)::Γ.below) _)=false from ?_]
 ·exact h
 ·rw [List.any_eq_false];intro x hx;have hd:mC x.1=false:=(T4.mp hx).elim (fun e=>e▸c.1) (c.2 x);clear hx;obtain⟨cd,ps⟩:=x;cases cd with
  |builtin id as=>
   have h1:=Bool.or_eq_false_iff.mp hd;have hg:∀n,guardIds.contains n=true->id≠n:=fun n hn e=>by rw [←e,h1.2] at hn;cases hn
   refine fun q=>Bool.false_ne_true (Eq.trans (Eq.symm ?_) q)
   delta PySem.Builtin.Bytes.exported.match_1 PySem.Builtin.Bytes.exported._sparseCasesOn_1
   dsimp only;refine Eq.trans (dif_neg (hg "bytearray.__contains__" (by decide+kernel))) ?_;refine Eq.trans (dif_neg (hg "bytearray.__mod__" (by decide+kernel))) ?_;refine Eq.trans (dif_neg (hg "bytearray.__rmod__" (by decide+kernel))) ?_;refine Eq.trans (dif_neg (hg "_struct.pack_into.held" (by decide+kernel))) ?_;refine Eq.trans (dif_neg (hg "bytearray.find.held" (by decide+kernel))) ?_;obtain⟨pos,kw⟩:=as;cases pos with
   |nil=>rfl
   |cons v l=>exact(congrArg (Bytes.sameRef v self&&·) h1.1).trans (Bool.and_false _)
  |_=>exact Bool.false_ne_true
end
theorem mt:Slot "bytearray" "append" "bytearray.append":=
 .of (owner:="bytearray") (n:="append") (by rw [T5,Tq];kernel_rfl) (by decide+kernel) (by decide+kernel) (by decide+kernel)
  (by first|exact .inl (by decide+kernel)|exact .inr (by decide+kernel)) (by rw [isSubtype_type];kernel_rfl)
theorem lN:entryFor table "bytearray.append"=some Builtin.«bytearray.append»:=by first|exact entryFor_of_fast (by kernel_rfl)|exact entryFor_of_tree (by kernel_rfl)
theorem mK (a b:Value):argsOk "bytearray.append" ⟨[a,b],[]⟩:=by unfold argsOk;kernel_rfl
theorem mq:Slot "bytearray" "extend" "bytearray.extend":=
 .of (owner:="bytearray") (n:="extend") (by rw [T5,Tq];kernel_rfl) (by decide+kernel) (by decide+kernel) (by decide+kernel)
  (by first|exact .inl (by decide+kernel)|exact .inr (by decide+kernel)) (by rw [isSubtype_type];kernel_rfl)
theorem lM:entryFor table "bytearray.extend"=some Builtin.«bytearray.extend»:=by first|exact entryFor_of_fast (by kernel_rfl)|exact entryFor_of_tree (by kernel_rfl)
theorem mJ (a b:Value):argsOk "bytearray.extend" ⟨[a,b],[]⟩:=by unfold argsOk;kernel_rfl
theorem iK:Slot "bytearray" "__init__" "bytearray.__init__":=
 .of (owner:="bytearray") (n:="__init__") (by rw [T5,Tq];kernel_rfl) (by decide+kernel) (by decide+kernel) (by decide+kernel)
  (by first|exact .inl (by decide+kernel)|exact .inr (by decide+kernel)) (by rw [isSubtype_type];kernel_rfl)
theorem ny:entryFor table "bytearray.__init__"=some Builtin.«bytearray.__init__»:=by first|exact entryFor_of_fast (by kernel_rfl)|exact entryFor_of_tree (by kernel_rfl)
theorem nE (a:Value):argsOk "bytearray.__init__" ⟨[a],[]⟩:=by unfold argsOk;kernel_rfl
theorem nD (a b:Value):argsOk "bytearray.__init__" ⟨[a,b],[]⟩:=by unfold argsOk;kernel_rfl
section
variable {prog:Program} {w:World} {A:Around} {E:Value->Shared->Prop} {s:Shared}
theorem jt {T id:String} {name:Str} {B:Builtin} {self:Value} {a':List Value} {Q:Value->Shared->Prop} (slot:Slot T name id) (hT:s.TypeIs self T) (hb:entryFor table id=some B) (ok:argsOk id ⟨self::a',[]⟩)
 (hd:(decodersThatHold.contains id||guardIds.contains id)=false)
 (h:al (model prog w) A.in1 (B ⟨self::a',[]⟩) (fun fin s'=>match fin with| .done f=>wants Q E (.ok f) s'| .again c'=>c'.quiet=true/\bW (model prog w) A c' (wants Q E) s') E s):
 al (model prog w) A (call (.builtin id) (self::a')) Q E s:=by
 refine gM (cZ (R:=wants Q E) (fA (plainId_quiet slot.plain _) hd hb (.of (slot.check _ _ _ _ _ _ _ _ hT ok ?_))) fun r s' z=>z);rw [Around.under_plainId slot.plain];exact h
theorem jw {h:Heap} {a:Addr} {b:Array UInt8} {sl} {f:Array UInt8->Array UInt8} (e:h.get? a=some ⟨.type "bytearray",none,.bytearray b 0,sl⟩):
 (h.update a (Obj.mapBytearray f)).get? a=some ⟨.type "bytearray",none,.bytearray (f b) 0,sl⟩:=Heap.get?_update_self (Obj.mapBytearray f) e rfl
theorem jF {M:Model} {a:Addr} {b:Array UInt8} {sl} {f:Array UInt8->Array UInt8} {Q:Unit->Shared->Prop} (e:s.heap.get? a=some ⟨.type "bytearray",none,.bytearray b 0,sl⟩) (hz:(f b).size<=sizeLine)
 (h:Q () {s with heap:=s.heap.update a (Obj.mapBytearray f)}):wpAny M A (write (.ref a) f) Q E s:=by
 show wpAny _ _ (updateBytearray a f) _ _ _;unfold updateBytearray;refine Te (wpAny_load e ?_);show wpAny _ _ (update a (Obj.mapBytearray f)>>=fun _=>lookBehind a) _ _ _;refine Te (wpAny_update e (wpAny_lookBehind (jw e) ?_ h));show(if(f b).size>sizeLine then some "bytearray:memory" else none)=none;rw [Tc (Nat.not_lt.mpr hz)]
theorem j6 {a:Addr} {b:Array UInt8} {sl} {Q:Unit->Shared->Prop} {M:Model} (e:s.heap.get? a=some ⟨.type "bytearray",none,.bytearray b 0,sl⟩) (h:Q () s):al M A (checkResize (.ref a)) Q E s:=by
 unfold checkResize;refine be (be (me ?_));show al _ _ (exportsOf (.ref a)>>=fun n=>pure (decide (n>0))) _ _ _;unfold exportsOf;refine be (aX (wpAny_load e ?_));refine aG (aG ?_);rw [Tc (by decide)];exact aG h
theorem qi {a:Addr} {b:Array UInt8} {sl} {i:Int} {t:Tok} {Q:Value->Shared->Prop} (e:s.heap.get? a=some ⟨.type "bytearray",none,.bytearray b 0,sl⟩) (h0:0<=i) (h1:i<256) (hz:b.size<sizeLine)
 (h:Q .none {s with heap:=s.heap.update a (Obj.mapBytearray (·.push i.toNat.toUInt8))}):al (model prog w) A (call (.builtin "bytearray.append") [.ref a,.int i t]) Q E s:=by
 refine jt mt (aj _ e rfl) lN (mK _ _) (by decide+kernel) ?_;unfold Builtin.«bytearray.append»;refine cC ?_;show al _ _ (byteValue (.int i t)>>=_) _ _ _;unfold byteValue;refine be (cC ?_);rw [Tc (by simp only [Bool.or_eq_true,decide_eq_true_eq];exact D5 h0 h1)];refine aG (be (j6 e (aX (jF e (by rw [Array.size_push];exact hz) ?_))));exact aG h
theorem gh:typeLookup (.type "bytes") "__buffer__"=pure (some (.builtin "bytes.__buffer__")):=by rw [T5,Tq];kernel_rfl
theorem t7:typeLookup (.type "bytes") "__release_buffer__"=pure none:=by rw [T5,Tq];kernel_rfl
theorem t6:isSubtype (.type "bytes") (.type "bytes")=pure true:=by rw [isSubtype_type];kernel_rfl
theorem m4 {M:Model} {c:Array UInt8} {t:Tok} {Q:Bool->Shared->Prop} (h:Q true s):wpAny M A (slotIsOwn (.bytes c t) "__buffer__") Q E s:=by
 unfold slotIsOwn;refine Te (wpAny_specialOf (typeIs_bytes s c t) gh ?_);dsimp only;rw [Tc (by decide+kernel)];refine wpAny_isInstance (T:="bytes") (typeIs_bytes s c t) ?_ h;rw [show("bytes.__buffer__".dropRight ("__buffer__".length+1))="bytes" from by decide+kernel];exact t6
theorem sM {M:Model} {c:Array UInt8} {t:Tok} {Q:Bool->Shared->Prop} (h:Q false s):wpAny M A (ownRelease (.bytes c t)) Q E s:=by
 unfold ownRelease slotIsOwn;refine Te (Te (wpAny_specialOf (typeIs_bytes s c t) t7 ?_));exact Tm (Tm h)
theorem gE {M:Model} {id:String} {full:Bool} {c:Array UInt8} {t:Tok} {Q:Option (Array UInt8)->Shared->Prop} (h:Q (some c) s):wpAny M A (buffer? id (.bytes c t) full) Q E s:=by
 unfold buffer?;refine Te (wpAny_specialOf (typeIs_bytes s c t) gh ?_);try dsimp only
 refine Te (m4 ?_);rw [Tc (by decide)];refine Te (wpAny_specialOf (typeIs_bytes s c t) gh ?_);try dsimp only
 refine Te (sM ?_);rw [Tc (by decide)];exact Te (Te (Tm (Tm (Tm h))))
theorem lC {M:Model} {id:String} {f:Int} {c:Array UInt8} {t:Tok} {Q:Option (Array UInt8×Option Value)->Shared->Prop} (h:Q (some (c,none)) s):wpAny M A (takeBufferQuiet? id (.bytes c t) f) Q E s:=by
 unfold takeBufferQuiet? takeBuffer?;refine Te (wpAny_attempt ?_);refine Te (wpAny_specialOf (typeIs_bytes s c t) gh ?_);try dsimp only
 refine Te (m4 ?_);rw [Tc (by decide)];refine Te (wpAny_specialOf (typeIs_bytes s c t) gh ?_);try dsimp only
 exact Te (gE (Tm (Tm h)))
theorem qh {a:Addr} {b c:Array UInt8} {sl} {t:Tok} {Q:Value->Shared->Prop} (e:s.heap.get? a=some ⟨.type "bytearray",none,.bytearray b 0,sl⟩) (hz:b.size+c.size<=sizeLine)
 (h:Q .none {s with heap:=s.heap.update a (Obj.mapBytearray (·++c))}):al (model prog w) A (call (.builtin "bytearray.extend") [.ref a,.bytes c t]) Q E s:=by
 refine jt mq (aj _ e rfl) lM (mJ _ _) (by decide+kernel) ?_;unfold Builtin.«bytearray.extend»;refine cC ?_;refine aX (wpAny_specialOf (typeIs_bytes s c t) gh ?_);refine aX (wpAny_rule ?_);refine aX (m:=payload (.ref a)) ?_;unfold payload payload?;refine Te (Te (wpAny_load e (Tm (Tm ?_))));refine aX (lC ?_);show al _ _ (if(!c.isEmpty)=true then checkResize (.ref a)>>=fun _=>(write (.ref a) (·++c)>>=fun _=>ret .none) else(write (.ref a) (·++c)>>=fun _=>ret .none)) _ _ _;have last:al (model prog w) A.in1 (write (.ref a) (·++c)>>=fun _=>ret .none) (fun fin s'=>match fin with| .done f=>wants Q E (.ok f) s'| .again c'=>c'.quiet=true/\bW (model prog w) A c' (wants Q E) s') E s:=
  aX (jF e (by rw [Array.size_append];exact hz) (aG h))
 cases c.isEmpty with
 |true=>exact last
 |false=>exact be (j6 e last)
end
theorem ua:mroOf (.type "bytearray")=pure [.type "bytearray",.type "object"]:=by rw [mroOf_type];kernel_rfl
theorem nC:typeLookup (.type "bytearray") "__new__"=pure (some (.builtin "bytearray.__new__")):=by rw [T5,Tq];kernel_rfl
theorem yN:Bind.madeBy (.type "bytearray")=pure (some "bytearray.__new__"):=madeBy_type ua nC (by decide+kernel)
theorem l4:isSubtype (.type "bytearray") (.type "bytearray")=pure true:=by rw [isSubtype_type];kernel_rfl
theorem Cb:((Manifest.find? "bytearray").bind (·.mro.findSome? fun t=>(Manifest.find? t).bind fun b=>if b.noNew then some true else if b.attrs.any (·.1=="__new__") then some false else none)).getD false=false:=by decide+kernel
theorem pn:entryFor table "bytearray.__new__"=some Builtin.«list.__new__»:=by
 first|exact entryFor_alias (id':="list.__new__") (by kernel_rfl) rfl (by decide+kernel) (by kernel_rfl)|exact entryFor_of_fast (by kernel_rfl)|exact entryFor_of_tree (by kernel_rfl)
theorem kp:plainId "bytearray.__new__"=true:=by decide+kernel
theorem B6:checkTypeCall "bytearray" ⟨[],[]⟩=pure ():=by kernel_rfl
theorem B5 (a:Value):checkTypeCall "bytearray" ⟨[a],[]⟩=pure ():=by kernel_rfl
theorem B_:checkBuiltinCall "bytearray.__new__" ⟨[.type "bytearray"],[]⟩=pure ():=by kernel_rfl
theorem B9 (a:Value):checkBuiltinCall "bytearray.__new__" ⟨[.type "bytearray",a],[]⟩=pure ():=by kernel_rfl
theorem vF:("bytearray.__new__".splitOn ".__new__").headD ""="bytearray":=by first|decide+kernel|simp+decide [String.splitOn,String.splitOnAux]
theorem B7:typeLookup (.type "bytearray") "__release_buffer__"=pure (some (.builtin "bytearray.__release_buffer__")):=by rw [T5,Tq];kernel_rfl
theorem po:typeLookup (.type "bytearray") "__buffer__"=pure (some (.builtin "bytearray.__buffer__")):=by rw [T5,Tq];kernel_rfl
theorem vH:bindOptional "bytearray.__init__" "bytearray" ["source","encoding","errors"] [] []=pure [none,none,none]:=by kernel_rfl
theorem vG (v:Value):bindOptional "bytearray.__init__" "bytearray" ["source","encoding","errors"] [v] []=pure [some v,none,none]:=by kernel_rfl
theorem nB:typeLookup (.type "bytes") "__index__"=pure none:=by rw [T5,Tq];kernel_rfl
section
variable {prog:Program} {w:World} {A:Around} {E:Value->Shared->Prop} {s:Shared}
theorem B8 {a':List Value} {Q:Value->Shared->Prop} (hc:checkBuiltinCall "bytearray.__new__" ⟨.type "bytearray"::a',[]⟩=pure ())
 (h:Q (.ref s.heap.objs.size) {s with heap:=s.heap.push {cls:=.type "bytearray",data:=.bytearray #[]}}):
 codeAny (model prog w) A (.call (.builtin "bytearray.__new__") ⟨.type "bytearray"::a',[]⟩) (wants Q E) s:=by
 refine codeAny_of_tree ?_;show wpAny _ A.in1 (do checkBuiltinCall "bytearray.__new__" ⟨.type "bytearray"::a',[]⟩;again (.builtin "bytearray.__new__" ⟨.type "bytearray"::a',[]⟩)) _ _ s;refine Te (wpAny_of_eq hc (Tm ⟨plainId_quiet kp _,codeAny_builtin_stack pn rfl fun p st=>?_⟩));rw [Around.under_plainId kp _];have I':=l4;have hown:=vF;obtain⟨hp,g,d,tk,os⟩:=s;dsimp only;rw [hown]
 wp_walk
 exact h
theorem sQ {M:Model} {a:Addr} {b:Array UInt8} {sl} {Q:Bool->Shared->Prop} (e:s.heap.get? a=some ⟨.type "bytearray",none,.bytearray b 0,sl⟩) (h:Q false s):wpAny M A (ownRelease (.ref a)) Q E s:=by
 unfold ownRelease slotIsOwn;refine Te (Te (wpAny_specialOf (T:="bytearray") (aj _ e rfl) B7 ?_));dsimp only;rw [Tc (by decide+kernel)];refine wpAny_isInstance (T:="bytearray") (b:=true) (aj _ e rfl) ?_ (Tm h);rw [show("bytearray.__release_buffer__".dropRight ("__release_buffer__".length+1))="bytearray" from by decide+kernel];exact l4
theorem ul {a:Addr} {b:Array UInt8} {sl} {a':List Value} {src:Option (Array UInt8)} {Q:PySem.Fin->Shared->Prop} (e:s.heap.get? a=some ⟨.type "bytearray",none,.bytearray b 0,sl⟩)
 (hs:(a'=[]/\src=none)\/∃c t,a'=[.bytes c t]/\src=some c) (hz:(src.getD #[]).size<=sizeLine)
 (h:∀h',h'.get? a=some ⟨.type "bytearray",none,.bytearray (src.getD #[]) 0,sl⟩->(∀x y,x≠a->s.heap.get? x=some y->h'.get? x=some y)->Q (.done (.ret .none)) {s with heap:=h'}):
 al (model prog w) A (Builtin.«bytearray.__init__» ⟨.ref a::a',[]⟩) Q E s:=by
 unfold Builtin.«bytearray.__init__»;refine aX (sQ e ?_);rw [Tc (by decide)];have go:∀{k:Bool->Sem PySem.Fin},al (model prog w) A (k false) Q E s->al (model prog w) A ((exported (.ref a)<||>(do return (←exportsOf (.ref a))>0))>>=k) Q E s:=fun hk=>by
  refine be (be (me ?_));show al _ _ (exportsOf (.ref a)>>=fun n=>pure (decide (n>0))) _ _ _;unfold exportsOf;refine be (aX (wpAny_load e ?_));exact aG (aG hk)
 have e2:∀{x y},x≠a->s.heap.get? x=some y->(s.heap.update a (Obj.mapBytearray fun _=>#[])).get? x=some y:=fun hx ex=>(T6 _ _ (Ne.symm hx)).trans ex;rcases hs with⟨rfl,rfl⟩|⟨c,t,rfl,rfl⟩
 ·refine aX (wpAny_of_eq vH ?_);refine cC (cC ?_);refine go ?_;rw [Tc (by decide)];refine aX (jF e (Tn _) ?_);exact aG (h _ (jw e) fun _ _=>e2)
 ·refine aX (wpAny_of_eq (vG _) ?_);refine cC (cC ?_);refine go ?_;rw [Tc (by decide)];refine aX (jF e (Tn _) ?_);have e1:=jw (f:=fun _=>#[]) e;refine aX (m:=asStr? (.bytes c t)) (Tm ?_);rw [Tc (by decide)];refine cC (a:=()) ?_;refine aX (m:=specialOf (.bytes c t) "__index__") (wpAny_specialOf (typeIs_bytes _ c t) nB ?_);rw [Tc (by decide)];refine aX (m:=buffer? "bytearray.__init__" (.bytes c t) true) (gE ?_);refine aX (wpAny_rule ?_);refine aX (jF (s:={s with heap:=s.heap.update a (Obj.mapBytearray fun _=>#[])}) e1 hz ?_);refine aG (h _ (jw e1) fun x y hx ex=>(T6 _ _ (Ne.symm hx)).trans (e2 hx ex))
end
end
section
open Builtin Builtin.Bytes
section
variable {prog:Program} {w:World} {A:Around} {E:Value->Shared->Prop} {s:Shared}
theorem nr {a':List Value} {src:Option (Array UInt8)} {Q:Value->Shared->Prop} (hs:(a'=[]/\src=none)\/∃c t,a'=[.bytes c t]/\src=some c) (hz:(src.getD #[]).size<=sizeLine)
 (h:∀h',h'.get? s.heap.objs.size=some ⟨.type "bytearray",none,.bytearray (src.getD #[]) 0,#[]⟩->(∀x y,s.heap.get? x=some y->h'.get? x=some y)->Q (.ref s.heap.objs.size) {s with heap:=h'}):
 al (model prog w) A (call (.type "bytearray") a') Q E s:=by
 have hct:checkTypeCall "bytearray" ⟨a',[]⟩=pure ():=by
  rcases hs with⟨rfl,_⟩|⟨c,t,rfl,_⟩
  ·exact B6
  ·exact B5 _
 have hnc:checkBuiltinCall "bytearray.__new__" ⟨.type "bytearray"::a',[]⟩=pure ():=by
  rcases hs with⟨rfl,_⟩|⟨c,t,rfl,_⟩
  ·exact B_
  ·exact B9 _
 refine gM (cV rfl ?_);show al _ _ (again (.builtin "type.__call__" ⟨.type "bytearray"::a',[]⟩)) _ _ _;refine aG ⟨Code.quiet_builtin _ (by decide+kernel),j5 (by decide+kernel) PySem.F.entry_type_call ?_⟩;rw [Around.under_plain (weight_type_call_type "bytearray" a' []) rfl];unfold Builtin.«type.__call__»;show al _ _ (if(((Manifest.find? "bytearray").bind (·.mro.findSome? fun t=>(Manifest.find? t).bind fun b=>if b.noNew then some true else if b.attrs.any (·.1=="__new__") then some false else none)).getD false)=true then _ else checkTypeCall "bytearray" ⟨a',[]⟩>>=_) _ _ _;rw [Tc (by rw [Cb];decide)];refine aX (wpAny_of_eq hct ?_);refine aX (m:=mroOf (.type "bytearray")) (wpAny_of_eq ua ?_);rw [Tc (by decide)];refine aX (m:=Bind.madeBy (.type "bytearray")) (wpAny_of_eq yN ?_);refine cC ?_;refine aX (wpAny_holding (wpAny_call (codeAny_mono (B8 (Q:=fun v s'=>v= .ref s.heap.objs.size/\s'={s with heap:=s.heap.push {cls:=.type "bytearray",data:=.bytearray #[]}}) (E:=fun _ _=>False) hnc ⟨rfl,rfl⟩) fun r s' z=>?_)));rcases r with z'|(v|_|_|v)
 ·exact z.elim
 ·exact z.elim
 ·exact z.elim
 ·exact z.elim
 (refine a0 (z) fun j' th=>?_;subst j';subst th);have e:(s.heap.push {cls:=.type "bytearray",data:=.bytearray #[]}).get? s.heap.objs.size=some ⟨.type "bytearray",none,.bytearray #[] 0,#[]⟩:=Heap.get?_push_size _ rfl;dsimp only;refine aX (wpAny_isInstance (T:="bytearray") (b:=true) (aj _ e rfl) l4 ?_);rw [Tc (by decide)];refine be (bN ?_);unfold callSpecial?;refine aX (wpAny_specialOf (T:="bytearray") (aj _ e rfl) iK.lookup ?_);dsimp only;refine bN (aX (wpAny_of_eq (iK.bind _) ?_));have ok:argsOk "bytearray.__init__" ⟨.ref s.heap.objs.size::a',[]⟩:=by
  rcases hs with⟨rfl,_⟩|⟨c,t,rfl,_⟩
  ·exact nE _
  ·exact nD _ _
 refine be (m:=call (.builtin "bytearray.__init__") (.ref s.heap.objs.size::a')) (jt iK (aj _ e rfl) ny ok (by decide+kernel) ?_);refine ul e hs hz fun h' e1 e2=>?_;refine aG ?_;refine aG (h h' e1 fun x y ex=>?_);have hx:x≠s.heap.objs.size:=Nat.ne_of_lt (Heap.lt_size ex);exact e2 x y hx (Tp _ ex)
end
end
section
open Builtin Builtin.Bytes
theorem sc:typeLookup (.type "bytearray") "__bytes__"=pure none:=by rw [T5,Tq];kernel_rfl
theorem r_:typeLookup (.type "bytearray") "__index__"=pure none:=by rw [T5,Tq];kernel_rfl
section
variable {prog:Program} {w:World} {A:Around} {E:Value->Shared->Prop} {s:Shared}
theorem rk {M:Model} {a:Addr} {b:Array UInt8} {sl} {Q:Bool->Shared->Prop} (e:s.heap.get? a=some ⟨.type "bytearray",none,.bytearray b 0,sl⟩) (h:Q true s):wpAny M A (slotIsOwn (.ref a) "__buffer__") Q E s:=by
 unfold slotIsOwn;refine Te (wpAny_specialOf (T:="bytearray") (aj _ e rfl) po ?_);dsimp only;rw [Tc (by decide+kernel)];refine wpAny_isInstance (T:="bytearray") (b:=true) (aj _ e rfl) ?_ h;rw [show("bytearray.__buffer__".dropRight ("__buffer__".length+1))="bytearray" from by decide+kernel];exact l4
theorem t8 {M:Model} {id:String} {full:Bool} {a:Addr} {b:Array UInt8} {sl} {Q:Option (Array UInt8)->Shared->Prop} (e:s.heap.get? a=some ⟨.type "bytearray",none,.bytearray b 0,sl⟩) (h:Q (some b) s):wpAny M A (buffer? id (.ref a) full) Q E s:=by
 unfold buffer?;refine Te (wpAny_specialOf (T:="bytearray") (aj _ e rfl) po ?_);try dsimp only
 refine Te (rk e ?_);rw [Tc (by decide)];refine Te (wpAny_specialOf (T:="bytearray") (aj _ e rfl) po ?_);try dsimp only
 refine Te (sQ e ?_);rw [Tc (by decide)];unfold payload payload?;exact Te (Te (Te (wpAny_load e (Tm (Tm (Tm h))))))
theorem pj {a:Addr} {b:Array UInt8} {sl} {Q:Value->Shared->Prop} (e:s.heap.get? a=some ⟨.type "bytearray",none,.bytearray b 0,sl⟩) (hz:b.size<=sizeLine) (h:∀t k,Q (.bytes b t) {s with toks:=k}):
 codeAny (model prog w) A (.call (.builtin "bytes.__new__") ⟨[.type "bytes",.ref a],[]⟩) (wants Q E) s:=by
 refine codeAny_of_tree ?_;show wpAny _ A.in1 (do checkBuiltinCall "bytes.__new__" ⟨[.type "bytes",.ref a],[]⟩;again (.builtin "bytes.__new__" ⟨[.type "bytes",.ref a],[]⟩)) _ _ s;refine Te (wpAny_of_eq (PySem.F.bm_newCall _) (Tm ⟨plainId_quiet PySem.F.bm_plain _,codeAny_builtin PySem.F.bm_entry ?_⟩));rw [Around.under_plainId PySem.F.bm_plain _];have hT:s.TypeIs (.ref a) "bytearray":=(aj _ e rfl)
 unfold Builtin.«bytes.__new__»;refine Te (wpAny_of_eq (a:=true) rfl ?_);refine bm_if_false rfl ?_;refine Te (wpAny_of_eq PySem.F.bm_sub ?_);refine bm_if_false rfl ?_;refine Te (wpAny_of_eq (PySem.F.bm_bind _) ?_);refine Te (wpAny_of_eq (a:=()) rfl ?_);refine Te (wpAny_of_eq (a:=()) rfl ?_);refine bm_if_false rfl ?_;refine Te (wpAny_specialOf hT sc ?_);refine Te (Te ?_);show wpAny _ _ (load a>>=_) _ _ _;refine Te (wpAny_load e ?_);refine Tm (Tm ?_);refine bm_if_false rfl ?_;refine Te (wpAny_specialOf hT r_ ?_);refine bm_if_true rfl ?_;first
  |show wpAny _ _ (buffer? "bytes.__new__" (.ref a) true>>=_) _ _ _
  |(refine Te ?_;show wpAny _ _ (buffer? "bytes.__new__" (.ref a) true>>=_) _ _ _)
 refine Te (t8 e ?_);refine Te (wpAny_rule ?_);refine Te (wpAny_mkBytes ?_ hz);first
  |exact Tm (h _ _)
  |exact Tm (Tm (h _ _))
  |exact Te (Tm (Tm (h _ _)))
theorem pZ {a:Addr} {b:Array UInt8} {sl} {Q:Value->Shared->Prop} (e:s.heap.get? a=some ⟨.type "bytearray",none,.bytearray b 0,sl⟩) (hz:b.size<=sizeLine)
 (h:∀t k,Q (.bytes b t) {s with toks:=k}):wpAny (model prog w) A (call (.type "bytes") [.ref a]) Q E s:=by
 refine callType_codes (Q₁:=fun obj o0=>o0.TypeIs obj "bytes"/\Q obj o0) PySem.F.bm_called (PySem.F.bm_typeCall _) PySem.F.entry_object_init
  (pj e hz fun t k=>⟨PySem.W.typeIs_bytes _ _ _,h t k⟩) fun obj o0 F5=>?_
 exact(aN F5.1 (PySem.F.args_object_init_2 obj _) (object_init_meets PySem.F.bm_called.init.lookup PySem.F.bm_called.made (by decide) prog w A.in1 _ o0 (aN F5.1 rfl F5.2)))
end
section
variable {F:aY} {Φ:Fx F} {g:GH} {vs:LV} {an:LD} {E:ET}
theorem aZ.more {st:Bool} {s:Shared} {h':Heap} {a:Addr} {o:AO} (S:aZ Φ st g s vs an) (hn:∀b∈o.addrs a,s.heap.get? b=none) (hd:(o.addrs a).Nodup) (k:∀b y,s.heap.get? b=some y->h'.get? b=some y) (hat:o.At Φ.w h' a):
 aZ Φ st g {s with heap:=h'} vs (an++[(a,o)]):=⟨S.1.alloc hn hd k hat,S.2⟩
theorem DC {Q:QT AV} (h:∀a,a∉aD an->Q (.ref a) g vs (an++[(a,.barr [])])):bG Φ g vs an (.type "bytearray") [] Q E:=by
 rintro _ _ rfl ra s S;cases ra;refine nr (src:=none) (.inl ⟨rfl,rfl⟩) (Tn _) fun h' e k=>?_;exact⟨.ref s.heap.objs.size,g,vs,_,S.more (o:=.barr []) (fun b hb=>by rw [Ti.mp hb];exact T9 (Tj _)) (by exact Tb rfl) k ⟨_,e⟩,rfl,h _ S.fresh⟩
theorem DB {l:List UInt8} {Q:QT AV} (hz:l.length<=bf) (h:∀a,a∉aD an->Q (.ref a) g vs (an++[(a,.barr l)])):bG Φ g vs an (.type "bytearray") [.bytes l] Q E:=by
 rintro _ _ rfl ra s S;cases ra with
 |cons r1 ra=>
 cases ra;(refine ax (r1) fun t j'=>?_;subst j');refine nr (src:=some l.toArray) (.inr (cT _ _ rfl rfl)) (by show l.toArray.size<=_;rw [TK,sizeLine_eq];unfold bf at hz;exact o8 hz) fun h' e k=>?_;exact⟨.ref s.heap.objs.size,g,vs,_,S.more (o:=.barr l) (fun b hb=>by rw [Ti.mp hb];exact T9 (Tj _)) (by exact Tb rfl) k ⟨_,e⟩,rfl,h _ S.fresh⟩
theorem e_ {a:Addr} {l:List UInt8} {i:Int} {led':LD} {Q:QT AV} (U:ay an a (.barr l) (.barr (l++[i.toNat.toUInt8])) led') (hz:l.length<=bf) (h0:0<=i) (h1:i<256) (h:Q .none g vs led'):
 bG Φ g vs an (.builtin "bytearray.append") [.ref a,.int i] Q E:=by
 rintro _ _ rfl ra s S;cases ra with
 |cons r1 ra=>
 cases ra with
 |cons r2 ra=>
 cases ra;cases r1;(refine ax (r2) fun t j'=>?_;subst j');refine ax (S.1.hs.ledAt _ U.mem) fun sl e=>?_;refine qi e h0 h1 (by rw [TK,sizeLine_eq];unfold bf at hz;exact NI hz) ?_;exact⟨.none,g,vs,led',⟨S.1.upd U rfl (jI (AO.self_mem a (.barr l))) ⟨sl,(jw e).trans (by simp)⟩,S.2⟩,rfl,h⟩
theorem fN {a:Addr} {l m:List UInt8} {led':LD} {Q:QT AV} (U:ay an a (.barr l) (.barr (l++m)) led') (hz:l.length+m.length<=bf) (h:Q .none g vs led'):
 bG Φ g vs an (.builtin "bytearray.extend") [.ref a,.bytes m] Q E:=by
 rintro _ _ rfl ra s S;cases ra with
 |cons r1 ra=>
 cases ra with
 |cons r2 ra=>
 cases ra;cases r1;(refine ax (r2) fun t j'=>?_;subst j');refine ax (S.1.hs.ledAt _ U.mem) fun sl e=>?_;refine qh e (by rw [TK,TK,sizeLine_eq];unfold bf at hz;exact z6 hz) ?_;exact⟨.none,g,vs,led',⟨S.1.upd U rfl (jI (AO.self_mem a (.barr l))) ⟨sl,(jw e).trans (by simp)⟩,S.2⟩,rfl,h⟩
theorem nv {a:Addr} {l:List UInt8} {Q:QT AV} (ha:bM g an (a,.barr l)) (hz:l.length<=bf) (h:Q (.bytes l) g vs an):bG Φ g vs an (.type "bytes") [.ref a] Q E:=by
 rintro _ _ rfl ra s S;cases ra with
 |cons r1 ra=>
 cases ra;cases r1;refine ax (ha.at S.1) fun sl e=>?_;exact .of (pZ e (by rw [TK,sizeLine_eq];unfold bf at hz;exact o8 hz) fun t k=>⟨.bytes l,g,vs,an,S,⟨t,rfl⟩,h⟩)
theorem yw {ns:List Int}:∀{cs:List Value},aA (ns.map .int) cs->IntsAre cs ns:=by
 induction ns with
 |nil=>intro cs h;cases h;exact .nil
 |cons n r ih=>
  intro cs h;cases h with
  |cons r1 rs=>(refine ax (r1) fun t j'=>?_;subst j');exact .cons _ _ (ih rs)
theorem fe {a:Addr} {ns:List Int} {Q:QT AV} (ha:bM g an (a,.list (ns.map .int))) (hr:∀n∈ns,0<=n/\n<256) (hz:ns.length<=bf) (h:Q (.bytes (ns.map fun n=>n.toNat.toUInt8)) g vs an):bG Φ g vs an (.type "bytes") [.ref a] Q E:=by
 rintro _ _ rfl ra s S;cases ra with
 |cons r1 ra=>
 cases ra;cases r1;refine cB (ha.isList S.1) fun cs la fa _=>?_;have hi:=yw fa;have hl:cs.toList.length<=sizeLine:=by rw [hi.length,sizeLine_eq];unfold bf at hz;exact o8 hz
 refine .of (call_bytes_ints (vs:=cs.toList) (by simpa using la) hi hr hl Φ.hh fun h' t k hk=>?_);refine⟨.bytes _,g,vs,an,⟨?_,S.2⟩,⟨t,rfl⟩,h⟩;refine aw (S.1.loc) fun m hn hv=>?_;exact S.1.next [] (fun _ hb=>nomatch hb) (fun b o' _ e=>hk _ _ e) (aj m (by refine eu (hn) fun o es ep eo r=>?_;exact(dI o es ep (hk _ _ eo) r)) hv) rfl (fun p hp=>(S.1.hs.ledAt p hp).congr fun b _ y e=>hk _ _ e) S.1.hs.nd fun b hb=>.inl hb
end
end
section
open Builtin Builtin.Bytes
theorem pQ:Slot "bytes" "find" "bytes.find":=
 .of (owner:="bytes") (n:="find") (by rw [T5,Tq];kernel_rfl) (by decide+kernel) (by decide+kernel) (by decide+kernel)
  (by first|exact .inl (by decide+kernel)|exact .inr (by decide+kernel)) (by rw [isSubtype_type];kernel_rfl)
theorem oR:entryFor table "bytes.find"=some Builtin.«bytes.find»:=entryFor_of_tree (by kernel_rfl)
theorem qa (a b c:Value):argsOk "bytes.find" ⟨[a,b,c],[]⟩:=by unfold argsOk;kernel_rfl
theorem pP:Slot "bytes" "join" "bytes.join":=
 .of (owner:="bytes") (n:="join") (by rw [T5,Tq];kernel_rfl) (by decide+kernel) (by decide+kernel) (by decide+kernel)
  (by first|exact .inl (by decide+kernel)|exact .inr (by decide+kernel)) (by rw [isSubtype_type];kernel_rfl)
theorem oQ:entryFor table "bytes.join"=some Builtin.«bytes.join»:=entryFor_of_tree (by kernel_rfl)
theorem p_ (a b:Value):argsOk "bytes.join" ⟨[a,b],[]⟩:=by unfold argsOk;kernel_rfl
theorem rL:typeLookup (.type "int") "__index__"=pure (some (.builtin "int.__index__")):=by rw [T5,Tq];kernel_rfl
theorem lF (b:Array UInt8) (t:Tok) (i:Int) (u:Tok) (h0:0<=i) (h1:i<256):Meets (Builtin.«bytes.__contains__» ⟨[.bytes b t,.int i u],[]⟩) (fun _ R s=>R (.ok (.ret (.bool (b.contains i.toNat.toUInt8)))) s):=
 .of_wp fun prog w A R s h=>by
  unfold Builtin.«bytes.__contains__»;refine Te (Tm ?_);refine Te ?_;unfold containsIn;refine Te (wpAny_attempt (wpAny_of_eq (rfl:asIndex (.int i u)=pure i) ?_));refine Te (gE ?_);dsimp only;rw [Tc (by simp only [Bool.or_eq_true,decide_eq_true_eq];exact D5 h0 h1)];exact Tm (Tm (aj _ rfl h))
noncomputable def kN (l:List UInt8) (c:UInt8) (k:Nat):Int:=if c∈l.drop k then(k+((l.drop k).takeWhile (·!=c)).length:Nat) else-1
theorem u_ (c:UInt8):∀(r pre:List UInt8),((List.range r.length).map (·+pre.length)).find? (fun i=>((pre++r).toArray.extract i (i+1)==#[c]))=if c∈r then some (pre.length+(r.takeWhile (·!=c)).length) else none:=by
 intro r;induction r with
 |nil=>intro pre;rfl
 |cons x r ih=>
  intro pre;rw [Tu,List.range_succ_eq_map,TM,List.find?_cons];have e0:((pre++x::r).toArray.extract (0+pre.length) (0+pre.length+1)==#[c])=(x==c):=by
   have:(pre++x::r).toArray.extract (0+pre.length) (0+pre.length+1)=#[x]:=by
    apply Array.ext';simp
   rw [this];by_cases q:x=c<;>simp [q]
  rw [e0];by_cases q:x=c
  ·subst q;simp
  ·have hq:(x==c)=false:=by simp [q]
   rw [hq];have e1:List.map (·+pre.length) (List.map Nat.succ (List.range r.length))=(List.range r.length).map (·+(pre++[x]).length):=by
    rw [List.map_map];apply List.map_congr_left;intro j _;simp;exact D4
   have e2:pre++x::r=(pre++[x])++r:=by simp
   dsimp only;rw [e1,e2,ih (pre++[x])];have hq':(x !=c)=true:=by simp [q]
   rw [List.takeWhile_cons,hq'];have:c∈x::r↔c∈r:=by simp [Ne.symm q]
   by_cases m:c∈r
   ·rw [Tk m,Tk (this.mpr m)];simp;exact D4
   ·rw [Tc m,Tc fun z=>m (this.mp z)]
theorem u9 (l:List UInt8) (c:UInt8) (k:Nat) (hk:k<=l.length):
 (match (if(window l.toArray.size (some (k:Int)) none).2-(window l.toArray.size (some (k:Int)) none).1<((#[c]:Array UInt8).size:Nat) then none else some ((window l.toArray.size (some (k:Int)) none).1.toNat,(window l.toArray.size (some (k:Int)) none).2.toNat)).bind fun(lo,hi)=>find? l.toArray #[c] lo hi with|some j=>(j:Int)|none=>-1)=kN l c k:=by
 have w1:(window l.toArray.size (some (k:Int)) none)=((k:Int),(l.length:Int)):=by
  simp only [window,Option.getD_some,Option.getD_none,TK];rw [Tc z5,Tc z5];simp
 rw [w1];unfold kN;by_cases h:k=l.length
 ·rw [Tk (by simp [h])];subst h;rw [List.drop_length,Tc List.not_mem_nil];rfl
 ·rw [Tc (by simp;exact NH hk h)];show(match find? l.toArray #[c] (k:Int).toNat (l.length:Int).toNat with|some j=>(j:Int)|none=>-1)=_;unfold find?;have:=u_ c (l.drop k) (l.take k);rw [List.take_append_drop] at this;have e1:(l.take k).length=k:=by simp;exact FR hk
  have e2:(l.drop k).length=l.length-k:=by simp
  rw [e1,e2] at this;have e3:(l.length:Int).toNat+1-((k:Int).toNat+(#[c]:Array UInt8).size)=l.length-k:=by simp
  have e4:(k:Int).toNat=k:=by simp
  rw [e3,e4];have e5:(#[c]:Array UInt8).size=1:=rfl;rw [e5,this];by_cases m:c∈l.drop k
  ·rw [Tk m,Tk m]
  ·rw [Tc m,Tc m]
theorem A9 (b sub:Array UInt8) (t t2:Tok) (i:Int) (u:Tok):Meets (Builtin.«bytes.find» ⟨[.bytes b t,.bytes sub t2,.int i u],[]⟩)
 (fun _ R s=>∀tk k,R (.ok (.ret (.int (match (if(window b.size (some i) none).2-(window b.size (some i) none).1<sub.size then none else some ((window b.size (some i) none).1.toNat,(window b.size (some i) none).2.toNat)).bind fun(lo,hi)=>find? b sub lo hi with|some j=>(j:Int)|none=>-1) tk))) {s with toks:=k}):=
 .of_wp fun prog w A R s h=>by
  show wpAny _ _ (searchM .bytes "find" false false _) _ _ _;unfold searchM;refine Te ?_;unfold searchArgs;refine Te (Tm ?_);refine Te (m:=bound? _) ?_;unfold bound?;refine Te (wpAny_specialOf (T:="int") (typeIs_int s i u) rL ?_);rw [Tc (by decide)];refine Te (wpAny_of_eq (rfl:asIndex (.int i u)=pure i) (Tm ?_));refine Te (Tm ?_);refine Te (gE ?_);refine Te (Tm ?_);refine Te (Te (Tm (Tm ?_)));refine Tm ?_;generalize hX:((if(window b.size (some i) none).2-(window b.size (some i) none).1<sub.size then none else some ((window b.size (some i) none).1.toNat,(window b.size (some i) none).2.toNat)).bind fun(x:Nat×Nat)=>find? b sub x.1 x.2)=X;have hX':((if(window b.size (some i) none).2-(window b.size (some i) none).1<sub.size then none else some ((window b.size (some i) none).1.toNat,(window b.size (some i) none).2.toNat)).bind fun(lo,hi)=>find? b sub lo hi)=X:=hX;rw [hX'] at h;have step:∀{Y:Option Nat} (e:Y=X),wpAny (model prog w) A.in1 (match Y with|some i=>retInt (i:Nat)|none=>do
   rule (toString Kind.bytes.name++toString "."++toString "find"++toString ".not-found")
   if false=true then raiseErrorWords "ValueError" "subsection not found" else retInt (-1)) (fun fin s'=>∃v,fin=PySem.Fin.done (Flow.ret v)/\R (Except.ok (Flow.ret v)) s') (fun e s'=>R (Except.error e) s') s:=by
   rintro Y rfl;cases Y with
   |some j=>exact Te (wpAny_mkInt (Tm (aj _ rfl (h _ _))))
   |none=>
    refine Te (wpAny_rule ?_);rw [Tc (by decide)];exact Te (wpAny_mkInt (Tm (aj _ rfl (h _ _))))
  exact step hX
section
variable {F:aY} {Φ:Fx F} {g:GH} {vs:LV} {an:LD} {E:ET}
theorem nW (c:UInt8):(((c.toNat:Nat):Int).toNat).toUInt8=c:=by exact UInt8.ofNat_toNat
theorem kS {l:List UInt8} {c:UInt8} {Q:QT AV} (h:Q (.bool (l.contains c)) g vs an):d0 Φ g vs an .In (.int (c.toNat:Nat)) (.bytes l) Q E:=by
 (intro _ _ j' th s S;refine ax (j') fun t to=>?_;subst to;refine ax (th) fun u Ce=>?_;subst Ce);refine .of (PySem.SeqRoads2.in_meets (typeIs_bytes _ _ _) FB.slot_bytes_contains FB.entry_bytes_contains (FB.args_bytes_contains_2 _ _) (lF _ _ _ _ D3 (by have:=c.toNat_lt;exact wk this)) ⟨_,rfl,.bool _,g,vs,an,S,?_,h⟩);rw [nW];exact congrArg Value.bool List.contains_toArray
theorem vP {l:List UInt8} {c:UInt8} {Q:QT AV} (h:Q (.bool (!l.contains c)) g vs an):d0 Φ g vs an .NotIn (.int (c.toNat:Nat)) (.bytes l) Q E:=by
 (intro _ _ j' th s S;refine ax (j') fun t to=>?_;subst to;refine ax (th) fun u Ce=>?_;subst Ce);refine .of (PySem.SeqRoads2.notIn_meets (typeIs_bytes _ _ _) FB.slot_bytes_contains FB.entry_bytes_contains (FB.args_bytes_contains_2 _ _) (lF _ _ _ _ D3 (by have:=c.toNat_lt;exact wk this)) ⟨_,rfl,.bool _,g,vs,an,S,?_,h⟩);rw [nW];exact congrArg (fun b=>Value.bool (!b)) List.contains_toArray
theorem uv {l:List UInt8} {c:UInt8} {k:Nat} {i:Int} {Q:QT AV} (hi:i=(k:Int)) (hk:k<=l.length) (h:Q (.int (kN l c k)) g vs an):bG Φ g vs an (.builtin "bytes.find") [.bytes l,.bytes [c],.int i] Q E:=by
 subst hi;rintro _ _ rfl ra s S;cases ra with
 |cons r1 ra=>
 cases ra with
 |cons r2 ra=>
 cases ra with
 |cons r3 ra=>
 cases ra;(refine ax (r1) fun t1 j'=>?_;subst j');(refine ax (r2) fun t2 j'=>?_;subst j');(refine ax (r3) fun t3 j'=>?_;subst j');refine .of (call_meets pQ (typeIs_bytes _ _ _) oR (qa _ _ _) (A9 _ _ _ _ _ _) fun tk k'=>?_);refine⟨.int (kN l c k),g,vs,an,S,⟨tk,?_⟩,h⟩;rw [←u9 l c k hk]
theorem rR {A:Around} {s:Shared} (b c:Array UInt8) (t u:Tok):PySem.SeqAt.EqAt A s (.bytes b t) (.bytes c u) (b.toList==c.toList):=fun prog w E Q h=>by
 unfold eqBool;refine wpAny_holding ?_;by_cases q:(Value.bytes b t==Value.bytes c u)=true
 ·rw [Tk q];have e:=eq_of_beq q;injection e with e1 e2
  subst e1;refine Te (wpAny_rule (Tm ?_))
  rwa [beq_self_eq_true] at h
 ·rw [Tc q];refine Te ?_;exact eq_bytes (wpAny_truthy_bool h)
end
end
section
open Builtin Builtin.Bytes
noncomputable def gY (Mm:List UInt8):List (List UInt8)->List UInt8
 |[]=>[]
 |[x]=>x
 |x::y::r=>x++Mm++gY Mm (y::r)
inductive iE:List Value->List (List UInt8)->Prop
 |nil:iE [] []
 |cons {t vs l ls}:iE vs ls->iE (.bytes l.toArray t::vs) (l::ls)
theorem Dt {ls:List (List UInt8)}:∀{cs:List Value},aA (ls.map .bytes) cs->iE cs ls:=by
 induction ls with
 |nil=>intro cs h;cases h;exact .nil
 |cons n r ih=>intro cs h;cases h with|cons r1 rs=>(refine ax (r1) fun t j'=>?_;subst j');exact .cons (ih rs)
theorem iE.get {cs:List Value} {ls:List (List UInt8)} (h:iE cs ls):∀{i:Nat} {l:List UInt8},ls[i]? =some l->∃t,cs[i]? =some (.bytes l.toArray t):=by
 induction h with
 |nil=>intro i l e;cases e
 |cons _ ih=>intro i l e;cases i with
  |zero=>cases e;exact⟨_,rfl⟩
  |succ i=>exact ih (i:=i) e
theorem iE.length {cs:List Value} {ls:List (List UInt8)} (h:iE cs ls):cs.length=ls.length:=by
 induction h with
 |nil=>rfl
 |cons _ ih=>exact congrArg (·+1) ih
theorem pT (Mm:List UInt8):∀(ls:List (List UInt8)) (k:Nat) (out:Array UInt8),0<k->((ls.map List.toArray).zipIdx k).foldl (fun out (x:Array UInt8×Nat)=>(if x.2>0 then out++Mm.toArray else out)++x.1) out=(out.toList++(ls.map fun l=>Mm++l).flatten).toArray:=by
 intro ls;induction ls with
 |nil=>intro k out _;simp
 |cons x r ih=>
  intro k out hk;rw [TM,List.zipIdx_cons,List.foldl_cons,ih (k+1) _ (NG hk)];dsimp only;rw [Tk hk];apply Array.ext';simp [Tw]
theorem rJ (Mm:List UInt8):∀(x:List UInt8) (r:List (List UInt8)),gY Mm (x::r)=x++(r.map fun l=>Mm++l).flatten:=by
 intro x r;induction r generalizing x with
 |nil=>exact(T7 _).symm
 |cons y r ih=>exact(congrArg (x++Mm++·) (ih y)).trans (Tw ..) |>.trans (congrArg (x++·) (Tw ..).symm)
theorem tv (Mm:List UInt8) (ls:List (List UInt8)):joined Mm.toArray (ls.map List.toArray)=(gY Mm ls).toArray:=by
 unfold joined;cases ls with
 |nil=>rfl
 |cons x r=>
  rw [TM,List.zipIdx_cons,List.foldl_cons];have:=pT Mm r (0+1) ((if(0:Nat)>0 then(#[]:Array UInt8)++Mm.toArray else #[])++x.toArray) NF;refine this.trans ?_;rw [rJ];apply Array.ext';simp
section
variable {prog:Program} {w:World} {A:Around} {E:Value->Shared->Prop} {s:Shared}
theorem yt {M:Model} {A:Around} {E:Value->Shared->Prop} {s:Shared} {keep:List Value} {Q:Unit->Shared->Prop} (h:Q () s) (tk:List (Value×Option Value)) (hn:∀x∈tk,x.2=none):wpAny M A (joinLetGo tk keep) Q E s:=by
 induction tk with
 |nil=>exact Tm h
 |cons p r ih=>
  cases p with
  |mk x w=>
   have hw:w=none:=hn (x,w) (.head _);subst hw;exact Te (wpAny_letGo (ih fun y hy=>hn y (.tail _ hy)))
theorem nw {α:Type} {cs:Array Value} {f:Value->α} {d:α}:(¬∃x,cs=#[x])->(match cs with|#[x]=>f x|_=>d)=d:=by
 intro h;obtain⟨l⟩:=cs;match l with
 |[]=>rfl
 |[x]=>exact absurd ⟨x,rfl⟩ h
 |x::y::r=>rfl
theorem ux {α:Type} {M:Model} {A:Around} {E:Value->Shared->Prop} {s:Shared} {t t':Sem α} {Q:α->Shared->Prop} (e:t=t') (h:wpAny M A t' Q E s):wpAny M A t Q E s:=e▸h
theorem N9 {α β:Type} {M:Model} {A:Around} {m:Sem α} {k:α->Sem β} {Q:β->Shared->Prop} {E:Value->Shared->Prop} {s:Shared} (h:∀K:α->Sem β,K=k->wpAny M A (m>>=K) Q E s):wpAny M A (m>>=k) Q E s:=h k rfl
theorem OJ {β:Type} {M:Model} {A:Around} {r:Std.Legacy.Range} {b:β} {f:Nat->β->Sem (ForInStep β)} {Q:β->Shared->Prop} {E:Value->Shared->Prop} {s:Shared} (h:∀B:Nat->β->Sem (ForInStep β),B=f->wpAny M A (forIn (List.range' r.start r.size r.step) b B) Q E s):wpAny M A (forIn r b f) Q E s:=by
 rw [Std.Legacy.Range.forIn_eq_forIn_range'];exact h f rfl
theorem A8 (Mm:List UInt8) (t:Tok) (l:Addr) (cs:Array Value) (n:Nat) (sl) (ls:List (List UInt8)) (hb:iE cs.toList ls) (hz:(gY Mm ls).length<=sizeLine)
 (hz2:ls.foldl (fun a x=>a+x.length) (Mm.length*(ls.length-1))<=sizeLine):
 Meets (Builtin.«bytes.join» ⟨[.bytes Mm.toArray t,.ref l],[]⟩) (fun _ R s=>s.heap.get? l=some (lo cs n sl)/\∀tk k,R (.ok (.ret (.bytes (gY Mm ls).toArray tk))) {s with toks:=k}):=
 .of_wp fun prog w A R s h=>by
  obtain⟨hl,h⟩:=h;have hlen:=hb.length;rw [TR] at hlen;have hT:s.TypeIs (.ref l) "list":=⟨_,hl,rfl⟩
  show wpAny _ _ (joinM .bytes _) _ _ _;unfold joinM;refine Te (Tm ?_);refine Te (m:=joinItems (.ref l)) ?_;unfold joinItems;refine Te (wpAny_typeOf hT ?_);refine Tm ?_;have hitems:∀{α:Type} {k:Option (Array Value)->Sem α} {Q:α->Shared->Prop} {E:Value->Shared->Prop} {A:Around},wpAny (model prog w) A (k (some cs)) Q E s->wpAny (model prog w) A (seqItems? (.ref l)>>=k) Q E s:=fun hk=>
   Te (Te (AutoSeq1.wpAny_loadPart' hl (Tm hk)))
  refine hitems ?_;have hcs:(∃x,cs=#[x])\/¬∃x,cs=#[x]:=Classical.em _;rcases hcs with⟨x,rfl⟩|hcs
  ·cases hb with
   |@cons t' _ l _ hb=>
   cases hb;refine Te (wpAny_typeOf (typeIs_bytes _ _ _) ?_);rw [Tk (by decide)];exact Te (wpAny_rule (Tm ⟨_,rfl,h _ _⟩))
  ·refine ux (nw hcs) ?_;refine N9 fun K hK=>Te (OJ fun B hB=>wpAny_forIn_list _ (fun a' b s'=>s'=s/\∃i,i<=ls.length/\a'=List.range' i (ls.length-i)/\b.1=((ls.take i).map List.toArray).toArray/\∀x∈b.2,x.2=none/\x.1.onHeap=false) _ ?turn ?fin _ _ ?h);case h=>exact(cN rfl (dH 0 (bJ (Tn _) (by simp [Std.Legacy.Range.size,hlen]) (by rfl) (fun _ hx=>nomatch hx))))
   case turn=>
    subst hB;(intro i0 a' j' s' th;obtain⟨parts,taken⟩:=j';refine a0 (th) fun to El=>ax El fun i La=>cU La fun hi hr hp ht=>?_;subst to);have Lc:i<ls.length:=by
     rcases Nat.lt_or_ge i ls.length with q|q
     ·exact q
     ·rw [show ls.length-i=0 by exact NE hi q] at hr;cases hr
    rw [show ls.length-i=(ls.length-(i+1))+1 by exact ND Lc,List.range'_succ] at hr;injection hr with e1 e2
    subst e1;subst e2;dsimp only at hp ht ⊢;refine hitems ?_;dsimp only;refine ax (hb.get (i:=i0) (Th Lc)) fun t' ht'=>?_;have hx:cs.getD i0 Value.none= .bytes ls[i0].toArray t':=by
     rw [Array.getD_eq_getD_getElem?,←TJ,ht'];rfl
    rw [hx];rw [Tc (by
     simp only [Bool.or_eq_true,List.any_eq_true,not_or,not_exists,not_and];refine⟨by decide,fun x hx=>?_⟩;rw [(ht x hx).2];exact Bool.false_ne_true)]
    refine Te (wpAny_holding (lC ?_));dsimp only;refine hitems ?_;dsimp only;rw [Tc (by simp)];refine Tm (cN rfl (dH (i0+1) (bJ Lc rfl ?_ (fun x hx=>?_))))
    ·dsimp only;rw [hp,List.take_add_one,Th Lc,Option.toList_some,TE,List.push_toArray];rfl
    ·rcases T3.mp hx with q|q
     ·exact ht x q
     ·rw [Ti.mp q];exact⟨rfl,rfl⟩
   case fin=>
    subst hK;(intro j' s' th;obtain⟨parts,taken⟩:=j';refine a0 (th) fun to El=>ax El fun i La=>cU La fun hi hr hp ht=>?_;subst to);have hi':i=ls.length:=by
     have:=congrArg List.length hr;simp at this;exact NC hi this
    subst hi';rw [List.take_length] at hp;dsimp only at hp ht ⊢;subst hp;refine Te (Te (Tm (Tm ?_)));have hj:=tv Mm ls;rw [Tc (by
     unfold tooLong;rw [decide_eq_true_eq,Nat.not_lt];refine TO (Nat.le_of_eq ?_) hz2;rw [←Array.foldl_toList];simp [List.foldl_map])]
    refine Te (m:=Kind.new .bytes _) ?_;show wpAny _ _ (mkBytes (joined Mm.toArray (ls.map List.toArray).toArray.toList)) _ _ _;rw [show(ls.map List.toArray).toArray.toList=ls.map List.toArray from rfl,hj];refine wpAny_mkBytes ?_ (by rw [TK];exact hz);refine Te (wpAny_holding (wpAny_point ?_));refine Te (yt ?_ taken fun x hx=>(ht x hx).1);exact Tm (aj _ rfl (h _ _))
end
section
variable {F:aY} {Φ:Fx F} {g:GH} {vs:LV} {an:LD} {E:ET}
theorem uq {Mm:List UInt8} {a:Addr} {ls:List (List UInt8)} {Q:QT AV} (ha:bM g an (a,.list (ls.map .bytes))) (hz:(gY Mm ls).length<=bf) (hz2:ls.foldl (fun a x=>a+x.length) (Mm.length*(ls.length-1))<=bf)
 (h:Q (.bytes (gY Mm ls)) g vs an):bG Φ g vs an (.builtin "bytes.join") [.bytes Mm,.ref a] Q E:=by
 rintro _ _ rfl ra s S;cases ra with
 |cons r1 ra=>
 cases ra with
 |cons r2 ra=>
 cases ra;cases r2;(refine ax (r1) fun t1 j'=>?_;subst j');refine gT (ha.isList S.1) fun cs la fa n sl e=>?_;exact .of (call_meets pP (typeIs_bytes _ _ _) oQ (p_ _ _) (A8 Mm t1 a cs n sl ls (Dt fa) (by rw [sizeLine_eq];unfold bf at hz;exact o8 hz) (by rw [sizeLine_eq];unfold bf at hz2;exact o8 hz2)) ⟨e,fun tk k=>
  ⟨.bytes (gY Mm ls),g,vs,an,S,⟨tk,rfl⟩,h⟩⟩)
noncomputable def mA:List (List UInt8):=[[37,105,102],[37,101,108,105,102],[37,101,108,115,101],[37,101,110,100,105,102]]
theorem yH (P:Params):∃ts:List Tok,(hd.heap_1 P).lookup 48=some ⟨.type "tuple",none,.seq (mA.zipWith (fun l t=>Value.bytes l.toArray t) ts).toArray 0,#[]⟩/\ts.length=4:=(aj ([240,241,242,243]) rfl rfl)
theorem x5 (ks:List (List UInt8)) (ts:List Tok) (y:Value) (h:y∈ks.zipWith (fun l t=>Value.bytes l.toArray t) ts):∃(k:List UInt8) (t:Tok),y= .bytes k.toArray t:=by
 induction ks generalizing ts with
 |nil=>cases h
 |cons k ks ih=>
  cases ts with
  |nil=>cases h
  |cons t ts=>exact(T4.mp h).elim (fun e=>cA k t e) (ih ts)
theorem x6 {l:List UInt8} (ks:List (List UInt8)) (ts:List Tok) (h:ts.length=ks.length):((ks.zipWith (fun l t=>Value.bytes l.toArray t) ts).toArray).any (jA l)=ks.contains l:=by
 rw [List.any_toArray];induction ks generalizing ts with
 |nil=>rfl
 |cons k ks ih=>
  cases ts with
  |nil=>cases h
  |cons t ts=>
   rw [List.zipWith_cons_cons,List.any_cons,ih ts (Nat.succ.inj h),List.contains_cons];exact congrArg (·||_) (BEq.comm (a:=k))
theorem y4 {l:List UInt8} {Q:QT AV} (h:Q (.bool (mA.contains l)) g vs an):d0 Φ g vs an .In (.bytes l) (.ref 48) Q E:=by
 (intro _ _ j' th s S;refine ax (j') fun t to=>?_;subst to;subst th);refine aw (yH Φ.w.params) fun ts e ht=>?_;have e':=S.X _ _ e;refine .of (PySem.SeqAt.in_tupleAt (jA l) (fh _ e' rfl 0 rfl) (fun y hy=>?_) ⟨.bool _,g,vs,an,S,?_,h⟩)
 ·refine iy (x5 mA ts y (List.mem_toArray.mp hy)) fun k u e=>?_;subst e;exact rR _ _ _ _
 ·exact congrArg Value.bool (x6 mA ts ht)
end
end
noncomputable def eQ (pos:Pos) (env:Env):List (Option Expr)->List Expr->List (Sem Value×Sem Value)
 |some k::ks,v::vs=>(eval k env,do let x ←eval v env;standAt pos;pure x)::eQ pos env ks vs
 |_,_=>[]
theorem nh (pos:Pos) (env:Env):∀(keys:List (Option Expr)) (Cd:List Expr),(keys.all (·.isSome)&&keys.length==Cd.length)=true->
 (evalEachOpt keys env).zip ((evalEach Cd env).map fun v=>do let x ←v;standAt pos;pure x)=(eQ pos env keys Cd).map fun p=>(some p.1,p.2)
 |[],[],_=>rfl
 |[],_::_,h=>by rfl
 |_::_,[],h=>by simp at h
 |none::_,_::_,h=>by trivial
 |some k::ks,v::vs,h=>by
  rw [arm_evalEachOpt_cons,arm_evalEach_cons,TM,List.zip_cons_cons,nh pos env ks vs (by simpa using h)];rfl
theorem lS (pos:Pos) (env:Env):∀(keys:List (Option Expr)) (Cd:List Expr),(keys.all (·.isSome)&&keys.length==Cd.length)=true->(eQ pos env keys Cd).length=keys.length
 |[],[],_=>rfl
 |[],_::_,h=>by rfl
 |_::_,[],h=>by simp at h
 |none::_,_::_,h=>by trivial
 |some k::ks,v::vs,h=>by show _+1=_+1;rw [lS pos env ks vs (by simpa using h)]
inductive pD:List (AV×AV)->List (Value×Value)->Prop
 |nil:pD [] []
 |cons {k v c d r s}:AV.Is k c->AV.Is v d->pD r s->pD ((k,v)::r) ((c,d)::s)
theorem td {K:Type} [DecidableEq K] (F8 F6:List (K×Value)) (h:((F6++F8).map (·.1)).Nodup):merged F6 F8=F6++F8:=by
 induction F8 generalizing F6 with
 |nil=>exact(T7 _).symm
 |cons p r ih=>
  have hs:stored F6 p.1 p.2=F6++[p]:=Tc fun q=>aw (List.any_eq_true.mp q) fun x hx e=>by
   rw [TE] at h;exact(TH.mp h).2.2 p.1 (List.mem_map.mpr (aj x hx (Tb e))) p.1 (SZ ..) rfl
  show merged (stored F6 p.1 p.2) r=_;rw [hs,ih (F6++[p]) (by rw [Tw];exact h)];exact Tw ..
section
variable {prog:Program} {w:World} {K:Type} [DecidableEq K] {knd:KeyKind prog w K} {A:Around} {E:Value->Shared->Prop} {s:Shared}
theorem uk {pairs:List (Sem Value×Sem Value)} {Q:Addr->Shared->Prop} (hlen:pairs.length<=15)
 (h:al (model prog w) A (evalPairs pairs) (fun vs o0=>∃F8,Carries knd vs F8/\F8.length<=15/\o0.heap.DictOf knd s.heap.objs.size []/\
  ∀h',h'.DictOf knd s.heap.objs.size (merged [] F8)->Heap.SameBut s.heap.objs.size o0.heap h'->Q s.heap.objs.size {o0 with heap:=h',toks:=o0.toks+vs.length}) E
  {s with heap:=s.heap.push {cls:=.type "dict",data:=.dict #[]}}):
 al (model prog w) A (subDict pairs) Q E s:=by
 unfold subDict;refine aX (wpAny_alloc ?_);refine be (bN ?_);rw [Tk hlen];refine bC h fun vs o0 F5=>?_;refine fG (F5) fun F8 hc hz hm hQ=>?_;refine bN ?_;exact aX (wpAny_storeAll (knd:=knd) vs F8 [] o0 _ hc hm (by rw [sizeLine_eq,TC];exact NB hz) fun h' hm' SC=>aG (aG (hQ h' hm' SC)))
theorem CP {env:Env} {keys:List (Option Expr)} {Cd:List Expr} {pos:Pos} {Q:Value->Shared->Prop} (hk:(keys.all (·.isSome)&&keys.length==Cd.length)=true) (h0:keys≠[]) (hlen:keys.length<=15)
 (h:al (model prog w) A (evalPairs (eQ pos env keys Cd)) (fun vs o0=>∃F8,Carries knd vs F8/\F8.length<=15/\o0.heap.DictOf knd s.heap.objs.size []/\
  ∀h',h'.DictOf knd s.heap.objs.size (merged [] F8)->Heap.SameBut s.heap.objs.size o0.heap h'->Q (.ref s.heap.objs.size) {o0 with heap:=h',toks:=o0.toks+vs.length}) E
  {s with heap:=s.heap.push {cls:=.type "dict",data:=.dict #[]}}):
 al (model prog w) A (eval (.Dict keys Cd pos) env) Q E s:=by
 have hl:=lS pos env keys Cd hk;have Fd:eQ pos env keys Cd≠[]:=fun e=>by
  rw [e] at hl;exact h0 (List.length_eq_zero_iff.mp hl.symm)
 rw [arm_eval_Dict,nh pos env keys Cd hk,dictDisplay_pairs _ Fd (NA hlen hl)];exact bo (be (uk (knd:=knd) (DZ hlen hl) (cy h (fun vs o0 zp51=>fG zp51 fun F8 a b c d=>(dP F8 a b c (fun h' x y=>aG (d h' x y)))) fun _ _ e=>e)))
end
section
variable {F:aY} {Φ:Fx F} {g:GH} {vs:LV} {an:LD} {E:ET}
noncomputable def px (Φ:Fx F) (g:GH) (vs:LV) (an:LD) (ps:List (Sem Value×Sem Value)) (Q:QT (List (AV×AV))) (E:ET):Prop:=TG pD Φ g vs an (evalPairs ps) Q E
theorem l7 {pos} {Q:QT (List (AV×AV))} (h:Q [] g vs an):px Φ g vs an (eQ pos Φ.env [] []) Q E:=fun _ S=>aG ⟨[],g,vs,an,S,.nil,h⟩
theorem iB {pos k v ks es} {Q:QT (List (AV×AV))} (h:TV Φ g vs an (eval k Φ.env) (fun a g vs an=>TV Φ g vs an (eval v Φ.env) (fun b g vs an=>px Φ g vs an (eQ pos Φ.env ks es) (fun l g vs an=>Q ((a,b)::l) g vs an) E) E) E):
 px Φ g vs an (eQ pos Φ.env (some k::ks) (v::es)) Q E:=by
 intro s S;show al _ _ (evalPairs ((eval k Φ.env,do let x ←eval v Φ.env;standAt pos;pure x)::eQ pos Φ.env ks es)) _ _ _;rw [evalPairs];refine be (h.use S fun c s1 a g1 Lu KE S1 r1 q1=>?_);refine be (bN (be (q1.use S1 fun d s2 b g2 SL SM S2 r2 q2=>bo (aG ?_))));exact be (bN (TG.use q2 S2 fun l s3 m g3 vs3 G' S3 r3 q3=>aG ⟨_,_,_,_,S3,.cons r1 r2 r3,q3⟩))
theorem aZ.high {st:Bool} {s:Shared} (S:aZ Φ st g s vs an):(s.heap.objs.size==sysModules)=false:=by
 have h:∃o,(hd.heap_1 Φ.w.params).lookup 412=some o:=⟨_,rfl⟩
 refine ax (h) fun o e=>?_;have:=Heap.lt_size (S.X _ _ e);exact beq_eq_false_iff_ne.mpr fun q=>by rw [q] at this;revert this;decide
theorem r7 {w:World} {K:Type} [DecidableEq K] {knd:KeyKind PG w K} {av:K->AV} (hav:∀k v,AV.Is (av k) v->knd.is k v=true) {ks:List (K×AV)} {cs:List (Value×Value)} (h:pD (ks.map fun p=>(av p.1,p.2)) cs):
 ∃F8:List (K×Value),Carries knd cs F8/\F8.map (·.1)=ks.map (·.1)/\aA (ks.map (·.2)) (F8.map (·.2))/\F8.length=ks.length:=by
 induction ks generalizing cs with
 |nil=>cases h;exact(dP ([]) trivial rfl .nil rfl)
 |cons p r ih=>
  cases h with
  |cons h1 h2 h3=>exact fG (ih h3) fun F8 a b c d=>dP ((p.1,_)::F8) (aN (hav _ _ h1) rfl a) (congrArg (p.1::·) b) (.cons h2 c) (congrArg Nat.succ d)
theorem mN {K:Type} [DecidableEq K] {knd:KeyKind PG Φ.w K} {av:K->AV} {ao:List (K×AV)->AO} (hav:∀k v,AV.Is (av k) v->knd.is k v=true) (hao:∀ks h a,(ao ks).At Φ.w h a=dD knd h a ks) (had:∀ks a,(ao ks).addrs a=[a])
 {keys Cd pos} {Q:QT AV} (hk:(keys.all (·.isSome)&&keys.length==Cd.length)=true) (h0:keys≠[]) (hlen:keys.length<=15)
 (h:∀d,d∉aD an->px Φ g vs (an++[(d,ao [])]) (eQ pos Φ.env keys Cd) (fun l g vs led'=>∃ks,l=ks.map (fun p=>(av p.1,p.2))/\(ks.map (·.1)).Nodup/\ks.length<=15/\∃F7,ay led' d (ao []) (ao ks) F7/\Q (.ref d) g vs F7) E):
 TV Φ g vs an (eval (.Dict keys Cd pos) Φ.env) Q E:=by
 intro s S;refine CP (knd:=knd) hk h0 hlen ?_;have hd:dD knd (s.heap.push {cls:=.type "dict",data:=.dict #[]}) s.heap.objs.size []:=
  (kM (aZ.high S) ([]) (bc _ (#[]) 0 (bF (Heap.get?_push_size _ rfl) (aN rfl rfl rfl) rfl (fun _ he=>by simp at he) .nil List.nodup_nil)) rfl .nil)
 have S1:aZ Φ Φ.strict g {s with heap:=s.heap.push {cls:=.type "dict",data:=.dict #[]}} vs (an++[(s.heap.objs.size,ao [])]):=
  S.more (o:=ao []) (fun b hb=>by rw [had] at hb;rw [Ti.mp hb];exact T9 (Tj _)) (by rw [had];exact Tb rfl) (fun b y e=>Tp _ e) (by rw [hao];exact hd)
 refine TG.use (h _ S.fresh) S1 fun cs s2 l g2 SL SM S2 r2 zp28=>tI zp28 fun ks e nd hz G' U q=>?_;subst e;refine fG (r7 hav r2) fun F8 c1 c2 c3 c4=>?_;have hat:=S2.1.hs.ledAt _ U.mem;rw [hao] at hat;refine kO (hat) fun ns kv0 D0 e0 _=>?_;have:kv0=[]:=by simpa using e0
 subst this;refine(dP F8 c1 (DZ hz c4) D0 (fun h' D hs=>?_));have hm:merged [] F8=F8:=by
  have:=td F8 [] (by simpa [c2] using nd);simpa using this
 rw [hm] at D;refine⟨.ref s.heap.objs.size,g2,SL,G',⟨S2.1.upd U (by rw [had,had]) (fun b y hb ey=>?_) (by rw [hao];exact(kM ns F8 D c2 c3)),S2.2⟩,rfl,q⟩;rw [had] at hb;exact(hs.2 b fun z=>hb (by rw [z];exact Ti.mpr rfl)).trans ey
theorem Cf {w:World} (k:Str) (v:Value) (h:AV.Is (.str k) v):(strKind PG w).is k v=true:=by(refine ax (h) fun t j'=>?_;subst j');exact strKind_is _ _ _ _
theorem Cg {w:World} (k:Int) (v:Value) (h:AV.Is (.int k) v):(intKind PG w).is k v=true:=by(refine ax (h) fun t j'=>?_;subst j');exact intKind_is _ _ _ _
theorem vI {w:World} (k:List UInt8) (v:Value) (h:AV.Is (.bytes k) v):(jf PG w).is k v=true:=by(refine ax (h) fun t j'=>?_;subst j');exact rK k t
theorem yU {keys Cd pos} {Q:QT AV} (h:∀d,d∉aD an->px Φ g vs (an++[(d,.dictS [])]) (eQ pos Φ.env keys Cd) (fun l g vs led'=>∃ks:List (Str×AV),l=ks.map (fun p=>(.str p.1,p.2))/\(ks.map (·.1)).Nodup/\ks.length<=15/\∃F7,ay led' d (.dictS []) (.dictS ks) F7/\Q (.ref d) g vs F7) E)
 (hk:(keys.all (·.isSome)&&keys.length==Cd.length)=true) (h0:keys≠[]) (hlen:keys.length<=15):TV Φ g vs an (eval (.Dict keys Cd pos) Φ.env) Q E:=
 mN (ao:=.dictS) Cf (fun _ _ _=>rfl) (fun _ _=>rfl) hk h0 hlen h
theorem qV {keys Cd pos} {Q:QT AV} (h:∀d,d∉aD an->px Φ g vs (an++[(d,.dictI [])]) (eQ pos Φ.env keys Cd) (fun l g vs led'=>∃ks:List (Int×AV),l=ks.map (fun p=>(.int p.1,p.2))/\(ks.map (·.1)).Nodup/\ks.length<=15/\∃F7,ay led' d (.dictI []) (.dictI ks) F7/\Q (.ref d) g vs F7) E)
 (hk:(keys.all (·.isSome)&&keys.length==Cd.length)=true) (h0:keys≠[]) (hlen:keys.length<=15):TV Φ g vs an (eval (.Dict keys Cd pos) Φ.env) Q E:=
 mN (ao:=.dictI) Cg (fun _ _ _=>rfl) (fun _ _=>rfl) hk h0 hlen h
theorem qW {keys Cd pos} {Q:QT AV} (h:∀d,d∉aD an->px Φ g vs (an++[(d,.dictB [])]) (eQ pos Φ.env keys Cd) (fun l g vs led'=>∃ks:List (List UInt8×AV),l=ks.map (fun p=>(.bytes p.1,p.2))/\(ks.map (·.1)).Nodup/\ks.length<=15/\∃F7,ay led' d (.dictB []) (.dictB ks) F7/\Q (.ref d) g vs F7) E)
 (hk:(keys.all (·.isSome)&&keys.length==Cd.length)=true) (h0:keys≠[]) (hlen:keys.length<=15):TV Φ g vs an (eval (.Dict keys Cd pos) Φ.env) Q E:=
 mN (ao:=.dictB) vI (fun _ _ _=>rfl) (fun _ _=>rfl) hk h0 hlen h
noncomputable def eM {K:Type} [DecidableEq K] (ks:List (K×AV)) (k:K):Option AV:=(ks.find? fun p=>decide (p.1=k)).map (·.2)
theorem yp {K:Type} [DecidableEq K] {x k:K} {a:AV} {ks:List (K×AV)} (h:x=k):eM ((x,a)::ks) k=some a:=congrArg (Option.map _) (List.find?_cons_of_pos (p:=fun p:K×AV=>decide (p.1=k)) (decide_eq_true h))
theorem yq {K:Type} [DecidableEq K] {x k:K} {a:AV} {ks:List (K×AV)} (h:¬x=k):eM ((x,a)::ks) k=eM ks k:=congrArg (Option.map _) (List.find?_cons_of_neg (p:=fun p:K×AV=>decide (p.1=k)) fun q=>h (Tb q))
theorem sx {K:Type} [DecidableEq K] {x k:K} {a:Value} {ks:List (K×Value)} (h:x=k):valueAt ((x,a)::ks) k=some a:=congrArg (Option.map _) (List.find?_cons_of_pos (p:=fun p:K×Value=>decide (p.1=k)) (decide_eq_true h))
theorem sy {K:Type} [DecidableEq K] {x k:K} {a:Value} {ks:List (K×Value)} (h:¬x=k):valueAt ((x,a)::ks) k=valueAt ks k:=congrArg (Option.map _) (List.find?_cons_of_neg (p:=fun p:K×Value=>decide (p.1=k)) fun q=>h (Tb q))
theorem qE {K:Type} [DecidableEq K] {ks:List (K×AV)} {F8:List (K×Value)} (e:F8.map (·.1)=ks.map (·.1)) (r:aA (ks.map (·.2)) (F8.map (·.2))) (k:K):(eM ks k=none/\valueAt F8 k=none)\/∃a v,eM ks k=some a/\valueAt F8 k=some v/\AV.Is a v:=by
 induction ks generalizing F8 with
 |nil=>cases F8 with
  |nil=>exact .inl ⟨rfl,rfl⟩
  |cons=>cases e
 |cons p ks ih=>cases F8 with
  |nil=>cases e
  |cons q F8=>
   cases p with
   |mk x a=>cases q with
    |mk y v=>
     have e1:=List.cons.inj e;have e0:y=x:=e1.1;cases r with
     |cons r1 r2=>
      by_cases q:x=k
      ·exact .inr (cf _ _ (yp q) (sx (e0.trans q)) r1)
      ·rw [yq q,sy (e0▸q)];exact ih e1.2 r2
theorem uw {K:Type} [DecidableEq K] {knd:KeyKind PG Φ.w K} {av:K->AV} {ks:List (K×AV)} {o:AO} (hav:∀k v,AV.Is (av k) v->knd.is k v=true) {a:Addr} {k:K} {d:AV} {Q:QT AV} (ha:bM g an (a,o)) (ho:∀h,o.At Φ.w h a->dD knd h a ks)
 (h:Q ((eM ks k).getD d) g vs an):bG Φ g vs an (.builtin "dict.get") [.ref a,av k,d] Q E:=by
 rintro _ _ rfl ra s S;cases ra with
 |cons r1 ra=>
 cases ra with
 |cons r2 ra=>
 cases ra with
 |cons r3 ra=>
 cases ra;cases r1;refine kO (ho _ (ha.at S.1)) fun ns F8 D e1 e2=>?_;have key:=hav _ _ r2;rename_i ck cd;refine .of (call_meetsIn PySem.F.slot_dict_get D.mapOf.typeIs PySem.F.entry_dict_get (PySem.F.args_dict_get_3 _ _ _) (meets_dict_get_default knd a key ns cd) (aj _ D.mapOf ?_));rcases qE e1 e2 k with⟨q1,q2⟩|⟨x,v,q1,q2,q3⟩
 ·rw [q2];rw [q1] at h;exact⟨d,g,vs,an,S,r3,h⟩
 ·rw [q2];rw [q1] at h;exact⟨x,g,vs,an,S,q3,h⟩
theorem y6 {value A':Expr} {a:Addr} {ks:List (Str×AV)} {x:Str} {v:AV} {Q:QT AV} (ha:bM g an (a,.dictS ks)) (hx:eM ks x=some v) (h:Q v g vs an)
 (hs:∀b u,subscripted A' false (.ref b) (.str x u)=operate [.ref b,.str x u] (getItem (.ref b) (.str x u))):gG Φ g vs an value A' (.ref a) (.str x) Q E:=by
 (intro _ _ j' th s S;subst j';refine ax (th) fun u to=>?_;subst to);refine kO (ha.at S.1) fun ns F8 D e1 e2=>?_;rcases qE e1 e2 x with⟨q1,_⟩|⟨y,c,q1,q2,q3⟩
 ·rw [q1] at hx;cases hx
 ·rw [q1] at hx;cases hx;exact .of (tail_any (T:="dict") D.mapOf.typeIs slot_dict_getitem.lookup (wpAny_getItem_of (strKind_is _ _ x u) D.mapOf q2 ⟨v,g,vs,an,S,q3,h⟩) (hs _ _))
inductive pH {K:Type}:List (K×AV)->K->AV->List (K×AV)->Prop
 |head {x o r v}:pH ((x,o)::r) x v ((x,v)::r)
 |tail {p r x v r'}:pH r x v r'->pH (p::r) x v (p::r')
noncomputable def se (Φ:Fx F) (g:GH) (vs:LV) (an:LD) (o i v:AV) (Q:QT Unit) (E:ET):Prop:=∀vo vi vv,AV.Is o vo->AV.Is i vi->AV.Is v vv->TU Φ g vs an (setItem vo vi vv) Q E
theorem rh {K:Type} [DecidableEq K] {ks ks':List (K×AV)} {x:K} {v:AV} (hp:pH ks x v ks'):∀{F8:List (K×Value)},F8.map (·.1)=ks.map (·.1)->aA (ks.map (·.2)) (F8.map (·.2))->(ks.map (·.1)).Nodup->∀c,AV.Is v c->
 (F8.any fun kv=>decide (kv.1=x))=true/\(F8.map fun kv=>if kv.1=x then(kv.1,c) else kv).map (·.1)=ks'.map (·.1)/\aA (ks'.map (·.2)) ((F8.map fun kv=>if kv.1=x then(kv.1,c) else kv).map (·.2)):=by
 induction hp with
 |@head x o r v=>
  intro F8 e ra nd c rc;cases F8 with
  |nil=>contradiction
  |cons p F8=>
   obtain⟨y,u⟩:=p;simp only [TM,List.cons.injEq] at e;refine a0 (e) fun e1 e2=>?_;subst e1;cases ra with
   |cons r1 r2=>
   have hn:y∉F8.map (·.1):=by rw [e2];exact(TA.mp nd).1
   have hm:=map_store_of_not_mem F8 y c hn;have hc:(((y,u)::F8).map fun kv=>if kv.1=y then(kv.1,c) else kv)=(y,c)::F8:=by rw [TM,Tk rfl,hm]
   refine(aN (by simp) ?_ ?_)
   ·rw [hc];simp [e2]
   ·rw [hc];exact .cons rc r2
 |@tail p r x v r' hp ih=>
  intro F8 e ra nd c rc;cases F8 with
  |nil=>contradiction
  |cons q F8=>
   obtain⟨y,u⟩:=q;obtain⟨py,pv⟩:=p;simp only [TM,List.cons.injEq] at e;refine a0 (e) fun e1 e2=>?_;subst e1;cases ra with
   |cons r1 r2=>
   refine bp (ih e2 r2 (TA.mp nd).2 c rc) fun i1 i2 i3=>?_;have Fd:y≠x:=by
    rintro rfl;refine(TA.mp nd).1 ?_;refine aw (List.any_eq_true.mp i1) fun kv hkv hq=>?_;rw [←e2];exact List.mem_map.mpr (aj kv hkv (Tb hq))
   have hc:(((y,u)::F8).map fun kv=>if kv.1=x then(kv.1,c) else kv)=(y,u)::(F8.map fun kv=>if kv.1=x then(kv.1,c) else kv):=by rw [TM,Tc Fd]
   refine(aN (by rw [List.any_cons,i1,Bool.or_true]) ?_ ?_)
   ·rw [hc,TM,i2];rfl
   ·rw [hc];exact .cons r1 i3
theorem y5 {a:Addr} {ks ks':List (Str×AV)} {x:Str} {v:AV} {led':LD} {Q:QT Unit} (U:ay an a (.dictS ks) (.dictS ks') led') (hp:pH ks x v ks') (hz:ks.length<=100) (h:Q () g vs led'):se Φ g vs an (.ref a) (.str x) v Q E:=by
 (intro _ _ c j' th rc s S;subst j';refine ax (th) fun u to=>?_;subst to);refine kO (S.1.hs.ledAt _ U.mem) fun ns F8 D e1 e2=>?_;have nd:(ks.map (·.1)).Nodup:=by
  refine dM (D) fun _ _ _ El=>eF El fun _ _ _ _ _ nd=>?_;rw [←e1];exact nd
 have hl:F8.length<=sizeLine:=by
  have:=congrArg List.length e1;simp only [Tx] at this;rw [sizeLine_eq];exact Nz hz this
 refine bp (rh hp e1 e2 nd c rc) fun p1 p2 p3=>?_;refine .of (wpAny_setItem_pairs (hsz:=hl) (strKind_is _ _ x u) D fun h' D' hs=>?_);have Kd:stored F8 x c=F8.map fun kv=>if kv.1=x then(kv.1,c) else kv:=by unfold stored;rw [Tk p1]
 rw [Kd] at D';refine⟨(),g,vs,led',⟨S.1.upd U rfl (fun b y hb ey=>?_) (kM ns _ D' p2 p3),S.2⟩,rfl,h⟩;exact(hs.2 b fun z=>hb (by rw [z];exact SZ ..)).trans ey
theorem vM {o i pos v} {Q:QT Unit} (h:TV Φ g vs an (eval o Φ.env) (fun ov g vs an=>TV Φ g vs an (eval i Φ.env) (fun iv g vs an=>se Φ g vs an ov iv v Q E) E) E):lr Φ g vs an (assign (.Subscript o i pos) Φ.env) v Q E:=by
 intro c r s S;exact vV (h.use S fun _ _ _ _ _ _ S1 r1 q1=>q1.use S1 fun _ _ _ _ _ _ S2 r2 q2=>(q2 _ _ _ r1 r2 r).use S2 fun _ _ b _ _ _ S3 r3 q3=>⟨b,_,_,_,S3,rfl,q3⟩)
theorem qd {o i pos' value pos} {Q:QT AF} (h:TV Φ g vs an (eval value Φ.env) (fun v g vs an=>TV Φ g vs an (eval o Φ.env) (fun ov g vs an=>TV Φ g vs an (eval i Φ.env) (fun iv g vs an=>se Φ g vs an ov iv v (fun _ g vs an=>Q .next g vs an) E) E) E) E)
 (hs:swapsWithSole [.Subscript o i pos'] value pos.line Φ.env=pure false) (hw:swappedStores [.Subscript o i pos'] value Φ.env=pure none):TF Φ g vs an (exec (.Assign [.Subscript o i pos'] value pos) Φ.env) Q E:=
 fun _ S=>nu (he:=by rfl) (hs:=hs) (hw:=hw) (h.use S fun _ _ _ _ _ _ S1 r1 q1=>(vM (Q:=fun _ g vs an=>Q .next g vs an) q1 _ r1).use S1 fun _ _ _ _ _ _ S2 _ q2=>⟨.next,_,_,_,S2,rfl,q2⟩)
end
section
open Builtin Builtin.ObjectAttr
noncomputable abbrev jR:List Value:=[.ref 32,.type "Exception",.type "BaseException",.type "object"]
theorem pp (P:Params):∃hdct sn sub ab col dd k0 k1 k2 k3 k5,(hd.heap_1 P).lookup 45=some (excClassObj "BadCommand" "BadCommand" 45 44 [.ref 32] jR hdct sn sub ab col dd k0 k1 k2 k3 k5 "Exception.__new__")/\hdct=true/\ab=false:=
 (mx _ _ _ _ _ _ _ _ _ _ _ (aN rfl rfl rfl))
theorem r6 (P:Params):∃cd,clsIn (hd.heap_1 P) 45=some cd/\cd.hasDict=true/\cd.mro= .ref 45::jR:=(eP _ rfl rfl rfl)
theorem zj (x:Value):refuseLoop x "__setattr__" (.ref 45::jR)=pure ():=by
 rw [refuseLoop_ref,refuseLoop_ref];exact PySem.F.store_Exception.passes x
section
variable {w:World} {A:Around} {E:Value->Shared->Prop} {s:Shared}
noncomputable abbrev KF (w:World):Frag:=hd.heap_1 w.params
theorem tB {x:Addr} {fs:Array Value} {sl:Array (Option Value)} {v:Value} {tk:Tok} {R:Result->Shared->Prop} (X:(KF w).In s.heap) (hx:s.heap.get? x=some ⟨.ref 45,none,.fields fs,sl⟩)
 (h:∀h' tk',h'.get? x=some ⟨.ref 45,some s.heap.objs.size,.fields fs,sl⟩->(∃es n sl',h'.get? s.heap.objs.size=some ⟨.type "dict",none,.dict es n,sl'⟩/\∃hsh tk,es.toList=[⟨hsh,.str "told" tk,v⟩])->
  (∀b y,b≠x->s.heap.get? b=some y->h'.get? b=some y)->R (.ok (.ret .none)) {s with heap:=h',toks:=tk'}):
 codeAny (model PG w) A (.call (.builtin "object.__setattr__") ⟨[.ref x,.str "told" tk,v],[]⟩) R s:=by
 have SF:=PySem.F.store_object;have I:InstAt s.heap x ⟨.ref 45,none,.fields fs,sl⟩ 45 none:=⟨hx,rfl,rfl,trivial⟩
 refine cB (r6 w.params) fun cd hc K6 hmro=>?_;have hm:Looks (model PG w) s.heap (mroOf (.ref 45)) (.ref 45::jR):=hmro▸(looks_clsIn X hc).andThen .now;have sub:Looks (model PG w) s.heap (isInstance (.ref x) (.type "object")) true:=I.type.andThen (looks_mroIn X (by unfold mroIn;rw [hc,Option.bind_some,hmro,Tc (by decide+kernel)];decide+kernel));refine codeAny_call_builtin SF.slot.plain SF.entry (@check_slot (model PG w) _ _ s "object.__setattr__" "object" "__setattr__" (.ref x) [.str "told" tk,v] [] _ SF.kind SF.split sub (SF.args (.ref x) (.str "told" tk) v) ?_);have ha:findIn (KF w) (.ref 45) "told"=some none:=rfl;rw [osa_eq,refuse_eq];refine Te (Te (I.type.here (Te (hm.here ?_))));rw [zj];refine Tm (Te (I.type.here (Te ((looks_findIn X ha).here ?_))));refine Te (Tm ?_);show wpAny _ _ (storeInOwnDict (.ref x) (.ref 45) (.str "told" tk) "told" v false) _ _ _;unfold storeInOwnDict;refine Te (m:=ownStreamTells (.ref x) (.ref 45)) (Tm ?_);rw [Tc (by decide)];unfold ownDictForStores;refine Te ?_;show wpAny _ _ (instanceDict x true) _ _ _;unfold instanceDict;refine Te (wpAny_loadPart hx ?_);refine Te ((looks_clsIn X hc).here ?_);rw [K6];rw [Tc (by decide)];rw [Tc (by exact Bool.false_ne_true)];refine Te (wpAny_alloc ?_);have hx1:(s.heap.push {cls:=.type "dict",data:=.dict #[]}).get? x=some ⟨.ref 45,none,.fields fs,sl⟩:=Tp _ hx;refine Te (wpAny_update hx1 ?_);refine Tm (a:=some s.heap.objs.size) ?_;have Fd:x≠s.heap.objs.size:=Nat.ne_of_lt (Heap.lt_size hx);have gx:((s.heap.push {cls:=.type "dict",data:=.dict #[]}).update x fun o=>{o with dict:=some s.heap.objs.size}).get? x=some ⟨.ref 45,some s.heap.objs.size,.fields fs,sl⟩:=Heap.get?_update_self _ hx1 rfl;have gd:((s.heap.push {cls:=.type "dict",data:=.dict #[]}).update x fun o=>{o with dict:=some s.heap.objs.size}).get? s.heap.objs.size=some ⟨.type "dict",none,.dict #[] 0,#[]⟩:=
  (T6 _ _ Fd).trans (Heap.get?_push_size _ rfl)
 show wpAny _ _ (storeInDict s.heap.objs.size (.str "told" tk) "told" v) _ _ _;unfold storeInDict newKeyGuard;refine Te (Tm (Te ?_));unfold nsSet;refine Te (Te (wpAny_askSetting (Tm (Te (wpAny_mkText (Te (wpAny_loadPart gd ?_)))))));dsimp only;rw [aRefKeyMayBeTheName_at];rw [show(!(#[]:Array DictEntry).any (·.key.isStr "told")&&(#[]:Array DictEntry).any (·.refKey))=false from by simp];refine wpAny_updatePart gd ?_;have gd':=Heap.get?_update_self (Obj.putName "told" (PyData.keyHash w.params "told") (.str "told" s.toks) v) gd (by rw [eZ];rfl);refine Te (wpAny_lookBehind gd' (by
  rw [eZ];refine pastItsLine_dict ?_;rw [TK,sizeLine_eq];exact(show(1:Nat)<=_ from by decide)) ?_)
 refine Tm ?_;refine h _ _ ((T6 _ _ (Ne.symm Fd)).trans gx) (bc _ _ _ (cN (gd'.trans (congrArg some (eZ ..))) (cA _ _ rfl))) fun b y hb ey=>?_;have hbs:b≠s.heap.objs.size:=Nat.ne_of_lt (Heap.lt_size ey);exact(T6 _ _ (Ne.symm hbs)).trans ((T6 _ _ (Ne.symm hb)).trans (Tp _ ey))
end
end
theorem Bm:(Value.ref 45::jR).contains (.type "Exception")=true:=by decide+kernel
theorem Oj:(Value.ref 45::jR).contains (.type "AttributeError")=false:=by decide+kernel
theorem Oh:(Value.ref 45::jR).contains (.type "NameError")=false:=by decide+kernel
theorem Oi:(Value.ref 45::jR).contains (.type "BaseException")=true:=by decide+kernel
section
variable {w:World} {A:Around} {E:Value->Shared->Prop} {h:Heap} {g:Array GenState} {d:Drawn} {t:Nat} {os:OsState}
theorem tD {a':List Value} {Q:Unit->Shared->Prop} {M:Model} (X:(KF w).In h) (hq:Q () ⟨h,g,d,t,os⟩):wpAny M A (checkBuiltinCall "Exception.__new__" ⟨.ref 45::a',[]⟩) Q E ⟨h,g,d,t,os⟩:=by
 have F:=PySem.F.excBase_Exception;refine eB (pp w.params) fun hdct sn sub ab col dd k0 k1 k2 k3 k5 e _=>?_;have hC:=X _ _ e;have hcont:=Bm;have hstar:=F.noStar;unfold checkBuiltinCall;rw [F.newKind,F.newSplit,F.newRow];dsimp only;repeat (first|refine wpAny_loadPart_at hC ?_ |(refine wpAny_isSubtype_exc hC ?_;rw [hcont])|refine wpAny_staticBase_exc hC ?_ |refine wpAny_madeBy_exc hC ?_ |(first|dsimp only [bne_self_eq_false,Bool.false_eq_true,if_false]|simp only [bne_self_eq_false,Bool.false_eq_true,if_false])|wp_step)
 exact hq
theorem yB {a':List Value} {R:Result->Shared->Prop} (X:(KF w).In h) (hrest:a'.length<=sizeLine)
 (hq:R (.ok (.ret (.ref (h.objs.size+1)))) ⟨(h.push {cls:=.type "tuple",data:=.seq a'.toArray}).push
  {cls:=.ref 45,data:=.fields #[.ref h.objs.size,.none,.none,.none,.bool false,.none]},g,d,t,os⟩):
 codeAny (model PG w) A (.builtin "Exception.__new__" ⟨.ref 45::a',[]⟩) R ⟨h,g,d,t,os⟩:=by
 have F:=PySem.F.excBase_Exception;refine eB (pp w.params) fun hdct sn sub ab col dd k0 k1 k2 k3 k5 e _=>?_;have hC:=X _ _ e;have hends:=F.ends;have hcB:=Bm;have hcA:=Oj;have hcN:=Oh;refine codeAny_builtinAt F.entry ?_;unfold Builtin.«BaseException.__new__»;refine PySem.wpAt_bind ?_;show PySem.wpAt _ _ _ (stack>>=_) _ _ _;refine PySem.wpAt_bind (PySem.wpAt_stack fun p below=>PySem.wpAt_of_wpAny ?_)
 wp_walk
 refine PySem.wpAt_of_wpAny ?_;rw [F.owner];repeat (first|with_reducible refine wpAny_madeHere_exc F.canon hC ?_ |with_reducible refine wpAny_loadPart_at hC ?_ |(with_reducible refine wpAny_isSubtype_exc hC ?_;first|rw [hcB]|rw [hcA]|rw [hcN])|wp_step)
 show R _ _;rw [Heap.size_push];exact hq
end
noncomputable abbrev fj (t:Addr):Obj:={cls:=.ref 45,data:=.fields #[.ref t,.none,.none,.none,.bool false,.none]}
noncomputable abbrev j8 (a':List Value):Obj:={cls:=.type "tuple",data:=.seq a'.toArray}
section
variable {w:World} {A:Around} {E:Value->Shared->Prop} {h:Heap} {g:Array GenState} {d:Drawn} {t:Nat} {os:OsState}
theorem tM {a':List Value} {R:Result->Shared->Prop} (X:(KF w).In h) (hrest:a'.length<=sizeLine)
 (hq:bW (model PG w) (A.under (.builtin "type.__call__" ⟨.ref 45::a',[]⟩)) (.call (.ref 29) ⟨.ref (h.objs.size+1)::a',[]⟩) (InitBack (h.objs.size+1) R) ⟨(h.push (j8 a')).push (fj h.objs.size),g,d,t,os⟩):
 bW (model PG w) A (.call (.ref 45) ⟨a',[]⟩) R ⟨h,g,d,t,os⟩:=by
 have F:=PySem.F.excBase_Exception;refine eB (pp w.params) fun hdct sn sub ab col dd k0 k1 k2 k3 k5 e _=>?_;have hC:=X _ _ e;refine cB (r6 w.params) fun cd hc K6 hmro=>?_;have hm:Looks (model PG w) h (mroOf (.ref 45)) (.ref 45::jR):=hmro▸(looks_clsIn X hc).andThen .now;have call:Looks (model PG w) h (specialOf (.ref 45) "__call__") (some (.builtin "type.__call__")):=looks_specialIn X rfl;have typ:Looks (model PG w) h (isInstance (.ref 45) (.type "type")) true:=looks_instIn X rfl;have self:Looks (model PG w) h (isSubtype (.ref 45) (.ref 45)) true:=looks_mroIn X (by unfold mroIn;rw [hc,Option.bind_some,hmro,Tc (by decide+kernel)];decide+kernel);have hi:Looks (model PG w) h (typeLookup (.ref 45) "__init__") (some (.ref 29)):=looks_findIn X rfl;refine cV rfl ?_;show al _ _ (callAny (.ref 45) _) _ _ _;have pre:wpAny (model PG w) (A.under (.call (.ref 45) ⟨a',[]⟩)) (callAny (.ref 45) ⟨a',[]⟩) (fun fin s'=>fin=Fin.again (.call (.builtin "type.__call__") ⟨.ref 45::a',[]⟩)/\s'=⟨h,g,d,t,os⟩) (fun _ _=>False) ⟨h,g,d,t,os⟩:=by
  refine nd_load hC ?_;show wpAny _ _ (callAny.viaDunder (.ref 45) _) _ _ _;unfold callAny.viaDunder;refine Te (call.at ?_);dsimp only;rw [PySem.tc_bind];refine Te (Tm (Te (Tm ?_)));exact Tm (a:=Fin.again (.call (.builtin "type.__call__") ⟨.ref 45::a',[]⟩)) ⟨rfl,rfl⟩
 refine cy (.of pre) (fun fin s' zp0=>a0 zp0 fun e es=>?_) fun _ _ z=>z.elim;subst e;subst es;refine⟨rfl,fA (Code.quiet_builtin _ (by decide+kernel)) (by decide+kernel) entry_typeCall (.of (check_slot PySem.tc_kind PySem.tc_split typ (tc_args _ _ _) ?_))⟩;show al _ _ (Builtin.«type.__call__» ⟨.ref 45::a',[]⟩) _ _ _;unfold Builtin.«type.__call__»;have k:∀b o,h.get? b=some o->((h.push (j8 a')).push (fj h.objs.size)).get? b=some o:=fun b o e=>Tp _ (Tp _ e);have hx:((h.push (j8 a')).push (fj h.objs.size)).get? (h.objs.size+1)=some (fj h.objs.size):=by heap_get
 have t1:Looks (model PG w) ((h.push (j8 a')).push (fj h.objs.size)) (typeOf (.ref (h.objs.size+1))) (.ref 45):=(Looks.ld hx).andThen .now;have i1:=hi.keeps k;have b1:=(bind_fn (M:=model PG w) (K:=KF w) (f:=29) X (.ref (h.objs.size+1)) rfl).keeps k;have isI:Looks (model PG w) ((h.push (j8 a')).push (fj h.objs.size)) (isInstance (.ref (h.objs.size+1)) (.ref 45)) true:=by
  unfold isInstance;exact t1.andThen (self.keeps k)
 have spI:Looks (model PG w) ((h.push (j8 a')).push (fj h.objs.size)) (specialOf (.ref (h.objs.size+1)) "__init__") (some (.ref 29)):=by
  unfold specialOf;exact t1.andThen i1
 show al _ _ (mroOf (.ref 45)>>=_) _ _ _;refine aX (hm.at ?_);dsimp only;rw [Tc (by decide)];refine aX (wpAny_madeBy_exc hC ?_);refine cC ?_;refine aX (wpAny_holding (wpAny_call (codeAny_call_builtin_code (Code.quiet_builtin _ F.quiet) (tD X (yB X hrest ?_)))));refine aX (isI.at ?_);try dsimp only
 rw [Tc (by decide)];refine be (bN ?_);unfold callSpecial?;refine aX (spI.at ?_);dsimp only;refine bN (aX (b1.at ?_));refine be (gM ?_);refine cZ hq fun r s' z=>?_;rcases r with e|(v|_|_|_)<;>first|exact z|exact z.elim|skip
 obtain⟨rfl,z⟩:=z;refine aG ?_;exact aG z
theorem tC {M:Model} {env:Env} {Q:Flow->Shared->Prop} {e:Addr} {oe:Obj} {vs:Array Value} (X:(KF w).In h) (he:h.get? e=some oe) (hcls:oe.cls= .ref 45) (hd:oe.data= .fields vs) (h1:vs[1]? =some .none) (hh:A.handled=none)
 (hE:E (.ref e) ⟨h,g,d,t,os⟩):wpAny M A (raiseStmt env (some (pure (.ref e))) none) Q E ⟨h,g,d,t,os⟩:=by
 refine eB (pp w.params) fun hdct sn sub ab col dd k0 k1 k2 k3 k5 e45 _=>?_;have hC:=X _ _ e45;have hcB:=Oi;obtain⟨c,od,dt,sl⟩:=oe;subst hcls;subst hd;unfold raiseStmt;refine Te (Tm ?_);repeat (first|with_reducible refine wpAny_loadPart_at he ?_ |with_reducible refine wpAny_loadPart_at hC ?_ |(with_reducible refine wpAny_isSubtype_exc hC ?_;rw [hcB])|wp_step)
 rw [h1];refine Tm ?_;rw [Tc (by decide)];exact Tm (wpAny_raiseNew_none hh hE)
end
structure cD (a:Addr) where
 fd:FuncData
 at':∀P,∃oc od osl,(hd.heap_1 P).lookup a=some ⟨oc,od,.func fd,osl⟩
noncomputable def bY (fd:FuncData):List Stmt:=match fd.body with| .stmts b=>b|_=>[]
noncomputable def Ql (fd:FuncData) (names:List Str):Prop:=∀x∈names,fd.scope.names.lookup x=some .local/\(x==("__debug__":Str))=false
noncomputable def DE (fd:FuncData) (names:List Str):Bool:=names.all fun x=>decide (fd.scope.names.lookup x=some .local/\(x==("__debug__":Str))=false)
theorem zr {fd:FuncData} {names:List Str} (h:DE fd names=true):Ql fd names:=fun x hx=>Tb (TW.mp h x hx)
noncomputable abbrev dm {a:Addr} (fa:cD a) (names:List Str) (hk:fa.fd.scope.kind= .function) (nd:names.Nodup) (loc:DE fa.fd names=true):aY:=
 ⟨a,fa.fd.qualname,fa.fd.scope,fa.fd.code,fa.fd.closure,names,hk,nd,fun L=>zr loc⟩
theorem am {p:Prop} [Decidable p] {A B:Prop} (h1:p->A) (h2:¬p->B):if decide p=true then A else B:=by
 by_cases h:p
 ·rw [Tk (decide_eq_true h)];exact h1 h
 ·rw [Tc (by simp [h])];exact h2 h
theorem kT {p:Prop} [Decidable p] {A B:Prop} (h1:¬p->A) (h2:p->B):if(!decide p)=true then A else B:=by
 by_cases h:p
 ·rw [Tc (by simp [h])];exact h2 h
 ·rw [Tk (by simp [h])];exact h1 h
theorem cQ {b:Bool} {A B:Prop} (h1:b=true->A) (h2:b=false->B):if b=true then A else B:=by
 cases b
 ·exact h2 rfl
 ·exact h1 rfl
theorem bv {A B:Prop} (h1:A):if true=true then A else B:=h1
theorem bd {A B:Prop} (h1:B):if false=true then A else B:=h1
noncomputable def mi {α:Type}:Nat->(List α->Prop)->Prop
 |0,P=>P []
 |n+1,P=>∀a,mi n fun l=>P (a::l)
theorem mi.use {α:Type} {n:Nat} {P:List α->Prop} (h:mi n P) (l:List α) (e:l.length=n):P l:=by
 subst e;induction l generalizing P with
 |nil=>exact h
 |cons a l ih=>exact ih (h a)
theorem bE.mk' {a:Addr} (fa:cD a) {names:List Str} {hk nd loc} (params:List Str) (F3:Nat) (SK:List AV) (dv:List Value)
 (h2:fa.fd.body= .stmts (bY fa.fd)) (h4:∀L,callEnv fa.fd L a=envX fa.fd.qualname fa.fd.scope L a fa.fd.code fa.fd.closure)
 (h7:∀P,codeIn (hd.heap_1 P) fa.fd.code fa.fd.qualname=true) (h8:aA SK dv)
 (h9:∀(w:World) (s:Shared),(hd.heap_1 w.params).In s.heap->mi F3 fun on=>BindsTo s fa.fd ⟨on,[]⟩ (params.zip (on++dv)))
 (len:F3+SK.length=params.length) (co:fa.fd.scope.isCoroutine=false) (gen:fa.fd.scope.isGenerator=false) (cell:∀x∈fa.fd.scope.names,x.2≠ .cell)
 (loc':∀x∈params,fa.fd.scope.names.lookup x=some .local):bE (dm fa names hk nd loc) (bY fa.fd) params F3 SK:=
 ⟨fun w=>let ⟨oc,od,osl,e⟩:=fa.at' w.params;(iQ oc od osl fa.fd dv (pU e h2 rfl h4 rfl rfl (h7 _) h8 (fun s on X hl=>(h9 w s X).use on hl))),len,co,gen,cell,loc'⟩
noncomputable def Bq:cD 29:=⟨_,fun P=>(bc _ _ _ rfl)⟩
noncomputable abbrev QV:aY:=dm Bq ["self","told"] rfl (by decide+kernel) (by decide+kernel)
theorem QG:bE QV (bY Bq.fd) ["self","told"] 2 []:=
 bE.mk' _ _ _ _ [] rfl (fun _=>rfl) (fun _=>rfl) .nil (fun w s X _ _=>BindsTo.of_defaults rfl (X _ _ rfl) rfl rfl rfl) rfl rfl rfl (by decide+kernel) (by decide+kernel)
section
variable {F:aY} {Φ:Fx F} {g:GH} {vs:LV} {an:LD} {E:ET}
theorem vO {e t:Addr} {v:AV} {Q:QT Unit} (h:∀d es n sl,dS [("told",v)] es.toList->Q () g vs [(e,.raw {fj t with dict:=some d}),(d,.raw ⟨.type "dict",none,.dict es n,sl⟩)]):
 pw Φ g vs [(e,.raw (fj t))] (.ref e) "told" v Q E:=by
 rintro _ vv rfl rv s S;have hat:s.heap.get? e=some (fj t):=S.1.hs.ledAt _ (SZ ..);have I:InstAt s.heap e (fj t) 45 none:=⟨hat,rfl,rfl,trivial⟩
 refine .of (set_plain S.X I rfl (tB (s:={s with toks:=s.toks+1}) S.X hat fun h' tk' h1 zp h4=>tH zp fun es n sl' h2 hsh tk h3=>?_));have hf:dS [("told",v)] es.toList:=by rw [h3];exact .cons rfl rv .nil
 have hd:s.heap.get? s.heap.objs.size=none:=T9 (Tj _);have Fd:e≠s.heap.objs.size:=Nat.ne_of_lt (Heap.lt_size hat);refine⟨(),g,vs,_,⟨?_,S.2⟩,rfl,h s.heap.objs.size es n sl' hf⟩;(refine aw (S.1.loc) fun m j' hv=>?_;refine eu (j') fun oL eL ep eo r=>?_);have hLe:Φ.L≠e:=fun q=>S.1.Ll (by rw [q];exact SZ ..);refine S.1.next [e] (fun b hb=>.inr (by rw [Ti.mp hb];exact SZ ..)) (fun b y hb ey=>h4 b y (fun q=>hb (Ti.mpr q)) ey) (aj m (dI oL eL ep (h4 _ _ hLe eo) r) hv) rfl (fun p hp=>?_) ?_ fun b hb=>?_
 ·rcases T4.mp hp with rfl|hp
  ·exact h1
  ·rw [Ti.mp hp];exact h2
 ·show([e,s.heap.objs.size]:List Addr).Nodup;simp [Fd]
 ·have:b∈([e,s.heap.objs.size]:List Addr):=hb;rcases T4.mp this with rfl|q
  ·exact .inl (SZ ..)
  ·rw [Ti.mp q];exact .inr hd
theorem ve {w:World} {H₀:Heap} (W:Wd w H₀) {g:GH} {e t:Addr} {v:AV}:∀on,aA [.ref e,v] on->cz w H₀ g [(e,.raw (fj t))] (.call (.ref 29) ⟨on,[]⟩) 1 true
 (fun a g' own'=>a= .none/\∃d es n sl,dS [("told",v)] es.toList/\own'=[(e,.raw {fj t with dict:=some d}),(d,.raw ⟨.type "dict",none,.dict es n,sl⟩)]/\g'=g) (fun _=>False):=
 enter QG (a':=[]) rfl W (n:=0) rfl fun Φ hw hH hg hs hn ho hi=>by
  refine pq (kt (hs:=by rfl) (aa (.tail _ (.head _)) (aa (.head _) ?_)));exact vO fun d es n sl hf=>bq (cN rfl (ge d es n sl (aN hf rfl rfl)))
theorem y8 {pos:Pos} {f:AV} {c:Value} {as:List AV} {first:List Value} {args:List Expr} {Qc:Value->Shared->Prop} {s:Shared} (hf:bB f) (rf:AV.Is f c) (ra:aA as first)
 (h:TL Φ g vs an (spliced (backTo pos (starEach args Φ.env))) (fun l g vs an=>∀K9,aA (as++l) K9->∀s,aZ Φ Φ.strict g s vs an->al (model PG Φ.w) Φ.A (call c K9) Qc (dz Φ E) s) E) (S:aZ Φ Φ.strict g s vs an)
 (hplain:(backTo pos (starEach args Φ.env)).all (fun x=>!x.1)=true):
 al (model PG Φ.w) Φ.A (callWith pos c first (backTo pos (starEach args Φ.env)) []) Qc (dz Φ E) s:=by
 have hp:((backTo pos (starEach args Φ.env)).any (·.1))=false:=by
  rw [List.any_eq_false];intro x hx;have:=TW.mp hplain x hx;simpa using this
 refine j3 (P:=fun h=>(hd.heap_1 Φ.w.params).In h) (by rw [hp];rfl) (fun h X=>hf.keeps rf Φ.w h X) ?_;revert hplain h;generalize backTo pos (starEach args Φ.env)=l at hp ⊢;intro h hplain;cases l with
 |nil=>exact gL (h.use S fun _ _ _ _ _ _ S1 r1 q1=>⟨S1.X,q1 _ (ra.append r1) _ S1⟩)
 |cons x r=>
  obtain⟨b,t⟩:=x;have hb:b=false:=by have:=TW.mp hplain (b,t) (SZ ..);simpa using this
  subst hb;exact j2 (h.use S fun _ _ _ _ _ _ S1 r1 q1=>⟨S1.X,q1 _ (ra.append r1) _ S1⟩)
theorem vU {M:Model} {A:Around} {env:Env} {x:Sem Value} {Q:Flow->Shared->Prop} {Ec:Value->Shared->Prop} {s:Shared} (h:al M A x (fun v s1=>al M A (raiseStmt env (some (pure v)) none) Q Ec s1) Ec s):
 al M A (raiseStmt env (some x) none) Q Ec s:=by
 unfold raiseStmt at h ⊢;exact be (cy h (fun v s1 h1=>h1) fun _ _ z=>z)
theorem Ol:Gl "BadCommand" (.ref 45):=⟨fun w=>.inl (aj _ rfl rfl),by decide+kernel⟩
theorem Dm:bB (.ref 45):=fun w=>rfl
theorem vd {v:AV} {vv:Value} (rv:AV.Is v vv) {s:Shared} (hr:2<=Φ.room) {st:Bool} (S:aZ Φ st g s vs an) {Q Ec:Value->Shared->Prop}
 (h:∀e t d s',s'.heap.get? e=some {fj t with dict:=some d}->aZ Φ false g s' vs []->j1 Φ.H₀ s'.heap e v->Q (.ref e) s'):
 al (model PG Φ.w) Φ.A (call (.ref 45) [vv]) Q Ec s:=by
 obtain⟨hh,gg,dd,tt,oo⟩:=s;refine gM (tM S.X (by exact Ta rfl) ?_);have n2:hh.get? (hh.objs.size+1)=none:=T9 (Nat.le_succ _);have S3:St Φ false g ((hh.push (j8 [vv])).push (fj hh.objs.size)) vs ([(hh.objs.size+1,.raw (fj hh.objs.size))]++[]):=
  (S.1.loose.drop (led':=[]) (fun _ hp=>nomatch hp) List.nodup_nil).alloc (o:=.raw (fj hh.objs.size)) (a:=hh.objs.size+1) (fun b hb=>by rw [Ti.mp hb];exact n2) (by exact Tb rfl) (fun b y e=>Tp _ (Tp _ e)) (by show _=_;heap_get)
 have ar:Ar (Φ.A.under (.builtin "type.__call__" ⟨[.ref 45,vv],[]⟩)) Φ.fr 1:=
  ⟨Φ.hA,Φ.hh,by rw [depth_under_make];exact Nw hr Φ.dp,by rw [units_under_make];exact Nv hr Φ.un⟩
 refine cZ (ve (v:=v) Φ.wd _ (.cons rfl (.cons rv .nil)) _ _ ⟨(hh.push (j8 [vv])).push (fj hh.objs.size),gg,dd,tt,oo⟩ ar S3.sub) fun r s' zz=>bp zz fun e1 e2 hr=>?_;rcases r with x|(x|_|_|x)
 ·obtain⟨e,or,rfl,H',T,Xx,q⟩:=hr;exact q.elim
 ·exact hr.elim
 ·exact hr.elim
 ·exact hr.elim
 ·obtain⟨av,g',own',H',T,ra',⟨rfl,d,es,n,sl,hf,rfl,rfl⟩⟩:=hr;cases ra';have a1:=H'.ledAt _ ad;exact⟨rfl,h _ _ _ s' a1 ⟨(S3.after H' T (fun z=>nomatch z) (.inl rfl)).drop (fun _ hp=>nomatch hp) List.nodup_nil,e1.trans S.2.1,e2.trans S.2.2⟩ ⟨_,_,d,a1,rfl,rfl,rfl,rfl,H'.hl _ (SZ ..),dI es n sl (H'.ledAt _ a7) hf,.inl rfl⟩⟩
theorem eX {np cpos pos:Pos} {arg:Expr} {Q:QT AF} (hr:2<=Φ.room) (h:TV Φ g vs an (eval arg Φ.env) (fun v g vs an=>E v g vs) E) (hx:Φ.env.kindOf "BadCommand"=some .globalImplicit:=by rfl)
 (he:starEach [arg] Φ.env=(false,eval arg Φ.env)::starEach [] Φ.env:=by rfl) (hplain:(backTo cpos (starEach [arg] Φ.env)).all (fun x=>!x.1)=true:=by rfl):
 TF Φ g vs an (exec (.Raise (some (.Call (.Name "BadCommand" np) [arg] [] cpos)) none pos) Φ.env) Q E:=by
 intro s S;rw [arm_exec_Raise];refine bo (vU ?_);refine be (j7 ((fT (Q:=fun f g' Ab led'=>f= .ref 45/\g'=g/\Ab=vs/\led'=an) Ol (bJ rfl rfl rfl rfl) hx).use S fun c s1 f g1 Lu KE S1 r1 zp38=>cU zp38 fun e1 e2 e3 e4=>?_));subst e1;subst e2;subst e3;subst e4;cases r1;refine y8 Dm rfl .nil (qU (he:=he) (h.mono (fun v g vs an q=>af ?_) fun _ _ _ z=>z)) S1 hplain;intro K9 ra s2 S2;cases ra with
 |@cons _ vv _ _ rv ra=>
 cases ra;refine vd rv hr S2 fun e t d s' a1 S4 X4=>be (jh (aG ?_));exact .of (tC S4.X a1 rfl rfl rfl Φ.hh ⟨_,v,_,vs,rfl,S4,X4,q⟩)
end
section
variable {prog:Program} {w:World} {A:Around} {E:Value->Shared->Prop} {R:Result->Shared->Prop} {s:Shared} {env:Env}
theorem pY {body} (h:al (model prog w) A (execs body env) (fun f s'=>R (.ok f) s') (fv (model prog w) A env fun e s'=>R (.error e) s') s):bW (model prog w) A (.block body env) R s:=by
 refine cV rfl ?_;show al _ _ (do return Fin.done (←(execs body env).onRaise (fun x=>do noteFrame x env;theTreesLotGoes x))) _ _ s;exact bC (mT h) fun f _ h'=>aG h'
theorem nz {x' it body B'} (I:Nat->Shared->Prop)
 (turn:∀n s,I n s->al (model prog w) A (pyNext it) (fun r o0=>match r with
  |none=>al (model prog w) A (execs B' env) (fun f C'=>R (.ok f) C') (fv (model prog w) A env fun e s'=>R (.error e) s') o0
  |some v=>al (model prog w) A (letOwnedTupleGo x' it v) (fun _ s₁'=>
   al (model prog w) A (assign x' env v) (fun _ w'=>al (model prog w) A (execs body env) (fun f C'=>match f with
    | .next| .cont=>∃m,m<n/\I m C'
    | .brk=>R (.ok .next) C'
    | .ret v=>R (.ok (.ret v)) C') (fv (model prog w) A env fun e s'=>R (.error e) s') w') (fv (model prog w) A env fun e s'=>R (.error e) s') s₁') (fv (model prog w) A env fun e s'=>R (.error e) s') o0) (fun _ _=>False) s)
 (n:Nat) (h:I n s):bW (model prog w) A (.forLoop x' it body B' env) R s:=by
 induction n using Nat.strongRecOn generalizing s with
 |ind n ih=>
 refine cV rfl ?_;show al _ A ((forTurn x' it body B' env).onRaise (fun x=>do noteFrame x env;theTreesLotGoes x)) _ _ s;refine mT ?_;unfold forTurn;refine be (jh (be (ig (cy (turn n s h) (fun r o0 F5=>?_) fun _ _ h'=>h'.elim))));cases r with
 |none=>exact aG ⟨rfl,pY F5⟩
 |some v=>
  refine bC F5 fun _ s₁' h₁'=>?_;refine bC h₁' fun _ w' Op=>bC Op fun f C' Ls=>?_;cases f with
  |next=>refine aw (Ls) fun m hm hI=>?_;exact aG ⟨rfl,ih m hm hI⟩
  |cont=>refine aw (Ls) fun m hm hI=>?_;exact aG ⟨rfl,ih m hm hI⟩
  |brk=>exact aG Ls
  |ret v=>exact aG Ls
theorem Dz {x' iter body B' pos} {Q:Flow->Shared->Prop}
 (h:al (model prog w) A (eval iter env) (fun x o0=>al (model prog w) A (pyIter x) (fun it w'=>
  bW (model prog w) A (.forLoop x' it body B' env) (fun r s'=>match r with| .ok f=>Q f s'| .error e=>iA (model prog w) A env E e s') w') E o0) E s)
 (hs:∀x,foldedSetIterable iter env x=pure x):al (model prog w) A (exec (.For x' iter body B' pos) env) Q E s:=by
 rw [exec_For];refine bo (bC h fun x o0 F5=>?_);rw [hs];refine cC (bo ?_);exact cI F5 fun it w' Op=>pI (hnb:=by intro x;cases x) Op
end
section
variable {F:aY} {Φ:Fx F} {g:GH} {vs:LV} {an:LD} {E:ET}
structure kA (Φ:Fx F) (x:AV) (n:Nat) (Pp:Nat->AV) (ob:Nat->Obj->Prop) (src:GH->LD->Prop):Prop where
 start:∀g vs an s vx,src g an->AV.Is x vx->aZ Φ Φ.strict g s vs an->wpAny (model PG Φ.w) Φ.A (pyIter vx) (fun it s'=>∃a o,it= .ref a/\ob 0 o/\aZ Φ Φ.strict g s' vs ((a,.raw o)::an)) (fun _ _=>False) s
 next:∀g vs an s it o i,src g an->ob i o->i<n->aZ Φ Φ.strict g s vs ((it,.raw o)::an)->wpAny (model PG Φ.w) Φ.A (pyNext (.ref it)) (fun r s'=>∃c o',r=some c/\AV.Is (Pp i) c/\ob (i+1) o'/\aZ Φ Φ.strict g s' vs ((it,.raw o')::an)) (fun _ _=>False) s
 self:∀g vs an s it o i,src g an->ob i o->aZ Φ Φ.strict g s vs ((it,.raw o)::an)->wpAny (model PG Φ.w) Φ.A (pyIter (.ref it)) (fun v s'=>v= .ref it/\s'=s) (fun _ _=>False) s
 stop:∀g vs an s it o,src g an->ob n o->aZ Φ Φ.strict g s vs ((it,.raw o)::an)->wpAny (model PG Φ.w) Φ.A (pyNext (.ref it)) (fun r s'=>r=none/\aZ Φ Φ.strict g s' vs an) (fun _ _=>False) s
theorem aZ.tail {st:Bool} {s:Shared} {p:Addr×AO} (S:aZ Φ st g s vs (p::an)):aZ Φ st g s vs an:=
 ⟨S.1.drop (fun _ h=>Td _ h) (TH.mp (show(p.2.addrs p.1++aD an).Nodup from S.1.hs.nd)).2.1,S.2⟩
theorem aZ.rot {st:Bool} {s:Shared} {p:Addr×AO} (S:aZ Φ st g s vs (an++[p])):aZ Φ st g s vs (p::an):=
 ⟨S.1.drop (fun q h=>by rcases T4.mp h with rfl|h;exact To _ (Ti.mpr rfl);exact TN _ h) ((ez (List.perm_append_singleton p an)).nodup S.1.hs.nd),S.2⟩
noncomputable def ma (Φ:Fx F) (g:GH) (vs:LV) (an:LD) (x:AV) (x':Expr) (body:List Stmt) (Q:QT AF) (E:ET):Prop:=
 ∀s vx,aZ Φ Φ.strict g s vs an->AV.Is x vx->al (model PG Φ.w) Φ.A (pyIter vx) (fun it w'=>bW (model PG Φ.w) Φ.A (.forLoop x' it body [] Φ.env)
  (fun r s'=>match r with| .ok f=>il AF.Is Φ Q f s'| .error e=>iA (model PG Φ.w) Φ.A Φ.env (dz Φ E) e s') w') (dz Φ E) s
theorem jV {x' iter body pos} {Q:QT AF} (h:TV Φ g vs an (eval iter Φ.env) (fun x g vs an=>ma Φ g vs an x x' body Q E) E)
 (hs:∀x,foldedSetIterable iter Φ.env x=pure x):TF Φ g vs an (exec (.For x' iter body [] pos) Φ.env) Q E:=
 fun s S=>Dz (hs:=hs) (h.use S fun _ _ _ _ _ _ S1 r1 q1=>q1 _ _ S1 r1)
structure FL (Φ:Fx F) (it:Value) (x':Expr) (body:List Stmt) (Q:QT AF) (E:ET) (I:Nat->Shared->Prop) (n:Nat) (Qn:Option Value->Shared->Prop) (Qb:Flow->Shared->Prop) (Qx:Value->Shared->Prop):Prop where
 e:∀{g s vs an},aZ Φ Φ.strict g s vs an->Q .next g vs an->Qn none s
 i:∀{v s},al (model PG Φ.w) Φ.A (letOwnedTupleGo x' it v) (fun _ o0=>al (model PG Φ.w) Φ.A (assign x' Φ.env v) (fun _ w'=>al (model PG Φ.w) Φ.A (execs body Φ.env) Qb Qx w') Qx o0) Qx s->Qn (some v) s
 x:∀v s,dz Φ E v s->Qx v s
 nx:∀{s},(∃m,m<n/\I m s)->Qb .next s
 ct:∀{s},(∃m,m<n/\I m s)->Qb .cont s
 bk:∀{g s vs an},aZ Φ Φ.strict g s vs an->Q .next g vs an->Qb .brk s
 rt:∀{c v g s vs an},aZ Φ Φ.strict g s vs an->AV.Is v c->Q (.ret v) g vs an->Qb (.ret c) s
theorem Bn (hi:Φ.inl=false) {it:Value} {x':Expr} {body:List Stmt} {Q:QT AF} {s:Shared} (I:Nat->Shared->Prop)
 (turn:∀n Qn Qb Qx,FL Φ it x' body Q E I n Qn Qb Qx->∀s,I n s->al (model PG Φ.w) Φ.A (pyNext it) Qn (fun _ _=>False) s) (n:Nat) (h:I n s):
 bW (model PG Φ.w) Φ.A (.forLoop x' it body [] Φ.env) (fun r s'=>match r with| .ok f=>il AF.Is Φ Q f s'| .error e=>iA (model PG Φ.w) Φ.A Φ.env (dz Φ E) e s') s:=
 nz I (fun n s h=>turn n _ _ _ ⟨fun S q=>.of (wpAny_execs_nil ⟨.next,_,_,_,S,rfl,q⟩),fun h=>h,fun _ _ x=>x.noted hi fun _ _ _ _ _ hv S' X' q=>dz.back hv S' X' q,fun h=>h,fun h=>h,
  fun S q=>⟨.next,_,_,_,S,rfl,q⟩,fun S r q=>⟨.ret _,_,_,_,S,⟨_,rfl,r⟩,q⟩⟩ s h) n h
theorem Ci (hi:Φ.inl=false) {x:AV} {x' body} {n:Nat} {Pp:Nat->AV} {ob:Nat->Obj->Prop} {src:GH->LD->Prop} (IT:kA Φ x n Pp ob src) {Q:QT AF} (I:Nat->GH->LV->LD->Prop) (hI:∀i g vs an,I i g vs an->src g an)
 (turn:∀i g vs an p,i<n->I i g vs an->p.2.addrs p.1=[p.1]->lr Φ g vs (p::an) (assign x' Φ.env) (Pp i) (fun _ g vs an=>TF Φ g vs an (execs body Φ.env) (fun f g vs an=>match f with
  | .next| .cont=>∃l,an=p::l/\I (i+1) g vs l
  | .brk=>∃l,an=p::l/\Q .next g vs l
  | .ret v=>∃l,an=p::l/\Q (.ret v) g vs l) E) E)
 (h0:I 0 g vs an) (hn:∀g vs an,I n g vs an->Q .next g vs an) (ht:∀it v,letOwnedTupleGo x' it v=pure ()):ma Φ g vs an x x' body Q E:=by
 intro s vx S rx;refine .of (wpAny_mono (IT.start g vs an s vx (hI _ _ _ _ h0) rx S) (fun it w' zp87=>cX zp87 fun a o e ho S2=>?_) fun _ _ z=>z.elim);subst e;refine Bn hi (fun k s=>∃i g vs an o,k=n+1-i/\i<=n/\I i g vs an/\ob i o/\aZ Φ Φ.strict g s vs ((a,.raw o)::an)) ?_ (n+1) (iQ 0 g vs an o (cn rfl (Tn _) h0 ho S2));intro k Qn Qb Qx H s j';refine f_ j' fun i g vs an o El=>eV El fun th hin hIi hob S=>?_;subst th;rcases Nat.lt_or_ge i n with Lc|hge
 ·refine .of (wpAny_mono (IT.next g vs an s a o i (hI _ _ _ _ hIi) hob Lc S) (fun r o0 to=>dl to fun c o' e rc ho' S1=>?_) fun _ _ z=>z);subst e;refine H.i ?_;rw [ht];refine aG (cy (turn i g vs an (a,.raw o') Lc hIi rfl c rc o0 S1) (fun _ w' zp51=>zp51.u fun _ g2 SL SM S2 _ q2=>cy (q2 w' S2) (fun f C' zp15=>zp15.u fun f' g3 vs3 G' S3 r3 q3=>?_) H.x) H.x);have nx:(∃l,G'=(a,.raw o')::l/\I (i+1) g3 vs3 l)->∃m,m<n+1-i/\∃i g vs an o,m=n+1-i/\i<=n/\I i g vs an/\ob i o/\aZ Φ Φ.strict g C' vs ((a,.raw o)::an):=
   fun z=>aw z fun l e q=>dH (n+1-(i+1)) (cN (AD Lc) (iQ (i+1) _ _ _ _ (cn rfl Lc q ho' (e▸S3))))
  cases f' with
  |next=>cases r3;exact H.nx (nx q3)
  |cont=>cases r3;exact H.ct (nx q3)
  |brk=>cases r3;exact aw q3 fun l e q=>H.bk (e▸S3).tail q
  |ret v=>exact aw r3 fun c e1 rc=>aw q3 fun l e q=>e1▸H.rt (e▸S3).tail rc q
 ·have e:i=n:=Nat.le_antisymm hin hge;subst e;refine .of (wpAny_mono (IT.stop g vs an s a o (hI _ _ _ _ hIi) hob S) (fun r o0 to=>a0 to fun e S1=>?_) fun _ _ z=>z);subst e;exact H.e S1 (hn _ _ _ hIi)
end
section
variable {F:aY} {Φ:Fx F} {g:GH} {vs:LV} {an:LD} {E:ET}
theorem St.butHead {st:Bool} {h h':Heap} {it:Addr} {o:Obj} {led':LD} (S:St Φ st g h vs ((it,.raw o)::an)) (k:∀b y,b≠it->h.get? b=some y->h'.get? b=some y) (hl:led'=an\/∃o',h'.get? it=some o'/\led'=(it,.raw o')::an):St Φ st g h' vs led':=by
 (refine aw (S.loc) fun m j' hv=>?_;refine eu (j') fun oL eL ep eo r=>?_);have hin:it∈aD ((it,AO.raw o)::an):=SZ ..;have hLe:Φ.L≠it:=fun q=>S.Ll (q▸hin);have nd:=S.hs.nd;have hit:it∉aD an:=(TA.mp (show(it::aD an).Nodup from nd)).1;have tl:∀p∈an,p.2.At Φ.w h' p.1:=fun p hp=>(S.hs.ledAt p (Td _ hp)).congr fun b hb y e=>k b y (fun q=>hit (bU.mpr (aj p hp (q▸hb)))) e;have nl:(m:Str->Option Value)->Heap.Ns h Φ.L m->True:=fun _ _=>trivial;rcases hl with rfl|⟨o',ho',rfl⟩
 ·exact S.next [it] (fun b hb=>.inr (by rw [Ti.mp hb];exact hin)) (fun b y hb e=>k b y (fun q=>hb (Ti.mpr q)) e) (aj m (dI oL eL ep (k _ _ hLe eo) r) hv) rfl tl (TA.mp (show(it::aD led').Nodup from nd)).2 fun b hb=>.inl (Td _ hb)
 ·refine S.next [it] (fun b hb=>.inr (by rw [Ti.mp hb];exact hin)) (fun b y hb e=>k b y (fun q=>hb (Ti.mpr q)) e) (aj m (dI oL eL ep (k _ _ hLe eo) r) hv) rfl (fun p hp=>?_) nd fun b hb=>.inl hb;rcases T4.mp hp with rfl|hp
  ·exact ho'
  ·exact tl p hp
theorem aZ.pushRaw {st:Bool} {s:Shared} (S:aZ Φ st g s vs an) (o:Obj) (ho:o.isFreed=false):aZ Φ st g {s with heap:=s.heap.push o} vs ((s.heap.objs.size,.raw o)::an):=
 aZ.rot (S.more (o:=.raw o) (fun b hb=>by rw [Ti.mp hb];exact T9 (Tj _)) (by exact Tb rfl) (fun b y e=>Tp _ e) (Heap.get?_push_size _ ho))
theorem bM.cons {p q:Addr×AO} (h:bM g an p):bM g (q::an) p:=h.elim (fun h=>.inl (Td _ h)) .inr
theorem gQ {a:Addr} {xs:List AV}:kA Φ (.ref a) xs.length (fun i=>xs.getD i .none) (fun i o=>o.cls= .type "list_iterator"/\o.data= .fields #[.ref a,.int (i:Nat) 0]) (fun g an=>bM g an (a,.list xs)) where
 start g vs an s vx src r S:=by
  cases r;refine cB (src.isList S.1) fun cs la fa _=>?_;exact wpAny_pyIter_list la (cf _ _ rfl ⟨rfl,rfl⟩ (S.pushRaw _ rfl))
 next g vs an s it o i src ho hi S:=by
  refine cB ((src.cons).isList S.1) fun cs la fa _=>?_;have hit:s.heap.IsListIter it a i:=(aj o (S.1.hs.ledAt _ (SZ ..)) ho)
  refine aw (fa.get (i:=i) (a:=xs[i]) (by exact Th ‹_›)) fun c hc rc=>?_;refine wpAny_pyNext_list_item hit la (x:=c) (by rw [←TJ];exact hc) fun h' hit' SC=>?_;refine aw (hit') fun o' ho' r'=>?_;refine(eA c o' rfl (by rw [TI,Th hi];exact rc) r' (S.1.butHead (fun b y hb e=>SC.extBut b y hb e) (.inr (aj o' ho' rfl))) S.2)
 self g vs an s it o i src ho S:=wpAny_pyIter_listiter (l:=a) (i:=i) (aj o (S.1.hs.ledAt _ (SZ ..)) ho) ⟨rfl,rfl⟩
 stop g vs an s it o src ho S:=by
  refine cB ((src.cons).isList S.1) fun cs la fa _=>?_;have hit:s.heap.IsListIter it a xs.length:=(aj o (S.1.hs.ledAt _ (SZ ..)) ho)
  refine wpAny_pyNext_list_end Φ.hh hit la (by rw [←fa.size];simp) fun h' he'=>?_;exact(aN rfl (S.1.butHead (fun b y hb e=>he' b y hb e) (.inl rfl)) S.2)
theorem ke {l:List UInt8}:kA Φ (.bytes l) l.length (fun i=>.int ((l.getD i 0).toNat:Nat)) (fun i o=>∃t,o.cls= .type "bytes_iterator"/\o.data= .fields #[.bytes l.toArray t,.int (i:Nat) 0]) (fun _ _=>True) where
 start g vs an s vx src r S:=by
  (refine ax (r) fun t j'=>?_;subst j');exact KBw.pyIter_bytes (cf _ _ rfl (aj t rfl rfl) (S.pushRaw _ rfl))
 next g vs an s it o i src ho hi S:=by
  refine ax (ho) fun t ho=>?_;have hit:KBw.IsBytesIter s.heap it l.toArray t i:=(aj o (S.1.hs.ledAt _ (SZ ..)) ho)
  refine KBw.next_item hit (c:=l[i]) (by simp [hi]) fun h' hit' SC=>?_;refine aw (hit') fun o' ho' r'=>?_;exact(eA _ o' rfl ⟨_,by rw [TI,Th hi];rfl⟩ ⟨t,r'⟩ (S.1.butHead (fun b y hb e=>SC.extBut b y hb e) (.inr (aj o' ho' rfl))) S.2)
 self g vs an s it o i src ho S:=by
  refine ax (ho) fun t ho=>?_;exact KBw.pyIter_self (b:=l.toArray) (t:=t) (i:=i) (aj o (S.1.hs.ledAt _ (SZ ..)) ho) ⟨rfl,rfl⟩
 stop g vs an s it o src ho S:=by
  refine ax (ho) fun t ho=>?_;have hit:KBw.IsBytesIter s.heap it l.toArray t l.length:=(aj o (S.1.hs.ledAt _ (SZ ..)) ho)
  refine KBw.next_end Φ.hh hit (by simp) fun h' he'=>?_;exact(aN rfl (S.1.butHead (fun b y hb e=>he' b y hb e) (.inl rfl)) S.2)
end
section
open AutoSeq1 (wpAny_loadPart')
theorem CY {M:Model} {A:Around} {E:Value->Shared->Prop} {s:Shared} {Q:Bool->Shared->Prop} {v:Bool} (h:∀b,Q b s):wpAny M A (pure v) Q E s:=Tm (h v)
theorem A_ (l:Addr) (items:Array Value) (n:Nat) (sl):
 Meets (Builtin.«enumerate.__new__» ⟨[.type "enumerate",.ref l],[]⟩) (fun _ R s=>s.heap.get? l=some (lo items n sl)/\
  R (.ok (.ret (.ref (s.heap.push {cls:=.type "list_iterator",data:=.fields #[.ref l,.int 0 0]}).objs.size)))
   {s with heap:=(s.heap.push {cls:=.type "list_iterator",data:=.fields #[.ref l,.int 0 0]}).push {cls:=.type "enumerate",data:=.fields #[.none,.bool false,.ref s.heap.objs.size,rawInt 0,.none,.none]}}):=
 .of_wp fun prog w A R s h=>by
  obtain⟨hp,g,d,tk,os⟩:=s;refine a0 (h) fun hl h=>?_;have I':=sub_enumerate;have hL:Heap.IsList (Shared.heap ⟨hp,g,d,tk,os⟩) l items:=(fh _ hl rfl n rfl)
  wp_walk using wpAny_loadPart' hl
  refine wpAny_stack_any fun st=>CY fun b=>?_;cases b
  ·wp_walk using wpAny_loadPart' hl,wpAny_pyIter_list hL
   exact(aj _ rfl h)
  ·wp_walk using wpAny_loadPart' hl,wpAny_pyIter_list hL
   exact(aj _ rfl h)
section
variable {F:aY} {Φ:Fx F} {g:GH} {vs:LV} {an:LD} {E:ET}
noncomputable abbrev cc (n:Int) (t u v:Tok):Obj:={cls:=.type "range",dict:=none,data:=.fields #[.int 0 t,.int n u,.int 1 v],slots:=#[]}
theorem mV {n:Int} {Q:QT AV} (h:∀r t u v,r∉aD an->Q (.ref r) g vs ((r,.raw (cc n t u v))::an)):bG Φ g vs an (.type "range") [.int n] Q E:=by
 rintro _ _ rfl ra s S;cases ra with
 |cons r1 ra=>
 cases ra;(refine ax (r1) fun t j'=>?_;subst j');refine .of (call_range_1 ?_);exact⟨.ref s.heap.objs.size,g,vs,_,S.pushRaw (cc n s.toks t (s.toks+1)) rfl,rfl,h _ _ _ _ S.fresh⟩
theorem na {r:Addr} {n:Nat} {t u v:Tok} (hn:n<=1000000):kA Φ (.ref r) n (fun i=>.int (i:Nat)) (fun i o=>o={cls:=.type "range_iterator",dict:=none,data:=.fields #[rawInt ((0:Int)+(i:Nat)*1),rawInt ((n:Int)-(i:Nat)),rawInt 1],slots:=#[]}) (fun g an=>bM g an (r,.raw (cc n t u v))) where
 start g vs an s vx src rx S:=by
  cases rx;have hr:IsRange s.heap r 0 n 1 t u v:=src.at S.1;refine wpAny_pyIter_range hr (small_one (by decide) (by decide) (Ms hn) (Mr hn)) ?_;refine(cf _ _ rfl ?_ (S.pushRaw _ rfl));have e:Builtin.Range.rangeSize 0 (n:Int) 1=(n:Int):=by rw [rangeSize_one];split<;>(first|exact Mq|exact Mp hn ‹_›)
  rw [e];rfl
 next g vs an s it o i src ho hi S:=by
  subst ho;have hit:IsRangeIter s.heap it ((0:Int)+(i:Nat)*1) ((n:Int)-(i:Nat)) 1:=S.1.hs.ledAt _ (SZ ..);refine wpAny_pyNext_range_item hit (Mo hi) fun h' hit' SC=>?_;have e1:(0:Int)+((i+1:Nat):Int)*1=(0:Int)+(i:Nat)*1+1:=by exact Fy
  have e2:(n:Int)-((i+1:Nat):Int)=(n:Int)-(i:Int)-1:=by exact Mn
  exact(eA _ _ rfl ⟨s.toks,by simp⟩ rfl (S.1.butHead (fun b y hb e=>SC.extBut b y hb e) (.inr (aj _ (by rw [e1,e2];exact hit') rfl))) S.2)
 self g vs an s it o i src ho S:=by
  subst ho;exact wpAny_pyIter_rangeiter (x:=(0:Int)+(i:Nat)*1) (left:=(n:Int)-(i:Nat)) (step:=1) (S.1.hs.ledAt _ (SZ ..)) ⟨rfl,rfl⟩
 stop g vs an s it o src ho S:=by
  subst ho;have hit:IsRangeIter s.heap it ((0:Int)+(n:Nat)*1) ((n:Int)-(n:Nat)) 1:=S.1.hs.ledAt _ (SZ ..);refine wpAny_pyNext_range_end Φ.hh hit Ml fun h' he'=>?_;exact(aN rfl (S.1.butHead (fun b y hb e=>he' b y hb e) (.inl rfl)) S.2)
noncomputable abbrev gZ (it:Addr) (i:Int) (old:Value):Obj:={cls:=.type "enumerate",dict:=none,data:=.fields #[.none,.bool false,.ref it,rawInt i,.none,old],slots:=#[]}
theorem aZ.sw {st:Bool} {s:Shared} {p q:Addr×AO} (S:aZ Φ st g s vs (p::q::an)):aZ Φ st g s vs (q::p::an):=
 ⟨S.1.drop (fun x h=>by simp only [T4] at h ⊢;rcases h with h|h|h;exact .inr (.inl h);exact .inl h;exact .inr (.inr h)) ((ez (List.Perm.swap _ _ _)).nodup S.1.hs.nd),S.2⟩
theorem CQ {a:Addr} {xs:List AV} {Q:QT AV} (ha:bM g an (a,.list xs)) (h:∀e it o,o.cls= .type "list_iterator"->o.data= .fields #[.ref a,.int 0 0]->Q (.ref e) g vs ((e,.raw (gZ it 0 .none))::(it,.raw o)::an)):bG Φ g vs an (.type "enumerate") [.ref a] Q E:=by
 rintro _ _ rfl ra s S;cases ra with
 |cons r1 ra=>
 cases ra;cases r1;refine gT (ha.isList S.1) fun cs la fa n sl ea=>?_;have S1:=S.pushRaw {cls:=.type "list_iterator",data:=.fields #[.ref a,.int 0 0]} rfl;have S2:=S1.pushRaw {cls:=.type "enumerate",data:=.fields #[.none,.bool false,.ref s.heap.objs.size,rawInt 0,.none,.none]} rfl;refine .of (callType_new PySem.F.called_enumerate (by decide) (PySem.F.typeCall_enumerate_1 _) (PySem.F.newCall_enumerate_1 _) (fun obj=>PySem.F.args_object_init_2 obj _) PySem.F.entry_enumerate_new (A_ a cs n sl) ⟨ea,?_⟩);refine⟨(aj _ (S2.1.hs.ledAt _ (SZ ..)) rfl),?_⟩;exact⟨.ref _,g,vs,_,S2,rfl,h _ _ _ rfl rfl⟩
theorem St.butTwo {st:Bool} {h h':Heap} {e it:Addr} {o p o' p':Obj} (S:St Φ st g h vs ((e,.raw o)::(it,.raw p)::an)) (k:∀b y,b≠e->b≠it->h.get? b=some y->h'.get? b=some y) (he:h'.get? e=some o') (hi:h'.get? it=some p'):
 St Φ st g h' vs ((e,.raw o')::(it,.raw p')::an):=by
 (refine aw (S.loc) fun m j' hv=>?_;refine eu (j') fun oL eL ep eo r=>?_);have in1:e∈aD ((e,AO.raw o)::(it,AO.raw p)::an):=SZ ..;have in2:it∈aD ((e,AO.raw o)::(it,AO.raw p)::an):=Td _ (SZ ..);have nd:(e::it::aD an).Nodup:=S.hs.nd;have n1:e∉aD an:=fun q=>(TA.mp nd).1 (Td _ q);have n2:it∉aD an:=(TA.mp (TA.mp nd).2).1;have cl:∀b∈[e,it],b=e\/b=it:=fun b hb=>by simpa using hb
 refine S.next [e,it] (fun b hb=>.inr ((cl b hb).elim (fun q=>q▸in1) fun q=>q▸in2)) (fun b y hb ey=>k b y (fun q=>hb (by simp [q])) (fun q=>hb (by simp [q])) ey)
  (aj m (dI oL eL ep (k _ _ (fun q=>S.Ll (q▸in1)) (fun q=>S.Ll (q▸in2)) eo) r) hv) rfl (fun q hq=>?_) nd fun b hb=>.inl hb
 rcases T4.mp hq with rfl|hq
 ·exact he
 rcases T4.mp hq with rfl|hq
 ·exact hi
 ·exact(S.hs.ledAt q (Td _ (Td _ hq))).congr fun b hb y ey=>k b y (fun z=>n1 (bU.mpr (aj q hq (z▸hb)))) (fun z=>n2 (bU.mpr (aj q hq (z▸hb)))) ey
theorem uX (hi:Φ.inl=false) {e it:Addr} {o:Obj} {a:Addr} {xs:List AV} {xi xv:Str} {p1 p2 pt:Pos} {k:Nat} {body:List Stmt} (h1:o.cls= .type "list_iterator") (h2:o.data= .fields #[.ref a,.int 0 0]) {Q:QT AF}
 (I:Nat->GH->LV->LD->Prop) (hI:∀i g vs an,I i g vs an->bM g an (a,.list xs))
 (turn:∀i g vs an x q1 q2,xs[i]? =some x->I i g vs an->∃Lu SL,cM vs xi (.int (i:Nat)) Lu/\cM Lu xv x SL/\TF Φ g SL (q1::q2::an) (execs body Φ.env) (fun f g vs an=>match f with
  | .next| .cont=>∃l,an=q1::q2::l/\I (i+1) g vs l
  | .brk=>∃l,an=q1::q2::l/\Q .next g vs l
  | .ret v=>∃l,an=q1::q2::l/\Q (.ret v) g vs l) E)
 (h0:I 0 g vs an) (hn:∀g vs an,I xs.length g vs an->Q .next g vs an):
 ma Φ g vs ((e,.raw (gZ it 0 .none))::(it,.raw o)::an) (.ref e) (.Tuple [.Name xi p1,.Name xv p2] k pt) body Q E:=by
 intro s vx S rx;cases rx;have he:IsEnum s.heap e it 0 .none:=S.1.hs.ledAt _ (SZ ..);refine .of (wpAny_pyIter_enum he ?_);refine Bn hi (fun n s=>∃i g vs an old oi,n=xs.length+1-i/\i<=xs.length/\I i g vs an/\oi.cls= .type "list_iterator"/\oi.data= .fields #[.ref a,.int (i:Nat) 0]/\aZ Φ Φ.strict g s vs ((e,.raw (gZ it (i:Nat) old))::(it,.raw oi)::an)) ?_ (xs.length+1)
  (hS 0 g vs an .none o (bF rfl (Tn _) h0 h1 h2 S))
 intro n Qn Qb Qx H s j';refine kl (j') fun i g vs an old oi El=>eF El fun th hin hIi c1 c2 S=>?_;subst th;have he:IsEnum s.heap e it (i:Nat) old:=S.1.hs.ledAt _ ad;have hit:s.heap.IsListIter it a i:=(eP oi (S.1.hs.ledAt _ a7) c1 c2)
 refine cB ((((hI _ _ _ _ hIi).cons (q:=(it,.raw oi))).cons (q:=(e,.raw (gZ it (i:Nat) old)))).isList S.1) fun cs la fa _=>?_;have nd:(e::it::aD an).Nodup:=S.1.hs.nd;have Fd:e≠it:=fun q=>(TA.mp nd).1 (q▸ad);rcases Nat.lt_or_ge i xs.length with Lc|hge
 ·refine aw (fa.get (Th Lc)) fun c hc rc=>?_;refine .of (wpAny_pyNext_enum_item he hit la (x:=c) (by rw [←TJ];exact hc) Fd fun h' heo hit' ht' hz' hk'=>H.i (.of (wpAny_letOwnedTupleGo_enum heo fun Op he₂ hs₂=>?_)));refine aw (hit'.extBut hs₂.extBut (Ne.symm Fd)) fun oi' oi1 oi2=>?_;have S2:aZ Φ Φ.strict g {s with heap:=Op,toks:=s.toks+1} vs ((e,.raw (gZ it ((i+1:Nat):Int) c))::(it,.raw oi')::an):=
   ⟨S.1.butTwo (fun b y hb hb' ey=>hs₂.extBut b y hb (hk' b y hb hb' ey)) (by rw [he₂];rfl) oi1,S.2⟩
  have heT:e≠s.heap.objs.size:=Nat.ne_of_lt (Heap.lt_size he);refine jG Φ.hh (fh _ (hs₂.extBut _ _ (Ne.symm heT) ht') rfl _ rfl) rfl rfl fun Ls hx₃=>?_;refine cX (turn i g vs an xs[i] (e,.raw (gZ it ((i+1:Nat):Int) c)) (it,.raw oi') (Th Lc) hIi) fun Lu SL sv1 sv2 body'=>?_;refine cy (TG.use (R:=(Eq:Unit->Unit->Prop)) (Q:=fun _ g' Ab led'=>g'=g/\Ab=SL/\led'=(e,.raw (gZ it ((i+1:Nat):Int) c))::(it,.raw oi')::an) (E:=E) (t:=assignInOrder _ _) ?_ (S2.ext hx₃) ?_) (fun _ _ q=>q) H.x
  ·exact aW (xs:=[_]) (bt (aj Lu sv1 (aW (xs:=[]) (bt (aj SL sv2 (cu (aN rfl rfl rfl))))))) _ (.cons ⟨_,rfl⟩ (.cons rc .nil))
  ·intro _ s4 _ g4 vs4 Sq S4 _ j';refine cy (body' s4 (bp j' fun e1 e2 e3=>e1▸e2▸e3▸S4)) (fun f C' zp53=>zp53.u fun f' g3 vs3 G' S3 r3 q3=>?_) H.x;have nx:(∃l,G'=(e,.raw (gZ it ((i+1:Nat):Int) c))::(it,.raw oi')::l/\I (i+1) g3 vs3 l)->∃m,m<xs.length+1-i/\∃i g vs an old oi,m=xs.length+1-i/\i<=xs.length/\I i g vs an/\oi.cls= .type "list_iterator"/\oi.data= .fields #[.ref a,.int (i:Nat) 0]/\aZ Φ Φ.strict g C' vs ((e,.raw (gZ it (i:Nat) old))::(it,.raw oi)::an):=
    fun z=>aw z fun l e q=>dH (xs.length+1-(i+1)) (cN (AD Lc) (hS (i+1) _ _ _ _ _ (bF rfl Lc q oi2.1 oi2.2 (e▸S3))))
   cases f' with
   |next=>cases r3;exact H.nx (nx q3)
   |cont=>cases r3;exact H.ct (nx q3)
   |brk=>cases r3;exact aw q3 fun l e q=>H.bk (e▸S3).tail.tail q
   |ret v=>exact aw r3 fun c e1 rc=>aw q3 fun l e q=>e1▸H.rt (e▸S3).tail.tail rc q
 ·have e0:i=xs.length:=Nat.le_antisymm hin hge;subst e0;refine .of (wpAny_pyNext_enum_end Φ.hh he hit la (by rw [←fa.size];simp) fun h' he'=>H.e ⟨?_,S.2⟩ (hn _ _ _ hIi));exact S.sw.1.butHead (fun b y hb ey=>he' b y hb ey) (.inl rfl)|>fun z=>(z.drop (fun _ h=>Td _ h) (TA.mp (show(e::aD an).Nodup from z.hs.nd)).2)
end
end
noncomputable abbrev iY:Value->Shared->Prop:=fun _ _=>False
noncomputable abbrev i6 (SD:List Expr) (env:Env):Sem Bool:=forIn SD true fun c r=>if r=true then do let ok ←isTrue c env (eval c env);pure (ForInStep.yield ok) else pure (ForInStep.yield r)
section
variable {M:Model} {A:Around} {E:Value->Shared->Prop} {s:Shared} {env:Env}
theorem x3 {α:Type} {m:Sem α} {k:Value->Sem Unit} {Q:α->Shared->Prop} (h:al M A m Q iY s):al M A (m.onRaise k) Q E s:=ig (cy h (fun _ _ q=>q) fun _ _ z=>z.elim)
theorem mf {e:Expr} {scope:Scope} {pos:Pos} {SS first:Sem Value} {g:Comprehension} {gs:List Comprehension} {Q:Value->Shared->Prop}
 (hcl:clausesOf e=g::gs) (hs:∀x,foldedSetIterable g.iter env x=pure x)
 (SA:∀x∈scope.names,x.2≠ .free) (hkind:scope.kind= .function) (hnames:∀x∈scope.names,x.2= .local->scope.names.lookup x.1=some .local)
 (h:al M A first (fun x o0=>wpAny M A (pyIter x) (fun it w'=>wpAny M A SS (fun F6 C'=>
  wpAny M A (newFunctionEnv scope env.globals [] [] env.qual none .none (some env)) (fun cenv s₄=>
   bW M A (.compStart e 0 it F6 {cenv with scope:=scope}) (fun r s'=>∃m,s'.heap.Ns cenv.locals m/\∀h',Heap.SameBut cenv.locals s'.heap h'->
    match r with| .ok _=>Q F6 {s' with heap:=h'}| .error x=>False) s₄) iY C') iY w') iY o0) E s):
 al M A (comprehension e scope env pos SS false first) Q E s:=by
 unfold comprehension;rw [closureFor_none SA,hcl];refine bC h fun x o0 F5=>bo ?_;try dsimp only
 rw [hs];refine cC (be (bN (.of (wpAny_mono F5 (fun it w' Op=>?_) fun _ _ z=>z.elim))));rw [Tc (by decide)];refine aX (wpAny_mono Op (fun F6 C' Ls=>?_) fun _ _ z=>z.elim);refine cC (aX (wpAny_mono Ls (fun cenv s₄ h₄=>?_) fun _ _ z=>z.elim));try dsimp only
 rw [map_eq_self (l:=scope.names) (fun x hx=>by
  obtain⟨n,k⟩:=x;have:(k==NameKind.free)=false:=by simpa using SA _ hx
  simp [this])]
 have hv:∀x∈(scope.names.filter fun x=>(x.2== .local||x.2== .cell)&&x.1 !=(".0":Str)).reverse,x.2= .local->
  Env.kindOf {cenv with scope:=scope} x.1=some .local:=fun x hx hl=>hnames x (List.mem_filter.mp (List.mem_reverse.mp hx)).1 hl
 refine bN (be (kB (bN (sm (hnb:=by intro x;cases x) (cZ h₄ fun r s' hr=>?_)))));refine aw (hr) fun m hn hr=>?_;cases r with
 |ok f=>exact aX (wpAny_holding (wpAny_comp_letGo (cenv:={cenv with scope:=scope}) hkind _ s' m hv hn fun h' m' _ SC=>aG (hr h' SC)))
 |error x=>exact(hr _ (Heap.SameBut.refl ..)).elim
theorem vT {Q:Bool->Shared->Prop} (h:Q true s):al M A (i6 [] env) Q E s:=aG h
theorem vS {c:Expr} {Q:Bool->Shared->Prop} (h:al M A (isTrue c env (eval c env)) Q E s):al M A (i6 [c] env) Q E s:=by
 unfold i6;rw [List.forIn_cons,Tk rfl];exact be (be (cy h (fun b s' hb=>aG (aG hb)) fun _ _ x=>x))
end
section
variable {prog:Program} {w:World} {A:Around} {R:Result->Shared->Prop} {s:Shared} {env:Env}
theorem Dy {α:Type} {M:Model} {p:Prop} [Decidable p] {a b:Sem α} {Q:α->Shared->Prop} {E:Value->Shared->Prop} (h1:p->al M A a Q E s) (h2:¬p->al M A b Q E s):al M A (if p then a else b) Q E s:=
 (Decidable.em p).elim (fun q=>(Tk q).symm▸h1 q) fun q=>(Tc q).symm▸h2 q
theorem lW {elt x' iter:Expr} {SD a' scope pos it F6}
 (h0:bW (model prog w) A (.compLoop (.ListComp elt (⟨x',iter,SD,0⟩::a') scope pos) 0 it F6 env) R s)
 (h:wpAny (model prog w) A (pyIter it) (fun it' s'=>bW (model prog w) A (.compLoop (.ListComp elt (⟨x',iter,SD,0⟩::a') scope pos) 0 it' F6 env) R s') iY s):
 bW (model prog w) A (.compStart (.ListComp elt (⟨x',iter,SD,0⟩::a') scope pos) 0 it F6 env) R s:=by
 refine cV rfl ?_;show al _ A ((compStart (.ListComp elt (⟨x',iter,SD,0⟩::a') scope pos) 0 it F6 env).onRaise (fun x=>do noteFrame x env;standAt theWindowsPlace)) _ _ s;refine x3 ?_;unfold compStart;show al _ A (ask>>=_) _ _ s;refine aX (wpAny_askSetting ?_);try dsimp only
 refine Dy (fun _=>aG (T_ rfl h0)) fun _=>?_
 ·refine aX (wpAny_rule ?_);show al _ _ (standAt iter.pos>>=_) _ _ s;exact bo (aX (wpAny_mono h (fun it' s' h'=>aG (T_ rfl h')) fun _ _ x=>x))
theorem mE {elt x' iter:Expr} {SD:List Expr} {scope:Scope} {pos:Pos} {it F6:Value} (I:Nat->Shared->Prop)
 (turn:∀n s,I n s->wpAny (model prog w) A (pyNext it) (fun r o0=>match r with
  |none=>R (.ok .next) o0
  |some v=>al (model prog w) A (assign x' env v) (fun _ w'=>al (model prog w) A (i6 SD env) (fun ok C'=>
   if ok=true then al (model prog w) A (eval elt env) (fun x s₄=>al (model prog w) A (call (.builtin "list.append") [F6,x]) (fun _ s₅=>∃m,m<n/\I m s₅) iY s₄) iY C'
   else ∃m,m<n/\I m C') iY w') iY o0) iY s)
 (n:Nat) (h:I n s) (ht:∀v,letOwnedTupleGo x' it v=pure ()):
 bW (model prog w) A (.compLoop (.ListComp elt [⟨x',iter,SD,0⟩] scope pos) 0 it F6 env) R s:=by
 induction n using Nat.strongRecOn generalizing s with
 |ind n ih=>
 refine cV rfl ?_;show al _ A ((compTurn (.ListComp elt [⟨x',iter,SD,0⟩] scope pos) 0 it F6 env).onRaise (fun x=>do noteFrame x env;theTreesLotGoes x)) _ _ s;refine x3 ?_;rw [compTurn_list];refine bo (aX (wpAny_mono (turn n s h) (fun r o0 F5=>?_) fun _ _ h'=>h'));cases r with
 |none=>exact aG F5
 |some v=>
  try dsimp only
  rw [ht];refine cC (bC F5 fun _ w' Op=>bC (m:=i6 SD env) Op fun ok C' Ls=>?_);cases ok with
  |false=>refine aw (Ls) fun m hm hI=>?_;exact aG ⟨rfl,ih m hm hI⟩
  |true=>
   exact be (be (cy Ls (fun x s₄ h₄=>be (cy h₄ (fun _ s₅ zp1=>aw zp1 fun m hm hI=>aG (aG ⟨rfl,ih m hm hI⟩)) fun _ _ h'=>h')) fun _ _ h'=>h'))
end
noncomputable abbrev rU (F:aY) (scope:Scope) (names:List Str) (hk:scope.kind= .function) (nd:names.Nodup) (loc:∀x∈names,scope.names.lookup x=some .local/\(x==("__debug__":Str))=false):aY:=
 ⟨0,F.qual,scope,F.cdv,[],names,hk,nd,fun L=>loc⟩
theorem Hs.ext {w:World} {H₀:Heap} {outer:List Env} {g:GH} {h h':Heap} {an:LD} (x:Hs w H₀ outer g h an) (k:∀b y,h.get? b=some y->h'.get? b=some y):Hs w H₀ outer g h' an:=
 ⟨fun b o e=>k b o (x.H b o e),gR x.ff fun b _ o e _=>(aj o (k b o e) rfl),fun p hp=>(x.ledAt p hp).congr fun b _ y e=>k b y e,fun p hp=>(x.gAt p hp).congr fun b _ y e=>k b y e,x.nd,x.ga,x.hl,x.fo,x.gs⟩
section
variable {F:aY} {Φ:Fx F} {g:GH} {vs:LV} {an:LD} {E:ET}
theorem St.butL {st:Bool} {h h':Heap} (S:St Φ st g h vs an) (hs:Heap.SameBut Φ.L h h'):Hs Φ.w Φ.H₀ Φ.outer g h' an/\l5 st Φ.he Φ.own Φ.g₀ h' g an:=by
 have k:∀b y,b≠Φ.L->h.get? b=some y->h'.get? b=some y:=fun b y hb e=>hs.extBut b y hb e;have nH:∀b o,Φ.H₀.get? b=some o->b≠Φ.L:=fun b o e q=>by rw [q,Φ.L_H] at e;cases e
 have Ss:∀b,h.get? b=none->h'.get? b=none:=fun b e=>by
  by_cases q:b=Φ.L
  ·refine aw (S.L_some) fun o eo _=>?_;rw [q,eo] at e;cases e
  ·exact(hs.2 b q).trans e
 refine⟨⟨fun b o e=>k b o (nH b o e) (S.hs.H b o e),gR S.hs.ff fun b hb o e _=>(aj o (k b o (fun q=>Φ.L_fr (q▸hb)) e) rfl),fun p hp=>(S.hs.ledAt p hp).congr fun b hb y e=>k b y (fun q=>S.Ll (bU.mpr (aj p hp (q▸hb)))) e,
  fun p hp=>(S.hs.gAt p hp).congr fun b hb y e=>k b y (fun q=>S.Lg p hp (q▸hb)) e,S.hs.nd,S.hs.ga,S.hs.hl,S.hs.fo,S.hs.gs⟩,⟨fun b o e hb=>?_,S.tr.dom,S.tr.gdom,S.tr.sub⟩⟩
 refine(S.tr.kept b o e hb).step (fun z=>z) fun o' e'=>dN.of_eq (k b o' (fun q=>?_) e');rw [q,Φ.heL] at e;cases e
structure Sub (Φ:Fx F) {F':aY} (Ψ:Fx F'):Prop where
 w:Ψ.w=Φ.w
 H:Ψ.H₀=Φ.H₀
 st:Ψ.strict=Φ.strict
 room:Ψ.room=Φ.room
noncomputable def TT (Φ:Fx F) (g:GH) (vs:LV) (an:LD) (SD:List Expr) (Q:QT Bool):Prop:=TB Φ g vs an (i6 SD Φ.env) Q (fun _ _ _=>False)
theorem jT {Q:QT Bool} (h:Q true g vs an):TT Φ g vs an [] Q:=fun s S=>vT ⟨true,g,vs,an,S,rfl,h⟩
theorem vJ {c:Expr} {Q:QT Bool} (h:TB Φ g vs an (isTrue c Φ.env (eval c Φ.env)) Q (fun _ _ _=>False)):TT Φ g vs an [c] Q:=fun s S=>vS (h s S)
theorem jK {α β:Type} {R:β->α->Prop} {t:Sem α} {Q:QT β} {s:Shared} {Qc:α->Shared->Prop} (h:TG R Φ g vs an t Q (fun _ _ _=>False)) (S:aZ Φ Φ.strict g s vs an)
 (k:∀a s1 b g1 Lu KE,aZ Φ Φ.strict g1 s1 Lu KE->R b a->Q b g1 Lu KE->Qc a s1):al (model PG Φ.w) Φ.A t Qc iY s:=
 cy (h s S) (fun a s1 zp16=>zp16.u fun b g1 Lu KE S1 r q=>k a s1 b g1 Lu KE S1 r q) fun _ _ zp86=>zp86.u fun _ _ _ _ _ _ _ z=>z
theorem lU {F':aY} {Ψ:Fx F'} {elt iter:Expr} {SD:List Expr} {scope:Scope} {pos tp:Pos} {tx:Str} {x:AV} {n:Nat} {Pp:Nat->AV} {ob:Nat->Obj->Prop} {src:GH->LD->Prop} {an:LD} (hnm:F'.names=[tx])
 (IT:kA Ψ x n Pp ob src) (I:Nat->GH->List AV->LD->Prop) (hI:∀i g ys an p,I i g ys an->src g (p::an)) (hz:∀i g ys an,I i g ys an->ys.length<=cq)
 (turn:∀i g an ys p q,i<n->I i g ys an->TT Ψ g [(tx,some (Pp i))] (p::q::an) SD (fun ok g vs led'=>if ok=true
  then TV Ψ g vs led' (eval elt Ψ.env) (fun y g _ F7=>∃G',F7.Perm (p::q::G')/\I (i+1) g (ys++[y]) G') (fun _ _ _=>False)
  else ∃G',led'.Perm (p::q::G')/\I (i+1) g ys G'))
 {F6 ia:Addr} {o:Obj} {s:Shared} {R:Result->Shared->Prop} (fin:∀g s ys an ov,I n g ys an->aZ Ψ Ψ.strict g s [(tx,ov)] ((F6,.list ys)::an)->R (.ok .next) s)
 (h0:I 0 g [] an) (ho:ob 0 o) (S:aZ Ψ Ψ.strict g s [(tx,none)] ((ia,.raw o)::(F6,.list [])::an)) (ht:∀it v,letOwnedTupleGo (.Name tx tp) it v=pure ()):
 bW (model PG Ψ.w) Ψ.A (.compStart (.ListComp elt [⟨.Name tx tp,iter,SD,0⟩] scope pos) 0 (.ref ia) (.ref F6) Ψ.env) R s:=by
 have loop:bW (model PG Ψ.w) Ψ.A (.compLoop (.ListComp elt [⟨.Name tx tp,iter,SD,0⟩] scope pos) 0 (.ref ia) (.ref F6) Ψ.env) R s:=by
  refine mE (fun k s=>∃i g ys an o ov,k=n+1-i/\i<=n/\I i g ys an/\ob i o/\aZ Ψ Ψ.strict g s [(tx,ov)] ((ia,.raw o)::(F6,.list ys)::an)) ?_ (n+1) (hS 0 g [] an o none (cn rfl (Tn _) h0 ho S)) (ht _);intro k s j';refine kl j' fun i g ys an o ov El=>eV El fun th hin hIi hob S=>?_;subst th;rcases Nat.lt_or_ge i n with Lc|hge
  ·refine wpAny_mono (IT.next g [(tx,ov)] ((F6,.list ys)::an) s ia o i (hI _ _ _ _ _ hIi) hob Lc S) (fun r o0 to=>dl to fun c o' e rc ho' S1=>?_) fun _ _ z=>z;subst e;have fin':∀{s:Shared} {g ys' vs led' Sq},led'.Perm ((ia,AO.raw o')::(F6,.list ys')::Sq)->I (i+1) g ys' Sq->aZ Ψ Ψ.strict g s vs led'->∃m,m<n+1-i/\∃i' g ys an o ov,m=n+1-i'/\i'<=n/\I i' g ys an/\ob i' o/\aZ Ψ Ψ.strict g s [(tx,ov)] ((ia,.raw o)::(F6,.list ys)::an):=by
    intro s g ys' vs led' Sq hp q S;have e:=S.1.nms.trans hnm;cases vs with
    |nil=>cases e
    |cons p r=>
     obtain⟨y,ov⟩:=p;injection e with e1 e2
     rw [List.map_eq_nil_iff.mp e2,show y=tx from e1] at S;exact dH (n+1-(i+1)) (cN (AD Lc) (hS (i+1) g ys' Sq o' ov (cn rfl Lc q ho' ⟨S.1.drop (fun p hq=>hp.mem_iff.mpr hq) ((ez hp).nodup S.1.hs.nd),S.2⟩)))
   refine jK (Q:=fun _ g' Ab led'=>g'=g/\Ab=[(tx,some (Pp i))]/\led'=(ia,.raw o')::(F6,.list ys)::an) (R:=(Eq:Unit->Unit->Prop)) (bt ⟨_,.head,rfl,rfl,rfl⟩ c rc) S1 fun _ w' _ g2 SL SM S2 _ zz=>?_;refine jK (turn i g an ys (ia,.raw o') (F6,.list ys) Lc hIi) (bp zz fun e1 e2 e3=>e1▸e2▸e3▸S2) fun ok C' b g3 vs3 G' S3 r3 q3=>?_;subst r3;cases b with
   |false=>exact aw q3 fun Sq hp q=>fin' hp q S3
   |true=>
    refine jK q3 S3 fun x s₄ y g4 vs4 led5 S4 r4 zz=>aw zz fun Sq hp q=>?_;exact jK (Q:=fun _ g' Ab led'=>g'=g4/\Ab=vs4/\led'=(ia,.raw o')::(F6,.list (ys++[y]))::Sq) (dB (.tail .head) (hz _ _ _ _ hIi) (aN rfl rfl rfl) _ _ rfl (.cons rfl (.cons r4 .nil)))
     ⟨S4.1.drop (fun p hq=>hp.mem_iff.mpr hq) ((ez hp).nodup S4.1.hs.nd),S4.2⟩ fun _ s₅ _ g5 vs5 led6 S6 _ zz=>bp zz fun e1 e2 e3=>fin' (e3▸T1 _) (e1▸q) S6
  ·have e0:i=n:=Nat.le_antisymm hin hge;subst e0;refine wpAny_mono (IT.stop g [(tx,ov)] ((F6,.list ys)::an) s ia o (hI _ _ _ _ _ hIi) hob S) (fun r o0 zz=>a0 zz fun e S1=>?_) fun _ _ z=>z;subst e;exact fin g o0 ys an ov hIi S1
 refine lW loop ?_;refine wpAny_mono (IT.self g [(tx,none)] ((F6,.list [])::an) _ ia o 0 (hI _ _ _ _ _ h0) ho S) (fun v s' zz=>a0 zz fun e1 e2=>?_) fun _ _ z=>z;subst e1;subst e2;exact loop
noncomputable abbrev km (Φ:Fx F) {scope:Scope} {tx:Str} (hk:scope.kind= .function) (nd:[tx].Nodup) (loc:∀x∈[tx],scope.names.lookup x=some .local/\(x==("__debug__":Str))=false) (s:Shared) (own:LD)
 (hs:Hs Φ.w Φ.H₀ Φ.fr g s.heap own):Fx (rU F scope [tx] hk nd loc):=
 Fx.mk Φ.w Φ.H₀ Φ.wd s.heap.objs.size Φ.fr Φ.A s.heap (aD own) g Φ.strict Φ.room s.gens s.os true Φ.env.frame Φ.hA Φ.hh (T9 (Tj _)) hs.H hs.ff hs.hl hs.fo Φ.dp Φ.un
theorem qQ {scope:Scope} {tx:Str} {hk nd loc} {s:Shared} {own:LD} (hs:Hs Φ.w Φ.H₀ Φ.fr g s.heap own) {h':Heap} {o:Obj} (hns:h'.Ns s.heap.objs.size fun x=>([]:List (Str×Value)).reverse.lookup x) (hsb:Heap.SameBut s.heap.objs.size (s.heap.push o) h') {t:Nat}:
 aZ (km (tx:=tx) (scope:=scope) Φ hk nd loc s own hs) Φ.strict g {s with heap:=h',toks:=t} [(tx,none)] own:=by
 have hL:s.heap.get? s.heap.objs.size=none:=T9 (Tj _);have kk:∀b y,s.heap.get? b=some y->h'.get? b=some y:=fun b y e=>hsb.extBut b y (Nat.ne_of_lt (Heap.lt_size e)) (Tp _ e);have no:∀{b y},s.heap.get? b=some y->b≠s.heap.objs.size:=fun e q=>by rw [q,hL] at e;cases e
 refine aN ⟨hs.ext kk,⟨fun b o e _=>dN.of_eq (kk b o e),fun b hb=>.inl hb,fun p hp=>.inl hp,fun p hp=>hp⟩,aj _ hns (fun x v hm=>?_),rfl,fun hb=>?_,fun p hp hb=>?_⟩ rfl rfl
 ·cases hm with|tail _ h=>cases h
 ·exact aw (bU.mp hb) fun p hp q=>ax ((hs.ledAt p hp).there _ q) fun y e=>no e rfl
 ·exact ax ((hs.gAt p hp).there _ hb) fun y e=>no e rfl
theorem o_ {scope:Scope} {tx:Str} {hk nd loc} {s o0:Shared} {own an:LD} (S:aZ Φ Φ.strict g s vs own) (hs:Hs Φ.w Φ.H₀ Φ.fr g s.heap own) {g1:GH} {Lu:LV}
 (S1:aZ (km (tx:=tx) (scope:=scope) Φ hk nd loc s own hs) Φ.strict g1 o0 Lu an) {h':Heap} (hb:Heap.SameBut s.heap.objs.size o0.heap h'):aZ Φ Φ.strict g1 {o0 with heap:=h'} vs an:=by
 refine a0 (S1.1.butL hb) fun H' T'=>?_;have:=St.after (Φ:=Φ) (h:=s.heap) (g:=g) (vs:=vs) (own:=own) (a':=[]) (by rw [T7];exact S.1) H' T' (fun z=>z) (.inr fun _ hp=>nomatch hp);rw [T7] at this;exact aN this (S1.2.1.trans S.2.1) (S1.2.2.trans S.2.2)
theorem jU {elt iter:Expr} {SD:List Expr} {scope:Scope} {pos tp:Pos} {tx:Str} {Q:QT AV} (hk:scope.kind= .function) (nd:[tx].Nodup) (loc:∀x∈[tx],scope.names.lookup x=some .local/\(x==("__debug__":Str))=false)
 (SA:∀x∈scope.names,x.2≠ .free) (SX:∀x∈scope.names,x.2≠ .cell) (hnames:∀x∈scope.names,x.2= .local->scope.names.lookup x.1=some .local)
 (h:TV Φ g vs an (eval iter Φ.env) (fun x g vs an=>∃n Pp ob src,(∀{F':aY} (Ψ:Fx F'),kA Ψ x n Pp ob src)/\∃I:Nat->GH->List AV->LD->Prop,
  (∀i g ys an p,I i g ys an->src g (p::an))/\src g an/\(∀i g ys an,I i g ys an->ys.length<=cq)/\I 0 g [] an/\
  (∀(Ψ:Fx (rU F scope [tx] hk nd loc)),Sub Φ Ψ->∀i g an ys p q,i<n->I i g ys an->TT Ψ g [(tx,some (Pp i))] (p::q::an) SD (fun ok g vs led'=>if ok=true
   then TV Ψ g vs led' (eval elt Ψ.env) (fun y g _ F7=>∃G',F7.Perm (p::q::G')/\I (i+1) g (ys++[y]) G') (fun _ _ _=>False)
   else ∃G',led'.Perm (p::q::G')/\I (i+1) g ys G'))/\
  ∀g ys an F6,I n g ys an->F6∉aD an->Q (.ref F6) g vs ((F6,.list ys)::an)) E)
 (hs:∀x,foldedSetIterable iter Φ.env x=pure x) (ht:∀it v,letOwnedTupleGo (.Name tx tp) it v=pure ()):
 TV Φ g vs an (eval (.ListComp elt [⟨.Name tx tp,iter,SD,0⟩] scope pos) Φ.env) Q E:=by
 intro s S;rw [eval_ListComp];refine mf (g:=⟨.Name tx tp,iter,SD,0⟩) (gs:=[]) rfl hs SA hk hnames ?_;refine h.use S fun c s1 x g1 Lu KE S1 r1 q1=>?_;refine eS q1 fun n Pp ob src El=>a0 El fun IT La=>ax La fun I zq2=>eF zq2 fun hI hsrc hz h0 turn fin=>?_;refine wpAny_mono ((IT Φ).start g1 Lu KE s1 c hsrc r1 S1) (fun it w' zz=>cX zz fun ia o e ho S2=>?_) fun _ _ z=>z;subst e;refine wpAny_newList ?_ (by exact Tn _);have S3:=(S2.newList (cs:=#[]) (xs:=[]) .nil).rot;have hs3:=St.sub (a':=[]) (by rw [T7];exact S3.1);refine wpAny_newFunctionEnv SX (fun x hx=>nomatch hx) (fun h' hns hsb=>?_) hk;refine lU (Ψ:=km Φ hk nd loc _ _ hs3) rfl (IT _) I hI hz (turn _ ⟨rfl,rfl,rfl,rfl⟩) (fun g s ys an ov hIi S1=>?_) h0 ho (qQ hs3 hns hsb).sw ht;refine aw S1.1.loc fun m hn _=>aj m hn fun h' SC=>?_;exact⟨.ref _,g,Lu,_,o_ S3 hs3 S1 SC,rfl,fin g ys an _ hIi (TA.mp (show(_::aD an).Nodup from S1.1.hs.nd)).1⟩
end
theorem xX {A B:Prop} (h:B):if(!true)=true then A else B:=h
theorem nN {A B:Prop} (h:A):if(!false)=true then A else B:=h
theorem gN {t:List UInt8} {P:List UInt8->Prop} (hz:t.length<=bf) (q:P t):∃l,AV.bytes t= .bytes l/\l.length<=bf/\P l:=(eP _ rfl hz q)
theorem dQ {i:Int} {P:Int->Prop} (q:P i):∃j,AV.int i= .int j/\P j:=(aj _ rfl q)
theorem de {P:Prop} (q:P):AV.none= .none/\P:=⟨rfl,q⟩
theorem vg {vs Ab:LV} {x:Str} {v:AV} {P:LV->Prop} (sv:cM vs x v Ab) (q:P Ab):∃Ab,cM vs x v Ab/\P Ab:=(aj _ sv q)
section
variable {F:aY} {Φ:Fx F} {g:GH} {vs:LV} {an:LD} {E:ET}
theorem Q6 {l op r pos} {Q:QT AV} (h:TV Φ g vs an (eval (.Compare l [op] [r] pos) Φ.env) Q E):TV Φ g vs an (eval (.Compare l [op] [r] pos) Φ.env) Q E:=h
theorem CJ {x pos} {Q:QT AV} (h:TV Φ g vs an (eval (.Name x pos) Φ.env) Q E):TV Φ g vs an (eval (.Name x pos) Φ.env) Q E:=h
theorem QR {o x pos} {Q:QT AV} (h:TV Φ g vs an (eval (.Attribute o x pos) Φ.env) Q E):TV Φ g vs an (eval (.Attribute o x pos) Φ.env) Q E:=h
theorem Qh {o x np as pos} {Q:QT AV} (h:TV Φ g vs an (eval (.Call (.Attribute o x np) as [] pos) Φ.env) Q E):TV Φ g vs an (eval (.Call (.Attribute o x np) as [] pos) Φ.env) Q E:=h
theorem QY {e np pos} {Q:QT AV} (h:TV Φ g vs an (eval (.Call (.Name "len" np) [e] [] pos) Φ.env) Q E):TV Φ g vs an (eval (.Call (.Name "len" np) [e] [] pos) Φ.env) Q E:=h
theorem QJ {e} {Q:QT (Option Int)} (h:iD Φ g vs an e Q E):iD Φ g vs an e Q E:=h
theorem QZ {e np pos} {Q:QT AV} (h:TV Φ g vs an (eval (.Call (.Name "int" np) [e] [] pos) Φ.env) Q E):TV Φ g vs an (eval (.Call (.Name "int" np) [e] [] pos) Φ.env) Q E:=h
theorem P9 {pos e a'} {Q:QT (List AV)} (h:TL Φ g vs an (spliced (backTo pos (starEach (e::a') Φ.env))) Q E):TL Φ g vs an (spliced (backTo pos (starEach (e::a') Φ.env))) Q E:=h
theorem QI {l op r pos u'} {Q:QT Bool} (h:TB Φ g vs an (isTrue (.Compare l [op] [r] pos) Φ.env u') Q E):TB Φ g vs an (isTrue (.Compare l [op] [r] pos) Φ.env u') Q E:=h
theorem Pk {l op1 op2 J' r1 r2 rs pos u'} {Q:QT Bool} (h:TB Φ g vs an (isTrue (.Compare l (op1::op2::J') (r1::r2::rs) pos) Φ.env u') Q E):TB Φ g vs an (isTrue (.Compare l (op1::op2::J') (r1::r2::rs) pos) Φ.env u') Q E:=h
theorem Ph {e u'} {Q:QT Bool} (h:TB Φ g vs an (isTrue e Φ.env u') Q E):TB Φ g vs an (isTrue e Φ.env u') Q E:=h
theorem QP {e pos} {Q:QT AF} (h:TF Φ g vs an (exec (.Expr e pos) Φ.env) Q E):TF Φ g vs an (exec (.Expr e pos) Φ.env) Q E:=h
theorem Qi {x p v pos} {Q:QT AF} (h:TF Φ g vs an (exec (.Assign [.Name x p] v pos) Φ.env) Q E):TF Φ g vs an (exec (.Assign [.Name x p] v pos) Φ.env) Q E:=h
theorem Qj {o x p v pos} {Q:QT AF} (h:TF Φ g vs an (exec (.Assign [.Attribute o x p] v pos) Φ.env) Q E):TF Φ g vs an (exec (.Assign [.Attribute o x p] v pos) Φ.env) Q E:=h
theorem Q5 {o x p} {Q:QT AV} (h:TV Φ g vs an (eval (.Subscript o x p) Φ.env) Q E):TV Φ g vs an (eval (.Subscript o x p) Φ.env) Q E:=h
theorem QO {o a b p q} {Q:QT AV} (h:TV Φ g vs an (eval (.Subscript o (.Slice a b none p) q) Φ.env) Q E):TV Φ g vs an (eval (.Subscript o (.Slice a b none p) q) Φ.env) Q E:=h
theorem Qe {np arg cpos pos} {Q:QT AF} (h:TF Φ g vs an (exec (.Raise (some (.Call (.Name "BadCommand" np) [arg] [] cpos)) none pos) Φ.env) Q E):TF Φ g vs an (exec (.Raise (some (.Call (.Name "BadCommand" np) [arg] [] cpos)) none pos) Φ.env) Q E:=h
end
theorem sr {M:Model} {A:Around} {E:Value->Shared->Prop} {s:Shared} {pos:Pos} {a:Value} {op op':CmpOp} {J':List CmpOp} {r r':Sem Value} {rs:List (Sem Value)} {Q:Value->Shared->Prop}
 (h:al M A r (fun b o0=>al M A (compareOp op a b) (fun c w'=>al M A (truthy c) (fun t C'=>if t=true then al M A (compareChain pos b (op'::J') (r'::rs)) Q E C' else Q c C') E w') E o0) E s):
 al M A (compareChain pos a (op::op'::J') (r::r'::rs)) Q E s:=by
 refine cI (m:=r) h fun b _ h1=>bo (cI (m:=compareOp op a b) h1 fun c _ h2=>be (ji (cI (m:=truthy c) h2 fun t _ h3=>?_)));cases t with
 |false=>exact aG h3
 |true=>exact h3
theorem ss {M:Model} {A:Around} {E:Value->Shared->Prop} {s:Shared} {pos:Pos} {a:Value} {op:CmpOp} {r:Sem Value} {Q:Value->Shared->Prop}
 (h:al M A r (fun b o0=>al M A (compareOp op a b) Q E o0) E s):al M A (compareChain pos a [op] [r]) Q E s:=
 cI (m:=r) h fun b _ h1=>bo (jj h1)
section
variable {F:aY} {Φ:Fx F} {g:GH} {vs:LV} {an:LD} {E:ET}
theorem yW {l K4 op₂ J' Om r₂ rs pos} {Q:QT AV} (h:TV Φ g vs an (eval l Φ.env) (wt Φ pos (K4::op₂::J') (eval Om Φ.env::eval r₂ Φ.env::evalEach rs Φ.env) Q E) E)
 (hm:markedEach (K4::op₂::J') (Om::r₂::rs) (evalEach (Om::r₂::rs) Φ.env)=evalEach (Om::r₂::rs) Φ.env):
 TV Φ g vs an (eval (.Compare l (K4::op₂::J') (Om::r₂::rs) pos) Φ.env) Q E:=by
 intro s S;rw [arm_eval_Compare,hm];exact be (h.use S fun _ _ _ _ _ _ S1 r1 q1=>q1 _ r1 _ S1)
theorem yQ {pos a op op' J' r r' rs} {Q:QT AV} (h:TV Φ g vs an r (wq Φ pos op a (op'::J') (r'::rs) Q E) E):
 kR Φ g vs an pos a (op::op'::J') (r::r'::rs) Q E:=
 fun _ ra _ S=>sr (h.use S fun _ _ _ _ _ _ S1 r1 q1=>(q1 _ _ ra r1).use S1 fun _ _ _ _ _ _ S2 r2 q2=>(q2 _ r2).use S2 fun c _ b _ _ _ S3 r3 q3=>by
  subst r3;cases b<;>first|exact q3 _ r1 _ S3|exact⟨_,_,_,_,S3,r2,q3⟩)
theorem yR {pos a op r} {Q:QT AV} (h:TV Φ g vs an r (u0 Φ op a Q E) E):kR Φ g vs an pos a [op] [r] Q E:=
 fun _ ra _ S=>ss (h.use S fun _ _ _ _ _ _ S1 r1 q1=>q1 _ _ ra r1 _ S1)
theorem Qg {l op1 op2 J' r1 r2 rs pos} {Q:QT AV} (h:TV Φ g vs an (eval (.Compare l (op1::op2::J') (r1::r2::rs) pos) Φ.env) Q E):TV Φ g vs an (eval (.Compare l (op1::op2::J') (r1::r2::rs) pos) Φ.env) Q E:=h
end
theorem TG.postless {α β:Type} {R:β->α->Prop} {F:aY} {Φ:Fx F} {g:GH} {vs:LV} {an:LD} {E:ET} {t:Sem α} {Q:QT β} (h:TG R Φ g vs an t (fun b g vs an=>∃l,l.Sublist an/\Q b g vs l) E):TG R Φ g vs an t Q E:=
 fun s S=>h.use S fun a s1 b g1 Lu KE S1 r1 zp28=>aw zp28 fun l hl q=>⟨b,g1,Lu,l,⟨S1.1.drop (fun p hq=>hl.subset hq) (List.Nodup.sublist (ij hl) S1.1.hs.nd),S1.2⟩,r1,q⟩
noncomputable abbrev gO (Q:AV->GH->LD->Prop) (f:AF) (g:GH) (l:LD):Prop:=match f with| .ret v=>Q v g l| .next=>Q .none g l|_=>False
theorem Bu {F:aY} {body:List Stmt} {params a':List Str} {F3:Nat} {SK:List AV} (FK:bE F body params F3 SK) (n:Nat) (vs:LV) {w:World} {H₀:Heap} (W:Wd w H₀)
 {g:GH} {own:LD} {as:List AV} {st:Bool} {Q:AV->GH->LD->Prop} {E:AV->Prop}
 (h:∀Φ:Fx F,Φ.w=w->Φ.H₀=H₀->Φ.g₀=g->Φ.strict=st->Φ.room=n->Φ.own=aD own->Φ.inl=false->
  TF Φ g vs own (execs body Φ.env) (fun f g' _ led'=>∃l,l.Sublist led'/\gO Q f g' l) (fun or _ _=>E or))
 (hnames:F.names=params++a') (hlen:as.length=F3) (hv:fV params a' (as++SK)=vs):
 ∀on,aA as on->cz w H₀ g own (.call (.ref F.f) ⟨on,[]⟩) (n+1) st Q E:=
 enter FK hnames W hlen fun Φ a b c d e f i=>by rw [hv];exact TG.postless (h Φ a b c d e f i)
theorem QN {vs:LV} {x:Str} {v:AV} {P:LV->Prop} (h:∃Ab,cM vs x v Ab/\P Ab):∃Ab,cM vs x v Ab/\P Ab:=h
theorem Q4 {t:List UInt8} {P:List UInt8->Prop} (h:∃l,AV.bytes t= .bytes l/\l.length<=bf/\P l):∃l,AV.bytes t= .bytes l/\l.length<=bf/\P l:=h
theorem Q3 {g:GH} {an:LD} {a:Addr} {P:Addr->List AV->Prop} (h:∃b ys,AV.ref a= .ref b/\bM g an (b,.list ys)/\P b ys):∃b ys,AV.ref a= .ref b/\bM g an (b,.list ys)/\P b ys:=h
noncomputable abbrev A5 (P:GH->LV->LD->Prop) (Q:QT AF):QT AF:=fun f g vs an=>match f with
 | .next=>P g vs an
 |f=>Q f g vs an
section
variable {F:aY} {Φ:Fx F} {g:GH} {vs:LV} {an:LD} {E:ET}
noncomputable abbrev rG (Φ:Fx F) (a':List Stmt) (Q:QT AF) (E:ET):QT AF:=A5 (fun g vs an=>TF Φ g vs an (execs a' Φ.env) Q E) Q
theorem ae {st a'} {Q:QT AF} (h:TF Φ g vs an (exec st Φ.env) (rG Φ a' Q E) E):TF Φ g vs an (execs (st::a') Φ.env) Q E:=pq h
theorem ag {st} {Q:QT AF} (h:TF Φ g vs an (exec st Φ.env) Q E):TF Φ g vs an (execs [st] Φ.env) Q E:=
 pq (h.mono (fun f g vs an q=>by cases f<;>first|exact bq q|exact q) fun _ _ _ z=>z)
end
noncomputable def ka (e:Expr):Bool:=!Nat.beq e.ctorIdx 16
theorem r9 {o x env m} (h:ka o=true):attributeBase o x env m=m:=by
 cases o<;>first|rfl|exact Bool.noConfusion h
noncomputable def hP (e:Expr):Bool:=Nat.beq e.ctorIdx 22
theorem m2 {e a' env} (h:hP e=false):starEach (e::a') env=(false,eval e env)::starEach a' env:=by
 cases e<;>first|rfl|exact Bool.noConfusion h
noncomputable def noStar:List Expr->Bool|[]=>true|e::r=>!hP e&&noStar r
theorem e6 {pos env} {args:List Expr} (h:noStar args=true):(backTo pos (starEach args env)).all (fun x=>!x.1)=true:=by
 induction args with
 |nil=>rfl
 |cons e r ih=>
  cases hs:hP e with
  |true=>exact absurd h (by show ¬(!hP e&&noStar r)=true;rw [hs];exact Bool.false_ne_true)
  |false=>rw [m2 hs];exact ih (by have h:(!hP e&&noStar r)=true:=h;rw [hs] at h;exact h)
theorem uV {o x Jn args pos env} (hb:ka o=true) (hn:noStar args=true) (hl:args.length<30) (hp:(Jn.endLine==pos.line)=true):
 eval (.Call (.Attribute o x Jn) args [] pos) env=(do
  let ov ←eval o env
  standAt Jn.atName
  let (f,first) ←holding [ov] (getMethod ov x (do return (←importBound o env).getD true))
  callWith pos f first (backTo pos (starEach args env)) []):=by
 have hf:methodCallForm (args.length+([]:List Keyword).length) (backTo pos (starEach args env)) (backToKw pos (keywordEach [] env))=true:=by
  unfold methodCallForm;rw [e6 hn];simp [backToKw,arm_keywordEach_nil,hl]
 rw [arm_eval_Call,r9 hb];unfold methodCall;rw [hf];have e1:methodCallPos true o env Jn pos=pure pos:=by unfold methodCallPos;rw [hp];rfl
 rw [e1];rfl
noncomputable def mZ (e:Expr):Bool:=!(Nat.beq e.ctorIdx 3||Nat.beq e.ctorIdx 0||Nat.beq e.ctorIdx 5||Nat.beq e.ctorIdx 15)
theorem rg {e env u'} (h:mZ e=true):isTrue e env u'=(do let v ←u';standAt e.pos;holding [v] (truthy v)):=by
 cases e<;>first|rfl|exact Bool.noConfusion h
noncomputable def kf (e:Expr):Bool:=Nat.beq e.ctorIdx 8||Nat.beq e.ctorIdx 9||Nat.beq e.ctorIdx 10
theorem jm {v t l env} (h:kf v=false):swapsWith v t l env=pure false:=by
 cases v<;>first|rfl|exact Bool.noConfusion h
theorem pS {v b t r}:letTemporaryGo v (.bytes b t) r=pure ():=by cases v<;>rfl
noncomputable def jz (e:Expr):Bool:=Nat.beq e.ctorIdx 26
theorem g_ {A' o i} (h:jz A'=false):subscripted A' false o i=operate [o,i] (getItem o i):=by
 cases A'<;>first|rfl|exact Bool.noConfusion h
theorem md {a:AV} {A B:Prop} (h:a.isNone=false) (q:A):if(!a.isNone)=true then A else B:=by rw [h];exact q
theorem nO {a:AV} {A B:Prop} (h:a.isNone=true) (q:B):if(!a.isNone)=true then A else B:=by rw [h];exact q
theorem fc {a:AV} {A B:Prop} (h:a.isNone=false) (q:B):if a.isNone=true then A else B:=by rw [h];exact q
theorem ft {a:AV} {A B:Prop} (h:a.isNone=true) (q:A):if a.isNone=true then A else B:=by rw [h];exact q
theorem Q0 {a:AV} {A B:Prop} (q:if(!a.isNone)=true then A else B):if(!a.isNone)=true then A else B:=q
theorem Q2 {a:AV} {A B:Prop} (q:if a.isNone=true then A else B):if a.isNone=true then A else B:=q
section
variable {F:aY} {Φ:Fx F} {g:GH} {vs:LV} {an:LD} {E:ET}
theorem P7 {a b l i} {Q:QT AV} (h:gG Φ g vs an a b (.bytes l) (.int i) Q E):gG Φ g vs an a b (.bytes l) (.int i) Q E:=h
theorem P8 {o x} {Q:QT AV} (h:nL Φ g vs an o x Q E):nL Φ g vs an o x Q E:=h
theorem QH {o x v} {Q:QT Unit} (h:pw Φ g vs an o x v Q E):pw Φ g vs an o x v Q E:=h
theorem cb {value A':Expr} {l:List UInt8} {i:Int} {Q:QT AV} (hz:l.length<=bf) (h0:0<=i) (h1:i<l.length) (hs:jz A'=false) (h:Q (.int ((l.getD i.toNat 0).toNat:Nat)) g vs an):gG Φ g vs an value A' (.bytes l) (.int i) Q E:=
 y3 (hs:=fun _ _ _=>g_ hs) (ht:=fun _ _ _=>pS) hz h0 h1 h
theorem mO {f:Addr} {as:List AV} {n:Nat} {V:AV} {Q:QT AV} (C:∀K9,aA as K9->cz Φ.w Φ.H₀ g [] (.call (.ref f) ⟨K9,[]⟩) n true (fun v g' own'=>v=V/\g'=g/\own'=[]) (fun _=>False)) (hn:n<=Φ.room) (h:Q V g vs an):
 bG Φ g vs an (.ref f) as Q E:=
 jg (own:=[]) (a':=an) C hn (fun _=>rfl) (.inl rfl) (fun v g' own' q _=>by(refine bp (q) fun j' th to=>?_;subst j';subst th;subst to);exact h) (fun _ q=>q.elim)
theorem Du {st:Stmt} {Q:QT AF} (R:GH->LV->LD->Prop) (h1:TF Φ g vs an (exec st Φ.env) (fun f g vs an=>f= .next/\R g vs an) E) (h2:∀g vs an,R g vs an->Q .next g vs an):TF Φ g vs an (exec st Φ.env) Q E:=
 h1.mono (by(intro _ g vs an j';refine a0 (j') fun th r=>?_;subst th);exact h2 g vs an r) fun _ _ _ z=>z
theorem gl {f:Addr} {as:List AV} {n:Nat} {own:LD} {Qc:AV->GH->LD->Prop} {Ec:AV->Prop} {Q:QT AV} (C:∀K9,aA as K9->cz Φ.w Φ.H₀ g own (.call (.ref f) ⟨K9,[]⟩) n true Qc Ec) (hn:n<=Φ.room)
 (hq:∀v g' own',Qc v g' own'->(∀p,g p->g' p)->Q v g' vs own') (hx:∀or,Ec or->E or g vs):bG Φ g vs own (.ref f) as Q E:=by
 have:=jg (a':=[]) (Q:=Q) (E:=E) C hn (fun _=>rfl) (.inl rfl) (fun v g' own' q s=>by rw [T7];exact hq v g' own' q s) hx;rw [T7] at this;exact this
theorem fU {n np x pos} {Q:QT AV} (h:TV Φ g vs an (eval (.Name n np) Φ.env) (rH Φ x Q E) E):TV Φ g vs an (eval (.Attribute (.Name n np) x pos) Φ.env) Q E:=
 Cp (he:=arm_eval_Attribute ..) (ht:=fun _ _=>rfl) h
theorem aH {o x Jn args pos} {Q:QT AV} (hb:ka o=true) (hn:noStar args=true) (hl:args.length<30) (hp:(Jn.endLine==pos.line)=true)
 (h:TV Φ g vs an (eval o Φ.env) (Bg Φ x args pos Q E) E):TV Φ g vs an (eval (.Call (.Attribute o x Jn) args [] pos) Φ.env) Q E:=
 mM (he:=uV hb hn hl hp) (hplain:=e6 hn) h
theorem Cs {x np args pos} {Q:QT AV} (hn:noStar args=true) (h:TV Φ g vs an (eval (.Name x np) Φ.env) (wu Φ args pos Q E) E):
 TV Φ g vs an (eval (.Call (.Name x np) args [] pos) Φ.env) Q E:=Co (hplain:=e6 hn) h
theorem ah {pos e a'} {Q:QT (List AV)} (hs:hP e=false) (h:TV Φ g vs an (eval e Φ.env) (tn Φ pos a' Q E) E):
 TL Φ g vs an (spliced (backTo pos (starEach (e::a') Φ.env))) Q E:=qU (he:=m2 hs) h
theorem da {e u'} {Q:QT Bool} (hp:mZ e=true) (h:TV Φ g vs an u' (rE Φ Q E) E):TB Φ g vs an (isTrue e Φ.env u') Q E:=vK (he:=rg hp) h
theorem iX {l K4 op₂ J' Om r₂ rs pos u'} {Q:QT Bool} (hm:lastMarks (K4::op₂::J') (Om::r₂::rs)=false) (h:TV Φ g vs an (eval l Φ.env) (Bl Φ pos (K4::op₂::J') (eval Om Φ.env::eval r₂ Φ.env::evalEach rs Φ.env) Q E) E):
 TB Φ g vs an (isTrue (.Compare l (K4::op₂::J') (Om::r₂::rs) pos) Φ.env u') Q E:=vL (hm:=markedEach_of_false _ _ _ hm) h
theorem y0 {l K4 op₂ J' Om r₂ rs pos} {Q:QT AV} (hm:lastMarks (K4::op₂::J') (Om::r₂::rs)=false) (h:TV Φ g vs an (eval l Φ.env) (wt Φ pos (K4::op₂::J') (eval Om Φ.env::eval r₂ Φ.env::evalEach rs Φ.env) Q E) E):
 TV Φ g vs an (eval (.Compare l (K4::op₂::J') (Om::r₂::rs) pos) Φ.env) Q E:=yW (hm:=markedEach_of_false _ _ _ hm) h
theorem kx {pos a op r} {Q:QT Bool} (h:TV Φ g vs an (eval r Φ.env) (rF Φ op a Q E) E):mP Φ g vs an pos a [op] (eval r Φ.env::evalEach [] Φ.env) Q E:=Ck h
theorem yZ {pos a op r} {Q:QT AV} (h:TV Φ g vs an (eval r Φ.env) (u0 Φ op a Q E) E):kR Φ g vs an pos a [op] (eval r Φ.env::evalEach [] Φ.env) Q E:=yR h
theorem ku {pos a op op' J' r r' rs} {Q:QT Bool} (h:TV Φ g vs an (eval r Φ.env) (Bj Φ pos op a (op'::J') (eval r' Φ.env::rs) Q E) E):
 mP Φ g vs an pos a (op::op'::J') (eval r Φ.env::eval r' Φ.env::rs) Q E:=Cj h
theorem yY {pos a op op' J' r r' rs} {Q:QT AV} (h:TV Φ g vs an (eval r Φ.env) (wq Φ pos op a (op'::J') (eval r' Φ.env::rs) Q E) E):
 kR Φ g vs an pos a (op::op'::J') (eval r Φ.env::eval r' Φ.env::rs) Q E:=yQ h
theorem aI {x pos' value pos} {Q:QT AF} (hc:kf value=false) (h:TV Φ g vs an (eval value Φ.env) (Ea x Q) E):TF Φ g vs an (exec (.Assign [.Name x pos'] value pos) Φ.env) Q E:=iW (hs:=jm hc) h
theorem bm {e pos} {Q:QT AF} (hc:kf e=false) (h:TV Φ g vs an (eval e Φ.env) (wr Q) E):TF Φ g vs an (exec (.Expr e pos) Φ.env) Q E:=Cn (hs:=jm hc) h
theorem bz {o x pos' value pos} {Q:QT AF} (hc:kf value=false) (h:TV Φ g vs an (eval value Φ.env) (wo Φ o x Q E) E):
 TF Φ g vs an (exec (.Assign [.Attribute o x pos'] value pos) Φ.env) Q E:=kt (hs:=jm hc) h
theorem Eo {o} {Q:QT (AV×List AV)} (h:ee Φ g vs an o "append" Q E):ee Φ g vs an o "append" Q E:=h
theorem En {o} {Q:QT (AV×List AV)} (h:ee Φ g vs an o "extend" Q E):ee Φ g vs an o "extend" Q E:=h
theorem QM {o} {Q:QT (AV×List AV)} (h:ee Φ g vs an o "get" Q E):ee Φ g vs an o "get" Q E:=h
theorem QK {o} {Q:QT (AV×List AV)} (h:ee Φ g vs an o "pop" Q E):ee Φ g vs an o "pop" Q E:=h
theorem Qa {o} {Q:QT (AV×List AV)} (h:ee Φ g vs an o "find" Q E):ee Φ g vs an o "find" Q E:=h
theorem P_ {o} {Q:QT (AV×List AV)} (h:ee Φ g vs an o "join" Q E):ee Φ g vs an o "join" Q E:=h
end
noncomputable abbrev BS:=List UInt8
noncomputable def lj (n:Nat):Bool:=(65<=n&&n<=90)||(97<=n&&n<=122)||n==95
noncomputable def gA (first:Bool) (n:Nat):Bool:=lj n||(!first&&(48<=n&&n<=57))
noncomputable def bw:Bool->BS->Nat
 |_,[]=>0
 |f,c::r=>if gA f c.toNat=true then bw false r+1 else 0
noncomputable def db:BS->Option Nat
 |a::b::c::_=>if 48<=a.toNat/\a.toNat<=51/\48<=b.toNat/\b.toNat<=55/\48<=c.toNat/\c.toNat<=55 then some ((a.toNat-48)*64+(b.toNat-48)*8+(c.toNat-48)) else none
 |_=>none
noncomputable def gS (n:Nat):Nat:=
 if n=97 then 7 else if n=98 then 8 else if n=101 then 27 else if n=102 then 12 else if n=110 then 10 else if n=114 then 13 else if n=115 then 32 else if n=116 then 9 else if n=118 then 11 else n
noncomputable def cp:BS->BS×BS
 |[]=>([],[])
 |c::r=>match db (c::r) with
  |some n=>([n.toUInt8],r.drop 2)
  |none=>if c.toNat=10 then([],r) else([(gS c.toNat).toUInt8],r)
noncomputable abbrev Ev:=List (BS×BS)
noncomputable def look (env:Ev) (k:BS):BS:=((env.find? fun p=>decide (p.1=k)).map (·.2)).getD []
noncomputable def dy (n:Nat):BS->Bool
 |[]=>false
 |c::_=>c.toNat==n
noncomputable def cH (env:Ev) (r:BS):Option (BS×BS):=
 if dy 123 r=true then
  if bw true r.tail=0\/dy 125 (r.tail.drop (bw true r.tail))=false then none else some (look env (r.tail.take (bw true r.tail)),r.tail.drop (bw true r.tail+1))
 else if bw true r=0 then some ([36],r) else some (look env (r.take (bw true r)),r.drop (bw true r))
inductive DR where
 |ok (f r:BS)|err (k:Nat)|«open»
noncomputable def Eh (env:Ev):(l:BS)->(∀y:BS,y.length<l.length->BS->DR)->BS->DR
 |[],_,_=>.open
 |c::r,ih,f=>
  if c.toNat=34 then .ok f r
  else if c.toNat=92 then(if r.isEmpty=true then .err 1 else if h:(cp r).2.length<=r.length then ih (cp r).2 (TD h) (f++(cp r).1) else .open)
  else if c.toNat=36 then match cH env r with
   |none=>.err (r.length+1)
   |some q=>if h:q.2.length<=r.length then ih q.2 (TD h) (f++q.1) else .open
  else ih r (Ts _) (f++[c])
noncomputable def dX (env:Ev) (f l:BS):DR:=WellFounded.fix (measure List.length).wf (Eh env) l f
theorem tG (env:Ev) (f l:BS):dX env f l=Eh env l (fun y _ f=>dX env f y) f:=congrFun (WellFounded.fix_eq ..) f
theorem rS {env:Ev} {f:BS}:dX env f []= .open:=tG ..
theorem lP {env:Ev} {f:BS} {c:UInt8} {r:BS}:dX env f (c::r)=
 if c.toNat=34 then .ok f r
 else if c.toNat=92 then(if r.isEmpty=true then .err 1 else if h:(cp r).2.length<=r.length then dX env (f++(cp r).1) (cp r).2 else .open)
 else if c.toNat=36 then match cH env r with
  |none=>.err (r.length+1)
  |some q=>if h:q.2.length<=r.length then dX env (f++q.1) q.2 else .open
 else dX env (f++[c]) r:=tG ..
noncomputable def gu (r:BS):Option (BS×BS):=if 39∈r then some (r.takeWhile (·!=39),(r.dropWhile (·!=39)).tail) else none
noncomputable def dF (n:Nat):Bool:=n==32||n==10||n==59||n==125
inductive WR where
 |ok (f:BS) (bare:Bool) (r:BS)|err (k:Nat)
noncomputable def j0:BS:=[72,79,77,69]
noncomputable def vY (env:Ev):(l:BS)->(∀y:BS,y.length<l.length->Bool->Bool->BS->WR)->Bool->Bool->BS->WR
 |[],_,_,bare,f=>.ok f bare []
 |c::r,ih,start,bare,f=>
  if dF c.toNat=true then .ok f bare (c::r)
  else if c.toNat=39 then match gu r with
   |none=>.err (r.length+1)
   |some q=>if h:q.2.length<=r.length then ih q.2 (TD h) false false (f++q.1) else .err 0
  else if c.toNat=34 then match dX env f r with
   | .open=>.err (r.length+1)
   | .err k=>.err k
   | .ok f' r'=>if h:r'.length<=r.length then ih r' (TD h) false false f' else .err 0
  else if c.toNat=92 then(if r.isEmpty=true then .err 1 else if h:(cp r).2.length<=r.length then ih (cp r).2 (TD h) false false (f++(cp r).1) else .err 0)
  else if c.toNat=36 then match cH env r with
   |none=>.err (r.length+1)
   |some q=>if h:q.2.length<=r.length then ih q.2 (TD h) false false (f++q.1) else .err 0
  else if c.toNat=126/\start=true then ih r (Ts _) false false (f++look env j0)
  else ih r (Ts _) false bare (f++[c])
noncomputable def bO (env:Ev) (start bare:Bool) (f l:BS):WR:=WellFounded.fix (measure List.length).wf (vY env) l start bare f
theorem nR (env:Ev) (start bare:Bool) (f l:BS):bO env start bare f l=vY env l (fun y _ s b f=>bO env s b f y) start bare f:=congrFun (congrFun (congrFun (WellFounded.fix_eq ..) start) bare) f
theorem qk {env:Ev} {start bare:Bool} {f:BS} {c:UInt8} {r:BS}:bO env start bare f (c::r)=
 if dF c.toNat=true then .ok f bare (c::r)
 else if c.toNat=39 then match gu r with
  |none=>.err (r.length+1)
  |some q=>if h:q.2.length<=r.length then bO env false false (f++q.1) q.2 else .err 0
 else if c.toNat=34 then match dX env f r with
  | .open=>.err (r.length+1)
  | .err k=>.err k
  | .ok f' r'=>if h:r'.length<=r.length then bO env false false f' r' else .err 0
 else if c.toNat=92 then(if r.isEmpty=true then .err 1 else if h:(cp r).2.length<=r.length then bO env false false (f++(cp r).1) (cp r).2 else .err 0)
 else if c.toNat=36 then match cH env r with
  |none=>.err (r.length+1)
  |some q=>if h:q.2.length<=r.length then bO env false false (f++q.1) q.2 else .err 0
 else if c.toNat=126/\start=true then bO env false false (f++look env j0) r
 else bO env false bare (f++[c]) r:=nR ..
theorem jv {env:Ev} {start bare:Bool} {f:BS}:bO env start bare f []= .ok f bare []:=nR ..
theorem jy {f:Bool} {c:UInt8} {r:BS}:bw f (c::r)=if gA f c.toNat=true then bw false r+1 else 0:=rfl
theorem oE {c:UInt8} {d:BS} {n:Nat} (h:dy n (c::d)=true):c.toNat=n:=beq_iff_eq.mp h
theorem jr {P:UInt8->Prop} (h:∀n:Fin 256,P (UInt8.ofNat n.val)) (c:UInt8):P c:=(UInt8.ofNat_toNat (x:=c))▸h ⟨c.toNat,c.toNat_lt⟩
theorem dR {α:Type} {p:Prop} [Decidable p] {a b x:α} {G:Prop} (h:(if p then a else b)=x) (k:p->a=x->G) (l:¬p->b=x->G):G:=
 (Decidable.em p).elim (fun q=>k q ((Tk q).symm.trans h)) fun q=>l q ((Tc q).symm.trans h)
theorem ot {α:Type} {v:α} {P:Prop} (h:none=some v):P:=by cases h
theorem u3 {α:Type} {p:Prop} [Decidable p] {a:α}:(if p then some a else none).isSome=true↔p:=by
 by_cases h:p
 ·rw [Tk h];exact⟨fun _=>h,fun _=>rfl⟩
 ·rw [Tc h];exact⟨fun q=>Bool.noConfusion q,fun q=>absurd q h⟩
theorem uY {α:Type} {l:List α} (h:2<=l.length):∃a b r,l=a::b::r:=by
 cases l with
 |nil=>exact absurd h (Nat.not_succ_le_zero _)
 |cons a l=>cases l with
  |nil=>exact absurd h (Nat.not_le.mpr (Ts 1))
  |cons b r=>exact⟨a,b,r,rfl⟩
theorem mv {a b c:UInt8} {r:BS}:db (a::b::c::r)=if 48<=a.toNat/\a.toNat<=51/\48<=b.toNat/\b.toNat<=55/\48<=c.toNat/\c.toNat<=55 then some ((a.toNat-48)*64+(b.toNat-48)*8+(c.toNat-48)) else none:=rfl
theorem qy {r:BS} {n:Nat} {G:Prop} (h:db r=some n) (k:∀a b c d,r=a::b::c::d->48<=a.toNat/\a.toNat<=51/\48<=b.toNat/\b.toNat<=55/\48<=c.toNat/\c.toNat<=55->(a.toNat-48)*64+(b.toNat-48)*8+(c.toNat-48)=n->G):G:=by
 cases r with
 |nil=>exact ot h
 |cons a r=>
  cases r with
  |nil=>exact ot h
  |cons b r=>
   cases r with
   |nil=>exact ot h
   |cons c r=>exact dR h (fun q e=>k a b c r rfl q (Option.some.inj e)) fun _ e=>ot e
theorem lJ {c:UInt8} {r:BS} {n:Nat} (h:db (c::r)=some n):cp (c::r)=([n.toUInt8],r.drop 2):=by
 show(match db (c::r) with|some n=>([n.toUInt8],r.drop 2)|none=>if c.toNat=10 then([],r) else([(gS c.toNat).toUInt8],r))=_;rw [h]
theorem kj {c:UInt8} {r:BS} (h:db (c::r)=none):cp (c::r)=if c.toNat=10 then([],r) else([(gS c.toNat).toUInt8],r):=by
 show(match db (c::r) with|some n=>([n.toUInt8],r.drop 2)|none=>if c.toNat=10 then([],r) else([(gS c.toNat).toUInt8],r))=_;rw [h]
theorem lK {P:BS->BS×BS->Prop} (h0:P [] ([],[])) (h1:∀c r n,P (c::r) ([n],r.drop 2)) (h2:∀c r,P (c::r) ([],r)) (h3:∀c r n,P (c::r) ([n],r)) (r:BS):P r (cp r):=by
 cases r with
 |nil=>exact h0
 |cons c r=>
  cases h:db (c::r) with
  |some n=>rw [lJ h];exact h1 _ _ _
  |none=>
   rw [kj h];by_cases q:c.toNat=10
   ·rw [Tk q];exact h2 _ _
   ·rw [Tc q];exact h3 _ _ _
theorem eE (r:BS):(cp r).2.length<=r.length:=
 lK (P:=fun r q=>q.2.length<=r.length) (Tj _) (fun _ r _=>Nat.le_succ_of_le (List.drop_suffix 2 r).length_le) (fun _ _=>Nat.le_succ _) (fun _ _ _=>Nat.le_succ _) r
theorem iI (r:BS):r.tail<:+r:=by cases r with|nil=>exact Tv _|cons a r=>exact T8 a r
theorem nT {env:Ev} {r:BS} {q:BS×BS} {G:Prop} (h:cH env r=some q) (k:∀k2:BS,q.2<:+r->(q.1=look env k2\/q.1=[36])->G):G:=by
 unfold cH at h;refine dR h (fun _ h=>dR h (fun _ h=>ot h) fun _ h=>?_) fun _ h=>dR h (fun _ h=>?_) fun _ h=>?_
 ·cases h;exact k _ ((List.drop_suffix _ _).trans (iI r)) (.inl rfl)
 ·cases h;exact k [] (Tv _) (.inr rfl)
 ·cases h;exact k _ (List.drop_suffix _ _) (.inl rfl)
theorem eD {env:Ev} {r:BS} {q:BS×BS} (h:cH env r=some q):q.2.length<=r.length:=nT h fun _ h _=>h.length_le
theorem mn {r:BS} {q:BS×BS} (h:gu r=some q):q.2<:+r/\q.1.length+q.2.length<=r.length:=by
 unfold gu at h;refine dR h (fun _ h=>?_) fun _ h=>ot h;cases h;refine⟨(iI _).trans (List.dropWhile_suffix _),?_⟩;have:=congrArg List.length (List.takeWhile_append_dropWhile (p:=fun x:UInt8=>x !=39) (l:=r));rw [Tf] at this;show(r.takeWhile _).length+(List.tail _).length<=_;rw [List.length_tail];exact LX this
theorem qr {r:BS} {q:BS×BS} (h:gu r=some q):q.2.length<=r.length:=(mn h).1.length_le
theorem Bx {env:Ev} {f:BS} {c:UInt8} {r f' r':BS} {G:Prop} (h:dX env f (c::r)= .ok f' r') (k1:f=f'->r=r'->G) (k2:dX env (f++(cp r).1) (cp r).2= .ok f' r'->G)
 (k3:∀q,cH env r=some q->dX env (f++q.1) q.2= .ok f' r'->G) (k4:dX env (f++[c]) r= .ok f' r'->G):G:=by
 rw [lP] at h;refine dR h (fun _ h=>by cases h;exact k1 rfl rfl) fun _ h=>dR h (fun _ h=>dR h (fun _ h=>?_) fun _ h=>?_) fun _ h=>dR h (fun _ h=>?_) fun _ h=>k4 h
 ·cases h
 ·rw [dif_pos (eE r)] at h;exact k2 h
 ·cases hq:cH env r with
  |none=>rw [hq] at h;cases h
  |some q=>rw [hq] at h;exact k3 q hq ((dif_pos (eD hq)).symm.trans h)
theorem qO {env:Ev} {f' r':BS} (P:BS->BS->Prop) (h0:∀c,P f' (c::r')) (h1:∀f c r f2 r2,r2.length<=r.length->(f2=f++(cp r).1/\r2=(cp r).2\/(∃q,cH env r=some q/\f2=f++q.1/\r2=q.2)\/f2=f++[c]/\r2=r)->P f2 r2->P f (c::r)) (r f:BS) (h:dX env f r= .ok f' r'):P f r:=by
 generalize hn:r.length=n;induction n using Nat.strongRecOn generalizing r f with
 |ind n ih=>
  cases r with
  |nil=>rw [rS] at h;cases h
  |cons c r=>
   subst hn;refine Bx h (fun e1 e2=>?_) (fun h=>?_) (fun q hq h=>?_) fun h=>?_
   ·rw [e1,e2];exact h0 c
   ·exact h1 _ _ _ _ _ (eE r) (.inl ⟨rfl,rfl⟩) (ih _ (TD (eE r)) _ _ h rfl)
   ·exact h1 _ _ _ _ _ (eD hq) (.inr (.inl ⟨q,hq,rfl,rfl⟩)) (ih _ (TD (eD hq)) _ _ h rfl)
   ·exact h1 _ _ _ _ _ (Tj _) (.inr (.inr ⟨rfl,rfl⟩)) (ih _ (Ts _) _ _ h rfl)
theorem qN (env:Ev) {r f f' r':BS} (h:dX env f r= .ok f' r'):r'.length<=r.length:=
 qO (fun _ r=>r'.length<=r.length) (fun _=>Nat.le_succ _) (fun _ _ _ _ _ h _ q=>Nat.le_succ_of_le (TO q h)) r f h
section
theorem sH:Slot "list" "append" "list.append":=by refine Slot.of (owner:="list") (n:="append") ?_ (by decide+kernel) (by decide+kernel) (by decide+kernel) (by first|exact .inl (by decide+kernel)|exact .inr (by decide+kernel)) (by rw [isSubtype_type];kernel_rfl);rw [T5,Tq];kernel_rfl
theorem zf:Slot "list" "pop" "list.pop":=by refine Slot.of (owner:="list") (n:="pop") ?_ (by decide+kernel) (by decide+kernel) (by decide+kernel) (by first|exact .inl (by decide+kernel)|exact .inr (by decide+kernel)) (by rw [isSubtype_type];kernel_rfl);rw [T5,Tq];kernel_rfl
theorem sG:Slot "dict" "get" "dict.get":=by refine Slot.of (owner:="dict") (n:="get") ?_ (by decide+kernel) (by decide+kernel) (by decide+kernel) (by first|exact .inl (by decide+kernel)|exact .inr (by decide+kernel)) (by rw [isSubtype_type];kernel_rfl);rw [T5,Tq];kernel_rfl
theorem uI:Slot "bytearray" "append" "bytearray.append":=by refine Slot.of (owner:="bytearray") (n:="append") ?_ (by decide+kernel) (by decide+kernel) (by decide+kernel) (by first|exact .inl (by decide+kernel)|exact .inr (by decide+kernel)) (by rw [isSubtype_type];kernel_rfl);rw [T5,Tq];kernel_rfl
theorem uH:Slot "bytearray" "extend" "bytearray.extend":=by refine Slot.of (owner:="bytearray") (n:="extend") ?_ (by decide+kernel) (by decide+kernel) (by decide+kernel) (by first|exact .inl (by decide+kernel)|exact .inr (by decide+kernel)) (by rw [isSubtype_type];kernel_rfl);rw [T5,Tq];kernel_rfl
theorem yf:Slot "bytes" "find" "bytes.find":=by refine Slot.of (owner:="bytes") (n:="find") ?_ (by decide+kernel) (by decide+kernel) (by decide+kernel) (by first|exact .inl (by decide+kernel)|exact .inr (by decide+kernel)) (by rw [isSubtype_type];kernel_rfl);rw [T5,Tq];kernel_rfl
theorem ye:Slot "bytes" "join" "bytes.join":=by refine Slot.of (owner:="bytes") (n:="join") ?_ (by decide+kernel) (by decide+kernel) (by decide+kernel) (by first|exact .inl (by decide+kernel)|exact .inr (by decide+kernel)) (by rw [isSubtype_type];kernel_rfl);rw [T5,Tq];kernel_rfl
theorem qv:PlainAttrs "list":=⟨(aj ("list.__getattribute__") (by rw [T5,Tq];kernel_rfl) (by decide+kernel)),by rw [T5,Tq];kernel_rfl⟩
theorem qw:PlainAttrs "dict":=⟨(aj ("dict.__getattribute__") (by rw [T5,Tq];kernel_rfl) (by decide+kernel)),by rw [T5,Tq];kernel_rfl⟩
theorem n7:PlainAttrs "bytes":=⟨(aj ("bytes.__getattribute__") (by rw [T5,Tq];kernel_rfl) (by decide+kernel)),by rw [T5,Tq];kernel_rfl⟩
theorem qx:PlainAttrs "bytearray":=⟨(aj ("bytearray.__getattribute__") (by rw [T5,Tq];kernel_rfl) (by decide+kernel)),by rw [T5,Tq];kernel_rfl⟩
theorem sB:typeOf (.builtin "list.append")=pure (.type "method_descriptor"):=by(show builtinType _=_;rw [builtinType_eq_fast];kernel_rfl)
theorem zc:typeOf (.builtin "list.pop")=pure (.type "method_descriptor"):=by(show builtinType _=_;rw [builtinType_eq_fast];kernel_rfl)
theorem sA:typeOf (.builtin "dict.get")=pure (.type "method_descriptor"):=by(show builtinType _=_;rw [builtinType_eq_fast];kernel_rfl)
theorem uA:typeOf (.builtin "bytearray.append")=pure (.type "method_descriptor"):=by(show builtinType _=_;rw [builtinType_eq_fast];kernel_rfl)
theorem uz:typeOf (.builtin "bytearray.extend")=pure (.type "method_descriptor"):=by(show builtinType _=_;rw [builtinType_eq_fast];kernel_rfl)
theorem ya:typeOf (.builtin "bytes.find")=pure (.type "method_descriptor"):=by(show builtinType _=_;rw [builtinType_eq_fast];kernel_rfl)
theorem x_:typeOf (.builtin "bytes.join")=pure (.type "method_descriptor"):=by(show builtinType _=_;rw [builtinType_eq_fast];kernel_rfl)
end
section
variable {F:aY} {Φ:Fx F} {g:GH} {vs:LV} {an:LD} {E:ET}
theorem dC {a:Addr} {xs:List AV} {Q:QT (AV×List AV)} (hm:bM g an (a,.list xs)) (h:Q (.builtin "list.append",[.ref a]) g vs an):ee Φ g vs an (.ref a) "append" Q E:=gn qv sH sB (qX hm) h
theorem sh {a:Addr} {xs:List AV} {Q:QT (AV×List AV)} (hm:bM g an (a,.list xs)) (h:Q (.builtin "list.pop",[.ref a]) g vs an):ee Φ g vs an (.ref a) "pop" Q E:=gn qv zf zc (qX hm) h
theorem ui {a:Addr} {ks} {Q:QT (AV×List AV)} (hm:bM g an (a,.dictI ks)) (h:Q (.builtin "dict.get",[.ref a]) g vs an):ee Φ g vs an (.ref a) "get" Q E:=gn qw sG sA (qY hm (.inr (.inl ⟨_,rfl⟩))) h
theorem kz {a:Addr} {ks} {Q:QT (AV×List AV)} (hm:bM g an (a,.dictB ks)) (h:Q (.builtin "dict.get",[.ref a]) g vs an):ee Φ g vs an (.ref a) "get" Q E:=gn qw sG sA (qY hm (.inr (.inr ⟨_,rfl⟩))) h
theorem gt {a:Addr} {xs} {Q:QT (AV×List AV)} (hm:bM g an (a,.barr xs)) (h:Q (.builtin "bytearray.append",[.ref a]) g vs an):ee Φ g vs an (.ref a) "append" Q E:=gn qx uI uA (qZ hm) h
theorem gq {a:Addr} {xs} {Q:QT (AV×List AV)} (hm:bM g an (a,.barr xs)) (h:Q (.builtin "bytearray.extend",[.ref a]) g vs an):ee Φ g vs an (.ref a) "extend" Q E:=gn qx uH uz (qZ hm) h
theorem uj {l:List UInt8} {Q:QT (AV×List AV)} (h:Q (.builtin "bytes.find",[.bytes l]) g vs an):ee Φ g vs an (.bytes l) "find" Q E:=gn n7 yf ya pA h
theorem uh {l:List UInt8} {Q:QT (AV×List AV)} (h:Q (.builtin "bytes.join",[.bytes l]) g vs an):ee Φ g vs an (.bytes l) "join" Q E:=gn n7 ye x_ pA h
theorem uu {a:Addr} {ks:List (Int×AV)} {k:Int} {d:AV} {Q:QT AV} (ha:bM g an (a,.dictI ks)) (h:Q ((eM ks k).getD d) g vs an):bG Φ g vs an (.builtin "dict.get") [.ref a,.int k,d] Q E:=
 uw (knd:=intKind PG Φ.w) (av:=.int) (fun k v r=>by(refine ax (r) fun t j'=>?_;subst j');exact beq_self_eq_true _) ha (fun _ x=>x) h
theorem kE {a:Addr} {ks:List (List UInt8×AV)} {k:List UInt8} {d:AV} {Q:QT AV} (ha:bM g an (a,.dictB ks)) (h:Q ((eM ks k).getD d) g vs an):bG Φ g vs an (.builtin "dict.get") [.ref a,.bytes k,d] Q E:=
 uw (knd:=jf PG Φ.w) (av:=.bytes) (fun k v r=>by(refine ax (r) fun t j'=>?_;subst j');exact beq_self_eq_true _) ha (fun _ x=>x) h
end
theorem d9:Gl "len" (.builtin "len"):=⟨fun w=>.inr (fF rfl (by decide) _ (by boot_by_name) rfl),by decide+kernel⟩
theorem jB:Gl "int" (.type "int"):=⟨fun w=>.inr (fF rfl (by decide) _ (by boot_by_name) rfl),by decide+kernel⟩
theorem d_:Gl "bytes" (.type "bytes"):=⟨fun w=>.inr (fF rfl (by decide) _ (by boot_by_name) rfl),by decide+kernel⟩
theorem kh:Gl "bytearray" (.type "bytearray"):=⟨fun w=>.inr (fF rfl (by decide) _ (by boot_by_name) rfl),by decide+kernel⟩
theorem oH:Gl "range" (.type "range"):=⟨fun w=>.inr (fF rfl (by decide) _ (by boot_by_name) rfl),by decide+kernel⟩
theorem oI:Gl "enumerate" (.type "enumerate"):=⟨fun w=>.inr (fF rfl (by decide) _ (by boot_by_name) rfl),by decide+kernel⟩
theorem fW:Gl "isinstance" (.builtin "isinstance"):=⟨fun w=>.inr (fF rfl (by decide) _ (by boot_by_name) rfl),by decide+kernel⟩
section
variable {F:aY} {Φ:Fx F} {g:GH} {vs:LV} {an:LD} {E:ET}
theorem ii {b:Bool} {Q:QT AV} (h:Q (.int (if b then 1 else 0)) g vs an):bG Φ g vs an (.type "int") [.bool b] Q E:=by
 rintro _ _ rfl ra s S;cases ra with|cons r rs=>cases rs;cases r;exact .of (call_int_bool ⟨.int (if b then 1 else 0),g,vs,an,S,⟨_,rfl⟩,h⟩)
theorem vX {i:Int} {Q:QT AV} (h:Q (.int i) g vs an):bG Φ g vs an (.type "int") [.int i] Q E:=by
 rintro _ _ rfl ra s S;cases ra with|cons r rs=>cases rs;(refine ax (r) fun t j'=>?_;subst j');exact .of (call_int_int ⟨.int i,g,vs,an,S,⟨_,rfl⟩,h⟩)
end
inductive aT {α:Type}:α->List α->List α->Prop
 |head {a l}:aT a (a::l) l
 |tail {a b l l'}:aT a l l'->aT a (b::l) (b::l')
theorem aT.perm {α:Type} {a:α} {l l':List α} (h:aT a l l'):l.Perm (a::l'):=by
 induction h with
 |head=>exact .refl _
 |tail _ ih=>exact(List.Perm.cons _ ih).trans (.swap _ _ _)
theorem cE {α:Type} {a:α} {l m m':List α} (h:aT a m m') (p:l.Perm m'):(a::l).Perm m:=(List.Perm.cons a p).trans h.perm.symm
noncomputable def ip:Expr->Bool| .Call _ (_::_) [] _=>true| .Call ..=>false|_=>true
theorem jq {o x env m} (h:ip o=true):attributeBase o x env m=m:=by
 cases o with
 |Call f as ks p=>
  cases as with
  |nil=>exact Bool.noConfusion h
  |cons a as=>
   cases ks with
   |nil=>cases f<;>rfl
   |cons k ks=>exact Bool.noConfusion h
 |_=>rfl
theorem te {o x Jn args pos env} (hb:ip o=true) (hn:noStar args=true) (hl:args.length<30) (hp:(Jn.endLine==pos.line)=true):
 eval (.Call (.Attribute o x Jn) args [] pos) env=(do
  let ov ←eval o env
  standAt Jn.atName
  let (f,first) ←holding [ov] (getMethod ov x (do return (←importBound o env).getD true))
  callWith pos f first (backTo pos (starEach args env)) []):=by
 have hf:methodCallForm (args.length+([]:List Keyword).length) (backTo pos (starEach args env)) (backToKw pos (keywordEach [] env))=true:=by
  unfold methodCallForm;rw [e6 hn];simp [backToKw,arm_keywordEach_nil,hl]
 rw [arm_eval_Call,jq hb];unfold methodCall;rw [hf];have e1:methodCallPos true o env Jn pos=pure pos:=by unfold methodCallPos;rw [hp];rfl
 rw [e1];rfl
section
variable {F:aY} {Φ:Fx F} {g:GH} {vs:LV} {an:LD} {E:ET}
theorem pE {o x Jn args pos} {Q:QT AV} (hb:ip o=true) (hn:noStar args=true) (hl:args.length<30) (hp:(Jn.endLine==pos.line)=true)
 (h:TV Φ g vs an (eval o Φ.env) (Bg Φ x args pos Q E) E):TV Φ g vs an (eval (.Call (.Attribute o x Jn) args [] pos) Φ.env) Q E:=
 mM (he:=te hb hn hl hp) (hplain:=e6 hn) h
theorem gm {value:Expr} {x:Str} {pos:Pos} {Q:QT AV} (hb:ip value=true) (h:TV Φ g vs an (eval value Φ.env) (rH Φ x Q E) E):TV Φ g vs an (eval (.Attribute value x pos) Φ.env) Q E:=by
 intro s S;rw [arm_eval_Attribute,jq hb];exact bC (h.use S fun _ _ _ _ _ _ S1 r1 q1=>q1 _ r1 _ S1) fun o _ h1=>bo (cI h1 fun r _ h2=>be (.of (wpAny_letTemporaryGo (aG h2))))
theorem bG.turn {f as} {Q:QT AV} {led':LD} (hp:an.Perm led') (h:bG Φ g vs led' f as Q E):bG Φ g vs an f as Q E:=fun vf K9 a b=>(h vf K9 a b).turn hp
theorem yX {f:Addr} {as:List AV} {n:Nat} {own a':LD} {Qc:AV->GH->LD->Prop} {Ec:AV->Prop} {Q:QT AV} (C:∀K9,aA as K9->cz Φ.w Φ.H₀ g own (.call (.ref f) ⟨K9,[]⟩) n true Qc Ec) (hn:n<=Φ.room) (hp:an.Perm (own++a'))
 (hq:∀v g' own',Qc v g' own'->(∀p,g p->g' p)->Q v g' vs (own'++a')) (hx:∀or,Ec or->E or g vs):bG Φ g vs an (.ref f) as Q E:=
 .turn hp (jg C hn (fun _=>rfl) (.inl rfl) hq hx)
theorem a_ {f:Addr} {as:List AV} {n:Nat} {own a':LD} {Qc:AV->GH->LD->Prop} {Ec:AV->Prop} {Q:QT AV} (C:∀K9,aA as K9->cz Φ.w Φ.H₀ g own (.call (.ref f) ⟨K9,[]⟩) n true Qc Ec) (hn:n<=Φ.room) (hp:an.Perm (own++a'))
 (hx:∀or,Ec or->E or g vs) (hq:∀v g' own',Qc v g' own'->(∀p,g p->g' p)->∀led',own'++a'=led'->Q v g' vs led'):bG Φ g vs an (.ref f) as Q E:=
 yX C hn hp (fun v g' own' a b=>hq v g' own' a b _ rfl) hx
theorem jY {a:Int} {Q:QT AV} (h:Q (.int (-a)) g vs an):Cq Φ g vs an .USub (.int a) Q E:=by
 (intro _ j' s S;refine ax (j') fun t th=>?_;subst th);exact .of (PyProof.Rows.neg_int ⟨.int _,g,vs,an,S,⟨_,rfl⟩,h⟩)
theorem ky {a b:Int} {Q:QT AV} (hb:b≠0) (hs:b.natAbs<1073741824) (h:Q (.int (a.fdiv b)) g vs an):jW Φ g vs an .FloorDiv (.int a) (.int b) Q E:=by
 (intro _ _ j' th s S;refine ax (j') fun t to=>?_;subst to;refine ax (th) fun u Ce=>?_;subst Ce);exact .of (PyProof.Rows.floordiv_int hb (hp:=.inl (PyProof.noPylong_small hs)) ⟨.int (a.fdiv b),g,vs,an,S,⟨_,rfl⟩,h⟩)
theorem yP {ns:List Int} {cs:List Value} (h:aA (ns.map .int) cs):IntsAre cs ns:=by
 induction ns generalizing cs with
 |nil=>cases h;exact .nil
 |cons n ns ih=>
  cases h with
  |cons h1 h2=>refine ax h1 fun t e=>?_;subst e;exact .cons n t (ih h2)
theorem ug {a:Addr} {ns:List Int} {x:Int} {Q:QT AV} (ha:bM g an (a,.tuple (ns.map .int))) (h:Q (.bool (ns.any (·==x))) g vs an):d0 Φ g vs an .In (.int x) (.ref a) Q E:=by
 (intro _ _ j' th s S;refine ax (j') fun u to=>?_;subst to;subst th);obtain⟨cs,n,sl,e,r⟩:=ha.at S.1;exact .of (PyProof.Rows.in_tuple_ints (items:=cs) (fh _ e rfl n rfl) (yP r) ⟨.bool _,g,vs,an,S,rfl,h⟩)
noncomputable abbrev Bk (Q:QT AV):QT AV:=fun o g vs an=>∃a xs,o= .ref a/\bM g an (a,.list xs)/\Q (.bool (decide (xs=[]))) g vs an
noncomputable abbrev yv (Q:QT Bool):QT AV:=fun o g vs an=>∃a xs,o= .ref a/\bM g an (a,.list xs)/\Q (decide (xs=[])) g vs an
noncomputable abbrev yu (Q:QT Bool):QT AV:=fun o g vs an=>∃a xs,o= .ref a/\bM g an (a,.list xs)/\Q (decide (xs≠[])) g vs an
theorem yS {l p pos} {Q:QT AV} (h:TV Φ g vs an (eval l Φ.env) (Bk Q) E):TV Φ g vs an (eval (.Compare l [.Eq] [.List [] p] pos) Φ.env) Q E:=
 TG.postless (iC (hm:=rfl) (h.mono (fun o g vs an zp31=>cX zp31 fun a xs e hh q=>by
  subst e;refine bL (af ⟨by exact Tn _,fun b hb=>?_⟩);exact q_ (hh.elim (fun h=>.inl (TN _ h)) .inr) (.inl (To _ (SZ ..))) Φ.units (aj an (List.sublist_append_left ..) q)) fun _ _ _ z=>z))
theorem gb {l p pos u'} {Q:QT Bool} (h:TV Φ g vs an (eval l Φ.env) (yv Q) E):TB Φ g vs an (isTrue (.Compare l [.Eq] [.List [] p] pos) Φ.env u') Q E:=
 TG.postless (aK (hm:=rfl) (h.mono (fun o g vs an zp93=>cX zp93 fun a xs e hh q=>by
  subst e;refine bL (af ⟨by exact Tn _,fun b hb=>?_⟩);exact q_ (hh.elim (fun h=>.inl (TN _ h)) .inr) (.inl (To _ (SZ ..))) Φ.units (aF (aj an (List.sublist_append_left ..) q))) fun _ _ _ z=>z))
theorem eI {l p pos u'} {Q:QT Bool} (h:TV Φ g vs an (eval l Φ.env) (yu Q) E):TB Φ g vs an (isTrue (.Compare l [.NotEq] [.List [] p] pos) Φ.env u') Q E:=
 TG.postless (aK (hm:=rfl) (h.mono (fun o g vs an zp69=>cX zp69 fun a xs e hh q=>by
  subst e;refine bL (af ⟨by exact Tn _,fun b hb=>?_⟩);exact y1 (hh.elim (fun h=>.inl (TN _ h)) .inr) (.inl (To _ (SZ ..))) Φ.units (aF (aj an (List.sublist_append_left ..) q))) fun _ _ _ z=>z))
theorem jp {a:Addr} {xs:List AV} {P:List AV->Prop} (hm:(a,AO.list xs)∈an) (q:P xs):∃b ys,AV.ref a= .ref b/\bM g an (b,.list ys)/\P ys:=(cf a xs rfl (.inl hm) q)
theorem Qd {l p pos} {Q:QT AV} (h:TV Φ g vs an (eval (.Compare l [.Eq] [.List [] p] pos) Φ.env) Q E):TV Φ g vs an (eval (.Compare l [.Eq] [.List [] p] pos) Φ.env) Q E:=h
theorem Pj {l p pos u'} {Q:QT Bool} (h:TB Φ g vs an (isTrue (.Compare l [.Eq] [.List [] p] pos) Φ.env u') Q E):TB Φ g vs an (isTrue (.Compare l [.Eq] [.List [] p] pos) Φ.env u') Q E:=h
theorem Pi {l p pos u'} {Q:QT Bool} (h:TB Φ g vs an (isTrue (.Compare l [.NotEq] [.List [] p] pos) Φ.env u') Q E):TB Φ g vs an (isTrue (.Compare l [.NotEq] [.List [] p] pos) Φ.env u') Q E:=h
theorem ur {a dx:Addr} {fs:List (Str×AV)} {Q:QT AV} (hm:bM g an (a,.inst 86 dx fs)) (h:Q (.bool true) g vs an):bG Φ g vs an (.builtin "isinstance") [.ref a,.ref 86] Q E:=by
 rintro _ _ rfl ra s S;cases ra with
 |cons r1 ra=>
 cases ra with
 |cons r2 ra=>
 cases ra;cases r1;cases r2;refine eS (At.inst_at (hm.at S.1)) fun ox es n sl El=>a0 El fun I _=>?_;exact .of (isi_call (K:=hd.heap_1 Φ.w.params) S.X (fun M=>I.type) rfl (by intro e;cases e) ⟨.bool true,g,vs,an,S,rfl,h⟩)
theorem ut {l:List UInt8} {Q:QT AV} (h:Q (.bool false) g vs an):bG Φ g vs an (.builtin "isinstance") [.bytes l,.ref 86] Q E:=by
 rintro _ _ rfl ra s S;cases ra with
 |cons r1 ra=>
 cases ra with
 |cons r2 ra=>
 cases ra;cases r2;(refine ax (r1) fun t j'=>?_;subst j');exact .of (kia_one (K:=hd.heap_1 Φ.w.params) (b:=false) kitx_bytes S.X trivial (by rfl) (by intro e;cases e) fun tk=>⟨.bool false,g,vs,an,S,rfl,h⟩)
end
inductive Tr where
 |w (b:BS)
 |l (xs:List Tr)
inductive Nd where
 |w (b:BS)
 |blk (cs:List Nd)
 |cmd (n:Nat) (ws:List Nd)
theorem Nd.ind {P:Nd->Prop} (n:Nd) (hw:∀b,P (.w b)) (hb:∀cs,(∀c∈cs,P c)->P (.blk cs)) (hc:∀n ws,(∀w∈ws,P w)->P (.cmd n ws)):P n:=
 Nd.rec (motive_1:=P) (motive_2:=fun l=>∀c∈l,P c) hw hb hc (fun c h=>absurd h List.not_mem_nil) (fun x l hx hl c h=>(T4.mp h).elim (fun e=>e▸hx) (hl c)) n
noncomputable def Nd.num:Nd->Nat
 | .cmd n _=>n
 |_=>0
noncomputable def grp:List (Nat×Tr)->List (List Tr)
 |[]=>[]
 |(n,t)::r=>match r with
   |[]=>[[t]]
   |(m,_)::_=>if m=n then(match grp r with|[]=>[[t]]|x::xs=>(t::x)::xs) else [t]::grp r
mutual
noncomputable def wT:Nd->Tr
 | .w b=>.w b
 | .blk cs=>.l ((grp (dE cs)).map .l)
 | .cmd _ ws=>.l (dO ws)
noncomputable def dO:List Nd->List Tr
 |[]=>[]
 |w::r=>wT w::dO r
noncomputable def dE:List Nd->List (Nat×Tr)
 |[]=>[]
 |c::r=>(c.num,wT c)::dE r
end
theorem iZ (a:List Nd):dO a=a.map wT:=by
 induction a with
 |nil=>rfl
 |cons x a ih=>exact congrArg (wT x::·) ih
theorem iO (a:List Nd):dE a=a.map fun c=>(c.num,wT c):=by
 induction a with
 |nil=>rfl
 |cons x a ih=>exact congrArg ((x.num,wT x)::·) ih
noncomputable def dh (cs:List Nd):List Tr:=(grp (dE cs)).map .l
inductive WF:Bool->Nd->Prop
 |w (b):WF false (.w b)
 |blk (cs):(∀c∈cs,WF true c)->WF false (.blk cs)
 |cmd (n b ws):(∀w∈ws,WF false w)->WF true (.cmd n (.w b::ws))
inductive BT where
 |ok (rows:List Tr) (r:BS)|err (k:Nat)|bad
noncomputable def dg (group command:List Tr):List Tr:=if command.isEmpty=true then group else group++[.l command]
noncomputable def t9 (env:Ev):(l:BS)->(∀y:BS,y.length<l.length->Option Nat->List Tr->List Tr->List Tr->BT)->Option Nat->List Tr->List Tr->List Tr->BT
 |[],_,Fw,gs,g,c=>match Fw with
  |some k=>.err k
  |none=>.ok (dg gs (dg g c)) []
 |a::r,ih,Fw,gs,g,c=>
  if a.toNat=35 then ih (r.dropWhile (·!=10)) (TD (List.dropWhile_suffix _).length_le) Fw gs g c
  else if a.toNat=125 then match Fw with
   |none=>.err (r.length+1)
   |some _=>.ok (dg gs (dg g c)) r
  else if a.toNat=10 then ih r (Ts _) Fw (dg gs (dg g c)) [] []
  else if a.toNat=59 then ih r (Ts _) Fw gs (dg g c) []
  else if a.toNat=32 then ih r (Ts _) Fw gs g c
  else if a.toNat=92/\dy 10 r=true then ih r.tail (TD (List.tail_sublist r).length_le) Fw gs g c
  else if a.toNat=123 then(if c.isEmpty=true then .err (r.length+1) else match ih r (Ts _) (some (r.length+1)) [] [] [] with
   | .err k=>.err k
   | .bad=>.bad
   | .ok rows r'=>if h:r'.length<=r.length then ih r' (TD h) Fw gs g (c++[.l rows]) else .bad)
  else match bO env true true [] (a::r) with
   | .err k=>.err k
   | .ok f _ r'=>if h:r'.length<=r.length then ih r' (TD h) Fw gs g (c++[.w f]) else .bad
noncomputable def cO (env:Ev) (Fw:Option Nat) (gs g c:List Tr) (l:BS):BT:=WellFounded.fix (measure List.length).wf (t9 env) l Fw gs g c
theorem nj (env:Ev) (Fw:Option Nat) (gs g c:List Tr) (l:BS):cO env Fw gs g c l=t9 env l (fun y _ b gs g c=>cO env b gs g c y) Fw gs g c:=
 congrFun (congrFun (congrFun (congrFun (WellFounded.fix_eq ..) Fw) gs) g) c
structure Le where
 cs:List Nd
 cmd:Option (List Nd)
 grp:Nat
inductive NT where
 |ok (cs:List Nd)|err (k:Nat)|bad
noncomputable def Le.done (l:Le):List Nd:=match l.cmd with|none=>l.cs|some ws=>l.cs++[.cmd l.grp ws]
noncomputable def Le.add (l:Le) (w:Nd):Le:=match l.cmd with|none=>{l with cmd:=some [w]}|some ws=>{l with cmd:=some (ws++[w])}
noncomputable abbrev jb:List BS:=[[37,105,102],[37,101,108,105,102],[37,101,108,115,101],[37,101,110,100,105,102]]
noncomputable def v4 (env:Ev):(l:BS)->(∀y:BS,y.length<l.length->List (Le×Nat)->Le->Nat->NT)->List (Le×Nat)->Le->Nat->NT
 |[],_,st,l,_=>match st with
  |[]=>.ok l.done
  |(_,k)::_=>.err k
 |c::r,ih,st,l,lg=>
  if c.toNat=123 then match l.cmd with
   |none=>.err (r.length+1)
   |some _=>ih r (Ts _) ((l,r.length+1)::st) ⟨[],none,lg+1⟩ (lg+1)
  else if c.toNat=125 then match st with
   |[]=>.err (r.length+1)
   |(l',_)::st'=>ih r (Ts _) st' (l'.add (.blk l.done)) lg
  else if c.toNat=35 then ih (r.dropWhile (·!=10)) (TD (List.dropWhile_suffix _).length_le) st l lg
  else if c.toNat=92/\dy 10 r=true then ih r.tail (TD (List.tail_sublist r).length_le) st l lg
  else if c.toNat=10 then ih r (Ts _) st ⟨l.done,none,lg+1⟩ (lg+1)
  else if c.toNat=59 then ih r (Ts _) st ⟨l.done,none,l.grp⟩ lg
  else if c.toNat=32 then ih r (Ts _) st l lg
  else match bO env true true [] (c::r) with
   | .err k=>.err k
   | .ok f b r'=>if b=true/\f∈jb then .bad else if h:r'.length<=r.length then ih r' (TD h) st (l.add (.w f)) lg else .bad
noncomputable def aM (env:Ev) (st:List (Le×Nat)) (l:Le) (lg:Nat) (r:BS):NT:=WellFounded.fix (measure List.length).wf (v4 env) r st l lg
theorem n0 (env:Ev) (st:List (Le×Nat)) (l:Le) (lg:Nat) (r:BS):aM env st l lg r=v4 env r (fun y _ st l lg=>aM env st l lg y) st l lg:=
 congrFun (congrFun (congrFun (WellFounded.fix_eq ..) st) l) lg
noncomputable def sO:BS:=[45,95,46,47,58,44,61,43,64,37,94,42,63,60,62,33,124,38,91,93,40,41,126]
noncomputable def dW (c:UInt8):Bool:=gA false c.toNat||sO.contains c
noncomputable def gF (b:BS):Bool:=match b with
 |[]=>false
 |c::r=>!(c.toNat==37||c.toNat==126)&&(c::r).all dW
noncomputable def ej (c:UInt8):BS:=
 if c.toNat=34\/c.toNat=36\/c.toNat=92 then [92,c]
 else if c.toNat<32\/c.toNat=127 then [92,(48+c.toNat/64).toUInt8,(48+c.toNat/8%8).toUInt8,(48+c.toNat%8).toUInt8]
 else [c]
noncomputable def eO (b:BS):BS:=if gF b=true then b else 34::b.flatMap ej++[34]
noncomputable def fk (Mm:BS):List BS->BS
 |[]=>[]
 |[x]=>x
 |x::y::r=>x++Mm++fk Mm (y::r)
mutual
noncomputable def bH:Nd->BS
 | .w b=>eO b
 | .blk cs=>[123,32]++cg none cs++[32,125]
 | .cmd _ ws=>fk [32] (ir ws)
noncomputable def ir:List Nd->List BS
 |[]=>[]
 |w::r=>bH w::ir r
noncomputable def cg (prev:Option Nat):List Nd->BS
 |[]=>[]
 |c::r=>(match prev with|none=>[]|some p=>if c.num=p then [32,59,32] else [10])++bH c++cg (some c.num) r
end
inductive dK (g:GH):AV->Tr->Prop
 |w (b):dK g (.bytes b) (.w b)
 |l (a vs ts):g (a,.list vs)->vs.length=ts.length->(∀(i:Nat) v t,vs[i]? =some v->ts[i]? =some t->dK g v t)->dK g (.ref a) (.l ts)
noncomputable def cG (g:GH) (vs:List AV) (ts:List Tr):Prop:=vs.length=ts.length/\∀(i:Nat) v t,vs[i]? =some v->ts[i]? =some t->dK g v t
theorem dK.mono {g g':GH} (k:∀p,g p->g' p) {v:AV} {t:Tr} (h:dK g v t):dK g' v t:=by
 induction h with
 |w b=>exact .w b
 |l a vs ts h1 h2 h3 ih=>exact .l a vs ts (k _ h1) h2 ih
theorem cG.mono {g g':GH} (k:∀p,g p->g' p) {vs:List AV} {ts:List Tr} (h:cG g vs ts):cG g' vs ts:=⟨h.1,fun i v t a b=>(h.2 i v t a b).mono k⟩
theorem cG.nil {g:GH}:cG g [] []:=⟨rfl,fun i v t a=>by trivial⟩
theorem nZ {α β:Type} {R:α->β->Prop} {vs:List α} {ts:List β} {v:α} {t:β} (hl:vs.length=ts.length) (h:∀(i:Nat) v t,vs[i]? =some v->ts[i]? =some t->R v t) (r:R v t):
 ∀(i:Nat) v' t',(vs++[v])[i]? =some v'->(ts++[t])[i]? =some t'->R v' t':=by
 intro i v' t' a b;rw [List.getElem?_append] at a b
 split at a
 ·rw [Tk (zK hl ‹_›)] at b;exact h i v' t' a b
 ·rw [Tc (Ks hl ‹_›)] at b;have hi:i-vs.length=0:=by
   rcases Nat.eq_zero_or_pos (i-vs.length) with q|q
   ·exact q
   ·rw [List.getElem?_eq_none (by dsimp;exact Kr q)] at a;cases a
  rw [hi] at a;rw [←hl,hi] at b;cases a;cases b;exact r
theorem cG.snoc {g:GH} {vs:List AV} {ts:List Tr} {v:AV} {t:Tr} (h:cG g vs ts) (r:dK g v t):cG g (vs++[v]) (ts++[t]):=
 ⟨by rw [Tf,Tf,h.1];rfl,nZ h.1 h.2 r⟩
theorem dK.li {g:GH} {a:Addr} {vs:List AV} {ts:List Tr} (h:g (a,.list vs)) (r:cG g vs ts):dK g (.ref a) (.l ts):=.l a vs ts h r.1 r.2
theorem dK.inv {g:GH} {v:AV} {ts:List Tr} (h:dK g v (.l ts)):∃a vs,v= .ref a/\g (a,.list vs)/\cG g vs ts:=by
 cases h with
 |l a vs ts h1 h2 h3=>exact(bu a vs rfl h1 h2 h3)
inductive ie (g:GH):AV->Nd->Prop
 |w (b):ie g (.bytes b) (.w b)
 |blk (k dx l vs cs):g (k,.inst 86 dx [("commands",.ref l)])->g (l,.list vs)->vs.length=cs.length->(∀(i:Nat) v n,vs[i]? =some v->cs[i]? =some n->ie g v n)->ie g (.ref k) (.blk cs)
 |cmd (c dx wl pl m vs ws):g (c,.inst 65 dx [("group",.int (m:Nat)),("words",.ref wl),("places",.ref pl)])->g (wl,.list vs)->vs.length=ws.length->(∀(i:Nat) v n,vs[i]? =some v->ws[i]? =some n->ie g v n)->ie g (.ref c) (.cmd m ws)
noncomputable def eJ (g:GH) (vs:List AV) (ns:List Nd):Prop:=vs.length=ns.length/\∀(i:Nat) v n,vs[i]? =some v->ns[i]? =some n->ie g v n
theorem ie.mono {g g':GH} (k:∀p,g p->g' p) {v:AV} {t:Nd} (h:ie g v t):ie g' v t:=by
 induction h with
 |w b=>exact .w b
 |blk a dx l vs cs h0 h1 h2 h3 ih=>exact .blk a dx l vs cs (k _ h0) (k _ h1) h2 ih
 |cmd c dx wl pl m vs ws h0 h1 h2 h3 ih=>exact .cmd c dx wl pl m vs ws (k _ h0) (k _ h1) h2 ih
theorem eJ.mono {g g':GH} (k:∀p,g p->g' p) {vs:List AV} {ns:List Nd} (h:eJ g vs ns):eJ g' vs ns:=⟨h.1,fun i v t a b=>(h.2 i v t a b).mono k⟩
theorem eJ.nil {g:GH}:eJ g [] []:=⟨rfl,fun i v t a=>by trivial⟩
theorem eJ.snoc {g:GH} {vs:List AV} {ns:List Nd} {v:AV} {n:Nd} (h:eJ g vs ns) (r:ie g v n):eJ g (vs++[v]) (ns++[n]):=
 ⟨by rw [Tf,Tf,h.1];rfl,nZ h.1 h.2 r⟩
theorem aT.split {α:Type} {a:α} {l l':List α} (h:aT a l l'):∃l1 l2,l=l1++a::l2/\l'=l1++l2:=by
 induction h with
 |head=>exact(cT ([]) _ rfl rfl)
 |tail _ ih=>refine eU (ih) fun l1 l2 e1 e2=>?_;exact(cT (_::l1) l2 (by rw [e1];rfl) (by rw [e2];rfl))
noncomputable abbrev mz (p:Addr×AO) (g:GH):GH:=fun q=>q=p\/g q
inductive dU:GH->LD->GH->LD->Prop
 |refl {g l}:dU g l g l
 |less {g l l' g2 l2}:l'.Sublist l->dU g l' g2 l2->dU g l g2 l2
 |turn {g l l' g2 l2}:l.Perm l'->dU g l' g2 l2->dU g l g2 l2
 |fz {g l p l' g2 l2}:p.2.slack=true->aT p l l'->dU (mz p g) l' g2 l2->dU g l g2 l2
section
variable {F:aY} {Φ:Fx F} {g:GH} {vs:LV} {an:LD} {E:ET}
theorem aZ.conv {st:Bool} {s:Shared} {g':GH} {led':LD} (h:dU g an g' led'):aZ Φ st g s vs an->aZ Φ st g' s vs led':=by
 induction h with
 |refl=>exact fun S=>S
 |less hp _ ih=>exact fun S=>ih ⟨S.1.drop (fun p hq=>hp.subset hq) (List.Nodup.sublist (ij hp) S.1.hs.nd),S.2⟩
 |turn hp _ ih=>exact fun S=>ih ⟨S.1.drop (fun p hq=>hp.mem_iff.mpr hq) ((ez hp).nodup S.1.hs.nd),S.2⟩
 |@fz g l p l' g2 l2 hs hp _ ih=>
  intro S;refine ih ?_;(refine eU (hp.split) fun l1 l2 j' th=>?_;subst j';subst th);refine⟨?_,S.2⟩;obtain⟨SC,tr,loc,nms,Ll,Lg⟩:=S.1;have hnd:=SC.nd;have e1:aD (l1++p::l2)=aD l1++(p.2.addrs p.1++aD l2):=ce ..;have e2:aD (l1++l2)=aD l1++aD l2:=ce ..;have sub:∀b∈aD (l1++l2),b∈aD (l1++p::l2):=fun b hb=>by
   rw [e2] at hb;rw [e1];rcases T3.mp hb with hb|hb
   ·exact TN _ hb
   ·exact To _ (To _ hb)
  have subp:∀b∈p.2.addrs p.1,b∈aD (l1++p::l2):=fun b hb=>by rw [e1];exact To _ (TN _ hb)
  rw [e1] at hnd;refine bp (TH.mp hnd) fun n1 n2 n3=>?_;refine bp (TH.mp n2) fun n4 n5 n6=>?_;refine⟨⟨SC.H,SC.ff,fun q hq=>SC.ledAt q ?_,fun q hq=>?_,?_,fun q hq b hb hc=>?_,fun b hb=>SC.hl b (sub b hb),fun b hb=>SC.fo b (sub b hb),fun q hq=>?_⟩,
   ⟨tr.kept,fun b hb=>tr.dom b (sub b hb),fun q hq=>?_,fun q hq=>.inr (tr.sub q hq)⟩,loc,nms,fun q=>Ll (sub _ q),fun q hq hb=>?_⟩
  ·rcases T3.mp hq with hq|hq
   ·exact TN _ hq
   ·exact To _ (Td _ hq)
  ·rcases hq with rfl|hq
   ·exact SC.ledAt _ (To _ (SZ ..))
   ·exact SC.gAt q hq
  ·rw [e2];exact TH.mpr (aN n1 n5 (fun a ha b hb=>n3 a ha b (To _ hb)))
  ·rcases hq with rfl|hq
   ·rw [e2] at hc;rcases T3.mp hc with hc|hc
    ·exact n3 b hc b (TN _ hb) rfl
    ·exact n6 b hb b hc rfl
   ·exact SC.ga q hq b hb (sub b hc)
  ·rcases hq with rfl|hq
   ·exact hs
   ·exact SC.gs q hq
  ·rcases hq with rfl|hq
   ·exact .inr fun b hb=>tr.dom b (subp b hb)
   ·exact tr.gdom q hq
  ·rcases hq with rfl|hq
   ·exact Ll (subp _ hb)
   ·exact Lg q hq hb
theorem TG.pre {α β:Type} {R:β->α->Prop} {t:Sem α} {Q:QT β} {g':GH} {led':LD} (c:dU g an g' led') (h:TG R Φ g' vs led' t Q E):TG R Φ g vs an t Q E:=fun s S=>h s (S.conv c)
theorem TG.post {α β:Type} {R:β->α->Prop} {t:Sem α} {Q:QT β} (h:TG R Φ g vs an t (fun b g vs an=>∃g' led',dU g an g' led'/\Q b g' vs led') E):TG R Φ g vs an t Q E:=
 fun s S=>h.use S fun a s1 b g1 Lu KE S1 r1 zp15=>eU zp15 fun g' led' c q=>⟨b,g',Lu,led',S1.conv c,r1,q⟩
theorem Cl {st:Stmt} {Q:QT AF} (R:GH->LV->LD->Prop) (h1:TF Φ g vs an (exec st Φ.env) (fun f g vs an=>f= .next/\∃g' led',dU g an g' led'/\R g' vs led') E) (h2:∀g vs an,R g vs an->Q .next g vs an):TF Φ g vs an (exec st Φ.env) Q E:=
 TG.post (h1.mono (by(intro _ g vs an j';refine a0 (j') fun th El=>iy El fun g' led' La=>a0 La fun c r=>?_;subst th);exact(cT g' led' c (h2 _ _ _ r))) fun _ _ _ z=>z)
end
theorem Bv {F:aY} {body:List Stmt} {params a':List Str} {F3:Nat} {SK:List AV} (FK:bE F body params F3 SK) (n:Nat) (vs:LV) {w:World} {H₀:Heap} (W:Wd w H₀)
 {g:GH} {own:LD} {as:List AV} {st:Bool} {Q:AV->GH->LD->Prop} {E:AV->Prop}
 (h:∀Φ:Fx F,Φ.w=w->Φ.H₀=H₀->Φ.g₀=g->Φ.strict=st->Φ.room=n->Φ.own=aD own->Φ.inl=false->
  TF Φ g vs own (execs body Φ.env) (fun f g' _ led'=>∃g2 l,dU g' led' g2 l/\gO Q f g2 l) (fun or _ _=>E or))
 (hnames:F.names=params++a') (hlen:as.length=F3) (hv:fV params a' (as++SK)=vs):
 ∀on,aA as on->cz w H₀ g own (.call (.ref F.f) ⟨on,[]⟩) (n+1) st Q E:=
 enter FK hnames W hlen fun Φ a b c d e f i=>by
  rw [hv];refine TG.post ((h Φ a b c d e f i).mono ?_ fun _ _ _ z=>z);(intro f g' Ab led' j';refine eU (j') fun g2 l c q=>?_);exact(cT g2 l c q)
structure QL {β:Type} (Q Q':QT β):Prop where
 le:∀b g vs an,Q b g vs an->Q' b g vs an
theorem QL.rfl' {β:Type} (Q:QT β):QL Q Q:=⟨fun _ _ _ _ h=>h⟩
theorem ql {β:Type} {Q Q':QT β} (h:QL Q Q') {b:β} {g:GH} {vs:LV} {an:LD} (q:Q b g vs an):Q' b g vs an:=h.le b g vs an q
theorem ba {F:aY} {Φ:Fx F} {a':List Stmt} {E:ET} {Q:QT AF} {v:AV} {g:GH} {vs:LV} {an:LD} (q:Q (.ret v) g vs an):rG Φ a' Q E (.ret v) g vs an:=q
theorem i8 {F:aY} {Φ:Fx F} {a':List Stmt} {E:ET} {Q:QT AF} {g:GH} {vs:LV} {an:LD} (q:Q .cont g vs an):rG Φ a' Q E .cont g vs an:=q
theorem kI {F:aY} {Φ:Fx F} {a':List Stmt} {E:ET} {Q:QT AF} {g:GH} {vs:LV} {an:LD} (q:Q .brk g vs an):rG Φ a' Q E .brk g vs an:=q
theorem aO {Q:QT AF} {v:AV} {g:GH} {vs:LV} {an:LD} (q:Q (.ret v) g vs an):Bf Q v g vs an:=q
theorem ca {Q:QT AF} {u:Unit} {g:GH} {vs:LV} {an:LD} (q:Q .next g vs an):tm Q u g vs an:=q
structure WL (I:Nat->GH->LV->LD->Prop) (n:Nat) (Q Qb:QT AF):Prop where
 nx:∀g vs an,(∃m,m<n/\I m g vs an)->Qb .next g vs an
 ct:∀g vs an,(∃m,m<n/\I m g vs an)->Qb .cont g vs an
 bk:∀g vs an,Q .next g vs an->Qb .brk g vs an
 rt:∀v g vs an,Q (.ret v) g vs an->Qb (.ret v) g vs an
section
variable {I:Nat->GH->LV->LD->Prop} {n:Nat} {Q Qb:QT AF} {g:GH} {vs:LV} {an:LD}
theorem bI (h:WL I n Q Qb) (q:∃m,m<n/\I m g vs an):Qb .next g vs an:=h.nx _ _ _ q
theorem i5 (h:WL I n Q Qb) (q:∃m,m<n/\I m g vs an):Qb .cont g vs an:=h.ct _ _ _ q
theorem kF (h:WL I n Q Qb) (q:Q .next g vs an):Qb .brk g vs an:=h.bk _ _ _ q
theorem ew (h:WL I n Q Qb) {v:AV} (q:Q (.ret v) g vs an):Qb (.ret v) g vs an:=h.rt _ _ _ _ q
end
structure LL (I:Nat->GH->LV->LD->Prop) (i:Nat) (ps:LD) (Q Qb:QT AF):Prop where
 nx:∀g vs an,(∃l,an=ps++l/\I (i+1) g vs l)->Qb .next g vs an
 ct:∀g vs an,(∃l,an=ps++l/\I (i+1) g vs l)->Qb .cont g vs an
 bk:∀g vs an,(∃l,an=ps++l/\Q .next g vs l)->Qb .brk g vs an
 rt:∀v g vs an,(∃l,an=ps++l/\Q (.ret v) g vs l)->Qb (.ret v) g vs an
section
variable {I:Nat->GH->LV->LD->Prop} {i:Nat} {ps:LD} {Q Qb:QT AF} {g:GH} {vs:LV} {an:LD}
theorem eN (h:LL I i ps Q Qb) (q:∃l,an=ps++l/\I (i+1) g vs l):Qb .next g vs an:=h.nx _ _ _ q
theorem kJ (h:LL I i ps Q Qb) (q:∃l,an=ps++l/\I (i+1) g vs l):Qb .cont g vs an:=h.ct _ _ _ q
theorem kK (h:LL I i ps Q Qb) (q:∃l,an=ps++l/\Q .next g vs l):Qb .brk g vs an:=h.bk _ _ _ q
theorem i9 (h:LL I i ps Q Qb) {v:AV} (q:∃l,an=ps++l/\Q (.ret v) g vs l):Qb (.ret v) g vs an:=h.rt _ _ _ _ q
end
section
variable {F:aY} {Φ:Fx F} {g:GH} {vs:LV} {an:LD} {E:ET}
theorem fD (hi:Φ.inl=false) {test body pos} {Q:QT AF} (I:Nat->GH->LV->LD->Prop)
 (turn:∀n (Qb:QT AF),WL I n Q Qb->∀g vs an,I n g vs an->TB Φ g vs an (isTrue test Φ.env (eval test Φ.env)) (fun b g vs an=>if b=true then TF Φ g vs an (execs body Φ.env) Qb E else Q .next g vs an) E)
 (n:Nat) (h:I n g vs an):TF Φ g vs an (exec (.While test body [] pos) Φ.env) Q E:=
 yT hi I (fun n g vs an hI=>turn n (fun f g vs an=>match f with
  | .next| .cont=>∃m,m<n/\I m g vs an
  | .brk=>Q .next g vs an
  | .ret v=>Q (.ret v) g vs an) ⟨fun _ _ _ h=>h,fun _ _ _ h=>h,fun _ _ _ h=>h,fun _ _ _ _ h=>h⟩ g vs an hI) n h
noncomputable abbrev C8 (Φ:Fx F) (body:List Stmt) (Qb:QT AF) (E:ET):QT Unit:=fun _ g vs an=>TF Φ g vs an (execs body Φ.env) Qb E
theorem iG (hi:Φ.inl=false) {x:AV} {x' body} {n:Nat} {Pp:Nat->AV} {ob:Nat->Obj->Prop} {src:GH->LD->Prop} (IT:kA Φ x n Pp ob src) {Q:QT AF} (I:Nat->GH->LV->LD->Prop) (hI:∀i g vs an,I i g vs an->src g an)
 (turn:∀i p (Qb:QT AF),LL I i [p] Q Qb->∀g vs an,i<n->I i g vs an->p.2.addrs p.1=[p.1]->lr Φ g vs (p::an) (assign x' Φ.env) (Pp i) (C8 Φ body Qb E) E)
 (h0:I 0 g vs an) (hn:∀g vs an,I n g vs an->Q .next g vs an) (ht:∀it v,letOwnedTupleGo x' it v=pure ()):ma Φ g vs an x x' body Q E:=
 Ci hi IT I hI (fun i g vs an p h1 h2 h3=>turn i p (fun f g vs an=>match f with
  | .next| .cont=>∃l,an=p::l/\I (i+1) g vs l
  | .brk=>∃l,an=p::l/\Q .next g vs l
  | .ret v=>∃l,an=p::l/\Q (.ret v) g vs l) ⟨fun _ _ _ h=>h,fun _ _ _ h=>h,fun _ _ _ h=>h,fun _ _ _ _ h=>h⟩ g vs an h1 h2 h3) h0 hn ht
theorem tg (hi:Φ.inl=false) {e it:Addr} {o:Obj} {a:Addr} {xs:List AV} {xi xv:Str} {p1 p2 pt:Pos} {k:Nat} {body:List Stmt} (h1:o.cls= .type "list_iterator") (h2:o.data= .fields #[.ref a,.int 0 0]) {Q:QT AF}
 (I:Nat->GH->LV->LD->Prop) (hI:∀i g vs an,I i g vs an->bM g an (a,.list xs))
 (turn:∀i x q1 q2 (Qb:QT AF),LL I i [q1,q2] Q Qb->∀g vs an,xs[i]? =some x->I i g vs an->∃Lu SL,cM vs xi (.int (i:Nat)) Lu/\cM Lu xv x SL/\TF Φ g SL (q1::q2::an) (execs body Φ.env) Qb E)
 (h0:I 0 g vs an) (hn:∀g vs an,I xs.length g vs an->Q .next g vs an):
 ma Φ g vs ((e,.raw (gZ it 0 .none))::(it,.raw o)::an) (.ref e) (.Tuple [.Name xi p1,.Name xv p2] k pt) body Q E:=
 uX hi h1 h2 I hI (fun i g vs an x q1 q2 hx hI=>turn i x q1 q2 (fun f g vs an=>match f with
  | .next| .cont=>∃l,an=q1::q2::l/\I (i+1) g vs l
  | .brk=>∃l,an=q1::q2::l/\Q .next g vs l
  | .ret v=>∃l,an=q1::q2::l/\Q (.ret v) g vs l) ⟨fun _ _ _ h=>h,fun _ _ _ h=>h,fun _ _ _ h=>h,fun _ _ _ _ h=>h⟩ g vs an hx hI) h0 hn
theorem jE {st:Stmt} {Q:QT AF} (R:GH->LV->LD->Prop) (h1:∀Q1:QT AF,QL (fun f g vs an=>f= .next/\R g vs an) Q1->TF Φ g vs an (exec st Φ.env) Q1 E) (h2:∀g vs an,R g vs an->Q .next g vs an):TF Φ g vs an (exec st Φ.env) Q E:=
 Du R (h1 _ (QL.rfl' _)) h2
theorem fi {st:Stmt} {Q:QT AF} (R:GH->LV->LD->Prop) (h1:∀Q1:QT AF,QL (fun f g vs an=>f= .next/\∃g' led',dU g an g' led'/\R g' vs led') Q1->TF Φ g vs an (exec st Φ.env) Q1 E) (h2:∀g vs an,R g vs an->Q .next g vs an):TF Φ g vs an (exec st Φ.env) Q E:=
 Cl R (h1 _ (QL.rfl' _)) h2
end
theorem bK {F:aY} {body:List Stmt} {params a':List Str} {F3:Nat} {SK:List AV} (FK:bE F body params F3 SK) (n:Nat) (vs:LV) {w:World} {H₀:Heap} (W:Wd w H₀)
 {g:GH} {own:LD} {as:List AV} {st:Bool} {Q:AV->GH->LD->Prop} {E:AV->Prop}
 (h:∀Φ:Fx F,Φ.w=w->Φ.H₀=H₀->Φ.g₀=g->Φ.strict=st->Φ.room=n->Φ.own=aD own->Φ.inl=false->
  ∀(Qf:QT AF),QL (fun f g' _ led'=>∃g2 l,dU g' led' g2 l/\gO Q f g2 l) Qf->TF Φ g vs own (execs body Φ.env) Qf (fun or _ _=>E or))
 (hnames:F.names=params++a':=by rfl) (hlen:as.length=F3:=by rfl) (hv:fV params a' (as++SK)=vs:=by rfl):
 ∀on,aA as on->cz w H₀ g own (.call (.ref F.f) ⟨on,[]⟩) (n+1) st Q E:=
 Bv FK n vs W (fun Φ a b c d e f i=>h Φ a b c d e f i _ (QL.rfl' _)) hnames hlen hv
theorem gf {F:aY} {body:List Stmt} {params a':List Str} {F3:Nat} {SK:List AV} (FK:bE F body params F3 SK) (n:Nat) (vs:LV) {w:World} {H₀:Heap} (W:Wd w H₀)
 {g:GH} {own:LD} {as:List AV} {st:Bool} {Q:AV->GH->LD->Prop} {E:AV->Prop}
 (h:∀Φ:Fx F,Φ.w=w->Φ.H₀=H₀->Φ.g₀=g->Φ.strict=st->Φ.room=n->Φ.own=aD own->Φ.inl=false->
  ∀(Qf:QT AF),QL (fun f g' _ led'=>∃l,l.Sublist led'/\gO Q f g' l) Qf->TF Φ g vs own (execs body Φ.env) Qf (fun or _ _=>E or))
 (hnames:F.names=params++a') (hlen:as.length=F3) (hv:fV params a' (as++SK)=vs):
 ∀on,aA as on->cz w H₀ g own (.call (.ref F.f) ⟨on,[]⟩) (n+1) st Q E:=
 Bu FK n vs W (fun Φ a b c d e f i=>h Φ a b c d e f i _ (QL.rfl' _)) hnames hlen hv
section
variable {F:aY} {Φ:Fx F} {g:GH} {vs:LV} {an:LD} {E:ET}
theorem uo {a:Addr} {xs:List AV} {Q:QT AV} (ha:bM g an (a,.list xs)) (hz:xs.length<=cq) (h:Q (.int xs.length) g vs an):bG Φ g vs an (.builtin "len") [.ref a] Q E:=by
 rintro _ _ rfl ra s S;cases ra with
 |cons r rs=>
 cases rs;cases r;refine cB (ha.isList S.1) fun cs la fa _=>?_;exact .of (PyProof.Rows.len_list la (by rw [fa.size];unfold cq at hz;exact Mk hz) ⟨.int xs.length,g,vs,an,S,⟨_,by rw [fa.size]⟩,h⟩)
theorem nq {n np:Str} {P' M' step:Option Expr} {q p pos} {Q:QT AV}
 (h:TV Φ g vs an (eval (.Name n q) Φ.env) (fun o g vs an=>∃a xs,o= .ref a/\bM g an (a,.list xs)/\xs.length<=cq/\iD Φ g vs an P' (fun lo g2 SL SM=>iD Φ g2 SL SM M' (fun hi g3 vs3 G'=>iD Φ g3 vs3 G' step (fun st g4 vs4 Sq=>
  bM g4 Sq (a,.list xs)/\st≠some 0/\∃ys,(∀cs:Array Value,aA xs cs.toList->aA ys (slicePick cs lo hi st).toList)/\∀b,b∉aD Sq->Q (.ref b) g4 vs4 (Sq++[(b,.list ys)])) E) E) E) E):
 TV Φ g vs an (eval (.Subscript (.Name n q) (.Slice P' M' step p) pos) Φ.env) Q E:=by
 intro s S;refine ju (h.use S fun vo s1 o g1 Lu KE S1 r1 zp37=>dl zp37 fun a xs e hh hz q1=>?_);subst e;cases r1;refine rb (TG.use q1 S1 fun vl s2 lo g2 SL SM S2 r2 q2=>TG.use q2 S2 fun vu s3 hi g3 vs3 G' S3 r3 q3=>TG.use q3 S3 fun vt s4 st g4 vs4 Sq S4 r4 zp74=>yJ zp74 fun h4 h5 ys h6 h7=>?_);refine cB (h4.isList S4.1) fun cs la fa _=>?_;have S5:=S4.push {cls:=.type "slice",data:=.fields #[vl,vu,vt]};have la':(s4.heap.push {cls:=.type "slice",data:=.fields #[vl,vu,vt]}).IsList a cs:=by
  refine aw (la) fun o e r=>?_;exact(aj o (Tp _ e) r)
 have I':∃J',subscripted (.Slice P' M' step p) false (.ref a) (.ref s4.heap.objs.size)=operate J' (getItem (.ref a) (.ref s4.heap.objs.size)):=by
  cases step with
  |none=>exact⟨_,rfl⟩
  |some e=>exact⟨_,rfl⟩
 refine ax (I') fun J' I'=>?_;refine .of (tail_any (T:="list") la'.typeIs PySem.F.slot_list_getitem.lookup (wpAny_getItem_list_slice la' (Heap.IsSliceOf.new _ _ _ _) r2 r3 r4 h5 ?_ (by rw [fa.size,sizeLine_eq];unfold cq at hz;exact o8 hz)) I');exact⟨.ref _,g4,vs4,_,S5.newList (h6 cs fa),rfl,h7 _ S5.fresh⟩
theorem uN {xs:List AV} {cs:Array Value} (h:aA xs cs.toList):aA xs.reverse (slicePick cs none none (some (-1))).toList:=by
 rw [krv_pick];exact h.rev
theorem sP {xs:List AV} {cs:Array Value} (n:Nat) (h:aA xs cs.toList):aA (xs.take n) (slicePick cs none (some n) none).toList:=by
 rw [slicePick_upto'];exact h.take n
theorem fM {value A':Expr} {a:Addr} {ks:List (Str×AV)} {x:Str} {v:AV} {Q:QT AV} (ha:(a,AO.dictS ks)∈an) (hx:eM ks x=some v) (hs:jz A'=false) (h:Q v g vs an):gG Φ g vs an value A' (.ref a) (.str x) Q E:=
 y6 (.inl ha) hx h (hs:=fun _ _=>g_ hs)
theorem iH {value A':Expr} {a:Addr} {xs:List AV} {i:Int} {v:AV} {Q:QT AV} (ha:bM g an (a,.list xs)) (hz:xs.length<=cq) (h0:0<=i) (hx:xs[i.toNat]? =some v) (hs:jz A'=false) (h:Q v g vs an):gG Φ g vs an value A' (.ref a) (.int i) Q E:=
 y2 ha hz h0 hx h (hs:=fun _ _=>g_ hs)
theorem fK {value A':Expr} {a:Addr} {xs:List AV} {i:Int} {v:AV} {Q:QT AV} (ha:bM g an (a,.tuple xs)) (hz:xs.length<=cq) (h0:0<=i) (hx:xs[i.toNat]? =some v) (hs:jz A'=false) (h:Q v g vs an):gG Φ g vs an value A' (.ref a) (.int i) Q E:=
 q8 ha hz h0 hx h (hs:=fun _ _=>g_ hs)
theorem P6 {a b o x} {Q:QT AV} (h:gG Φ g vs an a b (.ref o) (.str x) Q E):gG Φ g vs an a b (.ref o) (.str x) Q E:=h
end
section
variable {M:Model} {A:Around} {E:Value->Shared->Prop} {s:Shared} {env:Env}
theorem lw {e:Expr} {scope:Scope} {pos:Pos} {SS first:Sem Value} {g:Comprehension} {gs:List Comprehension} {u:Value->Sem Unit} {Q:Value->Shared->Prop}
 (hcl:clausesOf e=g::gs) (hs:∀x,foldedSetIterable g.iter env x=pure x)
 (SA:∀x∈scope.names,x.2≠ .free) (hkind:scope.kind= .function) (hnames:∀x∈scope.names,x.2= .local->scope.names.lookup x.1=some .local)
 (h:al M A first (fun x o0=>wpAny M A (pyIter x) (fun it w'=>wpAny M A SS (fun F6 C'=>
  wpAny M A (newFunctionEnv scope env.globals [] [] env.qual none .none (some env)) (fun cenv s₄=>
   bW M A (.compStart e 0 it F6 {cenv with scope:=scope}) (fun r s'=>match r with
    | .ok _=>al M A (u F6) (fun _ Sl=>∃m,Sl.heap.Ns cenv.locals m/\∀h',Heap.SameBut cenv.locals Sl.heap h'->Q .none {Sl with heap:=h'}) E s'
    | .error x=>False) s₄) iY C') iY w') iY o0) E s):
 al M A (comprehension e scope env pos SS false first (some u)) Q E s:=by
 unfold comprehension;rw [closureFor_none SA,hcl];refine bC h fun x o0 F5=>bo ?_;try dsimp only
 rw [hs];refine cC (be (bN (.of (wpAny_mono F5 (fun it w' Op=>?_) fun _ _ z=>z.elim))));rw [Tk (by rfl)];refine bo ?_;refine aX (wpAny_mono Op (fun F6 C' Ls=>?_) fun _ _ z=>z.elim);refine cC (aX (wpAny_mono Ls (fun cenv s₄ h₄=>?_) fun _ _ z=>z.elim));try dsimp only
 rw [map_eq_self (l:=scope.names) (fun x hx=>by
  obtain⟨n,k⟩:=x;have:(k==NameKind.free)=false:=by simpa using SA _ hx
  simp [this])]
 have hv:∀x∈(scope.names.filter fun x=>(x.2== .local||x.2== .cell)&&x.1 !=(".0":Str)).reverse,x.2= .local->
  Env.kindOf {cenv with scope:=scope} x.1=some .local:=fun x hx hl=>hnames x (List.mem_filter.mp (List.mem_reverse.mp hx)).1 hl
 have hv':∀x∈(scope.names.filter fun x=>(x.2== .local||x.2== .cell)&&x.1 !=(".0":Str)).reverse.drop 1++(scope.names.filter fun x=>(x.2== .local||x.2== .cell)&&x.1 !=(".0":Str)).reverse.take 1,
  x.2= .local->Env.kindOf {cenv with scope:=scope} x.1=some .local:=fun x hx hl=>by
  rcases T3.mp hx with h1|h1
  ·exact hv x (List.mem_of_mem_drop h1) hl
  ·exact hv x (List.mem_of_mem_take h1) hl
 refine bN (be (kB (bN (sm (hnb:=by intro x;cases x) (cZ h₄ fun r s' hr=>?_)))));cases r with
 |ok f=>
  refine be (.of (wpAny_rule ?_));refine be (bN (cy hr (fun _ Sl hr'=>?_) fun _ _ h'=>h'));refine aw (hr') fun m hn hr'=>?_;exact aX (wpAny_comp_letGo (cenv:={cenv with scope:=scope}) hkind _ Sl m hv' hn fun h' m' _ SC=>aG (hr' h' SC))
 |error x=>exact hr.elim
end
section
variable {F:aY} {Φ:Fx F} {g:GH} {vs:LV} {an:LD} {E:ET}
theorem aZ.stored {st:Bool} {s:Shared} {x:Str} {v:AV} {c:Value} {Ab:LV} {h':Heap} {m:Str->Option Value} (S:aZ Φ st g s vs an) (sv:cM vs x v Ab) (r:AV.Is v c) (hv:∀x v,(x,some v)∈vs->∃c,m x=some c/\AV.Is v c)
 (hn:h'.Ns Φ.L (fun y=>if y=x then some c else m y)) (hs:Heap.SameBut Φ.L s.heap h'):aZ Φ st g {s with heap:=h'} Ab an:=by
 have nd:(vs.map (·.1)).Nodup:=S.1.nms▸F.nd;refine⟨S.1.next [Φ.L] (fun b hb=>.inl (Ti.mp hb)) (fun b o hb e=>(hs.2 b fun z=>hb (Ti.mpr z)).trans e) (aj _ hn (fun y u hm=>?_)) sv.fst
  (fun p hp=>(S.1.hs.ledAt p hp).congr fun b hb y e=>(hs.2 b fun z=>S.1.Ll (bU.mpr (aj p hp (by rw [z] at hb;exact hb)))).trans e) S.1.hs.nd fun b hb=>.inl hb,S.2⟩
 rcases sv.of nd y u hm with⟨rfl,rfl⟩|⟨Fd,hm⟩
 ·exact(aj c (Tk rfl) r)
 ·refine aw (hv y u hm) fun c' e' r'=>?_;exact(aj c' (by show(if y=x then some c else m y)=_;rw [Tc Fd];exact e') r')
theorem St.off {st:Bool} {h h':Heap} {L':Addr} (S:St Φ st g h vs an) (hs:Heap.SameBut L' h h') (hH:Φ.H₀.get? L'=none) (hF:L'∉lI Φ.outer) (hE:L'∈Φ.own\/Φ.he.get? L'=none) (hL:L'≠Φ.L) (h4:L'∉aD an) (h5:∀p,g p->L'∉p.2.addrs p.1):St Φ st g h' vs an:=by
 have k:∀b y,b≠L'->h.get? b=some y->h'.get? b=some y:=fun b y hb e=>(hs.2 b hb).trans e;(refine aw (S.loc) fun m j' hv=>?_;refine eu (j') fun oL es ep eo r=>?_);refine⟨⟨fun b o e=>k b o (fun q=>by rw [q,hH] at e;cases e) (S.hs.H b o e),gR S.hs.ff fun b hb o e _=>(aj o (k b o (fun q=>hF (q▸hb)) e) rfl),fun p hp=>(S.hs.ledAt p hp).congr fun b hb y e=>k b y (fun q=>h4 (bU.mpr (aj p hp (q▸hb)))) e,
  fun p hp=>(S.hs.gAt p hp).congr fun b hb y e=>k b y (fun q=>h5 p hp (q▸hb)) e,S.hs.nd,S.hs.ga,S.hs.hl,S.hs.fo,S.hs.gs⟩,⟨fun b o e hb=>?_,S.tr.dom,S.tr.gdom,S.tr.sub⟩,(aj m (dI oL es ep (k _ _ (Ne.symm hL) eo) r) hv),S.nms,S.Ll,S.Lg⟩
 refine(S.tr.kept b o e hb).step (fun z=>z) fun o' e'=>dN.of_eq (k b o' (fun q=>?_) e');rcases hE with q1|q1
 ·exact hb (q▸q1)
 ·rw [q,q1] at e;cases e
theorem tL {scope:Scope} {tx nx:Str} {xp:Pos} {hk nd loc} {s o0:Shared} {own an:LD} {Q:GH->LV->LD->Prop} (S:aZ Φ Φ.strict g s vs own) (hs:Hs Φ.w Φ.H₀ Φ.fr g s.heap own) {g1:GH} {Lu:LV} {a:Addr}
 (S1:aZ (km (tx:=tx) (scope:=scope) Φ hk nd loc s own hs) Φ.strict g1 o0 Lu an) (q:∃Ab,cM vs nx (.ref a) Ab/\Q g1 Ab an):
 al (model PG Φ.w) Φ.A (assign (.Name nx xp) Φ.env (.ref a)) (fun _ Sl=>∃m,Sl.heap.Ns s.heap.objs.size m/\∀h',Heap.SameBut s.heap.objs.size Sl.heap h'->∃Ab,Q g1 Ab an/\aZ Φ Φ.strict g1 {Sl with heap:=h'} Ab an) iY o0:=by
 have S6:=o_ S hs S1 (Heap.SameBut.refl _ _);have hL:s.heap.get? s.heap.objs.size=none:=T9 (Tj _);have hLL:s.heap.objs.size≠Φ.L:=fun q=>aw S.1.L_some fun o eo _=>by rw [←q,hL] at eo;cases eo
 show al _ _ (do standAt xp;bindName Φ.env nx (.ref a)) _ _ o0;refine bo (j4 (.of ?_));refine aw q fun Ab sv hq=>aw S1.1.loc fun m hn _=>aw S6.1.loc fun m6 hn6 hv6=>?_;refine wpAny_storeName_local (S6.1.isLoc sv.has).1 hn6 (fun h6 hn7 hs7=>?_) (by show(F.scope.kind== .class||(F.scope.kind== .module&&_))=false;rw [F.hk];rfl);have S7:aZ Φ Φ.strict g1 {o0 with heap:=h6} Ab an:=S6.stored sv rfl hv6 hn7 hs7;refine aj m (eu hn fun o es ep eo r=>dI o es ep ((hs7.2 _ hLL).trans eo) r) fun h' SC=>aj Ab hq ⟨S7.1.off SC ?_ ?_ (S.1.none_dom hL) hLL S1.1.Ll S1.1.Lg,S7.2⟩
 ·cases q:Φ.H₀.get? s.heap.objs.size with
  |none=>rfl
  |some o=>have:=S.1.hs.H _ _ q;rw [hL] at this;cases this
 ·exact fun hm=>hV (S.1.hs.ff.mem hm) fun _ o ho _=>by rw [hL] at ho;cases ho
theorem kr {nx:Str} {xp Jn:Pos} {elt iter:Expr} {SD:List Expr} {scope:Scope} {pos tp:Pos} {tx:Str} {Q:QT AF} (hk:scope.kind= .function) (nd:[tx].Nodup) (loc:∀x∈[tx],scope.names.lookup x=some .local/\(x==("__debug__":Str))=false)
 (SA:∀x∈scope.names,x.2≠ .free) (SX:∀x∈scope.names,x.2≠ .cell) (hnames:∀x∈scope.names,x.2= .local->scope.names.lookup x.1=some .local)
 (h:TV Φ g vs an (eval iter Φ.env) (fun x g vs an=>∃n Pp ob src,(∀{F':aY} (Ψ:Fx F'),kA Ψ x n Pp ob src)/\∃I:Nat->GH->List AV->LD->Prop,
  (∀i g ys an p,I i g ys an->src g (p::an))/\src g an/\(∀i g ys an,I i g ys an->ys.length<=cq)/\I 0 g [] an/\
  (∀(Ψ:Fx (rU F scope [tx] hk nd loc)),Sub Φ Ψ->∀i g an ys p q,i<n->I i g ys an->TT Ψ g [(tx,some (Pp i))] (p::q::an) SD (fun ok g vs led'=>if ok=true
   then TV Ψ g vs led' (eval elt Ψ.env) (fun y g _ F7=>∃G',F7.Perm (p::q::G')/\I (i+1) g (ys++[y]) G') (fun _ _ _=>False)
   else ∃G',led'.Perm (p::q::G')/\I (i+1) g ys G'))/\
  ∀g ys an F6,I n g ys an->F6∉aD an->∃Ab,cM vs nx (.ref F6) Ab/\Q .next g Ab ((F6,.list ys)::an)) E)
 (hsw:swapsWith (.ListComp elt [⟨.Name tx tp,iter,SD,0⟩] scope pos) (some (.Name nx xp)) Jn.line Φ.env=pure true) (hs:∀x,foldedSetIterable iter Φ.env x=pure x) (ht:∀it v,letOwnedTupleGo (.Name tx tp) it v=pure ()):
 TF Φ g vs an (exec (.Assign [.Name nx xp] (.ListComp elt [⟨.Name tx tp,iter,SD,0⟩] scope pos) Jn) Φ.env) Q E:=by
 intro s S;rw [exec_Assign_Name_used _ _ _ _ hsw];refine bo ?_;refine be ?_;show al _ _ (do let _ ←comprehension (.ListComp elt [⟨.Name tx tp,iter,SD,0⟩] scope pos) scope Φ.env _ (newList []) false (eval iter Φ.env) (some (assign (.Name nx xp) Φ.env))) _ _ _;refine be (cy (Q:=fun _ s'=>il AF.Is Φ Q Flow.next s') (E:=dz Φ E) ?_ (fun _ s' hq=>aG (aG hq)) fun _ _ z=>z);refine lw (g:=⟨.Name tx tp,iter,SD,0⟩) (gs:=[]) rfl hs SA hk hnames ?_;refine h.use S fun c s1 x g1 Lu KE S1 r1 q1=>?_;refine eS q1 fun n Pp ob src El=>a0 El fun IT La=>ax La fun I zq2=>eF zq2 fun hI hsrc hz h0 turn fin=>?_;refine wpAny_mono ((IT Φ).start g1 Lu KE s1 c hsrc r1 S1) (fun it w' zz=>cX zz fun ia o e ho S2=>?_) fun _ _ z=>z;subst e;refine wpAny_newList ?_ (by exact Tn _);have S3:=(S2.newList (cs:=#[]) (xs:=[]) .nil).rot;have hs3:=St.sub (a':=[]) (by rw [T7];exact S3.1);refine wpAny_newFunctionEnv SX (fun x hx=>nomatch hx) (fun h' hns hsb=>?_) hk;refine lU (Ψ:=km Φ hk nd loc _ _ hs3) rfl (IT _) I hI hz (turn _ ⟨rfl,rfl,rfl,rfl⟩) (fun g s ys an ov hIi S1=>?_) h0 ho (qQ hs3 hns hsb).sw ht;refine cy (tL (nx:=nx) S3 hs3 S1 (fin g ys an _ hIi (TA.mp (show(_::aD an).Nodup from S1.1.hs.nd)).1)) (fun _ _ x=>aw x fun m hn k=>aj m hn fun h' SC=>aw (k h' SC) fun Ab q S'=>⟨.next,_,Ab,_,S',rfl,q⟩) fun _ _ z=>z.elim
end
theorem lu {M:Model} {A:Around} {E:Value->Shared->Prop} {s:Shared} {env:Env} {body B':Sem Flow} {Pu:ExceptHandler} {hs:List ExceptHandler} {Q:Flow->Shared->Prop}
 (h:al M A body (fun f o0=>match f with| .next=>al M A B' Q E o0|f=>Q f o0)
  (fun e o0=>al M A (noteFrame e env) (fun _ w'=>al M A (setFlight e none) (fun _ C'=>al M A (handleBy e env (Pu::hs)) Q E C') E w') E o0) s):
 al M A (tryStmt false body (Pu::hs) B' [] env) Q E s:=by
 show al M A (do
  match ←body.attempt with
  | .ok .next=>B'
  | .ok f=>pure f
  | .error e=>do
   noteFrame e env
   setFlight e none
   handleBy e env (Pu::hs)) Q E s
 refine be (kB (cy h (fun f o0 F5=>?_) fun e o0 F5=>?_))
 ·cases f<;>first|exact F5|exact aG F5
 ·exact be (cy F5 (fun _ _ Op=>be Op) fun _ _ x=>x)
theorem QW {α:Type} {M:Model} {A:Around} {t:Sem α} {Q:α->Shared->Prop} {E:Value->Shared->Prop} {s:Shared} (h:∀Q':α->Shared->Prop,(∀v s,Q v s->Q' v s)->wpAny M A t Q' E s):wpAny M A t Q E s:=h Q fun _ _ x=>x
theorem P5 {M:Model} {A:Around} {t:Code} {R:Result->Shared->Prop} {s:Shared} (h:∀R':Result->Shared->Prop,(∀v s,R v s->R' v s)->codeAny M A t R' s):codeAny M A t R s:=h R fun _ _ x=>x
theorem Og (w:World):hasDictIn (hd.heap_1 w.params) 45=true:=rfl
theorem Of (w:World):findIn (hd.heap_1 w.params) (.ref 45) "__getattribute__"=some (some (.builtin "BaseException.__getattribute__")):=rfl
theorem Od (w:World):findIn (hd.heap_1 w.params) (.ref 45) "__getattr__"=some none:=rfl
theorem sF {w:World} {A:Around} {E Q:Value->Shared->Prop} {s:Shared} {a:Addr} {o od:Obj} {v:Value} (X:(KF w).In s.heap) (I:InstAt s.heap a o 45 (some od)) (hf:findObj (KF w) 45 (some od) "told"=some (.value v)) (hh:handedIn v=true)
 (h:Q v {s with toks:=s.toks+1}):wpAny (model PG w) A (getAttr (.ref a) "told" true) Q E s:=by
 obtain⟨hp,g,d,t,os⟩:=s;refine cB (r6 w.params) fun cd hc K6 hmro=>?_;have L0:=I.type (M:=model PG w);have L1:=looks_findIn (M:=model PG w) X (Of w);have L2:=looks_findIn (M:=model PG w) X (Od w);have Lf:=looks_find (M:=model PG w) X I hf;have sub:Looks (model PG w) hp (isInstance (.ref a) (.type "BaseException")) true:=I.type.andThen (looks_mroIn X (by unfold mroIn;rw [hc,Option.bind_some,hmro,Tc (by decide+kernel)];decide+kernel));have GA:=PySem.F.attr_Exception.ga;have hk:builtinKind "BaseException.__getattribute__"=some .slot:=by decide+kernel
 have hsplit:splitId "BaseException.__getattribute__"=some ("BaseException","__getattribute__"):=by decide+kernel
 have hx2:(Value.builtin "BaseException.__getattribute__"==Value.builtin "object.__getattribute__")=false:=by decide+kernel
 have bind:=GA.bind (.ref a);have key:∀(A:Around) (tk t':Nat) (R:Result->Shared->Prop),R (.ok (.ret v)) ⟨hp,g,d,t',os⟩->codeAny (model PG w) A (.call (.builtin "BaseException.__getattribute__") ⟨[.ref a,.str "told" tk],[]⟩) R ⟨hp,g,d,t',os⟩:=by
  intro A tk t' R hR;refine codeAny_call_builtin GA.plain F.entry_bexc_ga (@check_slot (model PG w) _ _ _ "BaseException.__getattribute__" "BaseException" "__getattribute__" (.ref a) [.str "told" tk] [] _ hk hsplit sub (F.args_bexc_ga _ _) ?_);unfold Builtin.«object.__getattribute__»;refine Te (Tm (Te (Tm (Te (L0.at (Te (Lf.at ?_)))))));exact Tm hR
 unfold getAttr getAttrBy;refine Te (wpAny_mkText (wpAny_holding (Te (L0.at (Te (L1.at ?_))))));dsimp only;rw [Tc (by rw [hx2,Bool.and_false];decide)];unfold getAttrByItsOwn hookBefore;refine Te ?_;rw [Tk (show onTheHeap (.ref 45)=true from rfl)];refine L2.at ?_;refine Te (wpAny_attempt ?_);refine wpAny_holding ?_;unfold callGetattribute;rw [Tc (by decide)];unfold boundAndCalled;rw [bind];refine Te (Tm ?_);repeat wp_step
 refine key _ _ _ _ ?_;show wpAny _ _ (handedOut v) _ _ _;rw [handedOut_of hh];exact Tm h
theorem Oe (w:World):findIn (hd.heap_1 w.params) (.ref 45) "told"=some none:=rfl
theorem NS (w:World):nsIn (hd.heap_1 w.params) mainGlobals "BadCommand"=some (some (.ref 45)):=rfl
section
variable {F:aY} {Φ:Fx F} {g:GH} {vs:LV} {an:LD} {E:ET}
theorem m1 {M:Model} {A:Around} {Ec:Value->Shared->Prop} {st:Bool} {s:Shared} {x:Str} {v:AV} {c:Value} {Ab:LV} {Q:Unit->Shared->Prop} (S:aZ Φ st g s vs an) (sv:cM vs x v Ab) (r:AV.Is v c)
 (h:∀s',aZ Φ st g s' Ab an->Heap.SameBut Φ.L s.heap s'.heap->Q () s'):wpAny M A (storeName Φ.env x c) Q Ec s:=by
 refine aw (S.1.loc) fun m hn hv=>?_;have q:=S.1.isLoc sv.has;have nd:(vs.map (·.1)).Nodup:=S.1.nms▸F.nd;refine wpAny_storeName_local q.1 hn (fun h' Sn hs=>h _ ⟨?_,S.2⟩ hs) (by show(F.scope.kind== .class||(F.scope.kind== .module&&_))=false;rw [F.hk];rfl);refine S.1.next [Φ.L] (fun b hb=>.inl (Ti.mp hb)) (fun b o hb e=>(hs.2 b fun z=>hb (Ti.mpr z)).trans e) (aj _ Sn (fun y u hm=>?_)) sv.fst
  (fun p hp=>(S.1.hs.ledAt p hp).congr fun b hb y e=>(hs.2 b fun z=>S.1.Ll (bU.mpr (aj p hp (by rw [z] at hb;exact hb)))).trans e) S.1.hs.nd fun b hb=>.inl hb
 rcases sv.of nd y u hm with⟨rfl,rfl⟩|⟨Fd,hm⟩
 ·exact(aj c (Tk rfl) r)
 ·refine aw (hv y u hm) fun c' e' r'=>?_;exact(aj c' (by show(if y=x then some c else m y)=_;rw [Tc Fd];exact e') r')
noncomputable def nU (x:Str) (vs:LV):LV:=vs.map fun p=>if p.1=x then(p.1,none) else p
theorem x9 (x:Str) (vs:LV):(nU x vs).map (·.1)=vs.map (·.1):=by
 unfold nU;rw [List.map_map];apply List.map_congr_left;intro p _;show(if p.1=x then(p.1,none) else p).1=p.1;split<;>rfl
theorem x8 {x:Str} {vs:LV} {y:Str} {u:AV} (h:(y,some u)∈nU x vs):y≠x/\(y,some u)∈vs:=by
 refine aw (List.mem_map.mp h) fun p hp e=>?_;by_cases q:p.1=x
 ·rw [Tk q] at e;cases e
 ·rw [Tc q] at e;subst e;exact⟨q,hp⟩
theorem rd {M:Model} {A:Around} {Ec:Value->Shared->Prop} {st:Bool} {s:Shared} {x:Str} {pos:Pos} {Q:Unit->Shared->Prop} (S:aZ Φ st g s vs an) (hx:x∈vs.map (·.1))
 (h:∀s',aZ Φ st g s' (nU x vs) an->Q () s'):wpAny M A (do bindName Φ.env x .none;unbindBehindTheSuite Φ.env x pos) Q Ec s:=by
 refine aw (S.1.loc) fun m hn hv=>?_;have q:=S.1.isLoc hx;refine wpAny_nameGoes_keeps q.1 hn (by show(F.scope.kind== .class||(F.scope.kind== .module&&_))=false;rw [F.hk];rfl) (fun h' v Sn hs=>h _ ⟨?_,S.2⟩);refine S.1.next [Φ.L] (fun b hb=>.inl (Ti.mp hb)) (fun b o hb e=>(hs.2 b fun z=>hb (Ti.mpr z)).trans e) (aj _ Sn (fun y u hm=>?_)) (x9 x vs)
  (fun p hp=>(S.1.hs.ledAt p hp).congr fun b hb y e=>(hs.2 b fun z=>S.1.Ll (bU.mpr (aj p hp (by rw [z] at hb;exact hb)))).trans e) S.1.hs.nd fun b hb=>.inl hb
 refine a0 (x8 hm) fun Fd hm=>?_;refine aw (hv y u hm) fun c' e' r'=>?_;exact(aj c' (by show(if y=x then v else m y)=_;rw [Tc Fd];exact e') r')
theorem ub {st:Bool} {s:Shared} {xs:List AV} {cs:List Value} (S:aZ Φ st g s vs an) (r:aA xs cs):
 aZ Φ st g {s with heap:=s.heap.push {cls:=.type "tuple",data:=.seq cs.toArray}} vs (an++[(s.heap.objs.size,.tuple xs)]):=by
 have Ss:s.heap.get? s.heap.objs.size=none:=T9 (Tj _);exact S.more (o:=.tuple xs) (fun b hb=>by rw [Ti.mp hb];exact Ss) (by exact Tb rfl) (fun b y e=>Tp _ e) ⟨cs.toArray,0,#[],Heap.get?_push_size _ rfl,r⟩
theorem sC {ea:Addr} {or:AV} {p1 p8:Pos} {R:Result->Shared->Prop} {A:Around} {s:Shared} (hk:Φ.env.kindOf "BadCommand"=some .globalImplicit)
 (S:aZ Φ false g s vs []) (X:fu Φ.H₀ s.heap ea or) (h:R (.ok .brk) s):
 codeAny (model PG Φ.w) A (.handlers (.ref ea) [.ExceptHandler (some (.Name "BadCommand" p1)) none [] p8] Φ.env) R s:=by
 refine codeAny_handlers_test ?_;refine eS (Φ.wd.T) fun loose mean mg mb T=>?_;obtain⟨oe,ws,d,a1,a2,a3,a4,a5,a6,_,_⟩:=X.ex;refine eB (pp Φ.w.params) fun hdct sn sub ab col dd k0 k1' k2' k3 k5 e45 _=>?_;refine Name_function_global F.hk hk (loadGlobal_global (env:=Φ.env) (T.g.keeps S.1.hs.H) (mg_of Φ.wd.X T.g (NS Φ.w)) ?_) (by decide+kernel);exact wpAny_excMatches_sub_self (S.X _ _ e45) a1 a2 (by decide+kernel) h
theorem cM.mem {vs Ab:LV} {x:Str} {v:AV} (h:cM vs x v Ab):(x,some v)∈Ab:=by
 induction h with
 |head=>exact SZ ..
 |tail _ ih=>exact Td _ ih
theorem sD {ea:Addr} {or:AV} {p3 p4 p5 p6:Pos} {k1 k2:Nat} {Q:Value->Shared->Prop} {Ec:Value->Shared->Prop} {A:Around} {s0 s:Shared} {vs0:LV}
 (hhd:or.handed=true) (X:fu Φ.H₀ s0.heap ea or) (S0:aZ Φ false g s0 vs0 []) (hx:∃x v,(x,some v)∈vs0/\x≠"told") (sv:cM vs0 "e" (.ref ea) vs) (S:aZ Φ false g s vs []) (sb:Heap.SameBut Φ.L s0.heap s.heap)
 (h:∀s' a,aZ Φ false g s' vs [(a,.tuple [.none,or])]->Q (.ref a) s'):
 wpAny (model PG Φ.w) A (eval (.Tuple [.Constant .none k1 p3,.Attribute (.Name "e" p4) "told" p5] k2 p6) Φ.env) Q Ec s:=by
 obtain⟨oe4,ws4,d4,c1,c2,c3,c4,c5,c6,⟨es4,n4,sl4,c8,c9⟩,_⟩:=X.ex;have hdL:d4≠Φ.L:=by
  rintro rfl;(refine aw (S0.1.loc) fun m j' hv=>?_;refine jc (j') fun o es' ep eo hd hkk hm=>?_);refine eU hx fun xw vw hxw Fd=>?_;refine aw (hv _ _ hxw) fun c hc _=>?_;rw [c8] at eo;cases eo;cases hd;have hmiss:=c9.miss xw (by simpa using Fd);rw [←hm] at hc;unfold nsFind findBy at hc;rw [←Array.find?_toList,hmiss] at hc;cases hc
 have heL:ea≠Φ.L:=by
  rintro rfl;refine aw (S0.1.L_some) fun o eo ho=>?_;rw [c1] at eo;cases eo;exact ho _ c4
 have e2:s.heap.get? d4=some ⟨.type "dict",none,.dict es4 n4,sl4⟩:=(sb.2 d4 hdL).trans c8;have I5:InstAt s.heap ea oe4 45 (some ⟨.type "dict",none,.dict es4 n4,sl4⟩):=⟨(sb.2 ea heL).trans c1,c2,by unfold notCls;rw [c4],by rw [c3];exact e2⟩
 refine aw (c9.look (by exact Tb rfl) "told" or (SZ ..)) fun en hen hev=>?_;refine wpAny_Tuple (wpAny_items_cons (wpAny_Constant_none (wpAny_items_cons ?_)));rw [arm_eval_Attribute,jq (by rfl)];refine aw (S.1.loc) fun m5 hn5 hv5=>?_;refine aw (hv5 _ _ sv.mem) fun c ec rc=>?_;have qe:=S.1.isLoc (TP (f:=(·.1)) sv.mem);subst rc;refine Te (wpAny_Name (wpAny_loadName_local F.hk qe.1 hn5 ec ?_) qe.2);refine Te (wpAny_standAt (Te (wpAny_holding (sF S.X I5 (findObj_own (Og Φ.w) (Oe Φ.w) rfl (v:=en.val) ?_) (hev.handed hhd) ?_))))
 ·show(match es4.toList.find? _ with|some e=>some (some e.val)|none=>_)=_;rw [hen]
 refine Te (wpAny_letTemporaryGo (Tm ?_));exact wpAny_items_nil ⟨by exact Ta rfl,h _ _ (ub (xs:=[.none,or]) (S.toks _) (.cons rfl (.cons hev .nil)))⟩
theorem re (hstr:Φ.strict=false) {xf:Str} {ea:Addr} {or:AV} {p2 p3 p4 p5 p6 p7 p8:Pos} {k1 k2:Nat} {R:Result->Shared->Prop} {A:Around} {s:Shared} {Q:GH->LV->LD->Prop}
 (hs:swapsWith (.Tuple [.Constant .none k1 p3,.Attribute (.Name "e" p4) "told" p5] k2 p6) (some (.Name xf p2)) p7.line Φ.env=pure false)
 (S:aZ Φ false g s vs []) (X:fu Φ.H₀ s.heap ea or) (hx:∃x v,(x,some v)∈vs/\x≠"told") (hhd:or.handed=true)
 (q:∃SL,cM vs "e" (.ref ea) SL/\∀a,∃vs3,cM SL xf (.ref a) vs3/\Q g vs3 [(a,.tuple [.none,or])])
 (h:∀s' Ab led',aZ Φ false g s' Ab led'->("e":Str)∈Ab.map (·.1)->Q g Ab led'->R (.ok .next) s'):
 codeAny (model PG Φ.w) A (.handlers (.ref ea) [.ExceptHandler none (some "e") [.Assign [.Name xf p2] (.Tuple [.Constant .none k1 p3,.Attribute (.Name "e" p4) "told" p5] k2 p6) p7] p8] Φ.env) R s:=by
 refine codeAny_handlers_suite_as ?_;refine gD S X fun s4 S4 X4=>?_;refine aw q fun SL sv2 q2=>?_;refine m1 S4 sv2 rfl fun s5 S5 sb5=>?_;refine wpAny_execs_cons (wpAny_Assign_Name (hs:=hs) (sD hhd X4 S4 hx sv2 S5 sb5 fun s6 a S6=>?_));refine aw (q2 a) fun vs3 sv3 q3=>?_;refine m1 S6 sv3 rfl fun s7 S7 _=>?_;exact wpAny_execs_nil (h _ _ _ S7 (by rw [sv3.fst,sv2.fst];exact sv2.has) q3)
theorem ud (hi:Φ.inl=false) (hstr:Φ.strict=false) {body:List Stmt} {xf:Str} {p1 p2 p3 p4 p5 p6 p7 p8 p9:Pos} {k1 k2:Nat} {Q:QT AF}
 (hk:Φ.env.kindOf "BadCommand"=some .globalImplicit)
 (hs:swapsWith (.Tuple [.Constant .none k1 p3,.Attribute (.Name "e" p4) "told" p5] k2 p6) (some (.Name xf p2)) p7.line Φ.env=pure false)
 (h:TF Φ g vs an (execs body Φ.env) (fun f g vs an=>f= .next/\Q .next g vs an) (fun or g' Ab=>(∃x v,(x,some v)∈Ab/\x≠"told")/\or.handed=true/\
  ∀ea,∃SL,cM Ab "e" (.ref ea) SL/\∀a,∃vs3,cM SL xf (.ref a) vs3/\Q .next g' (nU "e" vs3) [(a,.tuple [.none,or])])):
 TF Φ g vs an (exec (.Try body [.ExceptHandler (some (.Name "BadCommand" p1)) (some "e") [.Assign [.Name xf p2] (.Tuple [.Constant .none k1 p3,.Attribute (.Name "e" p4) "told" p5] k2 p6) p7] p8] [] [] p9) Φ.env) Q E:=by
 intro s S;rw [arm_exec_Try];refine bo (lu ?_);refine cy (h s S) (fun f s1 zp55=>zp55.u fun f' g1 Lu KE S1 r1 zq55=>a0 zq55 fun hf q1=>?_) (fun e s1 X1=>?_)
 ·subst hf;cases r1;exact .of (wpAny_execs_nil ⟨.next,_,_,_,S1,rfl,q1⟩)
 obtain⟨ea,or,g1,Lu,rfl,S1,X1,q⟩:=X1;refine .of (jO hi S1 X1 fun s2 S2 X2=>.of (gD S2 X2 fun s3 S3 X3=>.of (wpAny_handleBy_cons (sC hk S3 X3 ?_) (by intro q;cases q))));exact re (Q:=fun g vs an=>Q .next g (nU "e" vs) an) hstr hs S3 X3 q.1 q.2.1 (q.2.2 ea) fun s' Ab led' S' he q'=>rd S' he fun s8 S8=>⟨.next,g1,_,led',by rw [hstr];exact S8,rfl,q'⟩
end
noncomputable def Bb:LV->Str->Option AV
 |[],_=>none
 |p::r,x=>if p.1=x then p.2 else Bb r x
theorem yr {x:Str} {v:AV} {vs:LV} (h:Bb vs x=some v):(x,some v)∈vs:=by
 induction vs with
 |nil=>cases h
 |cons p r ih=>
  by_cases q:p.1=x
  ·rw [←q,←(Tk q).symm.trans h];exact ad
  ·exact Td _ (ih ((Tc q).symm.trans h))
noncomputable def QB (op:CmpOp) (a b:Int):Option Bool:=match op with
 | .Eq=>some (decide (a=b))| .NotEq=>some (decide (a≠b))| .Lt=>some (decide (a<b))| .LtE=>some (decide (a<=b))| .Gt=>some (decide (b<a))| .GtE=>some (decide (b<=a))|_=>none
noncomputable def QA (op:CmpOp) (a:AV):Option Bool:=match op with
 | .Is=>some a.isNone| .IsNot=>some (!a.isNone)|_=>none
noncomputable def Ei (op:CmpOp) (a:AV):AV->Option Bool
 | .none=>QA op a
 | .int b=>match a with
  | .int a=>QB op a b
  |_=>none
 |_=>none
noncomputable def Qk (op:Operator) (a b:Int):Option AV:=match op with
 | .Add=>some (.int (a+b))| .Sub=>some (.int (a-b))|_=>none
noncomputable def DD (op:Operator) (a b:AV):Option AV:=match a with
 | .int a=>match b with
  | .int b=>Qk op a b
  |_=>none
 |_=>none
noncomputable def Ef:Const->Option AV
 | .int i=>some (.int i)| .str i=>some (.str i)| .bytes i=>some (.bytes i)| .none=>some .none| .bool i=>some (.bool i)|_=>none
noncomputable def nf (vs:LV):Nat->Expr->Option AV
 |0,_=>none
 |n+1,e=>match e with
  | .Constant c _ _=>Ef c
  | .Name x _=>Bb vs x
  | .BinOp l op r _=>(nf vs n l).bind fun a=>(nf vs n r).bind fun b=>DD op a b
  |_=>none
noncomputable def Ee (vs:LV):List Expr->Option (List AV)
 |[]=>some []
 |e::r=>if hP e=true then none else(nf vs 9 e).bind fun a=>(Ee vs r).map fun l=>a::l
noncomputable def Qz (vs:LV) (op:CmpOp) (l r:Expr):Option Bool:=(nf vs 9 l).bind fun a=>(nf vs 9 r).bind fun b=>Ei op a b
section
variable {F:aY} {Φ:Fx F} {g:GH} {vs:LV} {an:LD} {E:ET}
theorem nS {α:Type} {v:α} {P:Prop} (h:none=some v):P:=by cases h
theorem sS {α:Type} {P:α->Prop} {a v:α} (h:some a=some v) (k:P v):P a:=Option.some.inj h▸k
theorem bS {α β:Type} {P:Prop} {x:Option α} {f:α->Option β} {v:β} (h:x.bind f=some v) (k:∀a,x=some a->f a=some v->P):P:=aw (Option.bind_eq_some_iff.mp h) k
theorem zm {op a b v} {Q:QT AV} (h:DD op a b=some v) (k:Q v g vs an):jW Φ g vs an op a b Q E:=by
 cases a with
 |int a=>cases b with
  |int b=>cases op with
   |Add=>exact bD (sS (P:=fun v=>Q v g vs an) h k)
   |Sub=>exact nM (sS (P:=fun v=>Q v g vs an) h k)
   |_=>exact nS h
  |_=>exact nS h
 |_=>exact nS h
theorem Bs {c i p v} {Q:QT AV} (h:Ef c=some v) (k:Q v g vs an):TV Φ g vs an (eval (.Constant c i p) Φ.env) Q E:=by
 cases c with
 |int=>exact au (sS (P:=fun v=>Q v g vs an) h k)
 |str=>exact fm (sS (P:=fun v=>Q v g vs an) h k)
 |bytes=>exact bn (sS (P:=fun v=>Q v g vs an) h k)
 |none=>exact cP (sS (P:=fun v=>Q v g vs an) h k)
 |bool=>exact fg (sS (P:=fun v=>Q v g vs an) h k)
 |_=>exact nS h
theorem Br (n:Nat):∀{e:Expr} {v:AV} {Q:QT AV},nf vs n e=some v->Q v g vs an->TV Φ g vs an (eval e Φ.env) Q E:=by
 induction n with
 |zero=>exact fun h=>nS h
 |succ n ih=>
  intro e v Q h k;cases e with
  |Constant=>exact Bs h k
  |Name=>exact aa (yr h) k
  |BinOp=>exact bS h fun a ha h=>bS h fun b hb h=>ak (ih ha (ih hb (zm h k)))
  |_=>exact nS h
theorem si {p:Prop} [Decidable p] {A B:Prop} (h:¬p) (k:B):if decide p=true then A else B:=am (fun q=>absurd q h) fun _=>k
theorem QX {p:Prop} [Decidable p] {A B:Prop} (h:p) (k:A):if decide p=true then A else B:=am (fun _=>k) fun q=>absurd h q
theorem dJ {e:Expr} {v:AV} {Q:QT AV} (h:nf vs 9 e=some v) (k:Q v g vs an):TV Φ g vs an (eval e Φ.env) Q E:=Br 9 h k
theorem ap {pos:Pos} {es:List Expr}:∀{as:List AV} {Q:QT (List AV)},Ee vs es=some as->Q as g vs an->TL Φ g vs an (spliced (backTo pos (starEach es Φ.env))) Q E:=by
 induction es with
 |nil=>exact fun h k=>af (Option.some.inj h▸k)
 |cons e es ih=>
  intro as Q h k;cases hs:hP e with
  |true=>exact nS ((Tk hs).symm.trans h)
  |false=>exact bS ((Tc (Bool.eq_false_iff.mp hs)).symm.trans h) fun a ha h=>aw (Option.map_eq_some_iff.mp h) fun l hl e=>ah hs (dJ ha (ih hl (show Q (a::l) g vs an from e▸k)))
theorem Bz {op x y} {b:Bool} {Q:QT AV} (h:Ei op x y=some b) (k:Q (.bool b) g vs an):d0 Φ g vs an op x y Q E:=by
 cases y with
 |none=>cases op with
  |Is=>exact e9 (sS (P:=fun b=>Q (.bool b) g vs an) h k)
  |IsNot=>exact js (sS (P:=fun b=>Q (.bool b) g vs an) h k)
  |_=>exact nS h
 |int y=>cases x with
  |int x=>cases op with
   |Eq=>exact gI (sS (P:=fun b=>Q (.bool b) g vs an) h k)
   |NotEq=>exact sf (sS (P:=fun b=>Q (.bool b) g vs an) h k)
   |Lt=>exact ef (sS (P:=fun b=>Q (.bool b) g vs an) h k)
   |LtE=>exact im (sS (P:=fun b=>Q (.bool b) g vs an) h k)
   |Gt=>exact OL (sS (P:=fun b=>Q (.bool b) g vs an) h k)
   |GtE=>exact sg (sS (P:=fun b=>Q (.bool b) g vs an) h k)
   |_=>exact nS h
  |_=>exact nS h
 |_=>exact nS h
theorem aC {l op r pos u'} {b:Bool} {Q:QT Bool} (h:Qz vs op l r=some b) (k:Q b g vs an) (hm:behindInMarks op r=false:=by rfl):TB Φ g vs an (isTrue (.Compare l [op] [r] pos) Φ.env u') Q E:=
 bS h fun x hx h=>bS h fun y hy h=>aK (dJ hx (dJ hy (Bz h (aF k)))) hm
noncomputable def vZ:LV->Str->AV->Option LV
 |[],_,_=>none
 |p::r,x,v=>if p.1=x then some ((x,some v)::r) else(vZ r x v).map fun l=>p::l
theorem zd {x:Str} {v:AV} {vs:LV}:∀{Ab:LV},vZ vs x v=some Ab->cM vs x v Ab:=by
 induction vs with
 |nil=>exact fun h=>nS h
 |cons p r ih=>
  intro Ab h;by_cases q:p.1=x
  ·have h:=Option.some.inj ((Tk q).symm.trans h);subst q h;exact .head
  ·exact aw (Option.map_eq_some_iff.mp ((Tc q).symm.trans h)) fun l hl e=>e▸ .tail (ih hl)
theorem aL {x:Str} {v:AV} {Ab:LV} {P:LV->Prop} (h:vZ vs x v=some Ab) (q:P Ab):∃Ab,cM vs x v Ab/\P Ab:=aj _ (zd h) q
theorem xq {x p v e pos a'} {Ab:LV} {Q:QT AF} (h:nf vs 9 e=some v) (h2:vZ vs x v=some Ab) (k:TF Φ g Ab an (execs a' Φ.env) Q E) (hc:kf e=false):
 TF Φ g vs an (execs (.Assign [.Name x p] e pos::a') Φ.env) Q E:=
 ae (aI hc (dJ h (aL h2 k)))
theorem aP {x pos v args cpos} {Q:QT AV} (G:Gl x v) (hc:bB v) (h:TL Φ g vs an (spliced (backTo cpos (starEach args Φ.env))) (tu Φ v Q E) E) (hn:noStar args=true:=by rfl) (hx:Φ.env.kindOf x=some .globalImplicit:=by rfl):
 TV Φ g vs an (eval (.Call (.Name x pos) args [] cpos) Φ.env) Q E:=Cs hn (fT G ⟨hc,h⟩ hx)
theorem dG {x p1 p2 p3} {l:List UInt8} {Q:QT AV} (hv:(x,some (.bytes l))∈vs) (hz:l.length<=bf) (h:Q (.int l.length) g vs an) (hx:Φ.env.kindOf "len"=some .globalImplicit:=by rfl):
 TV Φ g vs an (eval (.Call (.Name "len" p1) [.Name x p2] [] p3) Φ.env) Q E:=aP d9 trivial (ah rfl (aa hv (af (fO hz h)))) rfl hx
theorem aq {y p1 p2 x v} {a C dx:Addr} {fs:List (Str×AV)} {Q:QT AV} (hy:(y,some (.ref a))∈vs) (hm:bM g an (a,.inst C dx fs)) (hf:(x,v)∈fs) (K:fE C x) (h:Q v g vs an) (hh:v.handed=true:=by rfl):
 TV Φ g vs an (eval (.Attribute (.Name y p1) x p2) Φ.env) Q E:=fU (aa hy (eY hm hf K h hh))
end
section
variable {F:aY} {Φ:Fx F} {g:GH} {vs:LV} {an:LD} {E:ET}
theorem fY {test body B' pos} {Q:QT AF} (b:Bool) (h:TB Φ g vs an (isTrue test Φ.env (eval test Φ.env)) (fun t g' Ab led'=>t=b/\g'=g/\Ab=vs/\led'=an) E) (k:if b=true then TF Φ g vs an (execs body Φ.env) Q E else TF Φ g vs an (execs B' Φ.env) Q E):
 TF Φ g vs an (exec (.If test body B' pos) Φ.env) Q E:=
 aS (h.mono (by(intro _ _ _ _ j';refine cU (j') fun th to Ce zz4=>?_;subst th;subst to;subst Ce;subst zz4);exact k) fun _ _ _ z=>z)
theorem v3 {p q p' q':Prop} [Decidable p] [Decidable q] [Decidable p'] [Decidable q'] {A:Bool->Prop} (hp:p↔p') (hq:q↔q') (h:A (decide p&&decide q)):if decide p'=true then A (decide q') else A false:=by
 rw [←decide_eq_decide.mpr hp,←decide_eq_decide.mpr hq];cases hd:decide p with
 |true=>rw [hd] at h;exact h
 |false=>rw [hd] at h;exact h
theorem xt (lo hi:Nat) {n:Nat} {x:Str} {k1 p1 p2 k3 p3 pos u'} {Q:QT Bool} (hx:(x,some (.int n))∈vs) (hq:Q (decide (lo<=n)&&decide (n<=hi)) g vs an):
 TB Φ g vs an (isTrue (.Compare (.Constant (.int (lo:Nat)) k1 p1) [.LtE,.LtE] [.Name x p2,.Constant (.int (hi:Nat)) k3 p3] pos) Φ.env u') Q E:=
 iX rfl (au (ku (aa hx (im (aF (v3 (A:=fun b=>Q b g vs an) (TQ (m:=lo) (n:=n)).symm (TQ (m:=n) (n:=hi)).symm hq|>fun z=>(by
  revert z;cases decide ((lo:Int)<=(n:Int)) with
  |true=>intro z;exact kx (au (im (aF z)))
  |false=>intro z;exact z)))))))
theorem Ch (lo hi:Nat) {n:Nat} {x:Str} {k1 p1 p2 k3 p3 pos} {Q:QT AV} (hx:(x,some (.int n))∈vs) (hq:Q (.bool (decide (lo<=n)&&decide (n<=hi))) g vs an):
 TV Φ g vs an (eval (.Compare (.Constant (.int (lo:Nat)) k1 p1) [.LtE,.LtE] [.Name x p2,.Constant (.int (hi:Nat)) k3 p3] pos) Φ.env) Q E:=
 y0 rfl (au (yY (aa hx (im (aF (v3 (A:=fun b=>Q (.bool b) g vs an) (TQ (m:=lo) (n:=n)).symm (TQ (m:=n) (n:=hi)).symm hq|>fun z=>(by
  revert z;cases decide ((lo:Int)<=(n:Int)) with
  |true=>intro z;exact yZ (au (im z))
  |false=>intro z;exact z)))))))
end
noncomputable def xh:cD 125:=⟨_,fun P=>(bc _ _ _ rfl)⟩
noncomputable abbrev P0:aY:=dm xh ["octet","is_first"] rfl (by decide+kernel) (by decide+kernel)
theorem Pg:bE P0 (bY xh.fd) ["octet","is_first"] 2 []:=
 bE.mk' _ _ _ _ [] rfl (fun _=>rfl) (fun _=>rfl) .nil (fun w s X _ _=>Tz rfl) rfl rfl rfl (by decide+kernel) (by decide+kernel)
theorem B3 {w:World} {H₀:Heap} (W:Wd w H₀) {g:GH} {n:Nat} {b:Bool}:∀on,aA [.int n,.bool b] on->cz w H₀ g [] (.call (.ref 125) ⟨on,[]⟩) 1 true
 (fun v g' own'=>v= .bool (gA b n)/\g'=g/\own'=[]) (fun _=>False):=
 gf (hnames:=by rfl) (hlen:=by rfl) (hv:=by rfl) Pg 0 [("octet",some (.int n)),("is_first",some (.bool b))] W fun Φ hw hH hg hs hn ho hi Qf y'=>by
  refine ae ?_;refine fY (lj n) (ch (xt 65 90 ad (cQ (fun h=>?_) (fun h=>ch (xt 97 122 ad (cQ (fun h'=>?_) (fun h'=>ch (aC rfl (am (fun h2=>?_) (fun h2=>cL ?_)))))))))) ?_
  ·exact(bJ (by unfold lj;rw [h];rfl) rfl rfl rfl)
  ·exact(bJ (by unfold lj;rw [h,h'];rfl) rfl rfl rfl)
  ·exact(bJ (by rw [Int.ofNat.inj h2];rfl) rfl rfl rfl)
  ·exact(bJ (by unfold lj;rw [h,h',beq_false_of_ne fun q=>h2 (congrArg _ q)];rfl) rfl rfl rfl)
  ·refine cQ (fun h=>ag (aE (fg (aO (ba (ql y' ?_)))))) fun h=>bq (ag (aE (sd (gk (aa a7 (Dv (aF (cQ (fun hb=>Ch 48 57 ad ?_) fun hb=>?_))))))))
   ·exact(dP ([]) (T2 _) (congrArg AV.bool (by unfold gA;rw [h];rfl)) rfl rfl)
   ·exact aO (ql y' (dP ([]) (T2 _) (congrArg AV.bool (by unfold gA;rw [h,hb];rfl)) rfl rfl))
   ·exact aO (ql y' (dP ([]) (T2 _) (congrArg AV.bool (by unfold gA;rw [h,hb];rfl)) rfl rfl))
noncomputable def xg:cD 132:=⟨_,fun P=>(bc _ _ _ rfl)⟩
noncomputable abbrev PZ:aY:=dm xg ["octet","letters"] rfl (by decide+kernel) (by decide+kernel)
theorem Pf:bE PZ (bY xg.fd) ["octet"] 1 []:=
 bE.mk' _ _ _ _ [] rfl (fun _=>rfl) (fun _=>rfl) .nil (fun w s X _=>Tz rfl) rfl rfl rfl (by decide+kernel) (by decide+kernel)
noncomputable def mw:List (Int×AV):=[(97,.int 7),(98,.int 8),(101,.int 27),(102,.int 12),(110,.int 10),(114,.int 13),(115,.int 32),(116,.int 9),(118,.int 11)]
theorem gz {n:Nat} {r:List (Int×AV)} {e:Nat} {d:AV} (m v:Nat) (h:(eM r (n:Int)).getD d= .int (e:Nat)):(eM (((m:Int),.int (v:Int))::r) (n:Int)).getD d= .int ((if n=m then v else e:Nat):Int):=by
 unfold eM at h ⊢;by_cases q:n=m
 ·rw [Tk q,List.find?_cons_of_pos (p:=fun p:Int×AV=>decide (p.1=(n:Int))) (decide_eq_true (congrArg Int.ofNat q.symm))];rfl
 ·rw [Tc q,List.find?_cons_of_neg (p:=fun p:Int×AV=>decide (p.1=(n:Int))) (fun z=>q (Int.ofNat.inj (Tb z)).symm)];exact h
theorem kb (n:Nat):(eM mw (n:Int)).getD (.int n)= .int (gS n:Nat):=
 gz 97 7 (gz 98 8 (gz 101 27 (gz 102 12 (gz 110 10 (gz 114 13 (gz 115 32 (gz 116 9 (gz 118 11 rfl))))))))
theorem OI {w:World} {H₀:Heap} (W:Wd w H₀) {g:GH} {n:Nat}:∀on,aA [.int n] on->cz w H₀ g [] (.call (.ref 132) ⟨on,[]⟩) 1 true
 (fun v g' own'=>v= .int (gS n:Nat)/\g'=g/\own'=[]) (fun _=>False):=
 gf (hnames:=by rfl) (hlen:=by rfl) (hv:=by rfl) Pf 0 [("octet",some (.int n)),("letters",none)] W fun Φ hw hH hg hs hn ho hi Qf y'=>by
  refine ae ?_;refine iW (hs:=by rfl) ?_;refine qV (hk:=by with_unfolding_all rfl) (h0:=by exact TS _ _) (hlen:=by exact Tb rfl) ?_;intro d hd
  repeat' (refine iB ?_;refine au ?_;refine au ?_)
  refine l7 (hU mw rfl (by decide) (by decide) _ .head ?_);refine aL rfl ?_;refine ae ?_;refine aE ?_;refine mM (he:=by rfl) (hplain:=by rfl) ?_;refine aa a7 ?_;refine ui (.inl (SZ ..)) ⟨trivial,?_⟩;refine ap rfl ?_;refine uu (.inl (SZ ..)) ?_;refine aO (ba (ql y' ?_));exact(dP ([]) (T2 _) (kb n) rfl rfl)
noncomputable def xe:cD 139:=⟨_,fun P=>(bc _ _ _ rfl)⟩
noncomputable abbrev PY:aY:=dm xe ["octets"] rfl (by decide+kernel) (by decide+kernel)
theorem Pe:bE PY (bY xe.fd) ["octets"] 1 []:=
 bE.mk' _ _ _ _ [] rfl (fun _=>rfl) (fun _=>rfl) .nil (fun w s X _=>Tz rfl) rfl rfl rfl (by decide+kernel) (by decide+kernel)
noncomputable def Et:Option Nat->AV
 |none=>.none
 |some n=>.int (n:Nat)
theorem kY {l:BS} (h:l.length<3):db l=none:=by
 cases ho:db l with
 |none=>rfl
 |some n=>exact qy ho fun a b c d e _ _=>absurd h (by rw [e];exact Nat.not_lt.mpr (Nat.le_add_left 3 _))
theorem rq {l:BS} (h:3<=l.length):db l=if 48<=(l.getD 0 0).toNat/\(l.getD 0 0).toNat<=51/\48<=(l.getD 1 0).toNat/\(l.getD 1 0).toNat<=55/\48<=(l.getD 2 0).toNat/\(l.getD 2 0).toNat<=55 then
 some (((l.getD 0 0).toNat-48)*64+((l.getD 1 0).toNat-48)*8+((l.getD 2 0).toNat-48)) else none:=by
 refine dM (uY (Nat.le_of_succ_le h)) fun a b r e=>?_;subst e;cases r with
 |nil=>exact absurd h (Nat.not_le.mpr (Ts 2))
 |cons c r=>rfl
theorem OH {w:World} {H₀:Heap} (W:Wd w H₀) {g:GH} {l:BS} (hz:l.length<=bf):∀on,aA [.bytes l] on->cz w H₀ g [] (.call (.ref 139) ⟨on,[]⟩) 1 true
 (fun v g' own'=>v=Et (db l)/\g'=g/\own'=[]) (fun _=>False):=
 gf (hnames:=by rfl) (hlen:=by rfl) (hv:=by rfl) Pe 0 [("octets",some (.bytes l))] W fun Φ hw hH hg hs hn ho hi Qf y'=>by
  refine ae ?_;refine aS (ch (aK (dG ad hz (au (ef (aF (am (fun _=>bv (ag (aE (cP (aO (ba (ql y' ?_))))))) (fun _=>ch (ib (iX rfl (au (ku (bg (aa ad (au (cb hz (Tt (fun _=>(by(first|exact uR (by assumption)|omega)))) (Tt (fun _=>(by(first|exact zD (by assumption) (by assumption)|omega)))) rfl (im (aF (am (fun _=>kx (au (im (aF (kT (fun _=>bv (ag (aE (cP (aO (ba (ql y' ?_))))))) (fun _=>ch (ib (iX rfl (au (ku (bg (aa ad (au (cb hz (Tt (fun _=>(by(first|exact zC (by assumption)|omega)))) (Tt (fun _=>(by(first|exact zB (by assumption) (by assumption)|omega)))) rfl (im (aF (am (fun _=>kx (au (im (aF (kT (fun _=>bv (ag (aE (cP (aO (ba (ql y' ?_))))))) (fun _=>ch (ib (iX rfl (au (ku (bg (aa ad (au (cb hz (Tt (fun _=>(by(first|exact zA (by assumption)|omega)))) (Tt (fun _=>(by(first|exact zy (by assumption) (by assumption)|omega)))) rfl (im (aF (am (fun _=>kx (au (im (aF (kT (fun _=>bv (ag (aE (cP (aO (ba (ql y' ?_))))))) (fun _=>cL (bd (bq (ag (aE (ak (ak (ak (ak (ak (bg (aa ad (au (cb hz (Tt (fun _=>(by(first|exact uR (by assumption)|omega)))) (Tt (fun _=>(by(first|exact zD (by assumption) (by assumption)|omega)))) rfl (au (nM (au (fq (PySem.IntMulOk.of_right (by decide+kernel)) (ak (ak (bg (aa ad (au (cb hz (Tt (fun _=>(by(first|exact zC (by assumption)|omega)))) (Tt (fun _=>(by(first|exact zB (by assumption) (by assumption)|omega)))) rfl (au (nM (au (fq (PySem.IntMulOk.of_right (by decide+kernel)) (bD (bg (aa ad (au (cb hz (Tt (fun _=>(by(first|exact zA (by assumption)|omega)))) (Tt (fun _=>(by(first|exact zy (by assumption) (by assumption)|omega)))) rfl (bD (au (nM (aO (ql y' ?_))))))))))))))))))))))))))))))))))))))))))) (fun _=>nN (bv (ag (aE (cP (aO (ba (ql y' ?_))))))))))))))))))))))))) (fun _=>nN (bv (ag (aE (cP (aO (ba (ql y' ?_))))))))))))))))))))))))) (fun _=>nN (bv (ag (aE (cP (aO (ba (ql y' ?_))))))))))))))))))))))))) rfl));all_goals (((try (with_reducible (first|refine bd ?_ |refine bv ?_)));repeat (first|(with_unfolding_none (first|refine ba ?_ |refine aO ?_ |refine i8 ?_ |refine kI ?_ |refine ca ?_))|(with_reducible (first|refine ql (by assumption) ?_ |refine bI (by assumption) ?_ |refine ew (by assumption) ?_ |refine i5 (by assumption) ?_ |refine kF (by assumption) ?_ |refine eN (by assumption) ?_ |refine i9 (by assumption) ?_ |refine kJ (by assumption) ?_ |refine kK (by assumption) ?_)))))
  all_goals refine(dP ([]) (T2 _) ?_ rfl rfl)
  ·rw [kY (Kq ‹_›)];rfl
  all_goals (rw [rq (Qo ‹_›)];simp only [Int.toNat_zero,Int.toNat_one,show Int.toNat 2=2 from rfl] at *)
  all_goals first
   |(rw [Tc (by(first|exact Kp (by assumption)|exact Ko (by assumption)|exact Kn (by assumption)|exact Km (by assumption)|exact Kl (by assumption)|exact Kk (by assumption)|omega))];rfl)
   |(rw [Tk (by(first|exact Fa (by assumption) (by assumption) (by assumption) (by assumption) (by assumption) (by assumption)|omega))];exact congrArg AV.int (by(first|exact E_ (by assumption) (by assumption) (by assumption) (by assumption) (by assumption) (by assumption)|omega)))
theorem bj:fE 291 "octets":=⟨fun w=>(bF rfl rfl rfl rfl rfl rfl)⟩
theorem fJ:fE 291 "environment":=⟨fun w=>(bF rfl rfl rfl rfl rfl rfl)⟩
theorem aV:fE 291 "at":=⟨fun w=>(bF rfl rfl rfl rfl rfl rfl)⟩
theorem tO:fE 291 "decide":=⟨fun w=>(bF rfl rfl rfl rfl rfl rfl)⟩
theorem eG:fE 291 "commands":=⟨fun w=>(bF rfl rfl rfl rfl rfl rfl)⟩
theorem cr:fE 291 "command":=⟨fun w=>(bF rfl rfl rfl rfl rfl rfl)⟩
theorem iT:fE 291 "group":=⟨fun w=>(bF rfl rfl rfl rfl rfl rfl)⟩
theorem fX:fE 291 "last_group":=⟨fun w=>(bF rfl rfl rfl rfl rfl rfl)⟩
theorem fC:fE 291 "blocks":=⟨fun w=>(bF rfl rfl rfl rfl rfl rfl)⟩
theorem eH:fE 291 "branches":=⟨fun w=>(bF rfl rfl rfl rfl rfl rfl)⟩
theorem h_:fE 65 "group":=⟨fun w=>(bF rfl rfl rfl rfl rfl rfl)⟩
theorem hZ:fE 65 "words":=⟨fun w=>(bF rfl rfl rfl rfl rfl rfl)⟩
theorem jQ:fE 65 "places":=⟨fun w=>(bF rfl rfl rfl rfl rfl rfl)⟩
theorem iU:fE 86 "commands":=⟨fun w=>(bF rfl rfl rfl rfl rfl rfl)⟩
theorem yL:gc 291 "word" 160:=⟨fun w=>(cn rfl rfl rfl rfl rfl)⟩
theorem mG:gc 291 "take_single" 167:=⟨fun w=>(cn rfl rfl rfl rfl rfl)⟩
theorem mH:gc 291 "take_double" 174:=⟨fun w=>(cn rfl rfl rfl rfl rfl)⟩
theorem jC:gc 291 "take_escape" 181:=⟨fun w=>(cn rfl rfl rfl rfl rfl)⟩
theorem iS:gc 291 "take_variable" 188:=⟨fun w=>(cn rfl rfl rfl rfl rfl)⟩
theorem qR:gc 291 "read" 218:=⟨fun w=>(cn rfl rfl rfl rfl rfl)⟩
theorem rZ:gc 291 "pass_by" 225:=⟨fun w=>(cn rfl rfl rfl rfl rfl)⟩
theorem kn:gc 291 "new_group" 232:=⟨fun w=>(cn rfl rfl rfl rfl rfl)⟩
theorem r5:gc 291 "is_live" 239:=⟨fun w=>(cn rfl rfl rfl rfl rfl)⟩
theorem fH:gc 291 "end_command" 246:=⟨fun w=>(cn rfl rfl rfl rfl rfl)⟩
theorem pb:gc 291 "take_word" 253:=⟨fun w=>(cn rfl rfl rfl rfl rfl)⟩
theorem k9:gc 291 "add_word" 260:=⟨fun w=>(cn rfl rfl rfl rfl rfl)⟩
theorem nA:gc 291 "open_block" 267:=⟨fun w=>(cn rfl rfl rfl rfl rfl)⟩
theorem mI:gc 291 "close_block" 274:=⟨fun w=>(cn rfl rfl rfl rfl rfl)⟩
noncomputable abbrev ps (t r:BS):Int:=(t.length:Int)-(r.length:Int)
theorem iL {t r:BS} (h:r<:+t):r.length<=t.length:=h.length_le
theorem cY {t r:BS} {c:UInt8} (h:(c::r)<:+t):r<:+t:=(T8 c r).trans h
theorem iM {t r:BS} (h:r<:+t):t.drop (t.length-r.length)=r:=by
 (refine ax (h) fun p j'=>?_;subst j');simp
theorem sI {r d:BS} (h:d<:+r):r.drop (r.length-d.length)=d:=iM h
theorem el {t r:BS} {c:UInt8} (h:(c::r)<:+t):t.getD (ps t (c::r)).toNat 0=c:=by
 (refine ax (h) fun p j'=>?_;subst j');have:(ps (p++c::r) (c::r)).toNat=p.length:=by unfold ps;rw [Tf];exact Fg
 rw [this];simp
theorem eg {t r:BS} {c:UInt8} (h:(c::r)<:+t):ps t (c::r)<t.length:=by unfold ps;rw [Tu];exact KD
theorem di {t r:BS} (h:r<:+t):0<=ps t r:=by have:=iL h;unfold ps;exact KC this
theorem aU {t r:BS} {c:UInt8}:ps t (c::r)+1=ps t r:=by unfold ps;rw [Tu];exact KB
theorem kP {n:Nat} {i:Int} (h0:0<=i) (h1:i<=n):clipAt n i=i.toNat:=by
 unfold clipAt
 split<;>(first|exact KA h0 ‹_›|exact Ff h0 h1)
theorem mD {t r d:BS} (h:r<:+t) (hd:d<:+r):eW t (some (ps t r)) (some (ps t d))=r.take (r.length-d.length):=by
 have a:=iL h;have b:=iL hd;unfold eW;simp only [Option.elim];rw [kP (di h) (by unfold ps;exact zL),kP (di (hd.trans h)) (by unfold ps;exact zL)];have e1:(ps t r).toNat=t.length-r.length:=by unfold ps;exact zF a
 have e2:(ps t d).toNat-(ps t r).toNat=r.length-d.length:=by unfold ps;exact Fe a b
 rw [e2,e1,iM h]
theorem fy {t r:BS} (h:r<:+t) (k:Nat):eW t (some (ps t r)) (some (ps t r+k))=r.take k:=by
 have a:=iL h;unfold eW;simp only [Option.elim];have e1:(ps t r).toNat=t.length-r.length:=by unfold ps;exact zF a
 rw [kP (di h) (by unfold ps;exact zL),e1];by_cases q:k<=r.length
 ·rw [kP (by have:=di h;exact Kz this) (by unfold ps;exact Ky q)];have e2:(ps t r+k).toNat-(t.length-r.length)=k:=by unfold ps;exact Fc a
  rw [e2,iM h]
 ·have:clipAt t.length (ps t r+k)=t.length:=by
   unfold clipAt
   split<;>(unfold ps at *;(first|exact Kx q ‹_›|exact Fb a q))
  rw [this,iM h,List.take_of_length_le (Kw a this),List.take_of_length_le (Kv q)]
theorem lO (p:UInt8->Bool) (r:BS):r.dropWhile p<:+r:=List.dropWhile_suffix p
theorem nV (p:UInt8->Bool) (r:BS):(r.takeWhile p).length=r.length-(r.dropWhile p).length:=by
 have:=congrArg List.length (List.takeWhile_append_dropWhile (p:=p) (l:=r));rw [Tf] at this;exact Ku this
theorem yb (p:UInt8->Bool) (r:BS):r.takeWhile p=r.take (r.length-(r.dropWhile p).length):=by
 rw [←nV];have:=List.take_left (l₁:=r.takeWhile p) (l₂:=r.dropWhile p);rw [List.takeWhile_append_dropWhile] at this;exact this.symm
theorem oM {t r:BS} (h:r<:+t) (c:UInt8):kN t c (t.length-r.length)=if c∈r then ps t (r.dropWhile (·!=c)) else-1:=by
 unfold kN;rw [iM h]
 split
 ·rw [nV];have:=(lO (·!=c) r).length_le;have:=iL h;unfold ps;exact Kt ‹_› this
 ·rfl
theorem yF {c:UInt8} {r:BS} (h:c∈r):∃d,r.dropWhile (·!=c)=c::d:=by
 induction r with
 |nil=>cases h
 |cons a r ih=>
  by_cases q:a=c
  ·exact dH r ((List.dropWhile_cons_of_neg (p:=fun x=>x !=c) (by rw [q];simp)).trans (by rw [q]))
  ·refine ax (ih ((T4.mp h).resolve_left (Ne.symm q))) fun d e=>dH d ((List.dropWhile_cons_of_pos (p:=fun x=>x !=c) (by simpa using q)).trans e)
noncomputable abbrev rf (t:BS) (e:Addr) (p:Int) (r:List (Str×AV)):List (Str×AV):=("octets",.bytes t)::("environment",.ref e)::("at",.int p)::r
noncomputable abbrev RN:List Str:=["decide","commands","command","group","last_group","blocks","branches"]
noncomputable abbrev wl (x dx:Addr) (t:BS) (e:Addr) (ks:List (BS×AV)) (p:Int) (r:List (Str×AV)) (fa:Addr) (f:BS):LD:=[(x,.inst 291 dx (rf t e p r)),(e,.dictB ks),(fa,.barr f)]
theorem uL {t:BS} {e:Addr} {p:Int} {r:List (Str×AV)} (hr:r.map (·.1)=RN):(rf t e p r).map (·.1)=("octets":Str)::("environment":Str)::("at":Str)::RN:=by
 show _::_::_::r.map (·.1)=_;rw [hr]
noncomputable def xb:cD 167:=⟨_,fun P=>(bc _ _ _ rfl)⟩
noncomputable abbrev PU:aY:=dm xb ["self","found","end"] rfl (by decide+kernel) (by decide+kernel)
theorem Pb:bE PU (bY xb.fd) ["self","found"] 2 []:=
 bE.mk' _ _ _ _ [] rfl (fun _=>rfl) (fun _=>rfl) .nil (fun w s X _ _=>Tz rfl) rfl rfl rfl (by decide+kernel) (by decide+kernel)
theorem OE {w:World} {H₀:Heap} (W:Wd w H₀) {g:GH} {x dx:Addr} {t:BS} {e:Addr} {ks:List (BS×AV)} {rs:List (Str×AV)} {fa:Addr} {f:BS} {c:UInt8} {r:BS} (hs:(c::r)<:+t) (hz:t.length<=bf) (hf:f.length+r.length<=bf):
 ∀on,aA [.ref x,.ref fa] on->cz w H₀ g (wl x dx t e ks (ps t (c::r)) rs fa f) (.call (.ref 167) ⟨on,[]⟩) 3 true
 (fun v g' own'=>∃q,gu r=some q/\q.2<:+r/\v= .none/\g'=g/\own'=wl x dx t e ks (ps t q.2) rs fa (f++q.1)) (fun or=>gu r=none/\or= .int (ps t (c::r))):=
 gf (hnames:=by rfl) (hlen:=by rfl) (hv:=by rfl) Pb 2 [("self",some (.ref x)),("found",some (.ref fa)),("end",none)] W fun Φ hw hH hg Kd hn ho hi Qf y'=>by
  have hr:=cY hs;refine ae ?_;refine aI rfl (aH rfl rfl (Tb rfl) rfl (aq ad (Tl ad) ad bj (uj (T_ trivial (ah rfl (bn (ah rfl (ak (aq ad (Tl ad) aQ aV (au (bD (af ?_))) rfl))))))) rfl));refine uv (k:=t.length-r.length) ?_ (Nat.sub_le ..) ?_
  ·have:=iL hr;rw [aU];unfold ps;exact Kj this
  rw [oM hr];by_cases Sv:(39:UInt8)∈r
  ·rw [Tk Sv];have hd:=lO (·!=39) r;have hn:=di (hd.trans hr);refine aL rfl (ae (aS (aC rfl (am (fun _=>ag (eX (Tt (fun _=>(by(first|exact zx hn (by assumption)|omega)))) (aq ad (Tl ad) aQ aV ?_ rfl) rfl rfl rfl)) (fun _=>bq (ae (bm rfl (aH rfl rfl (Tb rfl) rfl (aa a7 (gq (Tl aQ) (T_ trivial (ah rfl (cR (aq ad (Tl ad) ad bj (gN hz (bP (ak (aq ad (Tl ad) aQ aV (au (bD (dQ (bP (aa aQ (dQ (af ?_))))))) rfl)))) rfl) (fun _ _ _=>rfl) (fun _ _ _=>rfl))))))))))))))
   ·(first|exact(zx hn (by assumption)).elim|omega)
   rw [aU,mD hr hd,←yb];have hl:(r.takeWhile (·!=39)).length<=r.length:=(List.takeWhile_sublist _).length_le;refine fN (by exact ay.tail (ay.tail ay.head)) (by unfold bf at *;exact Ki hf hl) ?_;refine de (ag (bz rfl (dJ rfl (aa ad (bR ay.head (b_.set (aB.tail (aB.tail aB.head))) aV (ca (ql y' ?_)))))));have e1:=yF Sv;refine ax (e1) fun d e1=>?_;refine(ix _ (List.Sublist.refl _) (r.takeWhile (·!=39),d) ?_ ?_ rfl rfl ?_)
   ·unfold gu;rw [Tk Sv,e1];rfl
   ·exact(T8 39 d).trans (e1▸hd)
   ·rw [e1,aU]
  ·rw [Tc Sv];refine aL rfl (ae (aS (aC rfl (am (fun _=>ag (eX (Tt (fun _=>(by(first|exact og hn (by assumption)|omega)))) (aq ad (Tl ad) aQ aV ?_ rfl) rfl rfl rfl)) (fun _=>bq (ae (bm rfl (aH rfl rfl (Tb rfl) rfl (aa a7 (gq (Tl aQ) (T_ trivial (ah rfl (cR (aq ad (Tl ad) ad bj (gN hz (bP (ak (aq ad (Tl ad) aQ aV (au (bD (dQ (bP (aa aQ (dQ (af ?_))))))) rfl)))) rfl) (fun _ _ _=>rfl) (fun _ _ _=>rfl))))))))))))))
   ·skip;exact⟨by unfold gu;rw [Tc Sv],rfl⟩
   ·exact(Kh ‹_›).elim
theorem u6:Gl "command_octal" (.ref 139):=⟨fun w=>.inl (aj _ rfl rfl),by decide+kernel⟩
theorem rM:Gl "command_escaped" (.ref 132):=⟨fun w=>.inl (aj _ rfl rfl),by decide+kernel⟩
theorem qJ:Gl "command_is_name_sign" (.ref 125):=⟨fun w=>.inl (aj _ rfl rfl),by decide+kernel⟩
theorem BQ:bB (.ref 139):=fun w=>rfl
theorem BR:bB (.ref 132):=fun w=>rfl
theorem t5:bB (.ref 125):=fun w=>rfl
theorem rp (r:BS):db (r.take 3)=db r:=by
 cases r with
 |nil=>rfl
 |cons a r=>cases r with
  |nil=>rfl
  |cons b r=>cases r<;>rfl
theorem lE {r:BS} {n:Nat} (h:db r=some n):n<256/\3<=r.length:=by
 refine qy h fun a b c d e q z=>?_;subst e;subst z;exact⟨E9 q,Nat.le_add_left 3 _⟩
theorem qL {n:Nat} (h:n<256):gS n<256:=by unfold gS;(repeat' split);all_goals (first|exact Kg|exact Kf|exact Ke|exact Kc|exact Kb|exact Ka|exact J_|exact J9|exact J8|exact J7 h)
noncomputable def w_:cD 181:=⟨_,fun P=>(bc _ _ _ rfl)⟩
noncomputable abbrev PS:aY:=dm w_ ["self","found","octet","octal"] rfl (by decide+kernel) (by decide+kernel)
theorem O_:bE PS (bY w_.fd) ["self","found"] 2 []:=
 bE.mk' _ _ _ _ [] rfl (fun _=>rfl) (fun _=>rfl) .nil (fun w s X _ _=>Tz rfl) rfl rfl rfl (by decide+kernel) (by decide+kernel)
theorem B2 {w:World} {H₀:Heap} (W:Wd w H₀) {g:GH} {x dx:Addr} {t:BS} {e:Addr} {ks:List (BS×AV)} {rs:List (Str×AV)} {fa:Addr} {f:BS} {c:UInt8} {r:BS} (hs:(c::r)<:+t) (hz:t.length<=bf) (hf:f.length+r.length<=bf):
 ∀on,aA [.ref x,.ref fa] on->cz w H₀ g (wl x dx t e ks (ps t (c::r)) rs fa f) (.call (.ref 181) ⟨on,[]⟩) 3 true
 (fun v g' own'=>r≠[]/\(cp r).2<:+r/\v= .none/\g'=g/\own'=wl x dx t e ks (ps t (cp r).2) rs fa (f++(cp r).1)) (fun or=>r=[]/\or= .int (ps t (c::r))):=
 gf (hnames:=by rfl) (hlen:=by rfl) (hv:=by rfl) O_ 2 [("self",some (.ref x)),("found",some (.ref fa)),("octet",none),("octal",none)] W fun Φ hw hH hg Kd hn ho hi Qf y'=>by
  have hr:=cY hs;refine ae ?_;refine aS (aK (ak (aq ad (Tl ad) aQ aV (au (bD (aP d9 trivial (ah rfl (aq ad (Tl ad) ad bj (af (fO hz (sg (aF (am (fun _=>ag (eX (Tt (fun _=>(by(first|exact og hn (by assumption)|omega)))) (aq ad (Tl ad) aQ aV ?_ rfl) rfl rfl rfl)) (fun _=>bq (ae ?_))))))) rfl))))) rfl)) rfl)
  ·rename_i hq;rw [aU] at hq;refine⟨?_,rfl⟩;cases r with
   |nil=>rfl
   |cons a b=>exact absurd (eg hr) (J6 hq)
  ·rename_i hq;cases r with
   |nil=>exact absurd hq (by rw [aU];unfold ps;simp)
   |cons b r=>
   refine bX (names:=["octet","octal"]) ?_;refine ah rfl (bg (aq ad (Tl ad) ad bj (ak (aq ad (Tl ad) aQ aV (au (bD ?_)) rfl)) rfl));rw [aU];refine cb hz (di hr) (eg hr) (by exact rfl) ?_;rw [el hr];refine ah (by exact rfl) ?_;refine aP u6 BQ ?_;refine ah rfl (cR (aq ad (Tl ad) ad bj (gN hz (bP (ak (aq ad (Tl ad) aQ aV (au (bD (dQ (bP (ak (aq ad (Tl ad) aQ aV (au (bD (dQ (af ?_)))) rfl)))))) rfl)))) rfl) (fun _ _ _=>rfl) (fun _ _ _=>rfl));have e1:eW t (some (ps t (c::b::r)+1)) (some (ps t (c::b::r)+4))=(b::r).take 3:=by
    rw [aU,show ps t (c::b::r)+4=ps t (b::r)+(3:Nat) from by unfold ps;simp;exact J5];exact fy hr 3
   rw [e1];have hl:=iL hr;refine mO (OH Φ.wd (TO (List.length_take_le _ _) (by unfold bf;exact J4))) (qz hn) ?_;rw [rp];refine af (aN rfl (by exact Ta rfl) ?_);refine aW (aJ ?_);refine aL rfl ?_;refine aW (aJ ?_);refine aL rfl ?_;refine cu ?_;cases ho8:db (b::r) with
   |some n=>
    refine a0 (lE ho8) fun n1 n2=>?_;have e2:cp (b::r)=([n.toUInt8],r.drop 2):=lJ ho8;rw [e2] at y';refine ag (aS (aC rfl (md rfl (ae (bm rfl (aH rfl rfl (Tb rfl) rfl (aa a7 (gt (Tl aQ) (T_ trivial (ap rfl ?_))))))))));refine e_ (i:=(n:Nat)) (by exact ay.tail (ay.tail ay.head)) (J3 hf n2) (AC n1) (AB n1) ?_;refine de (ag (bz rfl (ak (aq ad (Tl ad) aQ aV (au (bD (aa ad (bR ay.head (b_.set (aB.tail (aB.tail aB.head))) aV (ca (ql y' ?_)))))) rfl))));refine(ja _ (List.Sublist.refl _) (TS _ _) ?_ rfl rfl ?_)
    ·exact(List.drop_suffix 2 r).trans (T8 b r)
    ·rw [show ps t (c::b::r)+4=ps t (r.drop 2) from by unfold ps;simp at n2 ⊢;exact J2 n2];rfl
   |none=>
    have hb:b.toNat<256:=b.toNat_lt;refine ag (aS (aC rfl (nO rfl (ae (aS (aC rfl (am (fun _=>ag (bm rfl (aH rfl rfl (Tb rfl) rfl (aa a7 (gt (Tl aQ) (T_ trivial (ah rfl ?_))))))) (fun _=>bq (ag (bz rfl (ak (aq ad (Tl ad) aQ aV (au (bD (aa ad (bR ay.head (b_.set (aB.tail (aB.tail aB.head))) aV (ca (ql y' ?_)))))) rfl))))))))))))
    ·rename_i hq;have e2:cp (b::r)=([(gS b.toNat).toUInt8],r):=(kj ho8).trans (Tc (J1 hq));refine aP rM BR ?_;refine ap rfl ?_;refine mO (OI Φ.wd) (qz hn) ?_;refine af ?_;have:=qL hb;refine e_ (i:=(gS b.toNat:Nat)) (by exact ay.tail (ay.tail ay.head)) (J0 hf) (AC this) (AB this) ?_;refine de (ag (bz rfl (ak (aq ad (Tl ad) aQ aV (au (bD (aa ad (bR ay.head (b_.set (aB.tail (aB.tail aB.head))) aV (ca (ql y' ?_)))))) rfl))));refine(ja _ (List.Sublist.refl _) (TS _ _) ?_ rfl rfl ?_)
     ·rw [e2];exact T8 b r
     ·rw [e2,show ps t (c::b::r)+2=ps t r from by unfold ps;simp;exact v9];rfl
    ·rename_i hq;have e2:cp (b::r)=([],r):=(kj ho8).trans (Tk (zI hq));refine(ja _ (List.Sublist.refl _) (TS _ _) ?_ rfl rfl ?_)
     ·rw [e2];exact T8 b r
     ·rw [e2,show ps t (c::b::r)+2=ps t r from by unfold ps;simp;exact v9,T7]
noncomputable def gJ (env:Ev):Prop:=∀k,(look env k).length<=3
noncomputable def dn (env:Ev):List (BS×AV):=env.map fun p=>(p.1,.bytes p.2)
theorem iP (env:Ev) (k:BS):(eM (dn env) k).getD (.bytes [])= .bytes (look env k):=by
 unfold eM look dn;rw [List.find?_map];show((Option.map _ (List.find? (fun p:BS×BS=>decide (p.1=k)) env)).map _).getD _=_;cases List.find? (fun p:BS×BS=>decide (p.1=k)) env with
 |none=>rfl
 |some p=>rfl
theorem kG (r:BS) (k:UInt8):decide (r.take 1=[k])=dy k.toNat r:=by
 cases r with
 |nil=>rfl
 |cons c r=>
  refine Bool.eq_iff_iff.mpr ⟨fun h=>?_,fun h=>decide_eq_true (congrArg (·::[]) (UInt8.toNat_inj.mp (oE h)))⟩;rw [←(List.cons.inj (Tb h)).1];exact beq_self_eq_true _
theorem oq (f:Bool) (r:BS):bw f r<=r.length:=by
 induction r generalizing f with
 |nil=>exact Tj _
 |cons c r ih=>
  rw [jy];by_cases h:gA f c.toNat=true
  ·rw [Tk h];exact Nat.succ_le_succ (ih _)
  ·rw [Tc h];exact Tn _
inductive CH (t:BS) (r:BS) (e:Addr) (g:GH) (c:UInt8) (x:Addr) (dx:Addr) (env:Ev) (rs:List (Str×AV)) (fa:Addr) (f:BS) (r1:BS) (g':GH) (vs:LV) (an:LD):Prop
 |mk:(g'=g)->(an=wl x dx t e (dn env) (ps t (c::r)) rs fa f)->(vs=([("self",some (.ref x)),("found",some (.ref fa)),("begin",some (.int (ps t (c::r)))),("at",some (.int (ps t (r1.drop (bw true r1))))),("has_brace",some (.bool (dy 123 r))),("first",some (.int (ps t r1)))]:LV))->CH t r e g c x dx env rs fa f r1 g' vs an
inductive CG (t:BS) (r:BS) (e:Addr) (g:GH) (c:UInt8) (x:Addr) (dx:Addr) (env:Ev) (rs:List (Str×AV)) (fa:Addr) (f:BS) (r1:BS) (n:Nat) (g':GH) (vs:LV) (an:LD):Prop
 |mk:(g'=g)->(an=wl x dx t e (dn env) (ps t (c::r)) rs fa f)->∀d,(n=d.length)->(d<:+r1)->(vs=([("self",some (.ref x)),("found",some (.ref fa)),("begin",some (.int (ps t (c::r)))),("at",some (.int (ps t d))),("has_brace",some (.bool (dy 123 r))),("first",some (.int (ps t r1)))]:LV))->(bw true r1=(r1.length-d.length)+bw (decide (d.length=r1.length)) d)->CG t r e g c x dx env rs fa f r1 n g' vs an
noncomputable def w9:cD 188:=⟨_,fun P=>(bc _ _ _ rfl)⟩
noncomputable abbrev PR:aY:=dm w9 ["self","found","begin","at","has_brace","first"] rfl (by decide+kernel) (by decide+kernel)
theorem O9:bE PR (bY w9.fd) ["self","found"] 2 []:=
 bE.mk' _ _ _ _ [] rfl (fun _=>rfl) (fun _=>rfl) .nil (fun w s X _ _=>Tz rfl) rfl rfl rfl (by decide+kernel) (by decide+kernel)
theorem B1 {w:World} {H₀:Heap} (W:Wd w H₀) {g:GH} {x dx:Addr} {t:BS} {e:Addr} {env:Ev} (hE:gJ env) {rs:List (Str×AV)} {fa:Addr} {f:BS} {c:UInt8} {r:BS} (hs:(c::r)<:+t) (hz:t.length<=bf) (hf:f.length+3<=bf):
 ∀on,aA [.ref x,.ref fa] on->cz w H₀ g (wl x dx t e (dn env) (ps t (c::r)) rs fa f) (.call (.ref 188) ⟨on,[]⟩) 3 true
 (fun v g' own'=>∃q,cH env r=some q/\q.2<:+r/\v= .none/\g'=g/\own'=wl x dx t e (dn env) (ps t q.2) rs fa (f++q.1)) (fun or=>cH env r=none/\or= .int (ps t (c::r))):=
 gf (hnames:=by rfl) (hlen:=by rfl) (hv:=by rfl) O9 2 [("self",some (.ref x)),("found",some (.ref fa)),("begin",none),("at",none),("has_brace",none),("first",none)] W fun Φ hw hH hg Kd hn ho hi Qf y'=>by
  have hr:=cY hs;refine ae ?_;refine bX (names:=["begin","at"]) ?_;refine ah rfl (aq ad (Tl ad) aQ aV (ah rfl (ak (aq ad (Tl ad) aQ aV (au (bD (af ?_))) rfl))) rfl);refine(aN rfl (by exact Ta rfl) ?_);refine aW (aJ ?_);refine aL rfl ?_;refine aW (aJ ?_);refine aL rfl ?_;refine cu ?_;rw [aU];refine ae (aI rfl (iC (cR (aq ad (Tl ad) ad bj (gN hz (bP (aa dc (dQ (bP (dJ rfl (dQ (bn (jZ (aL rfl (ae (aI rfl (ak (aa dc (aP jB trivial (ap rfl (ii (bD (aL rfl (xq (hc:=by rfl) rfl rfl (ae ?_))))))))))))))))))))) rfl) (fun _ _ _=>rfl) (fun _ _ _=>rfl)) rfl));rw [show ps t r+1=ps t r+(1:Nat) from rfl,fy hr 1,kG,show UInt8.toNat 123=123 from rfl];obtain⟨r1,hr1,hp1,hc⟩:∃r1,r1<:+r/\(ps t r+if dy 123 r=true then 1 else 0)=ps t r1/\(if dy 123 r=true then r1=r.tail else r1=r):=by
   cases hb:dy 123 r with
   |false=>exact(eP r (Tv _) (by simp) rfl)
   |true=>
    cases r with
    |nil=>cases hb
    |cons a r=>exact(eP r (T8 a r) (by rw [Tk rfl,aU]) rfl)
  rw [hp1];have SO:∀d:BS,d<:+r1->bw true r1=r1.length-d.length->d=r1.drop (bw true r1):=fun d hd h=>by rw [h];exact(sI hd).symm
  refine jE (CH t r e g c x dx env rs fa f r1) ?_ ?_
  ·intro Q1 Lb;refine fD hi (CG t r e g c x dx env rs fa f r1) ?_ r1.length ⟨rfl,rfl,r1,rfl,Tv _,rfl,by simp⟩;rintro n Qb F2 g' vs an ⟨rfl,rfl,d,rfl,hd,rfl,hk⟩;have K1:=hd.trans (hr1.trans hr);have F9:=hd.length_le;refine aR (aK (aa dc (aP d9 trivial (ah rfl (aq ad (Tl ad) ad bj (af (fO hz (ef (aF (am (fun _=>aR (da rfl ?_)) (fun _=>bd (ql Lb ?_))))))) rfl)))) rfl)
   ·rename_i hq;cases d with
    |nil=>exact absurd hq (by unfold ps;exact Int.lt_irrefl _)
    |cons a d=>
    refine aP qJ t5 ?_;refine ah rfl (bg (aq ad (Tl ad) ad bj (aa dc ?_) rfl));refine cb hz (di K1) (eg K1) (by exact rfl) ?_;rw [el K1];refine ah rfl (iC (aa dc (aa d7 (gI (af ?_)))) rfl);rw [show decide (ps t (a::d)=ps t r1)=decide ((a::d).length=r1.length) from decide_eq_decide.mpr (by unfold ps;exact JZ)];refine mO (B3 Φ.wd) (qz hn) ?_;refine aF (cQ (fun _=>bQ (bv (ag (aI rfl (dJ rfl (aL rfl (bI F2 ?_))))))) (fun _=>bd (ql Lb ?_)))
    ·rename_i hq;rw [aU];refine⟨d.length,by exact Ts _,rfl,rfl,d,rfl,cY hd,rfl,?_⟩;rw [jy,Tk hq] at hk;have hdl':=(cY hd).length_le;rw [show decide (d.length=r1.length)=false from decide_eq_false (by simp at F9;exact DO F9)];simp at F9 hk ⊢;exact DN hk F9
    ·rename_i hq;rw [jy,Tc (by rw [hq];decide)] at hk;exact⟨rfl,rfl,rfl,by rw [←SO _ hd (DM hk)]⟩
   ·rename_i hq;have:d=[]:=by cases d with
     |nil=>rfl
     |cons a d=>exact absurd (eg K1) hq
    subst this;exact⟨rfl,rfl,rfl,by rw [←SO [] hd hk]⟩
  rintro g' vs an ⟨rfl,rfl,rfl⟩;have hd:=List.drop_suffix (bw true r1) r1;have K8:=oq true r1;have hdr:=hd.trans hr1;have K1:=hdr.trans hr;have hr1t:=hr1.trans hr;generalize hdd:r1.drop (bw true r1)=d at *;have e0:ps t d=ps t r1↔bw true r1=0:=by
   have:d.length=r1.length-bw true r1:=by rw [←hdd,List.length_drop]
   unfold ps;exact JY K8 this
  have e1:eW t (some (ps t d)) (some (ps t d+1))=d.take 1:=fy K1 1;have e2:eW t (some (ps t r1)) (some (ps t d))=r1.take (bw true r1):=by
   rw [mD hr1t hd];congr 1;have:d.length=r1.length-bw true r1:=by rw [←hdd,List.length_drop]
   exact DL K8 this
  cases hb:dy 123 r with
  |true=>
   rw [Tk hb] at hc;have hv:cH env r=if bw true r1=0\/dy 125 d=false then none else some (look env (r1.take (bw true r1)),r1.drop (bw true r1+1)):=by
    unfold cH;rw [Tk hb,←hc,hdd]
   have ht1:(¬eW t (some (ps t d)) (some (ps t d+1))≠[125])↔dy 125 d=true:=by
    rw [e1];have:=kG d 125;rw [show UInt8.toNat 125=125 from rfl] at this;rw [←this];simp
   refine ae (aS (aR (da rfl (aa gy (aF (bv (aR (ch (aC rfl (am (fun _=>bv (bQ (bv (ag (eX (Tt (fun _=>(by(first|exact og hn (by assumption)|omega)))) (aa aQ ?_) rfl rfl rfl))))) (fun _=>ch (aK (cR (aq ad (Tl ad) ad bj (gN hz (bP (aa dc (dQ (bP (dJ rfl (dQ (bn (Dx (aF (am (fun _=>bv (bQ (bv (ag (eX (Tt (fun _=>(by(first|exact og hn (by assumption)|omega)))) (aa aQ ?_) rfl rfl rfl))))) (fun _=>cL (bd (bd (bq (ae (aS (aC rfl (am (fun _=>ag (bm rfl (aH rfl rfl (Tb rfl) rfl (aa a7 (gt (Tl aQ) (T_ trivial (ap rfl ?_))))))) (fun _=>ag (bm rfl (aH rfl rfl (Tb rfl) rfl (aa a7 (gq (Tl aQ) (T_ trivial (ah rfl (aH rfl rfl (Tb rfl) rfl (aq ad (Tl ad) a7 fJ (kz (Tl a7) (T_ trivial (ah rfl (cR (aq ad (Tl ad) ad bj (gN hz (bP (aa d7 (dQ (bP (aa dc (dQ (ap rfl ?_)))))))) rfl) (fun _ _ _=>rfl) (fun _ _ _=>rfl))))) rfl)))))))))))))))))))))))))))) rfl) (fun _ _ _=>rfl) (fun _ _ _=>rfl)) rfl))))))))))))
   ·rename_i hq;exact⟨by rw [hv,Tk (.inl (e0.mp hq))],rfl⟩
   ·rename_i hq;refine⟨by rw [hv,Tk (.inr ?_)],rfl⟩;cases h:dy 125 d with
    |false=>rfl
    |true=>exact absurd hq (ht1.mpr h)
   ·rename_i h1 _ h2;exact absurd h2 h1
   ·rename_i h1 h2 _;have h3:=ht1.mp h2;rw [e2];refine kE (.inl a7) ?_;rw [iP];refine af ?_;have:=hE (r1.take (bw true r1));refine fN (by exact ay.tail (ay.tail ay.head)) (AA hf this) ?_;refine de (ag (bz rfl (ak (aa dc (aP jB trivial (ap rfl (ii (bD (aa ad (bR ay.head (b_.set (aB.tail (aB.tail aB.head))) aV (ca (ql y' ?_))))))))))));obtain⟨d',rfl⟩:∃d',d=125::d':=by
     cases d with
     |nil=>cases h3
     |cons a d=>exact⟨d,by rw [show a=125 from UInt8.toNat_inj.mp (oE h3)]⟩
    have K6:r1.drop (bw true r1+1)=d':=by rw [←List.drop_drop,hdd];rfl
    refine(ix _ (List.Sublist.refl _) (look env (r1.take (bw true r1)),d') ?_ ((T8 _ _).trans hdr) rfl rfl ?_)
    ·rw [hv,Tc (by rintro(q|q);exact h1 (e0.mpr q);rw [h3] at q;cases q),K6]
    ·rw [Tk rfl,aU]
  |false=>
   rw [hb,Tc (by decide)] at hc;subst hc;have hv:cH env r1=if bw true r1=0 then some ([36],r1) else some (look env (r1.take (bw true r1)),d):=by
    unfold cH;rw [Tc (by rw [hb];decide),hdd]
   refine ae (aS (aR (da rfl (aa gy (aF (bd (bd (bq (ae (aS (aC rfl (am (fun _=>ag (bm rfl (aH rfl rfl (Tb rfl) rfl (aa a7 (gt (Tl aQ) (T_ trivial (ap rfl ?_))))))) (fun _=>ag (bm rfl (aH rfl rfl (Tb rfl) rfl (aa a7 (gq (Tl aQ) (T_ trivial (ah rfl (aH rfl rfl (Tb rfl) rfl (aq ad (Tl ad) a7 fJ (kz (Tl a7) (T_ trivial (ah rfl (cR (aq ad (Tl ad) ad bj (gN hz (bP (aa d7 (dQ (bP (aa dc (dQ (ap rfl ?_)))))))) rfl) (fun _ _ _=>rfl) (fun _ _ _=>rfl))))) rfl)))))))))))))))))))))
   ·rename_i hq;refine e_ (i:=36) (by exact ay.tail (ay.tail ay.head)) (JX hf) JW JV ?_;refine de (ag (bz rfl (ak (aa dc (aP jB trivial (ap rfl (ii (bD (aa ad (bR ay.head (b_.set (aB.tail (aB.tail aB.head))) aV (ca (ql y' ?_))))))))))));have h0:=e0.mp hq;have:r1=d:=by rw [h0] at hdd;exact hdd
    subst this;refine(ix _ (List.Sublist.refl _) ([36],r1) (by rw [hv,Tk h0]) (Tv _) rfl rfl ?_);rw [Tc (by decide),Int.add_zero];rfl
   ·rename_i hq;rw [e2];refine kE (.inl a7) ?_;rw [iP];refine af ?_;have:=hE (r1.take (bw true r1));refine fN (by exact ay.tail (ay.tail ay.head)) (AA hf this) ?_;refine de (ag (bz rfl (ak (aa dc (aP jB trivial (ap rfl (ii (bD (aa ad (bR ay.head (b_.set (aB.tail (aB.tail aB.head))) aV (ca (ql y' ?_))))))))))));refine(ix _ (List.Sublist.refl _) (look env (r1.take (bw true r1)),d) (by rw [hv,Tc (by rw [←e0];exact hq)]) hdr rfl rfl ?_);rw [Tc (by decide),Int.add_zero]
theorem t4:bB (.ref 181):=fun w=>rfl
theorem tZ:bB (.ref 188):=fun w=>rfl
theorem BO:bB (.ref 167):=fun w=>rfl
theorem lL (r:BS):(cp r).1.length<=1:=lK (P:=fun _ q=>q.1.length<=1) (Tn _) (fun _ _ _=>Tj _) (fun _ _=>Tn _) (fun _ _ _=>Tj _) r
theorem lB {env:Ev} (hE:gJ env) {r:BS} {q:BS×BS} (h:cH env r=some q):q.1.length<=3:=nT h fun k _ e=>e.elim (fun e=>e▸hE k) fun e=>e▸Ta rfl
theorem kH {t:BS} {e:Addr} {p:Int} {r:List (Str×AV)} (hr:r.map (·.1)=RN) {x:Str} (h:(("octets":Str)::("environment":Str)::("at":Str)::RN).contains x=false):∃ks,(rf t e p r).map (·.1)=ks/\ks.contains x=false:=(aj _ (uL hr) h)
inductive CF (t:BS) (r:BS) (e:Addr) (g:GH) (c:UInt8) (x:Addr) (dx:Addr) (env:Ev) (rs:List (Str×AV)) (fa:Addr) (f:BS) (g':GH) (vs:LV) (an:LD):Prop
 |mk:(g'=g)->∀d f2,(d<:+r)->(an=wl x dx t e (dn env) (ps t d) rs fa f2)->(vs=([("self",some (.ref x)),("found",some (.ref fa)),("begin",some (.int (ps t (c::r))))]:LV))->(dX env f2 d=dX env f r)->(f2.length+3*d.length<=f.length+3*r.length)->((d=[]\/∃d',d=34::d'))->CF t r e g c x dx env rs fa f g' vs an
inductive CE (t:BS) (r:BS) (e:Addr) (g:GH) (c:UInt8) (x:Addr) (dx:Addr) (env:Ev) (rs:List (Str×AV)) (fa:Addr) (f:BS) (n:Nat) (g':GH) (vs:LV) (an:LD):Prop
 |mk:(g'=g)->∀d f2,(n=d.length)->(d<:+r)->(an=wl x dx t e (dn env) (ps t d) rs fa f2)->(vs=([("self",some (.ref x)),("found",some (.ref fa)),("begin",some (.int (ps t (c::r))))]:LV))->(dX env f2 d=dX env f r)->(f2.length+3*d.length<=f.length+3*r.length)->CE t r e g c x dx env rs fa f n g' vs an
noncomputable def xa:cD 174:=⟨_,fun P=>(bc _ _ _ rfl)⟩
noncomputable abbrev PT:aY:=dm xa ["self","found","begin"] rfl (by decide+kernel) (by decide+kernel)
theorem Pa:bE PT (bY xa.fd) ["self","found"] 2 []:=
 bE.mk' _ _ _ _ [] rfl (fun _=>rfl) (fun _=>rfl) .nil (fun w s X _ _=>Tz rfl) rfl rfl rfl (by decide+kernel) (by decide+kernel)
theorem OD {w:World} {H₀:Heap} (W:Wd w H₀) {g:GH} {x dx:Addr} {t:BS} {e:Addr} {env:Ev} (hE:gJ env) {rs:List (Str×AV)} (hrs:rs.map (·.1)=RN) {fa:Addr} {f:BS} {c:UInt8} {r:BS} (hs:(c::r)<:+t) (hz:t.length<=bf) (hf:f.length+3*r.length<=bf):
 ∀on,aA [.ref x,.ref fa] on->cz w H₀ g (wl x dx t e (dn env) (ps t (c::r)) rs fa f) (.call (.ref 174) ⟨on,[]⟩) 4 true
 (fun v g' own'=>∃f' r',dX env f r= .ok f' r'/\r'<:+r/\v= .none/\g'=g/\own'=wl x dx t e (dn env) (ps t r') rs fa f'/\f'.length+3*r'.length<=f.length+3*r.length)
 (fun or=>(dX env f r= .open/\or= .int (ps t (c::r)))\/∃k:Nat,dX env f r= .err k/\or= .int (t.length-k)):=
 gf (hnames:=by rfl) (hlen:=by rfl) (hv:=by rfl) Pa 3 [("self",some (.ref x)),("found",some (.ref fa)),("begin",none)] W fun Φ hw hH hg Kd hn ho hi Qf y'=>by
  have hr:=cY hs;refine ae ?_;refine l_ (hstar:=by rfl) (hs:=by rfl) (hw:=by rfl) ?_;refine ah rfl (aq ad (Tl ad) aQ aV (ah rfl (ak (aq ad (Tl ad) aQ aV (au (bD (af ?_))) rfl))) rfl);refine(aN rfl (by exact Ta rfl) ?_);refine aW (bt ?_);refine aL rfl ?_;refine aW (gj ?_);refine aa ad (bR ay.head (b_.set (aB.tail (aB.tail aB.head))) aV ?_);refine cu ?_;rw [aU];refine ae ?_;refine jE (CF t r e g c x dx env rs fa f) ?_ ?_
  ·intro Q1 Lb;refine fD hi (CE t r e g c x dx env rs fa f) ?_ r.length
    ⟨rfl,r,f,rfl,Tv _,rfl,rfl,rfl,Tj _⟩
   rintro n Qb F2 g' vs an ⟨rfl,d,f2,rfl,hd,rfl,rfl,hq,hl⟩;have K1:=hd.trans hr;cases d with
   |nil=>
    refine aR (aK (aq ad (Tl ad) aQ aV (aP d9 trivial (ah rfl (aq ad (Tl ad) ad bj (af (fO hz (ef (aF (am (fun _=>aR (aK (bg (aq ad (Tl ad) ad bj (aq ad (Tl ad) aQ aV ?_ rfl) rfl)) rfl)) (fun _=>bd (ql Lb ?_))))))) rfl))) rfl) rfl)
    ·rename_i hq;exact absurd hq (by unfold ps;exact Int.lt_irrefl _)
    ·skip;exact⟨rfl,rfl,[],f2,hd,rfl,rfl,hq,hl,.inl rfl⟩
   |cons a d=>
    have h1:=di K1;have h2:=eg K1;have ha:=el K1;have hdt':=cY K1;have K6:=cY hd;rw [lP] at hq;have F9:f2.length+3*d.length+3<=f.length+3*r.length:=by simp at hl;exact JU hl
    refine aR (aK (aq ad (Tl ad) aQ aV (aP d9 trivial (ah rfl (aq ad (Tl ad) ad bj (af (fO hz (ef (aF (am (fun zq=>aR (aK (bg (aq ad (Tl ad) ad bj (aq ad (Tl ad) aQ aV (cb hz h1 zq rfl (au (sf (aF (am (fun _=>bQ (bv (ag (aS (aK (bg (aq ad (Tl ad) ad bj (aq ad (Tl ad) aQ aV (cb hz h1 zq rfl (au (gI (aF (am (fun _=>ag (bm rfl (aH rfl rfl (Tb rfl) rfl (aa ad ?_)))) (fun _=>ag (aS (aK (bg (aq ad (Tl ad) ad bj (aq ad (Tl ad) aQ aV (cb hz h1 zq rfl (au (gI (aF (am (fun _=>ag (bm rfl (aH rfl rfl (Tb rfl) rfl (aa ad ?_)))) (fun _=>ae (bm rfl (aH rfl rfl (Tb rfl) rfl (aa a7 (gt (Tl aQ) (T_ trivial (ah rfl (bg (aq ad (Tl ad) ad bj (aq ad (Tl ad) aQ aV (cb hz h1 zq rfl (af ?_)) rfl) rfl)))))))))))))) rfl) rfl)) rfl)))))))) rfl) rfl)) rfl))))) (fun _=>bd (ql Lb ?_))))))) rfl) rfl)) rfl)) (fun _=>bd (ql Lb ?_))))))) rfl))) rfl) rfl)
    ·rename_i Sr K3;rw [ha] at Sr K3;rw [Tc (qB K3),Tk (o5 K3)] at hq;refine c_ (.inl ad) jC (kH hrs (by decide)) ⟨t4,?_⟩;refine ap rfl ?_;refine gl (B2 Φ.wd K1 hz (JT hf F9)) (Az hn) ?_ ?_
     ·(intro _ g' own' j' _;refine eV (j') fun Fd Sp th to Ce=>?_;subst th;subst to;subst Ce);have hb:=lL d;have hlen:=eE d;refine de (bI F2 ?_);rw [Tc (by simpa using Fd),dif_pos hlen] at hq;exact⟨(cp d).2.length,by simp;exact o1 hlen,rfl,(cp d).2,_,rfl,Sp.trans K6,rfl,rfl,hq,by rw [Tf];exact JS F9 hb hlen⟩
     ·(intro or j';refine a0 (j') fun th to=>?_;subst th;subst to);rw [Tk (show([]:BS).isEmpty=true from rfl)] at hq;exact .inr (aj 1 hq.symm (by unfold ps;rfl))
    ·rename_i Sr K3 Ru;rw [ha] at Sr K3 Ru;rw [Tc (wg Ru),Tc (we Ru),Tk (wc Ru)] at hq;refine c_ (.inl ad) iS (kH hrs (by decide)) ⟨tZ,?_⟩;refine ap rfl ?_;refine gl (B1 Φ.wd hE K1 hz (JR hf F9)) (Az hn) ?_ ?_
     ·(intro _ g' own' j' _;refine ax (j') fun q El=>eV El fun hv Sp th to Ce=>?_;subst th;subst to;subst Ce);have hb:=lB hE hv;have hlen:=eD hv;refine de (bI F2 ?_);rw [hv] at hq;simp only [] at hq;rw [dif_pos hlen] at hq;exact⟨q.2.length,by simp;exact o1 hlen,rfl,q.2,_,rfl,Sp.trans K6,rfl,rfl,hq,by rw [Tf];exact JQ F9 hb hlen⟩
     ·(intro or j';refine a0 (j') fun hv th=>?_;subst th);rw [hv] at hq;exact .inr (aj (d.length+1) hq.symm (by unfold ps;rfl))
    ·rename_i Sr K3 Ru;rw [ha] at Sr K3 Ru ⊢;rw [Tc (JP Sr K3 Ru),Tc (JO K3 Ru),Tc (JN Ru)] at hq;have Su:=a.toNat_lt;refine e_ (i:=(a.toNat:Nat)) (by exact ay.tail (ay.tail ay.head)) (JM hf F9) (Ay Su) (wk Su) ?_;refine de (ag (bz rfl (ak (aq ad (Tl ad) aQ aV (au (bD (aa ad (bR ay.head (b_.set (aB.tail (aB.tail aB.head))) aV (ca (bI F2 ?_)))))) rfl))));rw [aU];refine⟨d.length,by exact Ts _,rfl,d,f2++[a],rfl,K6,?_,rfl,hq,by rw [Tf];dsimp;exact JL F9⟩;rw [show((a.toNat:Nat):Int).toNat.toUInt8=a from by exact UInt8.ofNat_toNat]
    ·rename_i Sr;rw [ha] at Sr;have:a=34:=UInt8.toNat_inj.mp (by simp at Sr ⊢;exact s_ Sr);subst this;exact⟨rfl,rfl,34::d,f2,hd,rfl,rfl,by rw [lP];exact hq,hl,.inr ⟨d,rfl⟩⟩
    ·rename_i ht;exact absurd h2 ht
  rintro g' vs an ⟨rfl,d,f2,hd,rfl,rfl,hq,hl,hc⟩;have K1:=hd.trans hr;rcases hc with rfl|⟨d',rfl⟩
  ·refine ae (aS (aK (aq ad (Tl ad) aQ aV (aP d9 trivial (ah rfl (aq ad (Tl ad) ad bj (af (fO hz (sg (aF (am (fun _=>ag (eX (Tt (fun _=>(by(first|exact E8 hn (by assumption)|omega)))) (aa aQ ?_) rfl rfl rfl)) (fun _=>bq (ag (bz rfl (ak (aq ad (Tl ad) aQ aV (au (bD (aa ad (bR ay.head (b_.set (aB.tail (aB.tail aB.head))) aV (ca (ql y' ?_)))))) rfl)))))))))) rfl))) rfl) rfl))
   ·rw [rS] at hq;exact .inl ⟨hq.symm,rfl⟩
   ·rename_i h;exact absurd h (by unfold ps;simp)
  ·have h2:=eg K1;refine ae (aS (aK (aq ad (Tl ad) aQ aV (aP d9 trivial (ah rfl (aq ad (Tl ad) ad bj (af (fO hz (sg (aF (am (fun _=>ag (eX (Tt (fun _=>(by(first|exact zv h2 (by assumption)|omega)))) (aa aQ ?_) rfl rfl rfl)) (fun _=>bq (ag (bz rfl (ak (aq ad (Tl ad) aQ aV (au (bD (aa ad (bR ay.head (b_.set (aB.tail (aB.tail aB.head))) aV (ca (ql y' ?_)))))) rfl)))))))))) rfl))) rfl) rfl))
   ·(first|exact(zv h2 (by assumption)).elim|omega)
   ·rw [aU];rw [lP,Tk (by decide)] at hq;exact(dH _ (cN (List.Sublist.refl _) (cA f2 d' (bF hq.symm (cY hd) rfl rfl rfl (by simp at hl;exact JK hl)))))
noncomputable abbrev vR:BS:=[32,9,13,10,59,125]
theorem qK:Gl "COMMAND_ENDS" (.bytes vR):=⟨fun w=>.inl (aj _ rfl ⟨_,rfl⟩),by decide+kernel⟩
theorem BN:bB (.ref 174):=fun w=>rfl
noncomputable def cv (t:BS):Prop:=∀c∈t,c.toNat≠9/\c.toNat≠13
theorem qM {c:UInt8} (h:c.toNat≠9/\c.toNat≠13):vR.contains c=dF c.toNat:=by
 have e:∀n:UInt8,(c==n)=(c.toNat==n.toNat):=fun n=>by
  rw [Bool.eq_iff_iff];simp [UInt8.toNat_inj]
 simp only [vR,List.contains_cons,List.contains_nil,e,dF];have h9:(c.toNat==9)=false:=by simp [h.1]
 have h13:(c.toNat==13)=false:=by simp [h.2]
 show(c.toNat==32||(c.toNat==9||(c.toNat==13||(c.toNat==10||(c.toNat==59||(c.toNat==125||false))))))=_;rw [h9,h13];simp [Bool.or_assoc]
theorem pf {t r:BS} {c:UInt8} (h:cv t) (hs:(c::r)<:+t):c.toNat≠9/\c.toNat≠13:=h c (hs.subset (SZ ..))
theorem CX {r:BS} {q:BS×BS} (h:gu r=some q):q.1.length+q.2.length<=r.length:=by
 unfold gu at h
 split at h
 ·cases h;show(r.takeWhile _).length+(List.tail _).length<=_;rw [List.length_tail,nV];have:=(lO (·!=39) r).length_le;exact JJ this
 ·cases h
noncomputable abbrev ol (x dx:Addr) (t:BS) (e:Addr) (ks:List (BS×AV)) (p:Int) (r:List (Str×AV)):LD:=[(x,.inst 291 dx (rf t e p r)),(e,.dictB ks)]
noncomputable abbrev wv (x:Addr) (b:Int) (fa:Addr) (bare:Bool) (o:Option AV):LV:=[("self",some (.ref x)),("begin",some (.int b)),("found",some (.ref fa)),("is_bare",some (.bool bare)),("octet",o)]
inductive CD (t:BS) (r:BS) (e:Addr) (g:GH) (x:Addr) (dx:Addr) (env:Ev) (rs:List (Str×AV)) (fa:Addr) (g':GH) (vs:LV) (an:LD):Prop
 |mk:(g'=g)->∀d f2 b o,(d<:+r)->(an=wl x dx t e (dn env) (ps t d) rs fa f2)->(vs=wv x (ps t r) fa b o)->(bO env true true [] r= .ok f2 b d)->(f2.length+3*d.length<=3*r.length)->CD t r e g x dx env rs fa g' vs an
inductive CB (t:BS) (r:BS) (e:Addr) (g:GH) (x:Addr) (dx:Addr) (env:Ev) (rs:List (Str×AV)) (fa:Addr) (n:Nat) (g':GH) (vs:LV) (an:LD):Prop
 |mk:(g'=g)->∀d f2 b o,(n=d.length)->(d<:+r)->(an=wl x dx t e (dn env) (ps t d) rs fa f2)->(vs=wv x (ps t r) fa b o)->(bO env (decide (d.length=r.length)) b f2 d=bO env true true [] r)->(f2.length+3*d.length<=3*r.length)->CB t r e g x dx env rs fa n g' vs an
noncomputable def xc:cD 160:=⟨_,fun P=>(bc _ _ _ rfl)⟩
noncomputable abbrev PV:aY:=dm xc ["self","begin","found","is_bare","octet"] rfl (by decide+kernel) (by decide+kernel)
theorem Pc:bE PV (bY xc.fd) ["self"] 1 []:=
 bE.mk' _ _ _ _ [] rfl (fun _=>rfl) (fun _=>rfl) .nil (fun w s X _=>Tz rfl) rfl rfl rfl (by decide+kernel) (by decide+kernel)
theorem OF {w:World} {H₀:Heap} (W:Wd w H₀) {g:GH} {x dx:Addr} {t:BS} {e:Addr} {env:Ev} (hE:gJ env) {rs:List (Str×AV)} (hrs:rs.map (·.1)=RN) {r:BS} (hr:r<:+t) (hN:cv t) (hz:4*t.length<=bf):
 ∀on,aA [.ref x] on->cz w H₀ g (ol x dx t e (dn env) (ps t r) rs) (.call (.ref 160) ⟨on,[]⟩) 5 true
 (fun v g' own'=>∃f b r' tp,bO env true true [] r= .ok f b r'/\r'<:+r/\f.length+3*r'.length<=3*r.length/\v= .ref tp/\g'=g/\own'=ol x dx t e (dn env) (ps t r') rs++[(tp,.tuple [.bytes f,.bool b])])
 (fun or=>∃k:Nat,bO env true true [] r= .err k/\or= .int (t.length-k)):=
 gf (hnames:=by rfl) (hlen:=by rfl) (hv:=by rfl) Pc 4 [("self",some (.ref x)),("begin",none),("found",none),("is_bare",none),("octet",none)] W fun Φ hw hH hg Kd hn ho hi Qf y'=>by
  have K5:t.length<=bf:=by exact Ax hz
  have Sm:=hr.length_le;refine ae ?_;refine bX (names:=["begin","found","is_bare"]) ?_;refine ah rfl (aq ad (Tl ad) aQ aV (ah rfl ?_) rfl);refine aP kh trivial ?_;refine af ?_;refine DC ?_;intro fa hfa;show TG _ _ _ _ (wl x dx t e (dn env) (ps t r) rs fa []) _ _ _;refine ap rfl ?_;refine(aN rfl (by exact Ta rfl) ?_);refine aW (aJ ?_);refine aL rfl ?_;refine aW (aJ ?_);refine aL rfl ?_;refine aW (aJ ?_);refine aL rfl ?_;refine cu ?_;refine ae ?_;refine jE (CD t r e g x dx env rs fa) ?_ ?_
  ·intro Q1 Lb;refine fD hi (CB t r e g x dx env rs fa) ?_ r.length
    ⟨rfl,r,[],true,none,rfl,Tv _,rfl,rfl,by simp,by simp⟩
   rintro n Qb F2 g' vs an ⟨rfl,d,f2,b,o,rfl,hd,rfl,rfl,hq,hl⟩;have K1:=hd.trans hr;cases d with
   |nil=>
    refine aR (aK (aq ad (Tl ad) aQ aV (aP d9 trivial (ah rfl (aq ad (Tl ad) ad bj (af (fO K5 (ef (aF (am (fun _=>aR (aK (bg (aq ad (Tl ad) ad bj (aq ad (Tl ad) aQ aV ?_ rfl) rfl)) rfl)) (fun _=>bd (ql Lb ?_))))))) rfl))) rfl) rfl)
    ·rename_i hq;exact absurd hq (by unfold ps;exact Int.lt_irrefl _)
    ·skip;exact⟨rfl,rfl,[],f2,b,o,hd,rfl,rfl,by rw [←hq,jv],hl⟩
   |cons a d=>
    have ha:=el K1;have hdt':=cY K1;have K6:=cY hd;have SO:=qM (pf hN K1);have hdr:=hd.length_le;have hst':∀d2:BS,d2.length<=d.length->decide (d2.length=r.length)=false:=fun d2 h=>decide_eq_false (by simp at hdr;exact DK hdr h);rw [qk] at hq;have F9:f2.length+3*d.length+3<=3*r.length:=by simp at hl;exact wh hl
    refine aR (aK (aq ad (Tl ad) aQ aV (aP d9 trivial (ah rfl (aq ad (Tl ad) ad bj (af (fO K5 (ef (aF (am (fun _=>aR (aK (bg (aq ad (Tl ad) ad bj (aq ad (Tl ad) aQ aV ?_ rfl) rfl)) rfl)) (fun _=>bd (ql Lb ?_))))))) rfl))) rfl) rfl);rotate_left
    ·rename_i ht;exact absurd (eg K1) ht
    refine cb K5 (di K1) (eg K1) (by exact rfl) ?_;rw [ha];refine fT qK ?_;refine vP ?_;rw [SO];refine aF (cQ (fun _=>bQ (bv (ae (aI rfl (bg (aq ad (Tl ad) ad bj (aq ad (Tl ad) aQ aV ?_ rfl) rfl)))))) (fun _=>bd (ql Lb ?_)));rotate_left
    ·rename_i he;have he:dF a.toNat=true:=by simpa using he
     rw [Tk he] at hq;exact⟨rfl,rfl,a::d,f2,b,o,hd,rfl,rfl,hq.symm,hl⟩
    refine cb K5 (di K1) (eg K1) (by exact rfl) ?_;rw [ha];rename_i he;have he:dF a.toNat=false:=by simpa using he
    rw [Tc (by rw [he];decide)] at hq;refine aL rfl (ae (aS (aC rfl (am (fun _=>ag (bm rfl (aH rfl rfl (Tb rfl) rfl (aa ad ?_)))) (fun _=>ag (aS (aC rfl (am (fun _=>ag (bm rfl (aH rfl rfl (Tb rfl) rfl (aa ad ?_)))) (fun _=>ag (aS (aC rfl (am (fun _=>ag (bm rfl (aH rfl rfl (Tb rfl) rfl (aa ad ?_)))) (fun _=>ag (aS (aC rfl (am (fun _=>ag (bm rfl (aH rfl rfl (Tb rfl) rfl (aa ad ?_)))) (fun _=>ag (aS (aR (aC rfl (am (fun _=>aR (aK (aq ad (Tl ad) aQ aV (aa a7 (gI (aF (am (fun _=>bQ (bv (ae (bm rfl (aH rfl rfl (Tb rfl) rfl (aa aQ (gq (Tl aQ) (T_ trivial (ah rfl (aH rfl rfl (Tb rfl) rfl (aq ad (Tl ad) a7 fJ (kz (Tl a7) (T_ trivial (ap rfl ?_))) rfl))))))))))) (fun _=>bd (ae (bm rfl (aH rfl rfl (Tb rfl) rfl (aa aQ (gt (Tl aQ) (T_ trivial (ap rfl ?_)))))))))))) rfl) rfl)) (fun _=>bd (ae (bm rfl (aH rfl rfl (Tb rfl) rfl (aa aQ (gt (Tl aQ) (T_ trivial (ap rfl ?_)))))))))))))))))))))))))))))
    ·rename_i Sv;rw [Tk (wb Sv)] at hq;refine c_ (.inl ad) mG (kH hrs (by decide)) ⟨BO,?_⟩;refine ap rfl ?_;refine gl (OE Φ.wd K1 K5 (Aw hz K5 Sm F9)) (zJ hn) ?_ ?_
     ·(intro _ g' own' j' _;refine ax (j') fun q El=>eV El fun hv Sp th to Ce=>?_;subst th;subst to;subst Ce);have hb:=CX hv;have hlen:=qr hv;refine de (ag (aI rfl (fg (aL rfl (bI F2 ?_)))));rw [hv] at hq;simp only [] at hq;rw [dif_pos hlen] at hq;exact⟨q.2.length,by simp;exact o1 hlen,rfl,q.2,_,_,_,rfl,Sp.trans K6,rfl,rfl,by rw [hst' _ hlen];exact hq,by rw [Tf];exact JI F9 hb hlen⟩
     ·(intro or j';refine a0 (j') fun hv th=>?_;subst th);rw [hv] at hq;exact(aj (d.length+1) hq.symm (by unfold ps;rfl))
    ·rename_i Sv Sr;rw [Tc (A3 Sr),Tk (s_ Sr)] at hq;refine c_ (.inl ad) mH (kH hrs (by decide)) ⟨BN,?_⟩;refine ap rfl ?_;refine gl (OD Φ.wd hE hrs K1 K5 (JH hz K5 Sm F9)) (JG hn) ?_ ?_
     ·(intro _ g' own' j' _;refine eC (j') fun f3 r3 hv Sp th to Ce hb=>?_;subst th;subst to;subst Ce);have hlen:=qN env hv;refine de (ag (aI rfl (fg (aL rfl (bI F2 ?_)))));rw [hv] at hq;simp only [] at hq;rw [dif_pos hlen] at hq;exact⟨r3.length,by simp;exact o1 hlen,rfl,r3,_,_,_,rfl,Sp.trans K6,rfl,rfl,by rw [hst' _ hlen];exact hq,by exact JF F9 hb⟩
     ·rintro or (⟨hv,rfl⟩|⟨k,hv,rfl⟩)
      ·rw [hv] at hq;exact(aj (d.length+1) hq.symm (by unfold ps;rfl))
      ·rw [hv] at hq;exact(aj k hq.symm rfl)
    ·rename_i Sv Sr K3;rw [Tc (zV K3),Tc (qB K3),Tk (o5 K3)] at hq;refine c_ (.inl ad) jC (kH hrs (by decide)) ⟨t4,?_⟩;refine ap rfl ?_;refine gl (B2 Φ.wd K1 K5 (Aw hz K5 Sm F9)) (zJ hn) ?_ ?_
     ·(intro _ g' own' j' _;refine eV (j') fun Fd Sp th to Ce=>?_;subst th;subst to;subst Ce);have hb:=lL d;have hlen:=eE d;refine de (ag (aI rfl (fg (aL rfl (bI F2 ?_)))));rw [Tc (by simpa using Fd),dif_pos hlen] at hq;exact⟨(cp d).2.length,by simp;exact o1 hlen,rfl,(cp d).2,_,_,_,rfl,Sp.trans K6,rfl,rfl,by rw [hst' _ hlen];exact hq,by rw [Tf];exact JE F9 hb hlen⟩
     ·(intro or j';refine a0 (j') fun th to=>?_;subst th;subst to);rw [Tk (show([]:BS).isEmpty=true from rfl)] at hq;exact(aj 1 hq.symm (by unfold ps;rfl))
    ·rename_i Sv Sr K3 Ru;rw [Tc (DG Ru),Tc (wg Ru),Tc (we Ru),Tk (wc Ru)] at hq;refine c_ (.inl ad) iS (kH hrs (by decide)) ⟨tZ,?_⟩;refine ap rfl ?_;refine gl (B1 Φ.wd hE K1 K5 (JD hz Sm F9)) (zJ hn) ?_ ?_
     ·(intro _ g' own' j' _;refine ax (j') fun q El=>eV El fun hv Sp th to Ce=>?_;subst th;subst to;subst Ce);have hb:=lB hE hv;have hlen:=eD hv;refine de (ag (aI rfl (fg (aL rfl (bI F2 ?_)))));rw [hv] at hq;simp only [] at hq;rw [dif_pos hlen] at hq;exact⟨q.2.length,by simp;exact o1 hlen,rfl,q.2,_,_,_,rfl,Sp.trans K6,rfl,rfl,by rw [hst' _ hlen];exact hq,by rw [Tf];exact zU F9 hb hlen⟩
     ·(intro or j';refine a0 (j') fun hv th=>?_;subst th);rw [hv] at hq;exact(aj (d.length+1) hq.symm (by unfold ps;rfl))
    ·rename_i Sv Sr K3 Ru F4 SY;rw [Tc (wa F4),Tc (s9 F4),Tc (sZ F4),Tc (sY F4),Tk ⟨by exact A2 F4,decide_eq_true (by unfold ps at SY;exact A1 SY)⟩] at hq;refine kE (.inl a7) ?_;rw [iP];refine af ?_;have:=hE j0;refine fN (by exact ay.tail (ay.tail ay.head)) (by show _+(look env j0).length<=_;exact JC hz K5 Sm F9 this) ?_;refine de (ag (bz rfl (ak (aq ad (Tl ad) aQ aV (au (bD (aa ad (bR ay.head (b_.set (aB.tail (aB.tail aB.head))) aV (ag (aI rfl (fg (aL rfl (bI F2 ?_))))))))) rfl))));rw [aU];exact⟨d.length,by exact Ts _,rfl,d,_,_,_,rfl,K6,rfl,rfl,by rw [hst' _ (Tj _)];exact hq,by show(_++look env j0).length+_<=_;rw [Tf];exact JB F9 this⟩
    ·rename_i Sv Sr K3 Ru F4 SY;rw [Tc (wa F4),Tc (s9 F4),Tc (sZ F4),Tc (sY F4),Tc (by(intro j';refine a0 (j') fun _ q=>?_);have:=Tb q;unfold ps at SY;exact A0 SY this)] at hq;have Su:=a.toNat_lt;refine e_ (i:=(a.toNat:Nat)) (by exact ay.tail (ay.tail ay.head)) (Av hz Sm F9) (JA F4) (Jz F4) ?_;refine de (ae (bz rfl (ak (aq ad (Tl ad) aQ aV (au (bD (aa ad (bR ay.head (b_.set (aB.tail (aB.tail aB.head))) aV (ag (l9 (i8 (i5 F2 ?_)))))))) rfl))));rw [aU];refine⟨d.length,by exact Ts _,rfl,d,f2++[a],_,_,rfl,K6,?_,rfl,by rw [hst' _ (Tj _)];exact hq,by rw [Tf];dsimp;exact o6 F9⟩;rw [show((a.toNat:Nat):Int).toNat.toUInt8=a from by exact UInt8.ofNat_toNat]
    ·rename_i Sv Sr K3 Ru F4;rw [Tc (Jy Sv Sr K3 Ru F4),Tc (Jx Sr K3 Ru F4),Tc (Jw K3 Ru F4),Tc (Jv Ru F4),Tc (by(intro j';refine a0 (j') fun q _=>?_);exact AT F4 q)] at hq;have Su:=a.toNat_lt;refine e_ (i:=(a.toNat:Nat)) (by exact ay.tail (ay.tail ay.head)) (Av hz Sm F9) (Ay Su) (wk Su) ?_;refine de (ae (bz rfl (ak (aq ad (Tl ad) aQ aV (au (bD (aa ad (bR ay.head (b_.set (aB.tail (aB.tail aB.head))) aV (ag (l9 (i8 (i5 F2 ?_)))))))) rfl))));rw [aU];refine⟨d.length,by exact Ts _,rfl,d,f2++[a],_,_,rfl,K6,?_,rfl,by rw [hst' _ (Tj _)];exact hq,by rw [Tf];dsimp;exact o6 F9⟩;rw [show((a.toNat:Nat):Int).toNat.toUInt8=a from by exact UInt8.ofNat_toNat]
  rintro g' vs an ⟨rfl,d,f2,b,o,hd,rfl,rfl,hq,hl⟩;refine ag (aE ?_);refine bV ?_;refine ah (by exact rfl) ?_;refine aP d_ trivial ?_;refine ap rfl ?_;refine nv (.inl aQ) (Ju hz Sm hl) ?_;refine ap rfl ?_;refine⟨by exact Ta rfl,fun tp Sy=>?_⟩;refine aO (ql y' ?_);exact(dH _ (cN (.cons_cons _ (.cons_cons _ (.cons _ (.cons_cons _ .slnil)))) (ge f2 b d tp (bF hq hd hl rfl rfl rfl))))
theorem tY:bB (.ref 218):=fun w=>rfl
theorem BM:bB (.ref 225):=fun w=>rfl
theorem tX:bB (.ref 232):=fun w=>rfl
theorem BL:bB (.ref 239):=fun w=>rfl
theorem lZ:bB (.ref 246):=fun w=>rfl
theorem BK:bB (.ref 253):=fun w=>rfl
theorem tW:bB (.ref 260):=fun w=>rfl
theorem BJ:bB (.ref 267):=fun w=>rfl
theorem BI:bB (.ref 274):=fun w=>rfl
theorem BP:bB (.ref 160):=fun w=>rfl
noncomputable abbrev rr (cl:Addr) (cm:AV) (gp lg:Int) (bl br:Addr):List (Str×AV):=[("decide",.none),("commands",.ref cl),("command",cm),("group",.int gp),("last_group",.int lg),("blocks",.ref bl),("branches",.ref br)]
noncomputable abbrev ri (dx:Addr) (t:BS) (e:Addr) (p:Int) (cl:Addr) (cm:AV) (gp lg:Int) (bl br:Addr):AO:=.inst 291 dx (rf t e p (rr cl cm gp lg bl br))
structure Ca where
 c:Addr
 dx:Addr
 wl:Addr
 pl:Addr
 ws:List AV
 ps:List AV
noncomputable abbrev fP:Option Ca->AV
 |none=>.none
 |some k=>.ref k.c
noncomputable abbrev ci (k:Ca) (gp:Int):AO:=.inst 65 k.dx [("group",.int gp),("words",.ref k.wl),("places",.ref k.pl)]
noncomputable abbrev cF (k:Ca) (gp:Int):LD:=[(k.c,ci k gp),(k.wl,.list k.ws),(k.pl,.list k.ps)]
noncomputable abbrev bZ (gp:Int):Option Ca->LD
 |none=>[]
 |some k=>cF k gp
noncomputable def w6:cD 232:=⟨_,fun P=>(bc _ _ _ rfl)⟩
noncomputable abbrev PN:aY:=dm w6 ["self"] rfl (by decide+kernel) (by decide+kernel)
theorem O6:bE PN (bY w6.fd) ["self"] 1 []:=
 bE.mk' _ _ _ _ [] rfl (fun _=>rfl) (fun _=>rfl) .nil (fun w s X _=>Tz rfl) rfl rfl rfl (by decide+kernel) (by decide+kernel)
theorem BZ {w:World} {H₀:Heap} (W:Wd w H₀) {g:GH} {x dx e cl bl br:Addr} {t:BS} {p gp lg:Int} {cm:AV}:
 ∀on,aA [.ref x] on->cz w H₀ g [(x,ri dx t e p cl cm gp lg bl br)] (.call (.ref 232) ⟨on,[]⟩) 1 true
 (fun v g' own'=>v= .none/\g'=g/\own'=[(x,ri dx t e p cl cm (lg+1) (lg+1) bl br)]) (fun or=>False):=
 bK O6 0 [("self",some (.ref x))] W fun Φ hw hH hg Kd hn ho hi Qf y'=>by
  refine ae ?_;refine bz rfl (ak (aq ad (Tl ad) A6 fX (au (bD (aa ad (bR ay.head (b_.set (aB.tail (aB.tail (aB.tail (aB.tail (aB.tail (aB.tail (aB.tail aB.head)))))))) fX (ag (bz rfl (aq ad (Tl ad) A6 fX (aa ad (bR ay.head (b_.set (aB.tail (aB.tail (aB.tail (aB.tail (aB.tail (aB.tail aB.head))))))) iT (ca (ql y' ?_)))) rfl))))))) rfl));exact(bu _ _ .refl rfl rfl rfl)
noncomputable def w5:cD 239:=⟨_,fun P=>(bc _ _ _ rfl)⟩
noncomputable abbrev PM:aY:=dm w5 ["self"] rfl (by decide+kernel) (by decide+kernel)
theorem O5:bE PM (bY w5.fd) ["self"] 1 []:=
 bE.mk' _ _ _ _ [] rfl (fun _=>rfl) (fun _=>rfl) .nil (fun w s X _=>Tz rfl) rfl rfl rfl (by decide+kernel) (by decide+kernel)
theorem OA {w:World} {H₀:Heap} (W:Wd w H₀) {g:GH} {x dx e cl bl br:Addr} {t:BS} {p gp lg:Int} {cm:AV}:
 ∀on,aA [.ref x] on->cz w H₀ g [(x,ri dx t e p cl cm gp lg bl br),(br,.list [])] (.call (.ref 239) ⟨on,[]⟩) 1 true
 (fun v g' own'=>v= .bool true/\g'=g/\own'=[(x,ri dx t e p cl cm gp lg bl br),(br,.list [])]) (fun or=>False):=
 bK O5 0 [("self",some (.ref x))] W fun Φ hw hH hg Kd hn ho hi Qf y'=>by
  refine ae ?_;refine aE (Cm (yS (aq ad (Tl ad) ou eH (jp a7 (aF (cQ (fun _=>aO (ba (ql y' ?_))) (fun _=>gm rfl (bg (aq ad (Tl ad) ou eH (gk (au (jY ?_))) rfl)))))) rfl)))
  ·skip;exact(bu _ _ .refl rfl rfl rfl)
  ·rename_i h;exact absurd h (by exact fun h=>Bool.noConfusion h)
noncomputable abbrev g9 (xs:List AV):Option Ca->List AV
 |none=>xs
 |some k=>xs++[.ref k.c]
noncomputable abbrev xY (g:GH) (gp:Int):Option Ca->Prop
 |none=>True
 |some k=>g (k.c,ci k gp)/\g (k.wl,.list k.ws)
noncomputable abbrev pc:Option Ca->List AV
 |none=>[]
 |some k=>k.ws
noncomputable abbrev pd:Option Ca->List AV
 |none=>[]
 |some k=>k.ps
theorem eK {t:BS} {e:Addr} {p:Int} {cl:Addr} {cm:AV} {gp lg:Int} {bl br:Addr} {x:Str} (h:(("octets":Str)::("environment":Str)::("at":Str)::RN).contains x=false):∃ks,(rf t e p (rr cl cm gp lg bl br)).map (·.1)=ks/\ks.contains x=false:=(aj _ rfl h)
noncomputable def w4:cD 246:=⟨_,fun P=>(bc _ _ _ rfl)⟩
noncomputable abbrev PL:aY:=dm w4 ["self"] rfl (by decide+kernel) (by decide+kernel)
theorem O4:bE PL (bY w4.fd) ["self"] 1 []:=
 bE.mk' _ _ _ _ [] rfl (fun _=>rfl) (fun _=>rfl) .nil (fun w s X _=>Tz rfl) rfl rfl rfl (by decide+kernel) (by decide+kernel)
theorem r8 {w:World} {H₀:Heap} (W:Wd w H₀) {g:GH} {x dx e cl bl br:Addr} {t:BS} {p gp lg:Int} {cm:Option Ca} {xs:List AV} (hz:xs.length<=cq):
 ∀on,aA [.ref x] on->cz w H₀ g ((x,ri dx t e p cl (fP cm) gp lg bl br)::(br,.list [])::(cl,.list xs)::bZ gp cm) (.call (.ref 246) ⟨on,[]⟩) 2 true
 (fun v g' own'=>v= .none/\own'=[(x,ri dx t e p cl .none gp lg bl br),(br,.list []),(cl,.list (g9 xs cm))]/\xY g' gp cm) (fun or=>False):=
 bK O4 1 [("self",some (.ref x))] W fun Φ hw hH hg Kd hn ho hi Qf y'=>by
  cases cm with
  |none=>
   refine ae ?_;refine aS (aR (aK (aq ad (Tl ad) d7 cr (cP (js (aF (nO rfl (bd (bq (ag (bz rfl (cP (aa ad (bR ay.head (b_.set (aB.tail (aB.tail (aB.tail (aB.tail (aB.tail aB.head)))))) cr (ca (ql y' ?_))))))))))))) rfl) rfl));exact(bu _ _ .refl rfl rfl trivial)
  |some k=>
   simp only [bZ,fP];refine ae ?_;refine aS (aR (aK (aq ad (Tl ad) d7 cr (cP (js (aF (md rfl (aR (da rfl (aH rfl rfl (Tb rfl) rfl (aa ad ?_)))))))) rfl) rfl));refine c_ (.inl ad) r5 (eK (by decide)) ⟨BL,?_⟩;refine af ?_;refine a_ (OA Φ.wd) (o4 hn) (by(((try dsimp only [S9,S_]);(try dsimp only [S9,S_]);with_reducible (repeat (first|exact T1 _|refine cE (by repeat (first|exact aT.head|apply aT.tail)) ?_))))) (fun _ h=>h.elim) ?_;(intro _ _ _ j' _ led' e1;refine bp (j') fun th to Ce=>?_;subst th;subst to;subst Ce);(rename _++_=_=>e;try dsimp only [S9,S_] at e;subst e);refine aF (bv (bQ (bv (ag (bm rfl (aH rfl rfl (Tb rfl) rfl (aq ad (Tl ad) gy eG (dC (Tl aQ) (T_ trivial (ah rfl (aq ad (Tl ad) d7 cr (af ?_) rfl)))) rfl)))))));refine dB (by exact ay.tail (ay.tail ay.head)) hz ?_;refine de (ag (bz rfl (cP (aa ad (bR ay.head (b_.set (aB.tail (aB.tail (aB.tail (aB.tail (aB.tail aB.head)))))) cr (ca (ql y' ?_)))))));exact(eA _ ([(x,ri dx t e p cl .none gp lg bl br),(br,.list []),(cl,.list (xs++[.ref k.c]))]) (.fz (p:=(k.c,ci k gp)) rfl (by exact aT.tail (aT.tail (aT.tail aT.head))) (.fz (p:=(k.wl,.list k.ws)) rfl (by exact aT.tail (aT.tail (aT.tail aT.head))) (.less (List.Sublist.cons_cons _ (List.Sublist.cons_cons _ (List.Sublist.cons_cons _ (T2 _)))) .refl))) rfl rfl (.inr (.inl rfl)) (.inl rfl))
noncomputable def Bp:cD 62:=⟨_,fun P=>(bc _ _ _ rfl)⟩
noncomputable abbrev QU:aY:=dm Bp ["self","group","words","places"] rfl (by decide+kernel) (by decide+kernel)
theorem QF:bE QU (bY Bp.fd) ["self","group","words","places"] 4 []:=
 bE.mk' _ _ _ _ [] rfl (fun _=>rfl) (fun _=>rfl) .nil (fun w s X _ _ _ _=>Tz rfl) rfl rfl rfl (by decide+kernel) (by decide+kernel)
theorem QD {w:World} {H₀:Heap} (W:Wd w H₀) {g:GH} {x dx:Addr} {gp:Int} {a b:AV}:
 ∀on,aA [.ref x,.int gp,a,b] on->cz w H₀ g [(x,.inst 65 dx [])] (.call (.ref 62) ⟨on,[]⟩) 1 true
 (fun v g' own'=>v= .none/\g'=g/\own'=[(x,.inst 65 dx [("group",.int gp),("words",a),("places",b)])]) (fun or=>False):=
 bK QF 0 [("self",some (.ref x)),("group",some (.int gp)),("words",some a),("places",some b)] W fun Φ hw hH hg Kd hn ho hi Qf y'=>by
  refine ae ?_;refine bz rfl (aa a7 (aa ad ?_));refine bR (by exact ay.head) (b_.new [] rfl (by decide) (by simp)) (by exact h_) ?_;refine ae (bz rfl (aa aQ (aa ad ?_)));refine bR (by exact ay.head) (b_.new ["group"] rfl (by decide) (by exact Ta rfl)) (by exact hZ) ?_;refine ag (bz rfl (aa dc (aa ad ?_)));refine bR (by exact ay.head) (b_.new ["group","words"] rfl (by decide) (by exact Ta rfl)) (by exact jQ) ?_;refine ca (ql y' ?_);exact(bu _ _ .refl rfl rfl rfl)
noncomputable def Bo:cD 83:=⟨_,fun P=>(bc _ _ _ rfl)⟩
noncomputable abbrev QS:aY:=dm Bo ["self","commands"] rfl (by decide+kernel) (by decide+kernel)
theorem QE:bE QS (bY Bo.fd) ["self","commands"] 2 []:=
 bE.mk' _ _ _ _ [] rfl (fun _=>rfl) (fun _=>rfl) .nil (fun w s X _ _=>Tz rfl) rfl rfl rfl (by decide+kernel) (by decide+kernel)
theorem QC {w:World} {H₀:Heap} (W:Wd w H₀) {g:GH} {x dx:Addr} {a:AV}:
 ∀on,aA [.ref x,a] on->cz w H₀ g [(x,.inst 86 dx [])] (.call (.ref 83) ⟨on,[]⟩) 1 true
 (fun v g' own'=>v= .none/\g'=g/\own'=[(x,.inst 86 dx [("commands",a)])]) (fun or=>False):=
 bK QE 0 [("self",some (.ref x)),("commands",some a)] W fun Φ hw hH hg Kd hn ho hi Qf y'=>by
  refine ae ?_;refine bz rfl (aa a7 (aa ad ?_));refine bR (by exact ay.head) (b_.new [] rfl (by decide) (by simp)) (by exact iU) ?_;refine bq (ql y' ?_);exact(bu _ _ .refl rfl rfl rfl)
theorem Ok:Gl "Command" (.ref 65):=⟨fun w=>.inl (aj _ rfl rfl),by decide+kernel⟩
theorem oJ:Gl "CommandBlock" (.ref 86):=⟨fun w=>.inl (aj _ rfl rfl),by decide+kernel⟩
theorem Dl:bB (.ref 65):=fun w=>rfl
theorem Dk:bB (.ref 86):=fun w=>rfl
noncomputable def w7:cD 225:=⟨_,fun P=>(bc _ _ _ rfl)⟩
noncomputable abbrev PO:aY:=dm w7 ["self","octet"] rfl (by decide+kernel) (by decide+kernel)
theorem Cy:bE PO (bY w7.fd) ["self","octet"] 2 []:=
 bE.mk' _ _ _ _ [] rfl (fun _=>rfl) (fun _=>rfl) .nil (fun w s X _ _=>Tz rfl) rfl rfl rfl (by decide+kernel) (by decide+kernel)
theorem OB {w:World} {H₀:Heap} (W:Wd w H₀) {g:GH} {x dx e cl bl br:Addr} {t:BS} {p gp lg:Int} {cm:Option Ca} {xs:List AV} (hz:xs.length<=cq) {o:Nat} (h9:o=10\/o=59):
 ∀on,aA [.ref x,.int (o:Nat)] on->cz w H₀ g ((x,ri dx t e p cl (fP cm) gp lg bl br)::(br,.list [])::(cl,.list xs)::bZ gp cm) (.call (.ref 225) ⟨on,[]⟩) 3 true
 (fun v g' own'=>v= .none/\own'=[(x,ri dx t e (p+1) cl .none (if o=10 then lg+1 else gp) (if o=10 then lg+1 else lg) bl br),(br,.list []),(cl,.list (g9 xs cm))]/\xY g' gp cm) (fun or=>False):=
 bK Cy 2 [("self",some (.ref x)),("octet",some (.int (o:Nat)))] W fun Φ hw hH hg Kd hn ho hi Qf y'=>by
  refine ae ?_;refine bz rfl (ak (aq ad (Tl ad) aQ aV (au (bD (aa ad (bR ay.head (b_.set (aB.tail (aB.tail aB.head))) aV (ae (aS (ch (aC rfl (am (fun _=>bv (ag (bm rfl (aH rfl rfl (Tb rfl) rfl (aa ad ?_))))) (fun _=>ch (aC rfl (am (fun _=>bv (ag (bm rfl (aH rfl rfl (Tb rfl) rfl (aa ad ?_))))) (fun _=>cL (bd (bq (ag (aS (aC rfl (am (fun _=>ag (bm rfl (aH rfl rfl (Tb rfl) rfl (aa ad ?_)))) (fun _=>bq (ql y' ?_))))))))))))))))))))) rfl))
  ·rename_i h;have h:o=10:=by exact qC h
   refine c_ (.inl ad) fH (eK (by decide)) ⟨lZ,?_⟩;refine af ?_;refine a_ (a':=[]) (r8 Φ.wd hz) (o7 hn) (by rw [T7]) (fun _ h=>h.elim) ?_;(intro _ _ _ j' _ led' e1;refine bp (j') fun th to hf=>?_;subst th;subst to);(rename _++_=_=>e;(try dsimp only [S9,S_,cF,bZ] at e);(try dsimp only [S9,S_] at e);subst e);refine de (ag (aS (aC rfl (am (fun _=>ag (bm rfl (aH rfl rfl (Tb rfl) rfl (aa ad ?_)))) (fun _=>bq (ql y' ?_))))))
   ·refine c_ (.inl ad) kn (eK (by decide)) ⟨tX,?_⟩;refine af ?_;refine a_ (BZ Φ.wd) (qz hn) (by(((try dsimp only [S9,S_,cF,bZ]);(try dsimp only [S9,S_]);with_reducible (repeat (first|exact T1 _|refine cE (by repeat (first|exact aT.head|apply aT.tail)) ?_))))) (fun _ h=>h.elim) ?_;(intro _ _ _ j' _ led' e1;refine bp (j') fun th to Ce=>?_;subst th;subst to;subst Ce);(rename _++_=_=>e;(try dsimp only [S9,S_,cF,bZ] at e);(try dsimp only [S9,S_] at e);subst e);refine de (ql y' ?_);rw [Tk h,Tk h];exact(bu _ _ .refl rfl rfl hf)
   ·(first|exact(Jt (by assumption) (by assumption)).elim|omega)
  ·rename_i h1 h;have h:o=59:=by exact Js h
   refine c_ (.inl ad) fH (eK (by decide)) ⟨lZ,?_⟩;refine af ?_;refine a_ (a':=[]) (r8 Φ.wd hz) (o7 hn) (by rw [T7]) (fun _ h=>h.elim) ?_;(intro _ _ _ j' _ led' e1;refine bp (j') fun th to hf=>?_;subst th;subst to);(rename _++_=_=>e;(try dsimp only [S9,S_,cF,bZ] at e);(try dsimp only [S9,S_] at e);subst e);refine de (ag (aS (aC rfl (am (fun _=>ag (bm rfl (aH rfl rfl (Tb rfl) rfl (aa ad ?_)))) (fun _=>bq (ql y' ?_))))))
   ·(first|exact(Jr (by assumption) (by assumption)).elim|omega)
   ·rw [Tc (Au ‹_›),Tc (Au ‹_›)];exact(bu _ _ .refl rfl rfl hf)
  all_goals (first|exact(Jq (by assumption) (by assumption) (by assumption)).elim|exact(Jp h9 (by assumption) (by assumption) (by assumption)).elim|omega)
theorem Ds {w:World} {H₀:Heap} (W:Wd w H₀) {g:GH} {x dx e cl bl br:Addr} {t:BS} {p gp lg:Int} {cm:AV}:
 ∀on,aA [.ref x,.int (32:Nat)] on->cz w H₀ g [(x,ri dx t e p cl cm gp lg bl br)] (.call (.ref 225) ⟨on,[]⟩) 3 true
 (fun v g' own'=>v= .none/\g'=g/\own'=[(x,ri dx t e (p+1) cl cm gp lg bl br)]) (fun or=>False):=
 bK Cy 2 [("self",some (.ref x)),("octet",some (.int (32:Nat)))] W fun Φ hw hH hg Kd hn ho hi Qf y'=>by
  refine ae ?_;refine bz rfl (ak (aq ad (Tl ad) aQ aV (au (bD (aa ad (bR ay.head (b_.set (aB.tail (aB.tail aB.head))) aV (ae (aS (ch (aC rfl (am (fun _=>bv (ag (bm rfl (aH rfl rfl (Tb rfl) rfl (aa ad ?_))))) (fun _=>ch (aC rfl (am (fun _=>bv (ag (bm rfl (aH rfl rfl (Tb rfl) rfl (aa ad ?_))))) (fun _=>cL (bd (bq (ag (aS (aC rfl (am (fun _=>ag (bm rfl (aH rfl rfl (Tb rfl) rfl (aa ad ?_)))) (fun _=>bq (ql y' ?_))))))))))))))))))))) rfl))
  ·exact(As ‹_›).elim
  ·exact(Jo ‹_›).elim
  ·exact(As ‹_›).elim
  ·skip;exact(bu _ _ .refl rfl rfl rfl)
noncomputable def wZ:cD 260:=⟨_,fun P=>(bc _ _ _ rfl)⟩
noncomputable abbrev PJ:aY:=dm wZ ["self","word","place"] rfl (by decide+kernel) (by decide+kernel)
theorem O2:bE PJ (bY wZ.fd) ["self","word","place"] 3 []:=
 bE.mk' _ _ _ _ [] rfl (fun _=>rfl) (fun _=>rfl) .nil (fun w s X _ _ _=>Tz rfl) rfl rfl rfl (by decide+kernel) (by decide+kernel)
theorem BY {w:World} {H₀:Heap} (W:Wd w H₀) {g:GH} {x dx e cl bl br:Addr} {t:BS} {p gp lg:Int} {cm:Option Ca} {wv pv:AV} (hz:(pc cm).length<=cq) (hz2:(pd cm).length<=cq) (hwv:wv.handed=true):
 ∀on,aA [.ref x,wv,pv] on->cz w H₀ g ((x,ri dx t e p cl (fP cm) gp lg bl br)::bZ gp cm) (.call (.ref 260) ⟨on,[]⟩) 4 true
 (fun v g' own'=>v= .none/\g'=g/\∃k,own'=(x,ri dx t e p cl (.ref k.c) gp lg bl br)::cF k gp/\k.ws=pc cm++[wv]/\k.ps=pd cm++[pv]) (fun or=>False):=
 bK O2 3 [("self",some (.ref x)),("word",some wv),("place",some pv)] W fun Φ hw hH hg Kd hn ho hi Qf y'=>by
  cases cm with
  |none=>
   simp only [bZ,fP];refine ae ?_;refine aS (aK (aq ad (Tl ad) d7 cr (cP (e9 (aF (ft rfl (ag (bz rfl ?_)))))) rfl) rfl);refine aP Ok Dl ?_;refine ah rfl (aq ad (Tl ad) m9 iT (ah rfl ?_) rfl);refine bL (af ⟨by exact Tn _,fun wl hwl=>?_⟩);refine ah rfl ?_;refine bL (af ⟨by exact Tn _,fun pl hpl=>?_⟩);refine af ?_;refine pr (fI:=62) (n:=1) (Qc:=fun v g' own'=>∃x dx,v= .ref x/\g'=g/\own'=[(x,.inst 65 dx [("group",.int gp),("words",.ref wl),("places",.ref pl)])]) (fun w=>rfl) (fun w=>⟨rfl,rfl⟩) (fun x dx hx K9 ra A o s ar hs=>?_) (Jm hn) ?_
   ·refine cZ (QD Φ.wd (.ref x::K9) (.cons rfl ra) A o s ar hs) fun r s' zp28=>bp zp28 fun e1 e2 hr=>(aN e1 e2 ?_);rcases r with v|(v|_|_|v)<;>try exact hr
    obtain⟨av,g',own',h1,h2,h3,rfl,rfl,rfl⟩:=hr;exact⟨_,_,_,h1,h2,h3,rfl,x,dx,rfl,rfl,rfl⟩
   ·(intro _ g' own' j' _;refine cX (j') fun c cx th to Ce=>?_;subst th;subst to;subst Ce);simp only [S9,S_];refine aa ad (bR ay.head (b_.set (aB.tail (aB.tail (aB.tail (aB.tail (aB.tail aB.head)))))) cr (ae (bm rfl (aH rfl rfl (Tb rfl) rfl (gm rfl (aq ad (Tl ad) d7 cr (eY (Tl dc) a7 hZ (dC (Tl a7) (T_ trivial (ap rfl ?_))) rfl) rfl))))));refine dB (by exact ay.tail ay.head) (by assumption) ?_;refine de (ag (bm rfl (aH rfl rfl (Tb rfl) rfl (gm rfl (aq ad (Tl ad) d7 cr (eY (Tl dc) aQ jQ (dC (Tl aQ) (T_ trivial (ap rfl ?_))) rfl) rfl)))));refine dB (by exact ay.tail (ay.tail ay.head)) (by assumption) ?_;refine de (ql y' ?_);exact(cA _ _ (bJ (.turn (l':=(x,ri dx t e p cl (.ref c) gp lg bl br)::cF ⟨c,cx,wl,pl,[wv],[pv]⟩ gp) (by(((try dsimp only [S9,S_,cF,bZ]);(try dsimp only [S9,S_]);with_reducible (repeat (first|exact T1 _|refine cE (by repeat (first|exact aT.head|apply aT.tail)) ?_))))) .refl) rfl rfl (dH ⟨c,cx,wl,pl,[wv],[pv]⟩ (aN rfl rfl rfl))))
  |some k=>
   simp only [bZ,fP];refine ae ?_;refine aS (aK (aq ad (Tl ad) d7 cr (cP (e9 (aF (fc rfl (bq (ae (bm rfl (aH rfl rfl (Tb rfl) rfl (gm rfl (aq ad (Tl ad) d7 cr (eY (Tl a7) a7 hZ (dC (Tl aQ) (T_ trivial (ap rfl ?_))) rfl) rfl)))))))))) rfl) rfl);refine dB (by exact ay.tail (ay.tail ay.head)) hz ?_;refine de (ag (bm rfl (aH rfl rfl (Tb rfl) rfl (gm rfl (aq ad (Tl ad) d7 cr (eY (Tl a7) aQ jQ (dC (Tl dc) (T_ trivial (ap rfl ?_))) rfl) rfl)))));refine dB (by exact ay.tail (ay.tail (ay.tail ay.head))) hz2 ?_;refine de (ql y' ?_);exact(cA _ _ (bJ .refl rfl rfl (dH ⟨k.c,k.dx,k.wl,k.pl,k.ws++[wv],k.ps++[pv]⟩ (aN rfl rfl rfl))))
theorem yz:Gl "COMMAND_DIRECTIVES" (.ref 48):=⟨fun w=>.inl (aj _ rfl rfl),by decide+kernel⟩
theorem vm (f:BS):mA.contains f=true↔f∈jb:=by
 rw [List.contains_iff_mem];exact Iff.rfl
noncomputable def w0:cD 253:=⟨_,fun P=>(bc _ _ _ rfl)⟩
noncomputable abbrev PK:aY:=dm w0 ["self","place","word","is_bare"] rfl (by decide+kernel) (by decide+kernel)
theorem O3:bE PK (bY w0.fd) ["self"] 1 []:=
 bE.mk' _ _ _ _ [] rfl (fun _=>rfl) (fun _=>rfl) .nil (fun w s X _=>Tz rfl) rfl rfl rfl (by decide+kernel) (by decide+kernel)
theorem Oz {w:World} {H₀:Heap} (W:Wd w H₀) {g:GH} {x dx e cl bl br:Addr} {t:BS} {gp lg:Int} {cm:Option Ca} {env:Ev} (hE:gJ env) {r:BS} (hr:r<:+t) (hN:cv t) (hz:4*t.length<=bf)
 (hD:∀f b r',bO env true true [] r= .ok f b r'->¬(b=true/\f∈jb)) (hz1:(pc cm).length<=cq) (hz2:(pd cm).length<=cq):
 ∀on,aA [.ref x] on->cz w H₀ g ((x,ri dx t e (ps t r) cl (fP cm) gp lg bl br)::(e,.dictB (dn env))::bZ gp cm) (.call (.ref 253) ⟨on,[]⟩) 6 true
 (fun v g' own'=>v= .none/\g'=g/\∃f b r' k,bO env true true [] r= .ok f b r'/\r'<:+r/\f.length+3*r'.length<=3*r.length/\own'=(x,ri dx t e (ps t r') cl (.ref k.c) gp lg bl br)::(e,.dictB (dn env))::cF k gp/\k.ws=pc cm++[.bytes f]/\k.ps.length=(pd cm).length+1)
 (fun or=>∃k:Nat,bO env true true [] r= .err k/\or= .int (t.length-k)):=
 bK O3 5 [("self",some (.ref x)),("place",none),("word",none),("is_bare",none)] W fun Φ hw hH hg Kd hn ho hi Qf y'=>by
  refine ae ?_;refine aI rfl (aq ad (Tl ad) aQ aV (aL rfl (ae ?_)) rfl);refine dj ?_;refine aH rfl rfl (Tb rfl) rfl (aa ad ?_);refine c_ (.inl ad) yL (eK (by decide)) ⟨BP,?_⟩;refine af ?_;refine a_ (a':=bZ gp cm) (OF Φ.wd hE (rs:=rr cl (fP cm) gp lg bl br) rfl hr hN hz) (Jl hn) (by(((try dsimp only [S9,S_,cF,bZ]);(try dsimp only [S9,S_]);with_reducible (repeat (first|exact T1 _|refine cE (by repeat (first|exact aT.head|apply aT.tail)) ?_))))) (fun or h=>h) ?_;(intro _ _ _ j' _ led' e1;refine eT (j') fun f b r' tp hv Sp hlen th to Ce=>?_;subst th;subst to;subst Ce);(rename _++_=_=>e;(try dsimp only [S9,S_,cF,bZ] at e);(try dsimp only [S9,S_] at e);subst e);refine(bu tp _ rfl (.inl (Td _ (Td _ (SZ ..)))) rfl ?_);refine aW (bt ?_);refine aL rfl ?_;refine aW (bt ?_);refine aL rfl ?_;refine cu ?_;have hd:=hD f b r' hv;refine ae ?_;refine fY false ?_ ?_
  ·refine aR (da rfl (aa dc (aF (cQ (fun _=>aR (aK (aa aQ ?_) rfl)) (fun _=>?_)))))
   ·rename_i hb;refine fT yz ?_;refine y4 ?_;rw [show mA.contains f=false from Bool.eq_false_iff.mpr fun h=>hd ⟨hb,(vm f).mp h⟩];refine aF (bd ?_);exact(bJ rfl rfl rfl rfl)
   ·skip;exact(bJ rfl rfl rfl rfl)
  refine bd (ag (bm rfl (aH rfl rfl (Tb rfl) rfl (aa ad ?_))));refine c_ (.inl ad) k9 (eK (by decide)) ⟨tW,?_⟩;refine ap rfl ?_;refine a_ (a':=[(e,.dictB (dn env)),(tp,.tuple [.bytes f,.bool b])]) (BY Φ.wd hz1 hz2 rfl) (Aq hn) (List.Perm.cons _ (show List.Perm ([(e,AO.dictB (dn env)),(tp,.tuple [.bytes f,.bool b])]++bZ gp cm) _ from List.perm_append_comm)) (fun or h=>h.elim) ?_;(intro _ _ _ j' _ led' e1;refine bp (j') fun th to El=>ax El fun k La=>bp La fun Ce hk1 hk2=>?_;subst th;subst to;subst Ce);(rename _++_=_=>e;(try dsimp only [S9,S_,cF,bZ] at e);(try dsimp only [S9,S_] at e);subst e);refine de (bq (ql y' ?_));exact(cA _ _ (bJ (.turn (l':=(tp,.tuple [.bytes f,.bool b])::(x,ri dx t e (ps t r') cl (.ref k.c) gp lg bl br)::(e,.dictB (dn env))::cF k gp) (by(((try dsimp only [S9,S_,cF,bZ]);(try dsimp only [S9,S_]);with_reducible (repeat (first|exact T1 _|refine cE (by repeat (first|exact aT.head|apply aT.tail)) ?_))))) (.less (List.sublist_cons_self ..) .refl)) rfl rfl (ge f b r' k (bF hv Sp hlen rfl hk1 (by rw [hk2,Tf];rfl)))))
theorem Dh:Gl "command_is_bare" (.ref 308):=⟨fun w=>.inl (aj _ rfl rfl),by decide+kernel⟩
theorem BH:bB (.ref 308):=fun w=>rfl
theorem u7:Gl "COMMAND_PLAIN" (.bytes sO):=⟨fun w=>.inl (aj _ rfl ⟨_,rfl⟩),by decide+kernel⟩
theorem l0 (a:UInt8) (r:BS):gF (a::r)=(!(a.toNat==37||a.toNat==126)&&(a::r).all dW):=rfl
inductive xL (g:GH) (bb:BS) (i:Nat) (g':GH) (vs:LV) (an:LD):Prop
 |mk:(g'=g)->(an=[])->(i<=bb.length)->((bb.take i).all dW=true)->∀o1 o2,(vs=([("word",some (.bytes bb)),("octet",o1),("is_plain",o2)]:LV))->xL g bb i g' vs an
noncomputable def wV:cD 308:=⟨_,fun P=>(bc _ _ _ rfl)⟩
noncomputable abbrev PE:aY:=dm wV ["word","octet","is_plain"] rfl (by decide+kernel) (by decide+kernel)
theorem O1:bE PE (bY wV.fd) ["word"] 1 []:=
 bE.mk' _ _ _ _ [] rfl (fun _=>rfl) (fun _=>rfl) .nil (fun w s X _=>Tz rfl) rfl rfl rfl (by decide+kernel) (by decide+kernel)
theorem Ov {w:World} {H₀:Heap} (W:Wd w H₀) {g:GH} {b:BS} (hz:b.length<=bf):
 ∀on,aA [.bytes b] on->cz w H₀ g [] (.call (.ref 308) ⟨on,[]⟩) 2 true
 (fun v g' own'=>v= .bool (gF b)/\g'=g/\own'=[]) (fun or=>False):=
 bK O1 1 [("word",some (.bytes b)),("octet",none),("is_plain",none)] W fun Φ hw hH hg Kd hn ho hi Qf y'=>by
  have F0:bf=1000000:=rfl;have fin:∀{g':GH} {l1:LD} {x:Bool},g'=g->x=gF b->∃g2 l,dU g' l1 g2 l/\gO (fun v g2' own'=>v= .bool (gF b)/\g2'=g/\own'=[]) (.ret (.bool x)) g2 l:=by
   rintro g' l1 x rfl rfl;exact(bu _ _ (.less (T2 _) .refl) rfl rfl rfl)
  refine ae ?_;cases b with
  |nil=>
   refine aS (ch (aK (aa ad (bn (jZ (aF (cQ (fun _=>bv (ag (aE (fg (aO (ba (ql y' ?_))))))) (fun _=>ch (aK (bg (aa ad (au ?_))) rfl))))))) rfl))
   ·skip;exact fin rfl rfl
   ·rename_i h;trivial
  |cons a r=>
   have h1:(0:Int)<((a::r).length:Nat):=by simp
   refine fY (a.toNat==37||a.toNat==126) (TG.postless ?_) ?_
   ·refine ch (aK (aa ad (bn (jZ (aF (cQ (fun _=>?_) (fun _=>ch (aK (bg (aa ad (au (cb hz (Tt (fun _=>(by(first|exact uR (by assumption)|omega)))) h1 rfl ?_)))) rfl))))))) rfl)
    ·rename_i h;trivial
    refine bV ?_;refine ap rfl ?_;refine⟨by exact Ta rfl,fun tp Sy=>?_⟩;refine ug (ns:=[37,126]) (.inl (SZ ..)) ?_;have e:([37,126]:List Int).any (·==(((a::r).getD (Int.toNat 0) 0).toNat:Int))=(a.toNat==37||a.toNat==126):=by
     have ha:((a::r).getD (Int.toNat 0) 0)=a:=rfl;rw [ha];simp only [List.any_cons,List.any_nil,Bool.or_false];rw [Bool.eq_iff_iff];simp;exact ID
    rw [e];refine aF (cQ (fun _=>?_) (fun _=>cL ?_));all_goals (rename_i h;(((try (with_reducible (first|refine bd ?_ |refine bv ?_)));repeat (first|(with_unfolding_none (first|refine ba ?_ |refine aO ?_ |refine i8 ?_ |refine kI ?_ |refine ca ?_))|(with_reducible (first|refine ql (by assumption) ?_ |refine bI (by assumption) ?_ |refine ew (by assumption) ?_ |refine i5 (by assumption) ?_ |refine kF (by assumption) ?_ |refine eN (by assumption) ?_ |refine i9 (by assumption) ?_ |refine kJ (by assumption) ?_ |refine kK (by assumption) ?_)))));exact(e7 ([]) (T2 _) (by rw [h]) rfl rfl rfl))
   cases hb:(a.toNat==37||a.toNat==126) with
   |true=>
    refine bv (ag (aE (fg (aO (ba (ql y' ?_))))));exact fin rfl (by rw [l0,hb];rfl)
   |false=>
    have hbb:gF (a::r)=(a::r).all dW:=by rw [l0,hb];rfl
    generalize hbr:a::r=bb at *;refine bd ?_;refine bq ?_;refine ae ?_;refine jV (hs:=by intro _;rfl) ?_;refine aa ad ?_;refine iG (ht:=by intros;rfl) hi ke (xL g bb) (fun _ _ _ _ _=>trivial) ?_ ⟨rfl,rfl,Tn _,rfl,_,_,rfl⟩ ?_
    ·rintro i p Qb F2 g' vs an Lc ⟨rfl,rfl,K8,hall,o1,o2,rfl⟩ hp;have hg:bb.getD i 0=bb[i]:=by rw [TI,Th Lc];rfl
     have SI:(bb.take (i+1)).all dW=((bb.take i).all dW&&dW bb[i]):=by
      rw [List.take_succ_eq_append_getElem Lc,List.all_append];simp
     rw [hg];generalize hx:bb[i]=x at *;refine bt ?_;refine aL rfl (ae (aI rfl (Cm ?_)));refine aP qJ t5 ?_;refine ap rfl ?_;refine a_ (a':=[p]) (B3 Φ.wd) (o4 hn) (.refl _) (fun _ h=>h.elim) ?_;(intro _ _ _ j' _ led' e1;refine bp (j') fun th to Ce=>?_;subst th;subst to;subst Ce);(rename _++_=_=>e;(try dsimp only [S9,S_] at e);subst e);refine aF (cQ (fun _=>aL rfl (ag (aS (ib (da rfl (aa aQ (aF (cQ (fun _=>ag (aE (fg (aO (i9 F2 ?_))))) (fun _=>bq (eN F2 ?_)))))))))) (fun _=>iC (aa a7 ?_) rfl))
     ·rename_i h1 h2;rw [h1] at h2;cases h2
     ·rename_i h1 h2;exact⟨[],rfl,rfl,rfl,by exact Al Lc,by rw [SI,hall];unfold dW;rw [h1];rfl,_,_,rfl⟩
     ·rename_i h1;refine fT u7 ?_;refine kS ?_;refine aL rfl (ag (aS (ib (da rfl (aa aQ (aF (cQ (fun _=>ag (aE (fg (aO (i9 F2 ?_))))) (fun _=>bq (eN F2 ?_)))))))))
      ·rename_i h2;refine(aj ([]) rfl ?_);refine ba (ql y' ?_);refine fin rfl ?_;rw [hbb,eq_comm,List.all_eq_false];refine(aj x (by rw [←hx];exact List.getElem_mem _) ?_);unfold dW;rw [h1,Bool.false_or];simpa using h2
      ·rename_i h2;exact⟨[],rfl,rfl,rfl,by exact Al Lc,by rw [SI,hall];unfold dW;rw [h1];simpa using h2,_,_,rfl⟩
    ·rintro g' vs an ⟨rfl,rfl,_,hall,o1,o2,rfl⟩;refine ag (aE (fg (aO (ql y' ?_))));exact fin rfl (by rw [hbb,←hall,List.take_length])
theorem Dg:Gl "command_quoted" (.ref 315):=⟨fun w=>.inl (aj _ rfl rfl),by decide+kernel⟩
theorem BG:bB (.ref 315):=fun w=>rfl
theorem uQ (c:UInt8):(ej c).length<=4:=jr (P:=fun c=>(ej c).length<=4) (by decide+kernel) c
theorem ik (l:BS):(l.flatMap ej).length<=4*l.length:=by
 induction l with
 |nil=>exact Tj _
 |cons c l ih=>rw [List.flatMap_cons,Tf];exact IC (uQ c) ih
theorem Ed (n:Nat) (k:Nat) (hk:0<k):(n:Int).fdiv (k:Int)=((n/k:Nat):Int):=by rw [Int.fdiv_eq_ediv_of_nonneg _ (Ak hk)];rfl
theorem Eb (n:Nat) (k:Nat) (hk:0<k):(n:Int).fmod (k:Int)=((n%k:Nat):Int):=by rw [Int.fmod_eq_emod_of_nonneg _ (Ak hk)];rfl
inductive xK (g:GH) (fa:Addr) (b:BS) (i:Nat) (g':GH) (vs:LV) (an:LD):Prop
 |mk:(g'=g)->(i<=b.length)->(an=[(fa,.barr (34::(b.take i).flatMap ej))])->∀o1,(vs=([("word",some (.bytes b)),("found",some (.ref fa)),("octet",o1)]:LV))->xK g fa b i g' vs an
noncomputable def wU:cD 315:=⟨_,fun P=>(bc _ _ _ rfl)⟩
noncomputable abbrev PD:aY:=dm wU ["word","found","octet"] rfl (by decide+kernel) (by decide+kernel)
theorem O0:bE PD (bY wU.fd) ["word"] 1 []:=
 bE.mk' _ _ _ _ [] rfl (fun _=>rfl) (fun _=>rfl) .nil (fun w s X _=>Tz rfl) rfl rfl rfl (by decide+kernel) (by decide+kernel)
theorem Ou {w:World} {H₀:Heap} (W:Wd w H₀) {g:GH} {b:BS} (hz:4*b.length+2<=bf):
 ∀on,aA [.bytes b] on->cz w H₀ g [] (.call (.ref 315) ⟨on,[]⟩) 3 true
 (fun v g' own'=>v= .bytes (eO b)/\g'=g/\own'=[]) (fun or=>False):=
 bK O0 2 [("word",some (.bytes b)),("found",none),("octet",none)] W fun Φ hw hH hg Kd hn ho hi Qf y'=>by
  have F0:bf=1000000:=rfl;have fin:∀{g':GH} {l1:LD} {x:BS},g'=g->x=eO b->∃g2 l,dU g' l1 g2 l/\gO (fun v g2' own'=>v= .bytes (eO b)/\g2'=g/\own'=[]) (.ret (.bytes x)) g2 l:=by
   rintro g' l1 x rfl rfl;exact(bu _ _ (.less (T2 _) .refl) rfl rfl rfl)
  refine ae ?_;refine aS (da rfl ?_);refine aP Dh BH ?_;refine ap rfl ?_;refine a_ (a':=[]) (Ov Φ.wd (IB hz F0)) (o7 hn) (.refl _) (fun _ h=>h.elim) ?_;(intro _ _ _ j' _ led' e1;refine bp (j') fun th hg1 to=>?_;subst th;subst to);have hg1:=hg1.symm;subst hg1;(rename _++_=_=>e;(try dsimp only [S9,S_] at e);subst e);refine aF (cQ (fun _=>ag (aE (aa ad (aO (ba (ql y' ?_)))))) (fun _=>bq (ae (aI rfl ?_))))
  ·rename_i h;exact fin rfl (by unfold eO;rw [Tk h])
  rename_i hnb;refine aP kh trivial ?_;refine ap rfl ?_;refine DB (by dsimp;exact o2 F0) fun fa hfa=>?_;refine aL rfl (ae ?_);refine jV (hs:=by intro _;rfl) ?_;refine aa ad ?_;refine iG (ht:=by intros;rfl) hi ke (xK g fa b) (fun _ _ _ _ _=>trivial) ?_ ⟨rfl,Tn _,rfl,_,rfl⟩ ?_
  ·rintro i p Qb F2 g' vs an Lc ⟨rfl,K8,rfl,o1,rfl⟩ hp;have hgi:b.getD i 0=b[i]:=by rw [TI,Th Lc];rfl
   have SI:(b.take (i+1)).flatMap ej=(b.take i).flatMap ej++ej b[i]:=by
    rw [List.take_succ_eq_append_getElem Lc,List.flatMap_append];simp
   have hlen:=ik (b.take i);have htl:(b.take i).length=i:=by rw [List.length_take];exact EX Lc
   rw [hgi];generalize hx:b[i]=x at *;have Sx:=x.toNat_lt;refine bt ?_;refine aL rfl ?_;refine TG.postless ?_;refine ag (aS (aK (aa aQ ?_) rfl));refine bV ?_;refine ap rfl ?_;refine⟨by exact Ta rfl,fun tp Sy=>?_⟩;refine ug (ns:=[34,36,92]) (.inl (To _ (SZ ..))) ?_;have e:([34,36,92]:List Int).any (·==((x.toNat:Nat):Int))=decide (x.toNat=34\/x.toNat=36\/x.toNat=92):=by
    simp only [List.any_cons,List.any_nil,Bool.or_false];rw [Bool.eq_iff_iff];simp;exact EW Sx
   rw [e];simp only [S_,S9];refine aF (am (fun _=>ag (bm rfl (aH rfl rfl (Tb rfl) rfl (aa a7 (gq (Tl a7) (T_ trivial (ah rfl ?_))))))) (fun _=>ag (aS (ch (aC rfl (am (fun _=>bv (ag (bm rfl (aH rfl rfl (Tb rfl) rfl (aa a7 (gq (Tl a7) (T_ trivial (ah rfl ?_)))))))) (fun _=>ch (aC rfl (am (fun _=>bv (ag (bm rfl (aH rfl rfl (Tb rfl) rfl (aa a7 (gq (Tl a7) (T_ trivial (ah rfl ?_)))))))) (fun _=>cL (bd (ag (bm rfl (aH rfl rfl (Tb rfl) rfl (aa a7 (gt (Tl a7) (T_ trivial (ap rfl ?_))))))))))))))))))
   ·rename_i hin;refine aP d_ trivial ?_;refine ah (by exact rfl) ?_;refine bL ?_;refine ap rfl ?_;refine⟨by exact Ta rfl,fun lb SW=>?_⟩;refine af ?_;refine fe (ns:=[92,(x.toNat:Int)]) (.inl (To _ (SZ ..))) (by intro n' Sn;simp at Sn;exact IA Sx Sn) (by dsimp;exact o3 F0) ?_;refine af ?_;simp only [S_,S9];refine fN (by exact ay.tail ay.head) (by simp only [Tu,Tx,TC];exact Iz hz F0 Lc hlen htl) ?_;refine de ?_;refine(aj _ (.cons_cons _ (.cons_cons _ (T2 _))) ?_);refine eN F2 ?_;refine⟨_,rfl,rfl,Lc,?_,_,rfl⟩;rw [SI,ej,Tk hin];simp
   iterate 2
    have hlo2:x.toNat<32\/x.toNat=127:=by(first|exact Iy Sx ‹_›|exact Ix ‹_›)
    refine aP d_ trivial ?_;refine ah (by exact rfl) ?_;refine bL ?_;refine ah rfl (au (ah rfl (ak (au (ak (aa aQ (au (ky (Tb rfl) (Tb rfl) (bD (ah rfl (ak (au (ak (ak (aa aQ (au (ky (Tb rfl) (Tb rfl) (au (ei (Tb rfl) (bD (ah rfl (ak (au (ak (aa aQ (au (ei (Tb rfl) (bD (af ?_)))))))))))))))))))))))))))));(((try (with_reducible (first|refine bd ?_ |refine bv ?_)));repeat (first|(with_unfolding_none (first|refine ba ?_ |refine aO ?_ |refine i8 ?_ |refine kI ?_ |refine ca ?_))|(with_reducible (first|refine ql (by assumption) ?_ |refine bI (by assumption) ?_ |refine ew (by assumption) ?_ |refine i5 (by assumption) ?_ |refine kF (by assumption) ?_ |refine eN (by assumption) ?_ |refine i9 (by assumption) ?_ |refine kJ (by assumption) ?_ |refine kK (by assumption) ?_)))));refine⟨by exact Ta rfl,fun lb SW=>?_⟩;refine af ?_;have e1:((x.toNat:Nat):Int).fdiv 64=((x.toNat/64:Nat):Int):=Ed x.toNat 64 NM;have e2:((x.toNat:Nat):Int).fdiv 8=((x.toNat/8:Nat):Int):=Ed x.toNat 8 z9;have e3:((x.toNat/8:Nat):Int).fmod 8=((x.toNat/8%8:Nat):Int):=Eb (x.toNat/8) 8 z9;have e4:((x.toNat:Nat):Int).fmod 8=((x.toNat%8:Nat):Int):=Eb x.toNat 8 z9;rw [e1,e2,e3,e4];refine fe (ns:=[92,48+((x.toNat/64:Nat):Int),48+((x.toNat/8%8:Nat):Int),48+((x.toNat%8:Nat):Int)]) (.inl (To _ (SZ ..))) (by intro n' Sn;simp only [T4,List.not_mem_nil,or_false] at Sn;(first|exact EV Sx (by assumption) e3 e4 Sn|exact EP (by assumption) Sn|omega)) (by dsimp;exact NL F0) ?_;refine af ?_;simp only [S_,S9];refine fN (by exact ay.tail ay.head) (by simp only [Tu,Tx,TC];exact NK hz F0 Lc hlen htl) ?_;refine de ?_;(((try (with_reducible (first|refine bd ?_ |refine bv ?_)));repeat (first|(with_unfolding_none (first|refine ba ?_ |refine aO ?_ |refine i8 ?_ |refine kI ?_ |refine ca ?_))|(with_reducible (first|refine ql (by assumption) ?_ |refine bI (by assumption) ?_ |refine ew (by assumption) ?_ |refine i5 (by assumption) ?_ |refine kF (by assumption) ?_ |refine eN (by assumption) ?_ |refine i9 (by assumption) ?_ |refine kJ (by assumption) ?_ |refine kK (by assumption) ?_)))));refine(aj _ (.cons_cons _ (.cons_cons _ (T2 _))) ?_);(((try (with_reducible (first|refine bd ?_ |refine bv ?_)));repeat (first|(with_unfolding_none (first|refine ba ?_ |refine aO ?_ |refine i8 ?_ |refine kI ?_ |refine ca ?_))|(with_reducible (first|refine ql (by assumption) ?_ |refine bI (by assumption) ?_ |refine ew (by assumption) ?_ |refine i5 (by assumption) ?_ |refine kF (by assumption) ?_ |refine eN (by assumption) ?_ |refine i9 (by assumption) ?_ |refine kJ (by assumption) ?_ |refine kK (by assumption) ?_)))));(((try (with_reducible (first|refine bd ?_ |refine bv ?_)));repeat (first|(with_unfolding_none (first|refine ba ?_ |refine aO ?_ |refine i8 ?_ |refine kI ?_ |refine ca ?_))|(with_reducible (first|refine ql (by assumption) ?_ |refine bI (by assumption) ?_ |refine ew (by assumption) ?_ |refine i5 (by assumption) ?_ |refine kF (by assumption) ?_ |refine eN (by assumption) ?_ |refine i9 (by assumption) ?_ |refine kJ (by assumption) ?_ |refine kK (by assumption) ?_)))));refine⟨_,rfl,rfl,Lc,?_,_,rfl⟩;rw [SI,ej,Tc (show ¬(x.toNat=34\/x.toNat=36\/x.toNat=92) from by(first|exact Iw ‹_›|(first|exact EU Sx (by assumption) e3 e4|omega))),Tk hlo2];rw [show([92,48+((x.toNat/64:Nat):Int),48+((x.toNat/8%8:Nat):Int),48+((x.toNat%8:Nat):Int)].map fun n=>n.toNat.toUInt8)=[92,(48+x.toNat/64).toUInt8,(48+x.toNat/8%8).toUInt8,(48+x.toNat%8).toUInt8] from by
     simp only [TM,List.map_nil];rw [show(48+((x.toNat/64:Nat):Int)).toNat=48+x.toNat/64 from by(first|exact ES Sx (by assumption) e3 e4|exact EO (by assumption)|omega),show(48+((x.toNat/8%8:Nat):Int)).toNat=48+x.toNat/8%8 from by(first|exact ER e3|exact EN (by assumption)|omega),show(48+((x.toNat%8:Nat):Int)).toNat=48+x.toNat%8 from by(first|exact EQ e3 e4|exact EM (by assumption)|omega)];rfl]
    rfl
   ·rename_i hin hlo h127;refine e_ (i:=(x.toNat:Nat)) (by exact ay.tail ay.head) (by simp only [Tu];exact Iv hz F0 Lc hlen htl) (Iu Sx hlo) (It Sx hlo) ?_;refine de ?_;refine(aj _ (.cons_cons _ (.cons_cons _ (T2 _))) ?_);refine eN F2 ?_;refine⟨_,rfl,rfl,Lc,?_,_,rfl⟩;rw [SI,ej,Tc hin,Tc (Ir Sx hlo h127)];simp
  ·rintro g' vs an ⟨rfl,_,rfl,o1,rfl⟩;have hlen:=ik b;refine ag (aE (ak ?_));refine aP d_ trivial ?_;refine ap rfl ?_;rw [List.take_length];refine nv (.inl ad) (by simp only [Tu];exact Iq hz F0 hlen) ?_;refine bn ?_;refine dA ?_ ?_
   ·show(34::b.flatMap ej).length+1<=bf;rw [Tu];exact Ip hz F0 hlen
   refine aO (ql y' ?_);exact fin rfl (by unfold eO;rw [Tc (by rw [hnb];decide)])
section
variable {F:aY} {Φ:Fx F} {g:GH} {vs:LV} {an:LD} {E:ET}
end
noncomputable def wY:cD 267:=⟨_,fun P=>(bc _ _ _ rfl)⟩
noncomputable abbrev PI:aY:=dm wY ["self"] rfl (by decide+kernel) (by decide+kernel)
theorem Cx:bE PI (bY wY.fd) ["self"] 1 []:=
 bE.mk' _ _ _ _ [] rfl (fun _=>rfl) (fun _=>rfl) .nil (fun w s X _=>Tz rfl) rfl rfl rfl (by decide+kernel) (by decide+kernel)
theorem Dr {w:World} {H₀:Heap} (W:Wd w H₀) {g:GH} {x dx e cl bl br:Addr} {t:BS} {p gp lg:Int}:
 ∀on,aA [.ref x] on->cz w H₀ g [(x,ri dx t e p cl .none gp lg bl br)] (.call (.ref 267) ⟨on,[]⟩) 3 true
 (fun v g' own'=>False) (fun or=>or= .int p):=
 bK Cx 2 [("self",some (.ref x))] W fun Φ hw hH hg Kd hn ho hi Qf y'=>by
  refine ae ?_;refine aS (aK (aq ad (Tl ad) d7 cr (cP (e9 (aF (ft rfl (ag (eX (Tt (fun _=>(by(first|exact og hn (by assumption)|omega)))) (aq ad (Tl ad) aQ aV ?_ rfl) rfl rfl rfl)))))) rfl) rfl);rfl
theorem Oy {w:World} {H₀:Heap} (W:Wd w H₀) {g:GH} {x dx e cl bl br c:Addr} {t:BS} {p gp lg:Int} {bs:List AV} (hz:bs.length<=cq):
 ∀on,aA [.ref x] on->cz w H₀ g [(x,ri dx t e p cl (.ref c) gp lg bl br),(bl,.list bs)] (.call (.ref 267) ⟨on,[]⟩) 3 true
 (fun v g' own'=>v= .none/\g'=g/\∃tp cl2,own'=[(x,ri dx t e (p+1) cl2 .none (lg+1) (lg+1) bl br),(bl,.list (bs++[.ref tp])),(tp,.tuple [.ref cl,.ref c,.int gp,.int p]),(cl2,.list [])]) (fun or=>False):=
 bK Cx 2 [("self",some (.ref x))] W fun Φ hw hH hg Kd hn ho hi Qf y'=>by
  refine ae ?_;refine aS (aK (aq ad (Tl ad) d7 cr (cP (e9 (aF (fc rfl (bq (ae (bm rfl (aH rfl rfl (Tb rfl) rfl (aq ad (Tl ad) ow fC (dC (Tl a7) (T_ trivial (ah rfl ?_))) rfl))))))))) rfl) rfl);refine bV ?_;refine ah rfl (aq ad (Tl ad) gy eG (ah rfl (aq ad (Tl ad) d7 cr (ah rfl (aq ad (Tl ad) m9 iT (ah rfl (aq ad (Tl ad) aQ aV (af ?_) rfl)) rfl)) rfl)) rfl);refine⟨by exact Ta rfl,fun tp Sy=>?_⟩;simp only [S9,S_];refine af ?_;refine dB (by exact ay.tail ay.head) hz ?_;refine de (ae ?_);refine l_ (hstar:=by rfl) (hs:=by rfl) (hw:=by rfl) ?_;refine ah rfl ?_;refine bL ?_;refine af ?_;refine⟨by exact Tn _,fun cl2 hcl2=>?_⟩;simp only [S9,S_];refine ap rfl ?_;refine(aN rfl (by exact Ta rfl) ?_);refine aW (gj ?_);refine aa ad (bR ay.head (b_.set (aB.tail (aB.tail (aB.tail (aB.tail aB.head))))) eG ?_);refine aW (gj ?_);refine aa ad (bR ay.head (b_.set (aB.tail (aB.tail (aB.tail (aB.tail (aB.tail aB.head)))))) cr ?_);refine cu ?_;refine ae (bm rfl (aH rfl rfl (Tb rfl) rfl (aa ad ?_)));refine c_ (.inl ad) kn (eK (by decide)) ⟨tX,?_⟩;refine af ?_;refine a_ (BZ Φ.wd) (qz hn) (by(((try dsimp only [S9,S_,cF,bZ]);(try dsimp only [S9,S_]);with_reducible (repeat (first|exact T1 _|refine cE (by repeat (first|exact aT.head|apply aT.tail)) ?_))))) (fun _ h=>h.elim) ?_;(intro _ _ _ j' _ led' e1;refine bp (j') fun th to Ce=>?_;subst th;subst to;subst Ce);(rename _++_=_=>e;(try dsimp only [S9,S_,cF,bZ] at e);(try dsimp only [S9,S_] at e);subst e);refine de (ag (bz rfl (ak (aq ad (Tl ad) aQ aV (au (bD (aa ad (bR ay.head (b_.set (aB.tail (aB.tail aB.head))) aV (ca (ql y' ?_)))))) rfl))));exact(cA _ _ (bJ .refl rfl rfl (cA tp cl2 rfl)))
noncomputable def wX:cD 274:=⟨_,fun P=>(bc _ _ _ rfl)⟩
noncomputable abbrev PH:aY:=dm wX ["self","block","place"] rfl (by decide+kernel) (by decide+kernel)
theorem Cw:bE PH (bY wX.fd) ["self"] 1 []:=
 bE.mk' _ _ _ _ [] rfl (fun _=>rfl) (fun _=>rfl) .nil (fun w s X _=>Tz rfl) rfl rfl rfl (by decide+kernel) (by decide+kernel)
theorem Dq {w:World} {H₀:Heap} (W:Wd w H₀) {g:GH} {x dx e cl bl br:Addr} {t:BS} {p gp lg:Int} {cm:AV}:
 ∀on,aA [.ref x] on->cz w H₀ g [(x,ri dx t e p cl cm gp lg bl br),(bl,.list [])] (.call (.ref 274) ⟨on,[]⟩) 6 true
 (fun v g' own'=>False) (fun or=>or= .int p):=
 bK Cw 5 [("self",some (.ref x)),("block",none),("place",none)] W fun Φ hw hH hg Kd hn ho hi Qf y'=>by
  refine ae ?_;refine aS (gb (aq ad (Tl ad) ow fC (jp a7 (cQ (fun _=>ag (eX (Tt (fun _=>(by(first|exact E7 hn (by assumption)|omega)))) (aq ad (Tl ad) aQ aV ?_ rfl) rfl rfl rfl)) (fun _=>bq (ae (bm rfl (aH rfl rfl (Tb rfl) rfl (aa ad ?_))))))) rfl))
  ·rfl
  ·rename_i h;exact absurd h (by exact fun h=>Bool.noConfusion h)
theorem Ox {w:World} {H₀:Heap} (W:Wd w H₀) {g:GH} {x dx e cl bl br tp cl2:Addr} {t:BS} {p gp lg gp2 p2:Int} {cm:Option Ca} {k2:Ca} {xs bs:List AV} (hz:xs.length<=cq) (hzb:bs.length<=cq) (hz1:k2.ws.length<=cq) (hz2:k2.ps.length<=cq):
 ∀on,aA [.ref x] on->cz w H₀ g ((x,ri dx t e p cl (fP cm) gp lg bl br)::(br,.list [])::(bl,.list (bs++[.ref tp]))::(tp,.tuple [.ref cl2,.ref k2.c,.int gp2,.int p2])::
  (k2.c,ci k2 gp2)::(k2.wl,.list k2.ws)::(k2.pl,.list k2.ps)::(cl,.list xs)::bZ gp cm) (.call (.ref 274) ⟨on,[]⟩) 6 true
 (fun v g' own'=>v= .none/\∃b dxb k3,own'=(x,ri dx t e (p+1) cl2 (.ref k3.c) gp2 lg bl br)::(br,.list [])::(bl,.list bs)::cF k3 gp2/\k3.ws=k2.ws++[.ref b]/\k3.ps.length=k2.ps.length+1/\xY g' gp cm/\g' (b,.inst 86 dxb [("commands",.ref cl)])/\g' (cl,.list (g9 xs cm))) (fun or=>False):=
 bK Cw 5 [("self",some (.ref x)),("block",none),("place",none)] W fun Φ hw hH hg Kd hn ho hi Qf y'=>by
  refine ae ?_;refine fY false ?_ ?_
  ·refine gb (aq ad (Tl ad) ow fC (jp aQ ?_) rfl);exact(bJ (decide_eq_false (by simp)) rfl rfl rfl)
  refine bd (bq (ae (bm rfl (aH rfl rfl (Tb rfl) rfl (aa ad ?_)))));refine c_ (.inl ad) fH (eK (by decide)) ⟨lZ,?_⟩;refine af ?_;refine a_ (a':=[(bl,.list (bs++[.ref tp])),(tp,.tuple [.ref cl2,.ref k2.c,.int gp2,.int p2]),(k2.c,ci k2 gp2),(k2.wl,.list k2.ws),(k2.pl,.list k2.ps)]) (r8 Φ.wd hz) (NN hn)
   (List.Perm.cons _ (List.Perm.cons _ (List.Perm.trans (l₂:=[(bl,.list (bs++[.ref tp])),(tp,.tuple [.ref cl2,.ref k2.c,.int gp2,.int p2]),(k2.c,ci k2 gp2),(k2.wl,.list k2.ws),(k2.pl,.list k2.ps)]++((cl,.list xs)::bZ gp cm)) (.refl _) List.perm_append_comm))) (fun _ h=>h.elim) ?_
  (intro _ g1 _ j' _ led' e1;refine bp (j') fun th to hf=>?_;subst th;subst to);(rename _++_=_=>e;(try dsimp only [S9,S_,cF,bZ] at e);(try dsimp only [S9,S_] at e);subst e);refine de (ae (aS (aR (eI (aq ad (Tl ad) ou eH (jp a7 (am (fun _=>aR (aK (gm rfl (bg (aq ad (Tl ad) ou eH (gk (au (jY ?_))) rfl))) rfl)) (fun _=>bd (bq (ae (aI rfl ?_)))))) rfl)))))
  ·rename_i h;exact absurd h (by contradiction)
  refine aP oJ Dk ?_;refine ah rfl (aq ad (Tl ad) gy eG (af ?_) rfl);refine pr (fI:=83) (n:=1) (Qc:=fun v g2 own'=>∃b dxb,v= .ref b/\g2=g1/\own'=[(b,.inst 86 dxb [("commands",.ref cl)])]) (fun w=>rfl) (fun w=>⟨rfl,rfl⟩) (fun x dx hx K9 ra A o s ar hs=>?_) (Jk hn) ?_
  ·refine cZ (QC Φ.wd (.ref x::K9) (.cons rfl ra) A o s ar hs) fun r s' zp65=>bp zp65 fun e1 e2 hr=>(aN e1 e2 ?_);rcases r with v|(v|_|_|v)<;>try exact hr
   obtain⟨av,g',own',h1,h2,h3,rfl,rfl,rfl⟩:=hr;exact⟨_,_,_,h1,h2,h3,rfl,x,dx,rfl,rfl,rfl⟩
  ·(intro _ g2 own' j' _;refine cX (j') fun b dxb th to Ce=>?_;subst th;subst to;subst Ce);simp only [S9,S_];refine aL rfl (ae ?_);refine dj ?_;refine aH rfl rfl (Tb rfl) rfl (aq ad (Tl ad) ow fC (sh (Tl dc) (T_ trivial (af ?_))) rfl);refine xx (by exact ay.tail (ay.tail (ay.tail ay.head))) hzb ?_;refine(bu tp _ rfl (.inl gy) rfl ?_);refine aW (gj ?_);refine aa ad (bR ay.head (b_.set (aB.tail (aB.tail (aB.tail (aB.tail aB.head))))) eG ?_);refine aW (gj ?_);refine aa ad (bR ay.head (b_.set (aB.tail (aB.tail (aB.tail (aB.tail (aB.tail aB.head)))))) cr ?_);refine aW (gj ?_);refine aa ad (bR ay.head (b_.set (aB.tail (aB.tail (aB.tail (aB.tail (aB.tail (aB.tail aB.head))))))) iT ?_);refine aW (bt ?_);refine aL rfl ?_;refine cu ?_;refine ae (bm rfl (aH rfl rfl (Tb rfl) rfl (aa ad ?_)));refine c_ (.inl ad) k9 (eK (by decide)) ⟨tW,?_⟩;refine ap rfl ?_;refine a_ (a':=[(br,.list []),(cl,.list (g9 xs cm)),(bl,.list bs),(tp,.tuple [.ref cl2,.ref k2.c,.int gp2,.int p2]),(b,.inst 86 dxb [("commands",.ref cl)])]) (BY (cm:=some k2) Φ.wd hz1 hz2 rfl) (Aq hn) (by(((try dsimp only [S9,S_,cF,bZ]);(try dsimp only [S9,S_]);with_reducible (repeat (first|exact T1 _|refine cE (by repeat (first|exact aT.head|apply aT.tail)) ?_))))) (fun or h=>h.elim) ?_;(intro _ _ _ j' _ led' e1;refine bp (j') fun th to El=>ax El fun k3 La=>bp La fun Ce hk1 hk2=>?_;subst th;subst to;subst Ce);(rename _++_=_=>e;(try dsimp only [S9,S_,cF,bZ] at e);(try dsimp only [S9,S_] at e);subst e);refine de (ag (bz rfl (ak (aq ad (Tl ad) aQ aV (au (bD (aa ad (bR ay.head (b_.set (aB.tail (aB.tail aB.head))) aV (ca (ql y' ?_)))))) rfl))));refine(cA _ ((x,ri dx t e (p+1) cl2 (.ref k3.c) gp2 lg bl br)::(br,.list [])::(bl,.list bs)::cF k3 gp2) (aN (.fz (p:=(b,.inst 86 dxb [("commands",.ref cl)])) rfl (by exact aT.tail (aT.tail (aT.tail (aT.tail (aT.tail (aT.tail (aT.tail (aT.tail aT.head)))))))) (.fz (p:=(cl,.list (g9 xs cm))) rfl (by exact aT.tail (aT.tail (aT.tail (aT.tail (aT.tail aT.head)))))
    (.turn (l':=(tp,.tuple [.ref cl2,.ref k2.c,.int gp2,.int p2])::(x,ri dx t e (p+1) cl2 (.ref k3.c) gp2 lg bl br)::(br,.list [])::(bl,.list bs)::cF k3 gp2) (by(((try dsimp only [S9,S_,cF,bZ]);(try dsimp only [S9,S_]);with_reducible (repeat (first|exact T1 _|refine cE (by repeat (first|exact aT.head|apply aT.tail)) ?_))))) (.less (List.sublist_cons_self ..) .refl)))) rfl (bc b dxb k3 (bF rfl hk1 (by rw [hk2,Tf];rfl) ?_ (.inr (.inl rfl)) (.inl rfl)))))
   cases cm with
   |none=>trivial
   |some k=>exact⟨.inr (.inr hf.1),.inr (.inr hf.2)⟩
theorem Df:Gl "command_word_octets" (.ref 322):=⟨fun w=>.inl (aj _ rfl rfl),by decide+kernel⟩
theorem BF:bB (.ref 322):=fun w=>rfl
theorem De:Gl "command_octets" (.ref 327):=⟨fun w=>.inl (aj _ rfl rfl),by decide+kernel⟩
theorem BE:bB (.ref 327):=fun w=>rfl
theorem wB:Gl "commands_octets" (.ref 334):=⟨fun w=>.inl (aj _ rfl rfl),by decide+kernel⟩
theorem tT:bB (.ref 334):=fun w=>rfl
theorem rP:Gl "command_rows" (.ref 339):=⟨fun w=>.inl (aj _ rfl rfl),by decide+kernel⟩
theorem pi:bB (.ref 339):=fun w=>rfl
mutual
noncomputable def fR:Nd->Nat
 | .w _=>0
 | .blk cs=>cK cs+1
 | .cmd _ ws=>cK ws
noncomputable def cK:List Nd->Nat
 |[]=>0
 |c::r=>Nat.max (fR c) (cK r)
end
theorem f0 {c:Nd} {l:List Nd} (h:c∈l):fR c<=cK l:=by
 induction l with
 |nil=>cases h
 |cons x r ih=>exact(T4.mp h).elim (fun e=>e▸Nat.le_max_left ..) fun h=>TO (ih h) (Nat.le_max_right ..)
noncomputable abbrev mQ (g:GH) (o:BS) (v:AV) (g':GH) (own':LD):Prop:=v= .bytes o/\g'=g/\own'=[]
noncomputable def CW (n:Nd):Prop:=∀{w:World} {H₀:Heap} (W:Wd w H₀) {g:GH} {v:AV},WF false n->ie g v n->4*(bH n).length+8<=bf->
 ∀on,aA [v] on->cz w H₀ g [] (.call (.ref 322) ⟨on,[]⟩) (3*fR n+4) true (mQ g (bH n)) (fun _=>False)
noncomputable def CC (n:Nd):Prop:=∀{w:World} {H₀:Heap} (W:Wd w H₀) {g:GH} {v:AV},WF true n->ie g v n->4*(bH n).length+8<=bf->
 ∀on,aA [v] on->cz w H₀ g [] (.call (.ref 327) ⟨on,[]⟩) (3*fR n+5) true (mQ g (bH n)) (fun _=>False)
noncomputable def CL (cs:List Nd):Prop:=∀{w:World} {H₀:Heap} (W:Wd w H₀) {g:GH} {l:Addr} {xs:List AV},(∀c∈cs,WF true c)->g (l,.list xs)->eJ g xs cs->4*(cg none cs).length+8<=bf->
 ∀on,aA [.ref l] on->cz w H₀ g [] (.call (.ref 334) ⟨on,[]⟩) (3*cK cs+6) true (mQ g (cg none cs)) (fun _=>False)
theorem yA (l:BS):l.length<=(l.flatMap ej).length:=by
 induction l with
 |nil=>exact Tj _
 |cons c l ih=>rw [List.flatMap_cons,Tf];exact Io ih (jr (P:=fun c=>1<=(ej c).length) (by decide+kernel) c)
theorem uM (b:BS):b.length<=(eO b).length:=by
 unfold eO;by_cases h:gF b=true
 ·rw [Tk h];exact Tj _
 ·rw [Tc h,Tf];exact Im (yA b)
theorem WF.blk_inv {b:Bool} {cs:List Nd} (h:WF b (.blk cs)):∀c∈cs,WF true c:=by cases h;assumption
noncomputable def wS:cD 322:=⟨_,fun P=>(bc _ _ _ rfl)⟩
noncomputable abbrev PB:aY:=dm wS ["word"] rfl (by decide+kernel) (by decide+kernel)
theorem OZ:bE PB (bY wS.fd) ["word"] 1 []:=
 bE.mk' _ _ _ _ [] rfl (fun _=>rfl) (fun _=>rfl) .nil (fun w s X _=>Tz rfl) rfl rfl rfl (by decide+kernel) (by decide+kernel)
theorem vE (n:Nd) (IH:∀cs,n= .blk cs->CL cs):CW n:=by
 intro w H₀ W g v hwf hv hz;refine bK OZ (3*fR n+3) [("word",some v)] W fun Φ hw hH hg Kd hn ho hi Qf y'=>?_;have F0:bf=1000000:=rfl;have fin:∀{g':GH} {l1:LD} {x:BS},g'=g->x=bH n->∃g2 l,dU g' l1 g2 l/\gO (mQ g (bH n)) (.ret (.bytes x)) g2 l:=by
  rintro g' l1 x rfl rfl;exact(bu _ _ (.less (T2 _) .refl) rfl rfl rfl)
 cases hv with
 |cmd c dx wl pl m vs ws h1 h2 h3 h4=>cases hwf
 |w b=>
  have hq:=uM b;have hq2:bH (.w b)=eO b:=rfl;rw [hq2] at hz fin y';refine ae ?_;refine aS (da rfl ?_);refine aP fW trivial ?_;refine ah rfl (aa ad (ah rfl ?_));refine fT oJ ?_;refine af ?_;refine ut ?_;refine aF (bd (bq (ag (aE ?_))));refine aP Dg BG ?_;refine ap rfl ?_;refine a_ (a':=[]) (Ou Φ.wd (Il F0 hz hq)) (Ik hn) (.refl _) (fun _ h=>h.elim) ?_;(intro _ _ _ j' _ led' e1;refine bp (j') fun th hg1 to=>?_;subst th;subst to);have hg1:=hg1.symm;subst hg1;(rename _++_=_=>e;(try dsimp only [S9,S_] at e);subst e);refine aO (ql y' ?_);exact fin rfl rfl
 |blk k dx l vs cs h1 h2 h3 h4=>
  have hq2:bH (.blk cs)=[123,32]++cg none cs++[32,125]:=rfl;have hd:fR (.blk cs)=cK cs+1:=rfl;rw [hq2] at hz fin y';simp only [Tf,Tu,TC] at hz;refine ae ?_;refine aS (da rfl ?_);refine aP fW trivial ?_;refine ah rfl (aa ad (ah rfl ?_));refine fT oJ ?_;refine af ?_;refine ur (.inr h1) ?_;refine aF (bv (ag (aE (ak (ak (bn ?_))))));refine aP wB tT ?_;refine ah rfl (fU (aa ad ?_));refine eY (.inr h1) ad iU ?_;refine af ?_;refine a_ (a':=[]) (IH cs rfl Φ.wd hwf.blk_inv h2 ⟨h3,h4⟩ (Ij F0 hz)) (Ii hn hd) (.refl _) (fun _ h=>h.elim) ?_;(intro _ _ _ j' _ led' e1;refine bp (j') fun th hg1 to=>?_;subst th;subst to);have hg1:=hg1.symm;subst hg1;(rename _++_=_=>e;(try dsimp only [S9,S_] at e);subst e);refine dA (by simp only [Tu,TC];exact Ih F0 hz) ?_;refine bn ?_;refine dA (by simp only [Tf,Tu,TC];exact Ig F0 hz) ?_;refine aO (ba (ql y' ?_));exact fin rfl rfl
theorem WF.cmd_inv {b:Bool} {m:Nat} {ws:List Nd} (h:WF b (.cmd m ws)):∀w∈ws,WF false w:=by
 cases h with
 |cmd n x ws h=>
  intro w hw;rcases T4.mp hw with rfl|hw
  ·exact .w x
  ·exact h w hw
theorem WF.t_inv {n:Nd} (h:WF true n):∃m ws,n= .cmd m ws:=by
 cases h with
 |cmd n x ws h=>exact(cA _ _ rfl)
theorem qH (Mm:BS) (l:List BS):gY Mm l=fk Mm l:=by
 induction l with
 |nil=>rfl
 |cons x r ih=>
  cases r with
  |nil=>rfl
  |cons y r=>exact congrArg (x++Mm++·) ih
theorem kc (Mm:BS) (l:List BS):(fk Mm l).length=(l.map List.length).sum+Mm.length*(l.length-1):=by
 induction l with
 |nil=>rfl
 |cons x r ih=>
  cases r with
  |nil=>rfl
  |cons y r=>
   show(x++Mm++fk Mm (y::r)).length=x.length+(y.length+(r.map List.length).sum)+Mm.length*(r.length+1);rw [Tf,Tf,ih,Nat.mul_succ];exact Ie
theorem oK (l:List BS):∀k:Nat,l.foldl (fun a x=>a+x.length) k=k+(l.map List.length).sum:=by
 induction l with
 |nil=>intro k;rfl
 |cons x l ih=>intro k;rw [List.foldl_cons,ih,TM,List.sum_cons];exact Id
theorem sU (ws:List Nd):ir ws=ws.map bH:=by
 induction ws with
 |nil=>rfl
 |cons w r ih=>exact congrArg (bH w::·) ih
theorem n8 {m:Nat} {ws:List Nd}:bH (.cmd m ws)=fk [32] (ws.map bH):=congrArg (fk [32]) (sU ws)
theorem iw {x:Nat} {l:List Nat} (h:x∈l):x<=l.sum:=by
 induction l with
 |nil=>cases h
 |cons y l ih=>
  rw [List.sum_cons];exact(T4.mp h).elim (fun e=>e▸Ic) fun h=>Ib (ih h)
theorem my {α:Type} {l:List α} {i:Nat} (d:α) (h:i<l.length):l.getD i d=l[i]:=by rw [TI,Th h];rfl
noncomputable def wR:cD 327:=⟨_,fun P=>(bc _ _ _ rfl)⟩
noncomputable abbrev PA:aY:=dm wR ["command"] rfl (by decide+kernel) (by decide+kernel)
theorem OY:bE PA (bY wR.fd) ["command"] 1 []:=
 bE.mk' _ _ _ _ [] rfl (fun _=>rfl) (fun _=>rfl) .nil (fun w s X _=>Tz rfl) rfl rfl rfl (by decide+kernel) (by decide+kernel)
theorem vD (n:Nd) (IH:∀m ws,n= .cmd m ws->∀w∈ws,CW w):CC n:=by
 intro w H₀ W g v hwf hv hz;refine bK OY (3*fR n+4) [("command",some v)] W fun Φ hw hH hg Kd hn ho hi Qf y'=>?_;have F0:bf=1000000:=rfl;have Hn:cq=1000000:=rfl;have fin:∀{g':GH} {l1:LD} {x:BS},g'=g->x=bH n->∃g2 l,dU g' l1 g2 l/\gO (mQ g (bH n)) (.ret (.bytes x)) g2 l:=by
  rintro g' l1 x rfl rfl;exact(bu _ _ (.less (T2 _) .refl) rfl rfl rfl)
 cases hv with
 |w b=>cases hwf
 |blk k dx l vs cs h1 h2 h3 h4=>cases hwf
 |cmd c dx wl pl m vs ws h1 h2 h3 h4=>
  have hq2:bH (.cmd m ws)=fk [32] (ws.map bH):=n8;have hd:fR (.cmd m ws)=cK ws:=rfl;rw [hq2] at hz fin y';have hjl:=kc [32] (ws.map bH);rw [hjl] at hz;simp only [Tu,TC,Tx] at hz;have hwl:ws.length<=1000000:=by exact EL F0 hz
  refine ae ?_;refine aE (aH rfl rfl (Tb rfl) rfl (bn (uh (T_ trivial (ah rfl ?_)))));refine jU (hs:=by intro _;rfl) (ht:=by intros;rfl) rfl (by decide+kernel) (by decide+kernel) (by decide+kernel) (by decide+kernel) (by decide+kernel) ?_;refine fU (aa ad ?_);refine eY (.inr h1) a7 hZ ?_;refine⟨_,_,_,_,fun Ψ=>gQ (Φ:=Ψ) (a:=wl) (xs:=vs),fun i g' ys led'=>g'=g/\i<=ws.length/\ys=((ws.map bH).take i).map .bytes/\led'=[],?_,?_,?_,?_,?_,?_⟩
  ·rintro i g' ys led' p ⟨rfl,_,rfl,rfl⟩;exact .inr h2
  ·exact .inr h2
  ·rintro i g' ys led' ⟨rfl,h,rfl,rfl⟩;rw [Tx,List.length_take,Tx];exact EK Hn h3 hwl h
  ·skip;exact⟨rfl,Tn _,by rfl,rfl⟩
  ·rintro Ψ hΨ i g' led' ys p q hi' ⟨rfl,K8,rfl,rfl⟩;have O':i<ws.length:=by exact zK h3 hi'
   rw [my _ hi'];have hN:=h4 i vs[i] ws[i] (Th hi') (Th O');have Sz:ws[i]∈ws:=List.getElem_mem O';have hdep:=f0 Sz;have SV:=hΨ.room;have hlen:(bH ws[i]).length<=((ws.map bH).map List.length).sum:=iw (TP (TP Sz));refine jT ?_;refine bv ?_;refine aP Df BF ?_;refine ap rfl ?_;refine a_ (a':=[p,q]) (IH m ws rfl ws[i] Sz Ψ.wd (hwf.cmd_inv _ Sz) hN (Ia F0 hz O' hlen)) (H_ hn hd O' hdep SV) (.refl _) (fun _ h=>h.elim) ?_;(intro _ _ _ j' _ led' e1;refine bp (j') fun th hg1 to=>?_;subst th;subst to);have hg1:=hg1.symm;subst hg1;(rename _++_=_=>e;(try dsimp only [S9,S_] at e);subst e);exact(e7 _ (.refl _) rfl O' (by rw [List.take_succ_eq_append_getElem (by simpa using O'),TE];simp) rfl)
  ·(intro g' ys led' F6 j' hacc;refine cU (j') fun th _ to Ce=>?_;subst th;subst to;subst Ce);rw [h3,List.take_of_length_le (by simp)];refine af ?_;refine uq (ls:=ws.map bH) (.inl ad) (by rw [qH,hjl];simp only [Tu,TC,Tx];exact H9 F0 hz) (by rw [oK];simp only [Tu,TC,Tx];exact oC F0 hz) ?_;refine aO (ba (ql y' ?_));exact fin rfl (qH _ _)
noncomputable def iN (c:Nat):Option Nat->List BS
 |none=>[]
 |some p=>[if c=p then [32,59,32] else [10]]
theorem sK {c p:Nat}:iN c (some p)=[if c=p then [32,59,32] else [10]]:=rfl
noncomputable def fQ (prev:Option Nat):List Nd->List BS
 |[]=>[]
 |c::r=>iN c.num prev++[bH c]++fQ (some c.num) r
theorem i7 (cs:List Nd) (p:Option Nat):(fQ p cs).flatten=cg p cs:=by
 induction cs generalizing p with
 |nil=>rfl
 |cons c r ih=>
  cases p with
  |none=>exact congrArg (bH c++·) (ih _)
  |some p=>exact(congrArg (fun z=>(if c.num=p then [32,59,32] else [10])++(bH c++z)) (ih _)).trans (Tw ..).symm
noncomputable def gX (p:Option Nat):List Nd->Option Nat
 |[]=>p
 |c::r=>gX (some c.num) r
theorem sV (c:Nd) (l:List Nd) (p:Option Nat):fQ p (l++[c])=fQ p l++iN c.num (gX p l)++[bH c]:=by
 induction l generalizing p with
 |nil=>exact T7 _
 |cons x l ih=>
  show iN x.num p++[bH x]++fQ (some x.num) (l++[c])=iN x.num p++[bH x]++fQ (some x.num) l++iN c.num (gX (some x.num) l)++[bH c];rw [ih];generalize iN x.num p++[bH x]=q;rw [Tw,Tw,Tw]
theorem rB (c:Nd) (l:List Nd) (p:Option Nat):gX p (l++[c])=some c.num:=by
 induction l generalizing p with
 |nil=>rfl
 |cons x l ih=>exact ih _
theorem n_ (cs:List Nd) (p:Option Nat):(fQ p cs).length<=2*cs.length:=by
 induction cs generalizing p with
 |nil=>exact Tj _
 |cons c r ih=>
  cases p with
  |none=>exact Nat.le_succ_of_le (Nat.succ_le_succ (ih _))
  |some p=>exact Nat.succ_le_succ (Nat.succ_le_succ (ih _))
theorem sW (cs:List Nd) (p:Nat):cs.length<=(cg (some p) cs).length:=by
 induction cs generalizing p with
 |nil=>exact Tj _
 |cons c r ih=>
  show r.length+1<=((if c.num=p then [32,59,32] else [10])++bH c++cg (some c.num) r:BS).length;rw [Tf,Tf];by_cases h:c.num=p
  ·rw [Tk h];exact H8 (ih _)
  ·rw [Tc h];exact H7 (ih _)
theorem lD (cs:List Nd):cs.length<=(cg none cs).length+1:=by
 cases cs with
 |nil=>exact Tn _
 |cons c r=>
  show r.length+1<=([]++bH c++cg (some c.num) r:BS).length+1;rw [Tf,Tf];exact H6 (sW r c.num)
theorem m_ (l:List BS):gY [] l=l.flatten:=by
 induction l with
 |nil=>rfl
 |cons x r ih=>
  cases r with
  |nil=>exact(T7 _).symm
  |cons y r=>exact(congrArg (x++[]++·) ih).trans (Tw ..)
theorem n9 {c:Nd} {cs:List Nd} {p:Option Nat} (h:c∈cs):bH c∈fQ p cs:=by
 induction cs generalizing p with
 |nil=>cases h
 |cons x r ih=>exact(T4.mp h).elim (fun e=>e▸TN _ (To _ (SZ ..))) fun h=>To _ (ih h)
theorem ie.inv_cmd {g:GH} {v:AV} {m:Nat} {ws:List Nd} (h:ie g v (.cmd m ws)):∃c dx wl pl vs,v= .ref c/\g (c,.inst 65 dx [("group",.int (m:Nat)),("words",.ref wl),("places",.ref pl)])/\g (wl,.list vs)/\eJ g vs ws:=by
 cases h with
 |cmd c dx wl pl m vs ws h1 h2 h3 h4=>exact(iQ c dx wl pl vs (cn rfl h1 h2 h3 h4))
inductive xJ (g:GH) (fa:Addr) (cs:List Nd) (l:Addr) (i:Nat) (g':GH) (vs:LV) (an:LD):Prop
 |mk:(g'=g)->(i<=cs.length)->(an=[(fa,.list ((fQ none (cs.take i)).map .bytes))])->∀o1 o2,(vs=([("commands",some (.ref l)),("found",some (.ref fa)),("number",o1),("command",o2)]:LV))->xJ g fa cs l i g' vs an
inductive xI (g':GH) (c:Addr) (fa:Addr) (cs:List Nd) (l:Addr) (i:Nat) (q1:Addr×AO) (q2:Addr×AO) (nm:Nat) (g2:GH) (vs:LV) (an:LD):Prop
 |mk:(g2=g')->(an=[q1,q2,(fa,.list ((fQ none (cs.take i)++iN nm (gX none (cs.take i))).map .bytes))])->(vs=([("commands",some (.ref l)),("found",some (.ref fa)),("number",some (.int (i:Nat))),("command",some (.ref c))]:LV))->xI g' c fa cs l i q1 q2 nm g2 vs an
noncomputable def wQ:cD 334:=⟨_,fun P=>(bc _ _ _ rfl)⟩
noncomputable abbrev Pz:aY:=dm wQ ["commands","found","number","command"] rfl (by decide+kernel) (by decide+kernel)
theorem OX:bE Pz (bY wQ.fd) ["commands"] 1 []:=
 bE.mk' _ _ _ _ [] rfl (fun _=>rfl) (fun _=>rfl) .nil (fun w s X _=>Tz rfl) rfl rfl rfl (by decide+kernel) (by decide+kernel)
theorem BX (cs:List Nd) (IH:∀c∈cs,CC c):CL cs:=by
 intro w H₀ W g l xs hwf hl hN hz;refine bK OX (3*cK cs+5) [("commands",some (.ref l)),("found",none),("number",none),("command",none)] W fun Φ hw hH hg Kd hn ho hi Qf y'=>?_;have F0:bf=1000000:=rfl;have Hn:cq=1000000:=rfl;have hcl:=lD cs;have SB:=hN.1;have hpl:=n_ cs none;have SE:((fQ none cs).map List.length).sum=(cg none cs).length:=by rw [←i7,List.length_flatten]
 have fin:∀{g':GH} {l1:LD} {x:BS},g'=g->x=cg none cs->∃g2 l,dU g' l1 g2 l/\gO (mQ g (cg none cs)) (.ret (.bytes x)) g2 l:=by
  rintro g' l1 x rfl rfl;exact(bu _ _ (.less (T2 _) .refl) rfl rfl rfl)
 refine ae ?_;refine aI rfl ?_;refine bL (af ⟨by exact Tn _,fun fa hfa=>?_⟩);refine aL rfl (ae ?_);refine jV (hs:=by intro _;rfl) ?_;refine aP oI trivial ?_;refine ap rfl ?_;refine CQ (.inr hl) fun e it o ho1 ho2=>?_;refine tg hi ho1 ho2 (xJ g fa cs l) (fun i g' vs an h=>.inr (h.1▸hl)) ?_ ⟨rfl,Tn _,rfl,_,_,rfl⟩ ?_
 ·rintro i x q1 q2 Qb F2 g' vs an hx ⟨rfl,K8,rfl,o1,o2,rfl⟩;have hi1:i<xs.length:=(List.getElem?_eq_some_iff.mp hx).1;have O':i<cs.length:=by rw [←hN.1];exact hi1
  have hNi:=hN.2 i x cs[i] hx (Th O');have Sz:cs[i]∈cs:=List.getElem_mem O';have hwi:=hwf _ Sz;have htk:cs.take (i+1)=cs.take i++[cs[i]]:=List.take_succ_eq_append_getElem O';have SI:fQ none (cs.take (i+1))=fQ none (cs.take i)++iN cs[i].num (gX none (cs.take i))++[bH cs[i]]:=by rw [htk,sV]
  have hpl2:=n_ (cs.take i) none;have htl:=List.length_take_le i cs;have hdep:=f0 Sz;have hol:(bH cs[i]).length<=(cg none cs).length:=by rw [←SE];exact iw (TP (n9 Sz))
  refine iy (hwi.t_inv) fun m ws hm=>?_;have hNi':=hNi;rw [hm] at hNi';(refine f_ (hNi'.inv_cmd) fun c dx wl pl vs El=>cU El fun j' hc _ _=>?_;subst j');have hnum:cs[i].num=m:=by rw [hm];rfl
  refine(cf _ _ (by((with_reducible (repeat (first|exact cM.head|apply cM.tail))))) (by((with_reducible (repeat (first|exact cM.head|apply cM.tail))))) ?_);obtain⟨nm,hnm⟩:∃nm,cs[i].num=nm:=⟨_,rfl⟩
  refine ae ?_;refine fi (R:=(xI g' c fa cs l i q1 q2 nm)) ?_ ?_
  ·intro Q1 Lb;cases i with
   |zero=>
    refine aS (aC rfl (am (fun _=>ag (bm rfl (aH rfl rfl (Tb rfl) rfl (aa a7 (dC (Tl aQ) (T_ trivial (ah rfl (cw (aK (fU (aa dc ?_)) rfl))))))))) (fun _=>bq (ql Lb ?_))))
    ·rename_i h;exact absurd h (by decide)
    ·skip;exact⟨rfl,_,_,.refl,rfl,by rfl,rfl⟩
   |succ j=>
    have hj1:j<xs.length:=by exact H5 hi1 O'
    have hj2:j<cs.length:=by exact H4 SB hi1 O'
    have hNj:=hN.2 j xs[j] cs[j] (Th hj1) (Th hj2);refine iy ((hwf _ (List.getElem_mem hj2)).t_inv) fun mj wsj hmj=>?_;have hNj':=hNj;rw [hmj] at hNj';refine f_ (hNj'.inv_cmd) fun cj dxj wlj plj vsj El=>cU El fun hxj hcj _ _=>?_;have Rp:gX none (cs.take (j+1))=some mj:=by rw [List.take_succ_eq_append_getElem hj2,rB,hmj];rfl
    refine aS (aC rfl (am (fun _=>ag (bm rfl (aH rfl rfl (Tb rfl) rfl (aa a7 (dC (Tl aQ) (T_ trivial (ah rfl (cw (aK (fU (aa dc ?_)) rfl))))))))) (fun _=>bq (ql Lb ?_))))
    ·refine eY (.inr hc) ad h_ ?_;refine gm rfl (bg (aa ad (dJ rfl ?_)));refine iH (v:=.ref cj) (.inr hl) (H3 hz F0 Hn hcl SB SE O') (H2 O') (by rw [show(((j+1:Nat):Int)-1).toNat=j from by exact EJ O',Th hj1,hxj]) (by exact rfl) ?_;refine eY (.inr hcj) ad h_ ?_;refine gI (aF (am (fun _=>bn (af ?_)) (fun _=>bn (af ?_))))
     ·rename_i hmm;refine dB (by exact ay.tail (ay.tail ay.head)) (by rw [Tx];exact oA hz F0 Hn hcl O' hpl2 htl) ?_;refine de (ql Lb ?_);exact⟨rfl,_,_,.refl,rfl,by rw [Rp,sK,Tk (H1 O' hnum hnm hmm),TE];rfl,rfl⟩
     ·rename_i hmm;refine dB (by exact ay.tail (ay.tail ay.head)) (by rw [Tx];exact oA hz F0 Hn hcl O' hpl2 htl) ?_;refine de (ql Lb ?_);exact⟨rfl,_,_,.refl,rfl,by rw [Rp,sK,Tc (H0 O' hnum hnm hmm),TE];rfl,rfl⟩
    ·rename_i h;exact absurd (show(0:Int)<((j+1:Nat):Int) from by exact HZ O' h) h
  ·rintro g2 vs an ⟨rfl,rfl,rfl⟩;have hsl:(iN nm (gX none (cs.take i))).length<=1:=by cases gX none (cs.take i)<;>(first|exact Tn _|exact Tj _)
   refine ag (bm rfl (aH rfl rfl (Tb rfl) rfl (aa a7 (dC (Tl aQ) (T_ trivial (ah rfl ?_))))));refine aP De BE ?_;refine ap rfl ?_;refine a_ (a':=[q1,q2,(fa,.list ((fQ none (cs.take i)++iN nm (gX none (cs.take i))).map .bytes))]) (IH _ Sz Φ.wd hwi hNi (HY hz F0 SE O' hol)) (HW hn O' hdep) (.refl _) (fun _ h=>h.elim) ?_;(intro _ _ _ j' _ led' e1;refine bp (j') fun th hg1 to=>?_;subst th;subst to);have hg1:=hg1.symm;subst hg1;(rename _++_=_=>e;(try dsimp only [S9,S_] at e);subst e);refine af ?_;refine dB (by exact ay.tail (ay.tail ay.head)) (by rw [Tx,Tf];exact oB hz F0 Hn hcl O' hpl2 htl hsl) ?_;refine de (eN F2 ?_);refine⟨_,rfl,rfl,O',?_,_,_,rfl⟩;rw [SI,hnm];simp only [TE,TM,List.map_nil]
 ·rintro g' vs an ⟨rfl,_,rfl,o1,o2,rfl⟩;rw [hN.1,List.take_length];refine ag (aE (aH rfl rfl (Tb rfl) rfl (bn (uh (T_ trivial (ap rfl ?_))))));refine uq (ls:=fQ none cs) (.inl ad) (by rw [m_,i7];exact Aj hz F0 SE) (by rw [oK,SE];simp;exact Aj hz F0 SE) ?_;refine aO (ql y' ?_);exact fin rfl (by rw [m_,i7])
theorem zk (n:Nd):CW n/\CC n:=
 n.ind (P:=fun n=>CW n/\CC n) (fun b=>⟨vE _ fun _ e=>(by cases e),vD _ fun _ _ e=>(by cases e)⟩) (fun _ h=>⟨vE _ fun ds e=>BX ds fun c hc=>(h c (by cases e;exact hc)).2,vD _ fun _ _ e=>(by cases e)⟩)
  fun _ _ h=>⟨vE _ fun _ e=>(by cases e),vD _ fun _ _ e w hw=>(h w (by cases e;exact hw)).1⟩
theorem Do (cs:List Nd):CL cs:=BX cs fun c _=>(zk c).2
theorem hM (env:Ev) (st:List (Le×Nat)) (l:Le) (lg:Nat):aM env st l lg []=match st with
 |[]=>.ok l.done
 |(_,k)::_=>.err k:=n0 ..
theorem bT (env:Ev) (st:List (Le×Nat)) (l:Le) (lg:Nat) (c:UInt8) (r:BS):aM env st l lg (c::r)=
 if c.toNat=123 then match l.cmd with
  |none=>.err (r.length+1)
  |some _=>aM env ((l,r.length+1)::st) ⟨[],none,lg+1⟩ (lg+1) r
 else if c.toNat=125 then match st with
  |[]=>.err (r.length+1)
  |(l',_)::st'=>aM env st' (l'.add (.blk l.done)) lg r
 else if c.toNat=35 then aM env st l lg (r.dropWhile (·!=10))
 else if c.toNat=92/\dy 10 r=true then aM env st l lg r.tail
 else if c.toNat=10 then aM env st ⟨l.done,none,lg+1⟩ (lg+1) r
 else if c.toNat=59 then aM env st ⟨l.done,none,l.grp⟩ lg r
 else if c.toNat=32 then aM env st l lg r
 else match bO env true true [] (c::r) with
  | .err k=>.err k
  | .ok f b r'=>if b=true/\f∈jb then .bad else if h:r'.length<=r.length then aM env st (l.add (.w f)) lg r' else .bad:=n0 ..
theorem yd (d:BS):gu (39::d)=some ([],d):=by rfl
theorem uG {a:UInt8} {d:BS} (h:a≠39):gu (a::d)=(gu d).map fun p=>(a::p.1,p.2):=by
 have h':¬(39:UInt8)=a:=fun q=>h q.symm;have h2:(a !=39)=true:=by simpa using h
 unfold gu;by_cases q:(39:UInt8)∈d
 ·rw [Tk (Td _ q),Tk q,List.takeWhile_cons_of_pos (p:=fun x=>x !=39) h2,List.dropWhile_cons_of_pos (p:=fun x=>x !=39) h2];rfl
 ·rw [Tc (by simp [h',q]),Tc q];rfl
theorem ev (env:Ev) (start bare:Bool) (f:BS) (c:UInt8) (r:BS):bO env start bare f (c::r)=
 if dF c.toNat=true then .ok f bare (c::r)
 else if c.toNat=39 then match gu r with
  |none=>.err (r.length+1)
  |some q=>if h:q.2.length<=r.length then bO env false false (f++q.1) q.2 else .err 0
 else if c.toNat=34 then match dX env f r with
  | .open=>.err (r.length+1)
  | .err k=>.err k
  | .ok f' r'=>if h:r'.length<=r.length then bO env false false f' r' else .err 0
 else if c.toNat=92 then(if r.isEmpty=true then .err 1 else bO env false false (f++(cp r).1) (cp r).2)
 else if c.toNat=36 then match cH env r with
  |none=>.err (r.length+1)
  |some q=>bO env false false (f++q.1) q.2
 else if c.toNat=126/\start=true then bO env false false (f++look env j0) r
 else bO env false bare (f++[c]) r:=by
 rw [qk];rw [dif_pos (eE r)];cases hv:cH env r with
 |none=>rfl
 |some q=>
  dsimp only;rw [dif_pos (eD hv)];try rfl
theorem iR (env:Ev) (f:BS) (c:UInt8) (r:BS):dX env f (c::r)=
 if c.toNat=34 then .ok f r
 else if c.toNat=92 then(if r.isEmpty=true then .err 1 else dX env (f++(cp r).1) (cp r).2)
 else if c.toNat=36 then match cH env r with
  |none=>.err (r.length+1)
  |some q=>dX env (f++q.1) q.2
 else dX env (f++[c]) r:=by
 rw [lP];rw [dif_pos (eE r)];cases hv:cH env r with
 |none=>rfl
 |some q=>
  dsimp only;rw [dif_pos (eD hv)];try rfl
theorem iz (env:Ev) (Fw:Option Nat) (gs g c:List Tr):cO env Fw gs g c []=match Fw with
 |some k=>.err k
 |none=>.ok (dg gs (dg g c)) []:=nj ..
theorem dr (env:Ev) (Fw:Option Nat) (gs g c:List Tr) (a:UInt8) (r:BS):cO env Fw gs g c (a::r)=
 if a.toNat=35 then cO env Fw gs g c (r.dropWhile (·!=10))
 else if a.toNat=125 then match Fw with
  |none=>.err (r.length+1)
  |some _=>.ok (dg gs (dg g c)) r
 else if a.toNat=10 then cO env Fw (dg gs (dg g c)) [] [] r
 else if a.toNat=59 then cO env Fw gs (dg g c) [] r
 else if a.toNat=32 then cO env Fw gs g c r
 else if a.toNat=92/\dy 10 r=true then cO env Fw gs g c r.tail
 else if a.toNat=123 then(if c.isEmpty=true then .err (r.length+1) else match cO env (some (r.length+1)) [] [] [] r with
  | .err k=>.err k
  | .bad=>.bad
  | .ok rows r'=>if h:r'.length<=r.length then cO env Fw gs g (c++[.l rows]) r' else .bad)
 else match bO env true true [] (a::r) with
  | .err k=>.err k
  | .ok f _ r'=>if h:r'.length<=r.length then cO env Fw gs g (c++[.w f]) r' else .bad:=nj ..
theorem ly (a b:List Nd):dO (a++b)=dO a++dO b:=by rw [iZ,iZ,iZ,TE]
theorem jn (a b:List Nd):dE (a++b)=dE a++dE b:=by rw [iO,iO,iO,TE]
theorem jk (a:List Nd):(dO a).isEmpty=a.isEmpty:=by cases a<;>rfl
theorem uS (a:List Nd):(dE a).map (·.2)=dO a:=by rw [iO,iZ,List.map_map];rfl
theorem om (a:List Nd) (p:Nat×Tr) (h:p∈dE a):∃x∈a,p.1=x.num:=aw (List.mem_map.mp (iO a▸h)) fun x hx e=>aj x hx (congrArg (·.1) e.symm)
theorem P4 (n:Nat) (t:Tr):grp [(n,t)]=[[t]]:=rfl
theorem et (n m:Nat) (t u:Tr) (r:List (Nat×Tr)):grp ((n,t)::(m,u)::r)=if m=n then(match grp ((m,u)::r) with|[]=>[[t]]|x::xs=>(t::x)::xs) else [t]::grp ((m,u)::r):=rfl
theorem tz (p:Nat×Tr) (r:List (Nat×Tr)):grp (p::r)≠[]:=by
 cases p with
 |mk n t=>
  cases r with
  |nil=>exact TS _ _
  |cons q r=>
   cases q with
   |mk m u=>
    rw [et];by_cases h:m=n
    ·rw [Tk h];cases grp ((m,u)::r)<;>exact TS _ _
    ·rw [Tc h];exact TS _ _
theorem oF (G:Nat) (ys:List (Nat×Tr)) (h:∀y∈ys,y.1=G) (hn:ys≠[]):grp ys=[ys.map (·.2)]:=by
 induction ys with
 |nil=>exact absurd rfl hn
 |cons p r ih=>
  cases p with
  |mk n t=>
   cases r with
   |nil=>rfl
   |cons q r=>
    cases q with
    |mk m u=>
     rw [et,Tk (L5 (h _ (SZ ..)) (h _ (Td _ (SZ ..)))),ih (fun y hy=>h y (Td _ hy)) (TS _ _)];rfl
theorem yy (G:Nat) (ys:List (Nat×Tr)) (hy:∀y∈ys,y.1=G) (Fd:ys≠[]) (xs:List (Nat×Tr)) (hx:∀x∈xs,x.1<G):grp (xs++ys)=grp xs++[ys.map (·.2)]:=by
 induction xs with
 |nil=>exact oF G ys hy Fd
 |cons p r ih=>
  have ih:=ih fun x h=>hx x (Td _ h);cases p with
  |mk n t=>
   cases r with
   |nil=>
    cases ys with
    |nil=>exact absurd rfl Fd
    |cons y ys=>
     cases y with
     |mk m u=>
      show grp ((n,t)::(m,u)::ys)=_;rw [et,Tc (L4 (hy (m,u) (SZ ..)) (hx (n,t) (SZ ..))),oF G _ hy Fd];rfl
   |cons q r=>
    cases q with
    |mk m u=>
     show grp ((n,t)::(m,u)::(r++ys))=_;rw [et,et,show grp ((m,u)::(r++ys))=grp ((m,u)::r)++[ys.map (·.2)] from ih];by_cases h:m=n
     ·rw [Tk h,Tk h];cases hg:grp ((m,u)::r) with
      |nil=>exact absurd hg (tz _ _)
      |cons x xs=>rfl
     ·rw [Tc h,Tc h];rfl
theorem sL {G:Nat} {a b:List Nd} (hb:∀x∈b,x.num=G) (ha:∀x∈a,x.num<G):dh (a++b)=dg (dh a) (dO b):=by
 show(grp (dE (a++b))).map _=if(dO b).isEmpty=true then dh a else dh a++[.l (dO b)];rw [jk];cases b with
 |nil=>rw [T7,Tk (show([]:List Nd).isEmpty=true from rfl)];rfl
 |cons y b=>
  rw [Tc (by exact Bool.false_ne_true),jn,yy G (dE (y::b)) (fun p hp=>by refine aw (om _ p hp) fun x hx e=>?_;rw [e];exact hb x hx) (TS _ _) _ (fun p hp=>by refine aw (om _ p hp) fun x hx e=>?_;rw [e];exact ha x hx)];rw [TE,uS];rfl
structure fp (l:Le) (gs g c:List Tr) (lg:Nat):Prop where
 le:l.grp<=lg
 ex:∃a b,l.cs=a++b/\(∀x∈b,x.num=l.grp)/\(∀x∈a,x.num<l.grp)/\gs=dh a/\g=dO b
 cm:match l.cmd with|none=>c=[]|some ws=>ws≠[]/\c=dO ws
theorem fp.done {l:Le} {gs g c:List Tr} {lg:Nat} (R:fp l gs g c lg):∃a b,l.done=a++b/\(∀x∈b,x.num=l.grp)/\(∀x∈a,x.num<l.grp)/\gs=dh a/\dg g c=dO b:=by
 obtain⟨h1,⟨a,b,e,hb,ha,e1,e2⟩,h3⟩:=R;obtain⟨cs,cmd,gr⟩:=l;cases cmd with
 |none=>
  dsimp only at h3;subst h3;exact(eA a b e hb ha e1 (by unfold dg;rw [Tk (by rfl)];exact e2))
 |some ws=>
  refine a0 (h3) fun h4 h5=>?_;refine(eA a (b++[.cmd gr ws]) (by show cs++_=_;rw [show cs=a++b from e,Tw]) (fun x hx=>?_) ha e1 ?_)
  ·rcases T3.mp hx with hx|hx
   ·exact hb x hx
   ·rw [Ti.mp hx];rfl
  ·unfold dg;rw [h5,jk,Tc (by simpa using h4),ly,e2];rfl
theorem fp.rows {l:Le} {gs g c:List Tr} {lg:Nat} (R:fp l gs g c lg):dh l.done=dg gs (dg g c):=by
 refine fw (R.done) fun a b e hb ha e1 e2=>?_;rw [e,sL hb ha,e1,e2]
theorem fp.line {l:Le} {gs g c:List Tr} {lg:Nat} (R:fp l gs g c lg):fp ⟨l.done,none,lg+1⟩ (dg gs (dg g c)) [] [] (lg+1):=by
 refine fw (R.done) fun a b e hb ha e1 e2=>?_;have hl:=R.le;refine⟨Tj _,(eA l.done ([]) (by exact(T7 _).symm) (by exact fun _ h=>absurd h List.not_mem_nil) (fun x hx=>?_) R.rows.symm rfl),rfl⟩;rw [e] at hx;show x.num<lg+1;rcases T3.mp hx with hx|hx
 ·have:=ha x hx;exact L3 hl this
 ·have:=hb x hx;exact LY hl this
theorem fp.semi {l:Le} {gs g c:List Tr} {lg:Nat} (R:fp l gs g c lg):fp ⟨l.done,none,l.grp⟩ gs (dg g c) [] lg:=by
 refine fw (R.done) fun a b e hb ha e1 e2=>?_;exact⟨R.le,(eA a b e hb ha e1 e2),rfl⟩
theorem fp.add {l:Le} {gs g c:List Tr} {lg:Nat} (R:fp l gs g c lg) (n:Nd):fp (l.add n) gs g (c++[wT n]) lg:=by
 obtain⟨h1,h2,h3⟩:=R;obtain⟨cs,cmd,gr⟩:=l;cases cmd with
 |none=>
  dsimp only at h3;subst h3;exact⟨h1,h2,by exact of_decide_eq_false rfl,rfl⟩
 |some ws=>
  refine a0 (h3) fun h4 h5=>?_;exact⟨h1,h2,by simp,by rw [h5,ly];rfl⟩
theorem fp.new (lg:Nat):fp ⟨[],none,lg⟩ [] [] [] lg:=⟨Tj _,(eA ([]) ([]) rfl (by exact fun _ h=>absurd h List.not_mem_nil) (by exact fun _ h=>absurd h List.not_mem_nil) rfl rfl),rfl⟩
theorem fp.up {l:Le} {gs g c:List Tr} {lg K7:Nat} (R:fp l gs g c lg) (h:lg<=K7):fp l gs g c K7:=⟨TO R.le h,R.ex,R.cm⟩
theorem fp.isE {l:Le} {gs g c:List Tr} {lg:Nat} (R:fp l gs g c lg):c.isEmpty=l.cmd.isNone:=by
 have h:=R.cm;obtain⟨cs,cmd,gr⟩:=l;cases cmd with
 |none=>dsimp only at h;subst h;rfl
 |some ws=>refine a0 (h) fun h4 h5=>?_;rw [h5,jk];cases ws with|nil=>exact absurd rfl h4|cons x xs=>rfl
theorem nI {p q:Nat×Tr} {r:List (Nat×Tr)} {a:List Tr} {as:List (List Tr)} (h:q.1=p.1) (e:grp (q::r)=a::as):grp (p::q::r)=(p.2::a)::as:=by
 cases p;cases q;exact(et ..).trans ((Tk h).trans (by rw [e]))
theorem wx {p q:Nat×Tr} {r:List (Nat×Tr)} (h:¬q.1=p.1):grp (p::q::r)=[p.2]::grp (q::r):=by
 cases p;cases q;exact(et ..).trans (Tc h)
theorem qI {n:Nat} {t:Tr} {x:List Tr} {y:List (List Tr)} {m:Nat} {u:Tr} (h0:grp [(m,u),(n,t)]=(u::x)::y) (l:List (Nat×Tr)):∃Gs L,grp (l++[(m,u)])=Gs++[L]/\grp (l++[(m,u),(n,t)])=Gs++(L++x)::y:=by
 induction l with
 |nil=>exact cT [] [u] rfl h0
 |cons p l ih=>
  refine eU ih fun Gs L e1 e2=>?_;have ne:∃q r s,l++[(m,u)]=q::r/\l++[(m,u),(n,t)]=q::s:=by cases l<;>exact dI _ _ _ rfl rfl
  refine eu ne fun q r s er es=>?_;show ∃Gs L,grp (p::(l++[(m,u)]))=Gs++[L]/\grp (p::(l++[(m,u),(n,t)]))=Gs++(L++x)::y;rw [er] at e1 ⊢;rw [es] at e2 ⊢;by_cases hk:q.1=p.1
  ·cases Gs with
   |nil=>exact cT [] (p.2::L) (nI hk e1) (nI hk e2)
   |cons a Gs=>exact cT ((p.2::a)::Gs) L (nI hk e1) (nI hk e2)
  ·exact cT ([p.2]::Gs) L ((wx hk).trans (congrArg _ e1)) ((wx hk).trans (congrArg _ e2))
theorem u5 (n:Nat) (t:Tr) (l:List (Nat×Tr)) (m:Nat) (u:Tr):∃Gs L,grp (l++[(m,u)])=Gs++[L]/\grp (l++[(m,u)]++[(n,t)])=if m=n then Gs++[L++[t]] else Gs++[L]++[[t]]:=by
 by_cases h:m=n
 ·refine eU (qI (x:=[t]) (y:=[]) ((et ..).trans (Tk h.symm)) l) fun Gs L e1 e2=>cT Gs L e1 ?_;rw [Tk h,Tw];exact e2
 ·refine eU (qI (x:=[]) (y:=[[t]]) ((et ..).trans (Tc (Ne.symm h))) l) fun Gs L e1 e2=>cT Gs L e1 ?_;rw [T7] at e2;rw [Tc h,Tw,Tw];exact e2
theorem u8 (ws:List Nd) (i:Nat):(dO ws)[i]? =ws[i]?.map wT:=by rw [iZ];exact List.getElem?_map
theorem mm (ws:List Nd):(dO ws).length=ws.length:=by rw [iZ];exact Tx _
theorem uE {ws:List Nd} {i:Nat} (h:i<ws.length):(dO ws).take (i+1)=(dO ws).take i++[wT ws[i]]:=by
 have h2:i<(dO ws).length:=by rw [mm];exact h
 rw [List.take_succ_eq_append_getElem h2];have:=u8 ws i;rw [Th h2,Th h] at this;rw [Option.some.inj this]
noncomputable abbrev OK (cs:List Nd) (v:AV) (g':GH) (own':LD):Prop:=own'=[]/\dK g' v (.l (dh cs))
noncomputable def CR (cs:List Nd):Prop:=∀{w:World} {H₀:Heap} (W:Wd w H₀) {g:GH} {l:Addr} {xs:List AV},(∀c∈cs,WF true c)->g (l,.list xs)->eJ g xs cs->4*(cg none cs).length+8<=bf->
 ∀on,aA [.ref l] on->cz w H₀ g [] (.call (.ref 339) ⟨on,[]⟩) (cK cs+1) true (OK cs) (fun _=>False)
noncomputable abbrev Ba (l ga:Addr) (o1 o2 o3:Option AV):LV:=[("commands",some (.ref l)),("groups",some (.ref ga)),("last",o1),("command",o2),("words",o3)]
theorem ie.inv_f {g:GH} {v:AV} {n:Nd} (hw:WF false n) (h:ie g v n):(∃b,n= .w b/\v= .bytes b)\/∃cs k dx l vs,n= .blk cs/\v= .ref k/\g (k,.inst 86 dx [("commands",.ref l)])/\g (l,.list vs)/\eJ g vs cs:=by
 cases h with
 |w b=>exact .inl (aj b rfl rfl)
 |blk k dx l vs cs h1 h2 h3 h4=>exact .inr (iQ cs k dx l vs (bF rfl rfl h1 h2 h3 h4))
 |cmd c dx wl pl m vs ws h1 h2 h3 h4=>cases hw
inductive xH (g:GH) (cs:List Nd) (l:Addr) (ga:Addr) (i:Nat) (g':GH) (vs:LV) (an:LD):Prop
 |mk:((∀p,g p->g' p))->(i<=cs.length)->∀o1 o2 o3,(vs=Ba l ga (some o1) o2 o3)->(((i=0/\an=[(ga,.list [])])\/∃gv la lv Gs L r c0,cs.take i=r++[c0]/\o1= .int (c0.num:Nat)/\grp (dE (cs.take i))=Gs++[L]/\an=[(ga,.list (gv++[.ref la])),(la,.list lv)]/\cG g' gv (Gs.map .l)/\cG g' lv L/\gv.length+1<=i/\lv.length<=i))->xH g cs l ga i g' vs an
inductive xG (g':GH) (c:Addr) (o1:AV) (o3:Option AV) (cs:List Nd) (l:Addr) (i:Nat) (p:Addr×AO) (ga:Addr) (ws:List Nd) (g2:GH) (vs:LV) (an:LD):Prop
 |mk:((∀p,g' p->g2 p))->(vs=Ba l ga (some o1) (some (.ref c)) o3)->∀gv la lv Gs L,(grp (dE (cs.take (i+1)))=Gs++[L++[.l (dO ws)]])->(an=[p,(ga,.list (gv++[.ref la])),(la,.list lv)])->(cG g2 gv (Gs.map .l))->(cG g2 lv L)->(gv.length<=i)->(lv.length<=i)->xG g' c o1 o3 cs l i p ga ws g2 vs an
inductive xF (g2:GH) (c:Addr) (l:Addr) (p:Addr×AO) (ga:Addr) (ws:List Nd) (m:Nat) (gv:List AV) (la:Addr) (lv:List AV) (g3:GH) (vs:LV) (an:LD):Prop
 |mk:((∀p,g2 p->g3 p))->∀F6 ys,(vs=Ba l ga (some (.int (m:Nat))) (some (.ref c)) (some (.ref F6)))->(an=[p,(ga,.list (gv++[.ref la])),(la,.list lv)])->(g3 (F6,.list ys))->(cG g3 ys (dO ws))->xF g2 c l p ga ws m gv la lv g3 vs an
noncomputable def wP:cD 339:=⟨_,fun P=>(bc _ _ _ rfl)⟩
noncomputable abbrev Py:aY:=dm wP ["commands","groups","last","command","words"] rfl (by decide+kernel) (by decide+kernel)
theorem OW:bE Py (bY wP.fd) ["commands"] 1 []:=
 bE.mk' _ _ _ _ [] rfl (fun _=>rfl) (fun _=>rfl) .nil (fun w s X _=>Tz rfl) rfl rfl rfl (by decide+kernel) (by decide+kernel)
theorem Ot (cs:List Nd) (IH:∀c∈cs,∀m ws,c= .cmd m ws->∀w∈ws,∀ds,w= .blk ds->CR ds):CR cs:=by
 intro w H₀ W g l xs hwf hl hN hz;refine bK OW (cK cs) [("commands",some (.ref l)),("groups",none),("last",none),("command",none),("words",none)] W fun Φ hw hH hg Kd hn ho hi Qf y'=>?_;have F0:bf=1000000:=rfl;have Hn:cq=1000000:=rfl;have hcl:=lD cs;have SB:=hN.1;have SE:((fQ none cs).map List.length).sum=(cg none cs).length:=by rw [←i7,List.length_flatten]
 refine ae ?_;refine bX (names:=["groups","last"]) ?_;refine ah rfl ?_;refine bL (af ⟨by exact Tn _,fun ga hga=>?_⟩);refine ap rfl ?_;refine(aN rfl (by exact Ta rfl) ?_);refine aW (aJ ?_);refine aL rfl ?_;refine aW (aJ ?_);refine aL rfl ?_;refine cu ?_;refine ae ?_;refine jV (hs:=by intro _;rfl) ?_;refine aa ad ?_;refine iG (ht:=by intros;rfl) hi (gQ (a:=l) (xs:=xs)) (xH g cs l ga) (fun i g' vs an h=>.inr (h.1 _ hl)) ?_ ?_ ?_
 ·rintro i p Qb F2 g' vs an hi1 ⟨K0,K8,o1,o2,o3,rfl,hst2⟩ hp;have O':i<cs.length:=by exact zK SB hi1
  rw [my _ hi1];have hNi:=hN.2 i xs[i] cs[i] (Th hi1) (Th O');have Sz:cs[i]∈cs:=List.getElem_mem O';have hwi:=hwf _ Sz;refine iy (hwi.t_inv) fun m ws hm=>?_;have hNi':=hNi;rw [hm] at hNi';refine f_ (hNi'.inv_cmd) fun c dx wl pl vs El=>cU El fun hxi hc0 hwl0 hws0=>?_;have hc:=K0 _ hc0;have hwl:=K0 _ hwl0;have hws:=hws0.mono K0;have hnum:cs[i].num=m:=by rw [hm];rfl
  have hwTi:wT cs[i]= .l (dO ws):=by rw [hm];rfl
  have htk:cs.take (i+1)=cs.take i++[cs[i]]:=List.take_succ_eq_append_getElem O';have hnt:dE (cs.take (i+1))=dE (cs.take i)++[(m,.l (dO ws))]:=by rw [htk,jn];exact congrArg (dE (cs.take i)++[·]) (by rw [hnum,hwTi])
  have hdep:=f0 Sz;have hol:(bH cs[i]).length<=(cg none cs).length:=by rw [←SE];exact iw (TP (n9 Sz))
  have hwsl:ws.length<=(bH cs[i]).length+1:=by rw [hm,n8,kc];simp only [Tx,Tu,TC];exact EI O'
  rw [hxi];refine bt ?_;refine aL rfl ?_;refine ae ?_;refine fi (R:=(xG g' c o1 o3 cs l i p ga ws)) ?_ ?_
  ·intro Q1 Lb;rcases hst2 with⟨rfl,rfl⟩|⟨gv,la,lv,Gs,L,r,c0,hr,rfl,hgr,rfl,hgv,hlv,hgl,hll⟩
   ·refine aS (ch (gb (aa a7 (jp a7 (cQ (fun _=>bv (ag (bm rfl (aH rfl rfl (Tb rfl) rfl (aa a7 (dC (Tl a7) (T_ trivial (ah rfl ?_)))))))) (fun _=>ch (aK (fU (aa dc ?_)) rfl)))))))
    ·refine bL (af ⟨by exact Tn _,fun la hla=>?_⟩);refine af ?_;simp only [S9,S_];refine dB (by exact ay.tail ay.head) (by exact Tn _) ?_;refine de (ql Lb ?_);refine⟨rfl,_,_,.refl,fun _ h=>h,rfl,[],la,[],[],[],?_,rfl,.nil,.nil,Tj _,Tj _⟩;rw [hnt];rfl
    ·rename_i h;trivial
   ·have hn2:dE (cs.take i)=dE r++[(c0.num,wT c0)]:=by rw [hr,jn];rfl
    refine eU (u5 m (.l (dO ws)) (dE r) c0.num (wT c0)) fun Gs' L' eg1 eg2=>?_;rw [←hn2] at eg1 eg2;rw [←hnt] at eg2;have hGL:=List.append_inj' (hgr.symm.trans eg1) rfl;(refine a0 (hGL) fun j' hL=>?_;subst j');cases hL;refine aS (ch (gb (aa a7 (jp a7 (am (fun _=>bv (ag (bm rfl (aH rfl rfl (Tb rfl) rfl (aa a7 (dC (Tl a7) (T_ trivial (ah rfl ?_)))))))) (fun _=>ch (aK (fU (aa dc ?_)) rfl)))))))
    ·rename_i h;exact absurd h (by simp)
    ·refine eY (.inr hc) ad h_ ?_;refine aa aQ (sf (aF (am (fun _=>bv (ag (bm rfl (aH rfl rfl (Tb rfl) rfl (aa a7 (dC (Tl a7) (T_ trivial (ah rfl ?_)))))))) (fun _=>cL (bd (bq (ql Lb ?_)))))))
     ·rename_i Fd;rw [Tc (HV O' Fd)] at eg2;refine bL (af ⟨by exact Tn _,fun lb SW=>?_⟩);refine af ?_;simp only [S9,S_];refine dB (by exact ay.tail ay.head) (by simp;exact HU hz F0 Hn hcl SB SE hi1 O' hgl) ?_;refine de (ql Lb ?_);refine⟨rfl,_,_,.fz (p:=(la,.list lv)) rfl (.tail (.tail .head)) .refl,fun _ h=>.inr h,rfl,gv++[.ref la],lb,[],Gs++[L],[],?_,by rfl,?_,.nil,?_,Tn _⟩
      ·rw [eg2];rfl
      ·rw [TE];exact(hgv.mono fun p hp=>.inr hp).snoc (.li (.inl rfl) (hlv.mono fun p hp=>.inr hp))
      ·simpa using hgl
     ·rename_i Fd;rw [Tk (EH O' Fd)] at eg2;exact⟨rfl,_,_,.refl,fun _ h=>h,rfl,gv,la,lv,Gs,L,eg2,rfl,hgv,hlv,by exact HT O' hgl,hll⟩
  ·rintro g2 vs an ⟨SR,rfl,gv,la,lv,Gs,L,hgr,rfl,hgv,hlv,hgl,hll⟩;have hc2:=SR _ hc;have hwl2:=SR _ hwl;have hws2:=hws.mono SR;refine ae ?_;refine aI rfl (fU (aa dc ?_));refine eY (.inr hc2) ad h_ ?_;refine aL rfl ?_;refine ae ?_;refine fi (R:=(xF g2 c l p ga ws m gv la lv)) ?_ ?_
   ·intro Q1 Lb;refine kr (hs:=by intro _;rfl) (ht:=by intros;rfl) rfl (by decide+kernel) (by decide+kernel) (by decide+kernel) (by decide+kernel) (by decide+kernel) ?_ rfl;refine fU (aa dc ?_);refine eY (.inr hc2) a7 hZ ?_;refine⟨_,_,_,_,fun Ψ=>gQ (Φ:=Ψ) (a:=wl) (xs:=vs),fun j g' ys led'=>(∀p,g2 p->g' p)/\j<=ws.length/\cG g' ys ((dO ws).take j)/\led'=[p,(ga,.list (gv++[.ref la])),(la,.list lv)],?_,?_,?_,?_,?_,?_⟩
    ·rintro j g' ys led' p1 ⟨hg3,_,_,rfl⟩;exact .inr (hg3 _ hwl2)
    ·exact .inr hwl2
    ·rintro j g' ys led' ⟨hg3,h,h2,rfl⟩;have:=h2.1;rw [List.length_take,mm] at this;exact EG hz F0 Hn SE O' hol hwsl h this
    ·skip;exact⟨fun _ h=>h,Tn _,by rw [List.take_zero];exact .nil,rfl⟩
    ·rintro Ψ hΨ j g3 led' ys p1 q1 hj1 ⟨hg3,hjle,hys,rfl⟩;have hj2:j<ws.length:=by rw [←hws2.1];exact hj1
     rw [my _ hj1];have hNj:=(hws2.2 j vs[j] ws[j] (Th hj1) (Th hj2)).mono hg3;have hmj:ws[j]∈ws:=List.getElem_mem hj2;have hwfj:WF false ws[j]:=(hm▸hwi).cmd_inv _ hmj;have hdj:=f0 hmj;have SV:=hΨ.room;have htj:=uE hj2;have holj:(bH ws[j]).length<=(bH cs[i]).length:=by rw [hm,n8,kc];have:=iw (TP (f:=List.length) (TP (f:=bH) hmj));exact HS O' hj2 this
     have hdc:fR cs[i]=cK ws:=by rw [hm];rfl
     refine jT ?_;rcases hNj.inv_f hwfj with⟨b,hn,hv⟩|⟨ds,k,dxk,lk,vk,hn,hv,hk,hlk,hNk⟩
     ·rw [hv];refine bv (cw (da rfl ?_));refine aP fW trivial ?_;refine ah rfl (aa ad (ah rfl ?_));refine fT oJ ?_;refine af ?_;refine ut ?_;refine aF (bd (aa ad ?_));exact(e7 _ (.refl _) hg3 hj2 (by rw [htj,hn];exact hys.snoc (.w b)) rfl)
     ·rw [hv];rw [hn] at hdj holj;have hdj:cK ds+1<=_:=hdj;have holj:([123,32]++cg none ds++[32,125]:BS).length<=_:=holj;simp only [Tf,Tu,TC] at holj;refine bv (cw (da rfl ?_));refine aP fW trivial ?_;refine ah rfl (aa ad (ah rfl ?_));refine fT oJ ?_;refine af ?_;refine ur (.inr hk) ?_;refine aF (bv ?_);refine aP rP pi ?_;refine ah rfl (fU (aa ad ?_));refine eY (.inr hk) ad iU ?_;refine af ?_;refine a_ (a':=[p1,q1,p,(ga,.list (gv++[.ref la])),(la,.list lv)]) (IH _ Sz m ws hm ws[j] hmj ds hn Ψ.wd (hn▸hwfj).blk_inv hlk hNk (HQ hz F0 SE O' hol holj)) (HP ‹_› O' hdep SV hdc hdj) (.refl _) (fun _ h=>h.elim) ?_;(intro v2 g4 _ j' hg4 led' e1;refine a0 (j') fun th htr=>?_;subst th);(rename _++_=_=>e;(try dsimp only [S9,S_] at e);subst e);exact(e7 _ (.refl _) (fun p h=>hg4 _ (hg3 _ h)) hj2 (by rw [htj,hn];exact(hys.mono hg4).snoc htr) rfl)
    ·(intro g3 ys led' F6 j' hacc;refine cU (j') fun hg3 _ hys th=>?_;subst th);rw [hws2.1,List.take_of_length_le (by rw [mm];exact Tj _)] at hys;refine aL rfl ?_;refine ql Lb ?_;exact⟨rfl,_,_,.fz (p:=(F6,.list ys)) rfl .head .refl,fun p h=>.inr (hg3 _ h),F6,ys,rfl,rfl,.inl rfl,hys.mono fun p h=>.inr h⟩
   ·rintro g3 vs an ⟨hg3,F6,ys,rfl,rfl,hacc,hys⟩;refine ag (bm rfl (aH rfl rfl (Tb rfl) rfl (bg (aa a7 (gk (au (jY ?_)))))));refine q9 (xs:=gv) (v:=.ref la) (.inl a7) (Ai hz F0 Hn hcl SB SE hi1 O' hgl) ?_ (hs:=fun _ _=>g_ (by exact rfl));refine dC (Tl aQ) (T_ trivial (ap rfl ?_));refine dB (by exact ay.tail (ay.tail ay.head)) (Ai hz F0 Hn hcl SB SE hi1 O' hll) ?_;refine de (eN F2 ?_);refine⟨_,rfl,fun p h=>hg3 _ (SR _ (K0 _ h)),O',_,_,_,rfl,.inr (jL gv la (lv++[.ref F6]) Gs (L++[.l (dO ws)]) (cs.take i) (cs[i]) (jM htk (by rw [hnum]) hgr rfl (hgv.mono hg3) ((hlv.mono hg3).snoc (.li hacc hys)) (HO O' hgl) (by simp;exact HN O' hll)))⟩
 ·skip;exact⟨fun _ h=>h,Tn _,_,_,_,rfl,.inl ⟨rfl,rfl⟩⟩
 ·rintro g' vs an ⟨K0,_,o1,o2,o3,rfl,hst2⟩;rw [SB] at hst2;refine ag (aE (aa a7 (aO (ql y' ?_))));rcases hst2 with⟨h0,rfl⟩|⟨gv,la,lv,Gs,L,r,c0,hr,rfl,hgr,rfl,hgv,hlv,hgl,hll⟩
  ·have:cs=[]:=List.length_eq_zero_iff.mp h0;subst this;exact(cf _ _ (.fz (p:=(ga,.list [])) rfl .head .refl) rfl (.li (.inl rfl) cG.nil))
  ·rw [List.take_length] at hgr;refine(cf _ _ (.fz (p:=(la,.list lv)) rfl (.tail .head) (.fz (p:=(ga,.list (gv++[.ref la]))) rfl .head .refl)) rfl (.li (.inl rfl) ?_));show cG _ _ ((grp (dE cs)).map _);rw [hgr,TE];exact(hgv.mono fun p hp=>.inr (.inr hp)).snoc (.li (.inr (.inl rfl)) (hlv.mono fun p hp=>.inr (.inr hp)))
theorem xn (cs:List Nd):CR cs:=
 ((Nd.blk cs).ind (P:=fun n=>(∀cs,n= .blk cs->CR cs)/\∀m ws,n= .cmd m ws->∀w∈ws,∀ds,w= .blk ds->CR ds) (fun _=>⟨fun _ e=>(by cases e),fun _ _ e=>(by cases e)⟩) (fun cs h=>⟨fun ds e=>Ot ds fun c hc=>(h c (by cases e;exact hc)).2,fun _ _ e=>(by cases e)⟩)
  fun _ _ h=>⟨fun _ e=>(by cases e),fun _ _ e w hw=>(h w (by cases e;exact hw)).1⟩).1 cs rfl
structure Sk where
 tp:Addr
 cl:Addr
 xs:List AV
 k:Ca
 gp:Int
 pl:Int
noncomputable abbrev qs (s:Sk):LD:=[(s.tp,.tuple [.ref s.cl,.ref s.k.c,.int s.gp,.int s.pl]),(s.k.c,ci s.k s.gp),(s.k.wl,.list s.k.ws),(s.k.pl,.list s.k.ps),(s.cl,.list s.xs)]
noncomputable def hJ:List Sk->LD
 |[]=>[]
 |s::r=>qs s++hJ r
noncomputable def gw:List Sk->List AV
 |[]=>[]
 |s::r=>gw r++[.ref s.tp]
theorem v1:gw []=[]:=rfl
theorem nG {s r}:gw (s::r)=gw r++[.ref s.tp]:=rfl
theorem v0 {s r}:hJ (s::r)=qs s++hJ r:=rfl
theorem mu (l:List Sk):(gw l).length=l.length:=by
 induction l with
 |nil=>rfl
 |cons s r ih=>rw [nG,Tf,ih];rfl
inductive mR (g:GH) (N:Nat):Option Ca->Option (List Nd)->Prop
 |none:mR g N none none
 |some (k ws):eJ g k.ws ws->k.ws.length<=N->k.ps.length<=N->mR g N (some k) (some ws)
structure io (g:GH) (N:Nat) (xs:List AV) (cm:Option Ca) (l:Le):Prop where
 cs:eJ g xs l.cs
 cm:mR g N cm l.cmd
 xz:xs.length<=N
inductive lt (g:GH) (N:Nat) (n:Nat):List Sk->List (Le×Nat)->Prop
 |nil:lt g N n [] []
 |cons (s r l k st):io g N s.xs (some s.k) l->s.gp=((l.grp:Nat):Int)->s.pl=(n:Int)-(k:Nat)->lt g N n r st->lt g N n (s::r) ((l,k)::st)
theorem mR.mono {g g':GH} {N N':Nat} (h:∀p,g p->g' p) (hN:N<=N') {a b} (x:mR g N a b):mR g' N' a b:=by
 cases x with
 |none=>exact .none
 |some k ws h1 h2 h3=>exact .some k ws (h1.mono h) (Ap hN h2) (Ap hN h3)
theorem io.mono {g g':GH} {N N':Nat} (h:∀p,g p->g' p) (hN:N<=N') {a b c} (x:io g N a b c):io g' N' a b c:=⟨x.cs.mono h,x.cm.mono h hN,TO x.xz hN⟩
theorem lt.mono {g g':GH} {N N' n:Nat} (h:∀p,g p->g' p) (hN:N<=N') {a b} (x:lt g N n a b):lt g' N' n a b:=by
 induction x with
 |nil=>exact .nil
 |cons s r l k st h1 h2 h3 _ ih=>exact .cons s r l k st (h1.mono h hN) h2 h3 ih
theorem io.done {g g':GH} {N:Nat} {xs:List AV} {cm:Option Ca} {l:Le} (x:io g N xs cm l) (h:∀p,g p->g' p) (hf:xY g' (l.grp:Int) cm):eJ g' (g9 xs cm) l.done:=by
 obtain⟨h1,h2,h3⟩:=x;obtain⟨cs,cmd,gr⟩:=l;cases h2 with
 |none=>exact h1.mono h
 |some k ws h4 h5 h6=>exact(h1.mono h).snoc (.cmd k.c k.dx k.wl k.pl gr k.ws ws hf.1 hf.2 h4.1 fun i v n a b=>(h4.2 i v n a b).mono h)
theorem io.len {g:GH} {N:Nat} {xs:List AV} {cm:Option Ca} {l:Le} (x:io g N xs cm l):(pc cm).length<=N/\(pd cm).length<=N/\(g9 xs cm).length<=N+1:=by
 obtain⟨h1,h2,h3⟩:=x;obtain⟨cs,cmd,gr⟩:=l;cases h2 with
 |none=>exact(aN (Tn _) (Tn _) (Nat.le_succ_of_le h3))
 |some k ws h4 h5 h6=>exact(aN h5 h6 (by rw [Tf];simp;exact NO h3))
theorem io.add {g:GH} {N:Nat} {xs:List AV} {cm:Option Ca} {l:Le} (x:io g N xs cm l) {k:Ca} {v:AV} {n:Nd} (hv:ie g v n) (h1:k.ws=pc cm++[v]) (h2:k.ps.length=(pd cm).length+1):io g (N+1) xs (some k) (l.add n):=by
 obtain⟨h3,h4,h5⟩:=x;obtain⟨cs,cmd,gr⟩:=l;cases h4 with
 |none=>exact⟨h3,.some k _ (by rw [h1];exact eJ.nil.snoc hv) (by rw [h1];exact Nat.succ_le_succ (Tn _)) (by rw [h2];exact Nat.succ_le_succ (Tn _)),by exact z7 h5⟩
 |some k' ws h6 h7 h8=>exact⟨h3,.some k _ (by rw [h1];exact h6.snoc hv) (by rw [h1,Tf];simp;omega) (by rw [h2];simp;omega),by exact z7 h5⟩
theorem Le.add_grp (l:Le) (n:Nd):(l.add n).grp=l.grp:=by obtain⟨cs,cmd,gr⟩:=l;cases cmd<;>rfl
theorem yE {c:UInt8} {d:BS} (h:c∉d):d.dropWhile (·!=c)=[]:=by
 induction d with
 |nil=>rfl
 |cons a d ih=>
  have h1:a≠c:=fun q=>h (by rw [q];exact SZ ..);rw [List.dropWhile_cons_of_pos (by simpa using h1)];exact ih fun q=>h (Td _ q)
theorem jx (l M S:LD):(l++(M++S)).Perm (M++(l++S)):=List.perm_append_comm_assoc l M S
noncomputable abbrev rv (x:Addr) (o en:Option AV):LV:=[("self",some (.ref x)),("octet",o),("end",en)]
noncomputable abbrev RL (x dx:Addr) (t:BS) (e:Addr) (env:Ev) (p:Int) (cl:Addr) (cm:AV) (gp lg:Int) (bl br:Addr) (bs xs:List AV) (M S:LD):LD:=
 (x,ri dx t e p cl cm gp lg bl br)::(e,.dictB (dn env))::(br,.list [])::(bl,.list bs)::(cl,.list xs)::(M++S)
structure Rd (g:GH) (an:LD) (x dx:Addr) (t:BS) (e:Addr) (env:Ev) (bl br:Addr) (d:BS) (st:List (Le×Nat)) (l:Le) (lg:Nat):Prop where
 ex:∃sk cl xs cm,an.Perm (RL x dx t e env (ps t d) cl (fP cm) (l.grp:Int) (lg:Int) bl br (gw sk) xs (bZ (l.grp:Int) cm) (hJ sk))/\io g (t.length-d.length) xs cm l/\lt g (t.length-d.length) t.length sk st/\sk.length<=t.length-d.length
section
variable {F:aY} {Φ:Fx F} {g:GH} {vs:LV} {an:LD} {E:ET}
theorem bG.mono {f:AV} {as:List AV} {Q Q':QT AV} {E':ET} (h:bG Φ g vs an f as Q E) (hq:∀b g vs an,Q b g vs an->Q' b g vs an) (he:∀a g vs,E a g vs->E' a g vs):bG Φ g vs an f as Q' E':=fun vf K9 a b=>(h vf K9 a b).mono hq he
variable {x dx:Addr} {t:BS} {e:Addr} {env:Ev} {bl br:Addr} {a:UInt8} {d:BS} {st:List (Le×Nat)} {l:Le} {lg:Nat}
theorem vz (hr:7<=Φ.room) (hz:t.length<=250000) (hd:(a::d)<:+t) (R:Rd g an x dx t e env bl br (a::d) st l lg) (ha:a.toNat=123):
 bG Φ g vs an (.ref 267) [.ref x] (fun v g' Ab led'=>v= .none/\Ab=vs/\(∀p,g p->g' p)/\∃st' l' K7,Rd g' led' x dx t e env bl br d st' l' K7/\aM env st' l' K7 d=aM env st l lg (a::d))
  (fun or _ _=>∃k:Nat,aM env st l lg (a::d)= .err k/\or= .int (t.length-k)):=by
 refine dZ (R.ex) fun sk cl xs cm hp hl hs hk=>?_;have F9:=hd.length_le;have K8:t.length-(a::d).length+1=t.length-d.length:=by simp at F9 ⊢;exact v7 F9
 have Hn:cq=1000000:=rfl;refine bG.turn hp ?_;obtain⟨lcs,lcmd,lgr⟩:=l;have hlcm:=hl.cm;rw [bT,Tk ha];dsimp only at hlcm;unfold RL;cases hlcm with
 |none=>
  refine a_ (Dr Φ.wd) (v6 hr) (.refl _) ?_ (fun v g' own' h=>h.elim);rintro or rfl;exact(aj _ rfl (by unfold ps;rfl))
 |some k ws hw1 hw2 hw3=>
  refine a_ (a':=(e,.dictB (dn env))::(br,.list [])::(cl,.list xs)::(cF k lgr++hJ sk)) (Oy (bs:=gw sk) Φ.wd (by rw [mu];exact I2 hz hk K8 Hn)) (v6 hr) (by(((try dsimp only [S9,S_,cF,bZ]);(try dsimp only [S9,S_]);with_reducible (repeat (first|exact T1 _|refine cE (by repeat (first|exact aT.head|apply aT.tail)) ?_))))) (fun or h=>h.elim) ?_;(intro _ _ _ j' I' led' e1;refine bp (j') fun th to El=>iy El fun tp cl2 Ce=>?_;subst th;subst to;subst Ce);(rename _++_=_=>e;(try dsimp only [S9,S_,cF,bZ] at e);(try dsimp only [S9,S_] at e);subst e);refine(gC rfl rfl I' _ _ _ ⟨⟨tp,cl,xs,k,lgr,ps t (a::d)⟩::sk,cl2,[],none,?_,⟨eJ.nil,.none,by exact Tn _⟩,?_,?_⟩ rfl)
  ·rw [aU,show((lg+1:Nat):Int)=(lg:Int)+1 from rfl];unfold RL;simp only [v0,nG,qs,bZ,fP,S9,S_];(((try dsimp only [S9,S_,cF,bZ]);(try dsimp only [S9,S_]);with_reducible (repeat (first|exact T1 _|refine cE (by repeat (first|exact aT.head|apply aT.tail)) ?_))))
  ·exact .cons _ _ _ _ _ (hl.mono (fun _ h=>h) (oj K8)) rfl (by unfold ps;rfl) (hs.mono (fun _ h=>h) (oj K8))
  ·simp;exact I0 hk K8
theorem tP (hr:7<=Φ.room) (hz:t.length<=250000) (hd:(a::d)<:+t) (R:Rd g an x dx t e env bl br (a::d) st l lg) (ha:a.toNat=125):
 bG Φ g vs an (.ref 274) [.ref x] (fun v g' Ab led'=>v= .none/\Ab=vs/\(∀p,g p->g' p)/\∃st' l' K7,Rd g' led' x dx t e env bl br d st' l' K7/\aM env st' l' K7 d=aM env st l lg (a::d))
  (fun or _ _=>∃k:Nat,aM env st l lg (a::d)= .err k/\or= .int (t.length-k)):=by
 refine dZ (R.ex) fun sk cl xs cm hp hl hs hk=>?_;have F9:=hd.length_le;have K8:t.length-(a::d).length+1=t.length-d.length:=by simp at F9 ⊢;exact v7 F9
 have Hn:cq=1000000:=rfl;have hz1:=hl.xz;refine bG.turn hp ?_;rw [bT,Tc (IZ ha),Tk ha];unfold RL;cases hs with
 |nil=>
  refine a_ (a':=(e,.dictB (dn env))::(br,.list [])::(cl,.list xs)::(bZ l.grp cm++hJ [])) (Dq Φ.wd) (zH hr) (by simp only [v1,nG];(((try dsimp only [S9,S_,cF,bZ]);(try dsimp only [S9,S_]);with_reducible (repeat (first|exact T1 _|refine cE (by repeat (first|exact aT.head|apply aT.tail)) ?_))))) ?_ (fun v g' own' h=>h.elim);rintro or rfl;exact(aj _ rfl (by unfold ps;rfl))
 |cons s r l2 k2 st2 h1 h2 h3 h4=>
  obtain⟨stp,scl,sxs,sk2,sgp,spl⟩:=s;dsimp only at h1 h2 h3;subst h2;have hl1:=h1.len;dsimp only [pc,pd] at hl1;refine a_ (a':=(e,.dictB (dn env))::(scl,.list sxs)::hJ r) (Ox (dx:=dx) (e:=e) (t:=t) (p:=ps t (a::d)) (lg:=lg) (bl:=bl) (br:=br) (k2:=sk2) (cl2:=scl) (gp2:=l2.grp) (p2:=spl) (tp:=stp) (bs:=gw r) (xs:=xs) (cm:=cm) (gp:=l.grp) (cl:=cl) Φ.wd (IY hz K8 Hn hz1 h3) (by rw [mu];simp at hk;exact IX hz Hn h3 hk) (IW hz K8 Hn h3 hl1) (IV hz K8 Hn h3 hl1)) (zH hr) ?_ (fun or h=>h.elim) ?_
  ·refine List.Perm.trans (l₂:=(x,ri dx t e (ps t (a::d)) cl (fP cm) (l.grp:Int) (lg:Int) bl br)::(e,.dictB (dn env))::(br,.list [])::(bl,.list (gw r++[.ref stp]))::(cl,.list xs)::(qs ⟨stp,scl,sxs,sk2,l2.grp,spl⟩++(bZ l.grp cm++hJ r))) ?_ ?_
   ·exact .cons _ (.cons _ (.cons _ (.cons _ (.cons _ (jx _ _ _)))))
   ·refine List.Perm.trans (l₂:=(x,ri dx t e (ps t (a::d)) cl (fP cm) (l.grp:Int) (lg:Int) bl br)::(br,.list [])::(bl,.list (gw r++[.ref stp]))::(stp,.tuple [.ref scl,.ref sk2.c,.int l2.grp,.int spl])::(sk2.c,ci sk2 l2.grp)::(sk2.wl,.list sk2.ws)::(sk2.pl,.list sk2.ps)::(cl,.list xs)::([(e,.dictB (dn env)),(scl,.list sxs)]++(bZ l.grp cm++hJ r))) ?_ ?_
    ·simp only [qs];(((try dsimp only [S9,S_,cF,bZ]);(try dsimp only [S9,S_]);with_reducible (repeat (first|exact T1 _|refine cE (by repeat (first|exact aT.head|apply aT.tail)) ?_))))
    ·exact .cons _ (.cons _ (.cons _ (.cons _ (.cons _ (.cons _ (.cons _ (.cons _ (jx _ _ _))))))))
  ·(intro _ g2 _ j' I' led' e1;refine a0 (j') fun th El=>dM El fun b dxb k3 La=>eF La fun to hk1 hk2 hf hb1 hb2=>?_;subst th;subst to);(rename _++_=_=>e;(try dsimp only [S9,S_,cF,bZ] at e);(try dsimp only [S9,S_] at e);subst e);refine(gC rfl rfl I' st2 (l2.add (.blk l.done)) lg ⟨r,scl,sxs,some k3,?_,?_,h4.mono I' (oj K8),by simp at hk;exact IU h3 hk⟩ rfl)
   ·rw [aU,Le.add_grp];simp only [RL,bZ,fP,S9,S_];(((try dsimp only [S9,S_,cF,bZ]);(try dsimp only [S9,S_]);with_reducible (repeat (first|exact T1 _|refine cE (by repeat (first|exact aT.head|apply aT.tail)) ?_))))
   ·have hdn:=hl.done I' hf;exact((h1.mono I' (Tj _)).add (v:=.ref b) (n:=.blk l.done) (.blk b dxb cl _ _ hb1 hb2 hdn.1 hdn.2) hk1 hk2).mono (fun _ h=>h) (IS K8)
theorem vy (hr:7<=Φ.room) (hz:t.length<=250000) (hd:(a::d)<:+t) (R:Rd g an x dx t e env bl br (a::d) st l lg) (ha:a.toNat=32\/a.toNat=10\/a.toNat=59):
 bG Φ g vs an (.ref 225) [.ref x,.int (a.toNat:Nat)] (fun v g' Ab led'=>v= .none/\Ab=vs/\(∀p,g p->g' p)/\∃st' l' K7,Rd g' led' x dx t e env bl br d st' l' K7/\aM env st' l' K7 d=aM env st l lg (a::d)) E:=by
 refine dZ (R.ex) fun sk cl xs cm hp hl hs hk=>?_;have F9:=hd.length_le;have K8:t.length-(a::d).length+1=t.length-d.length:=by simp at F9 ⊢;exact v7 F9
 have Hn:cq=1000000:=rfl;have hz1:=hl.xz;have hll:=hl.len;refine bG.turn hp ?_;rw [bT,Tc (IR ha F9 K8),Tc (IQ ha F9 K8),Tc (IP ha F9 K8),Tc (E1 ha F9 K8)];unfold RL;by_cases h32:a.toNat=32
 ·rw [Tc (IO h32),Tc (IN h32),Tk h32];rw [h32];refine a_ (a':=(e,.dictB (dn env))::(br,.list [])::(bl,.list (gw sk))::(cl,.list xs)::(bZ l.grp cm++hJ sk)) (Ds (dx:=dx) (e:=e) (t:=t) (p:=ps t (a::d)) (lg:=lg) (bl:=bl) (br:=br) (cl:=cl) (gp:=l.grp) (cm:=fP cm) Φ.wd) (v6 hr) (.refl _) (fun or h=>h.elim) ?_;(intro _ _ _ j' I' led' e1;refine bp (j') fun th to Ce=>?_;subst th;subst to;subst Ce);(rename _++_=_=>e;(try dsimp only [S9,S_,cF,bZ] at e);(try dsimp only [S9,S_] at e);subst e);refine(gC rfl rfl I' st l lg ⟨sk,cl,xs,cm,?_,hl.mono (fun _ h=>h) (oj K8),hs.mono (fun _ h=>h) (oj K8),by exact zG hk K8⟩ rfl);rw [aU]
 ·refine a_ (a':=(e,.dictB (dn env))::(bl,.list (gw sk))::hJ sk) (OB (dx:=dx) (e:=e) (t:=t) (p:=ps t (a::d)) (lg:=lg) (bl:=bl) (br:=br) (cl:=cl) (cm:=cm) (xs:=xs) (gp:=l.grp) Φ.wd (IM hz K8 Hn hz1 h32) (o:=a.toNat) (E0 ha F9 K8 h32)) (v6 hr) ?_ (fun or h=>h.elim) ?_
  ·refine List.Perm.trans (l₂:=(x,ri dx t e (ps t (a::d)) cl (fP cm) (l.grp:Int) (lg:Int) bl br)::(br,.list [])::(cl,.list xs)::([(e,.dictB (dn env)),(bl,.list (gw sk))]++(bZ l.grp cm++hJ sk))) ?_ ?_
   ·(((try dsimp only [S9,S_,cF,bZ]);(try dsimp only [S9,S_]);with_reducible (repeat (first|exact T1 _|refine cE (by repeat (first|exact aT.head|apply aT.tail)) ?_))))
   ·exact .cons _ (.cons _ (.cons _ (jx _ _ _)))
  ·(intro _ g2 _ j' I' led' e1;refine bp (j') fun th to hf=>?_;subst th;subst to);(rename _++_=_=>e;(try dsimp only [S9,S_,cF,bZ] at e);(try dsimp only [S9,S_] at e);subst e);have hdn:=hl.done I' hf;by_cases Sj:a.toNat=10
   ·rw [Tk Sj,Tk Sj,Tk Sj];refine(gC rfl rfl I' st ⟨l.done,none,lg+1⟩ (lg+1) ⟨sk,cl,g9 xs cm,none,?_,⟨hdn,.none,by exact Ao K8 hll⟩,hs.mono I' (oj K8),by exact zG hk K8⟩ rfl);rw [aU,show((lg+1:Nat):Int)=(lg:Int)+1 from rfl];simp only [RL,bZ,fP,S9,S_];(((try dsimp only [S9,S_,cF,bZ]);(try dsimp only [S9,S_]);with_reducible (repeat (first|exact T1 _|refine cE (by repeat (first|exact aT.head|apply aT.tail)) ?_))))
   ·rw [Tc Sj,Tc Sj,Tc Sj,Tk (IL ha F9 K8 h32 Sj)];refine(gC rfl rfl I' st ⟨l.done,none,l.grp⟩ lg ⟨sk,cl,g9 xs cm,none,?_,⟨hdn,.none,by exact Ao K8 hll⟩,hs.mono I' (oj K8),by exact zG hk K8⟩ rfl);rw [aU];simp only [RL,bZ,fP,S9,S_];(((try dsimp only [S9,S_,cF,bZ]);(try dsimp only [S9,S_]);with_reducible (repeat (first|exact T1 _|refine cE (by repeat (first|exact aT.head|apply aT.tail)) ?_))))
theorem vr (hr:7<=Φ.room) (hE:gJ env) (hN:cv t) (hz:4*t.length<=bf) (hd:(a::d)<:+t) (R:Rd g an x dx t e env bl br (a::d) st l lg) (ha:dF a.toNat=false) (h2:a.toNat≠123/\a.toNat≠35/\¬(a.toNat=92/\dy 10 d=true)) (hB:aM env st l lg (a::d)≠ .bad):
 bG Φ g vs an (.ref 253) [.ref x] (fun v g' Ab led'=>v= .none/\Ab=vs/\(∀p,g p->g' p)/\∃r' st' l' K7,r'<:+t/\r'.length<=d.length/\Rd g' led' x dx t e env bl br r' st' l' K7/\aM env st' l' K7 r'=aM env st l lg (a::d))
  (fun or _ _=>∃k:Nat,aM env st l lg (a::d)= .err k/\or= .int (t.length-k)):=by
 refine dZ (R.ex) fun sk cl xs cm hp hl hs hk=>?_;have F9:=hd.length_le;have K8:t.length-(a::d).length+1=t.length-d.length:=by simp at F9 ⊢;exact v7 F9
 have Hn:cq=1000000:=rfl;have F0:bf=1000000:=rfl;have hz1:=hl.xz;have hll:=hl.len;have he:¬a.toNat=125/\¬a.toNat=10/\¬a.toNat=59/\¬a.toNat=32:=by
  unfold dF at ha;simp at ha;exact EZ ha
 refine bG.turn hp ?_;rw [bT,Tc h2.1,Tc he.1,Tc h2.2.1,Tc h2.2.2,Tc he.2.1,Tc he.2.2.1,Tc he.2.2.2] at hB ⊢;unfold RL;refine a_ (a':=(br,.list [])::(bl,.list (gw sk))::(cl,.list xs)::hJ sk) (Oz (dx:=dx) (lg:=lg) (bl:=bl) (br:=br) (cl:=cl) (e:=e) (cm:=cm) (gp:=l.grp) Φ.wd hE hd hN hz (fun f b r' hw hb=>by rw [hw] at hB;exact hB (Tk hb)) (IK hz K8 Hn F0 hll he) (IJ hz K8 Hn F0 hll he)) (zH hr) ?_ ?_ ?_
 ·refine List.Perm.trans (l₂:=(x,ri dx t e (ps t (a::d)) cl (fP cm) (l.grp:Int) (lg:Int) bl br)::(e,.dictB (dn env))::([(br,.list []),(bl,.list (gw sk)),(cl,.list xs)]++(bZ l.grp cm++hJ sk))) ?_ ?_
  ·(((try dsimp only [S9,S_,cF,bZ]);(try dsimp only [S9,S_]);with_reducible (repeat (first|exact T1 _|refine cE (by repeat (first|exact aT.head|apply aT.tail)) ?_))))
  ·exact .cons _ (.cons _ (jx _ _ _))
 ·(intro or j';refine aw (j') fun k hw th=>?_;subst th);rw [hw];exact(aj k rfl rfl)
 ·(intro _ g2 _ j' I' led' e1;refine bp (j') fun th to El=>eS El fun f b r' k La=>eF La fun hw Sp hlen Ce hk1 hk2=>?_;subst th;subst to;subst Ce);rw [hw] at hB ⊢;dsimp only at hB ⊢;by_cases hb:b=true/\f∈jb
  ·exact absurd (Tk hb) hB
  rw [Tc hb] at hB ⊢;by_cases Sm:r'.length<=d.length
  ·rw [dif_pos Sm] at hB ⊢;(rename _++_=_=>e;(try dsimp only [S9,S_,cF,bZ] at e);(try dsimp only [S9,S_] at e);subst e);have hrl':t.length-d.length<=t.length-r'.length:=by exact EY F9 K8 he hlen Sm
   refine(bJ rfl rfl I' (ge r' st (l.add (.w f)) lg (bJ (Sp.trans hd) Sm ⟨sk,cl,xs,some k,?_,(hl.add (.w f) hk1 hk2).mono (fun _ h=>h) (II K8 hrl'),hs.mono (fun _ h=>h) (IG K8 hrl'),by exact IF hk K8 hrl'⟩ rfl)));rw [Le.add_grp];simp only [RL,bZ,fP,S9,S_];(((try dsimp only [S9,S_,cF,bZ]);(try dsimp only [S9,S_]);with_reducible (repeat (first|exact T1 _|refine cE (by repeat (first|exact aT.head|apply aT.tail)) ?_))))
  ·exact absurd (dif_neg Sm) hB
end
inductive CA (t:BS) (e:Addr) (br:Addr) (x:Addr) (dx:Addr) (env:Ev) (bl:Addr) (g':GH) (vs:LV) (an:LD):Prop
 |mk:∀o en st l lg,(vs=rv x o en)->(Rd g' an x dx t e env bl br [] st l lg)->(aM env st l lg []=aM env [] ⟨[],none,0⟩ 0 t)->CA t e br x dx env bl g' vs an
inductive Cz (t:BS) (e:Addr) (br:Addr) (x:Addr) (dx:Addr) (env:Ev) (bl:Addr) (n:Nat) (g':GH) (vs:LV) (an:LD):Prop
 |mk:∀d o en st l lg,(n=d.length)->(d<:+t)->(vs=rv x o en)->(Rd g' an x dx t e env bl br d st l lg)->(aM env st l lg d=aM env [] ⟨[],none,0⟩ 0 t)->Cz t e br x dx env bl n g' vs an
noncomputable def w8:cD 218:=⟨_,fun P=>(bc _ _ _ rfl)⟩
noncomputable abbrev PQ:aY:=dm w8 ["self","octet","end"] rfl (by decide+kernel) (by decide+kernel)
theorem O7:bE PQ (bY w8.fd) ["self"] 1 []:=
 bE.mk' _ _ _ _ [] rfl (fun _=>rfl) (fun _=>rfl) .nil (fun w s X _=>Tz rfl) rfl rfl rfl (by decide+kernel) (by decide+kernel)
theorem B0 {w:World} {H₀:Heap} (W:Wd w H₀) {g:GH} {x dx e cl0 bl br:Addr} {t:BS} {env:Ev} (hE:gJ env) (hN:cv t) (hz:4*t.length<=bf) (hB:aM env [] ⟨[],none,0⟩ 0 t≠ .bad):
 ∀on,aA [.ref x] on->cz w H₀ g (RL x dx t e env 0 cl0 .none 0 0 bl br [] [] [] []) (.call (.ref 218) ⟨on,[]⟩) 8 true
 (fun v g' own'=>own'=[]/\∃cs cl xs,aM env [] ⟨[],none,0⟩ 0 t= .ok cs/\v= .ref cl/\g' (cl,.list xs)/\eJ g' xs cs)
 (fun or=>∃k:Nat,aM env [] ⟨[],none,0⟩ 0 t= .err k/\or= .int (t.length-k)):=
 bK O7 7 [("self",some (.ref x)),("octet",none),("end",none)] W fun Φ hw hH hg Kd hn ho hi Qf y'=>by
  have F0:bf=1000000:=rfl;have K5:t.length<=bf:=by exact zW hz F0
  have hz2:t.length<=250000:=by exact Jj hz F0
  have Hn:cq=1000000:=rfl;refine ae ?_;refine jE (CA t e br x dx env bl) ?_ ?_
  ·intro Q1 Lb;refine fD hi (Cz t e br x dx env bl) ?_ t.length
    ⟨t,none,none,[],⟨[],none,0⟩,0,rfl,Tv _,rfl,⟨[],cl0,[],none,by rw [show ps t t=0 from by unfold ps;exact Ji];exact T1 _,⟨eJ.nil,.none,by exact Tn _⟩,.nil,by exact Tn _⟩,rfl⟩
   rintro n Qb F2 g' vs an ⟨d,o,en,st,l,lg,rfl,hd,rfl,R,hq⟩;refine dZ (R.ex) fun sk cl xs cm hp hl hs hk=>?_;have R2:Rd g' _ x dx t e env bl br d st l lg:=⟨sk,cl,xs,cm,.refl _,hl,hs,hk⟩
   refine TG.turn hp ?_;rw [←hq];clear R hp;cases d with
   |nil=>
    refine aK (aq ad (Tl ad) aQ aV (aP d9 trivial (ah rfl (aq ad (Tl ad) ad bj (af (fO K5 (ef (aF (am (fun _=>ae (aI rfl (bg (aq ad (Tl ad) ad bj (aq ad (Tl ad) aQ aV ?_ rfl) rfl)))) (fun _=>ql Lb ?_)))))) rfl))) rfl) rfl
    ·rename_i hq;exact absurd hq (by unfold ps;exact Int.lt_irrefl _)
    ·skip;exact⟨rfl,o,en,st,l,lg,rfl,R2,hq⟩
   |cons a d=>
    have ha:=el hd;have K6:=cY hd;have SO:=qM (pf hN hd);have hcut:(eW t (some (ps t (a::d)+1)) (some (ps t (a::d)+2))=[10])↔dy 10 d=true:=by
     rw [aU,show ps t (a::d)+2=ps t d+(1:Nat) from by unfold ps;simp;exact AS,fy K6 1];have:=kG d 10;rw [show UInt8.toNat 10=10 from rfl] at this;rw [←this];simp
    refine aK (aq ad (Tl ad) aQ aV (aP d9 trivial (ah rfl (aq ad (Tl ad) ad bj (af (fO K5 (ef (aF (am (fun _=>ae (aI rfl (bg (aq ad (Tl ad) ad bj (aq ad (Tl ad) aQ aV ?_ rfl) rfl)))) (fun _=>ql Lb ?_)))))) rfl))) rfl) rfl;rotate_left
    ·rename_i ht;exact absurd (eg hd) ht
    refine cb K5 (di hd) (eg hd) (by exact rfl) ?_;rw [ha];rw [←hq] at hB;have hR:∀d2:BS,d2<:+d->Rd g' (RL x dx t e env (ps t d2) cl (fP cm) (l.grp:Int) (lg:Int) bl br (gw sk) xs (bZ (l.grp:Int) cm) (hJ sk)) x dx t e env bl br d2 st l lg:=fun d2 h2=>by
     have h3:=h2.length_le;have h4:t.length-(a::d).length<=t.length-d2.length:=by simp;exact Jh h3
     exact⟨sk,cl,xs,cm,.refl _,hl.mono (fun _ h=>h) h4,hs.mono (fun _ h=>h) h4,by exact Jg hk h4⟩
    refine aL rfl (ag (aS (aC rfl (am (fun _=>ag (bm rfl (aH rfl rfl (Tb rfl) rfl (aa ad ?_)))) (fun _=>ag (aS (aC rfl (am (fun _=>ag (bm rfl (aH rfl rfl (Tb rfl) rfl (aa ad ?_)))) (fun _=>ag (aS (aC rfl (am (fun _=>ae (aI rfl (aH rfl rfl (Tb rfl) rfl (aq ad (Tl ad) ad bj (uj (T_ trivial (ah rfl (bn (ah rfl (aq ad (Tl ad) aQ aV (af ?_) rfl)))))) rfl)))) (fun _=>ag (aS (aR (aC rfl (am (fun _=>aR (aK (cR (aq ad (Tl ad) ad bj (gN K5 (bP (ak (aq ad (Tl ad) aQ aV (au (bD (dQ (bP (ak (aq ad (Tl ad) aQ aV (au (bD (dQ (bn (jZ (aF (am (fun _=>bQ (bv (ag (bz rfl (ak (aq ad (Tl ad) aQ aV (au (bD (aa ad (bR ay.head (b_.set (aB.tail (aB.tail aB.head))) aV (ca (bI F2 ?_)))))) rfl)))))) (fun _=>bd (ag (aS (aK (aa a7 ?_) rfl))))))))))) rfl)))))) rfl)))) rfl) (fun _ _ _=>rfl) (fun _ _ _=>rfl)) rfl)) (fun _=>bd (ag (aS (aK (aa a7 ?_) rfl)))))))))))))))))))))
    ·rename_i h;refine c_ (.inl ad) nA (eK (by decide)) ⟨BJ,?_⟩;refine af ?_;refine(vz (wm hn) hz2 hd R2 (zM h)).mono ?_ (fun _ _ _ h=>h);(intro _ g2 _ SM j';refine cU (j') fun th to I' El=>dM El fun st' l' K7 La=>a0 La fun R' e'=>?_;subst th;subst to);refine de (bI F2 ?_);exact⟨d.length,by exact Ts _,d,_,_,st',l',K7,rfl,K6,rfl,R',e'.trans hq⟩
    ·rename_i h123 h;refine c_ (.inl ad) mI (eK (by decide)) ⟨BI,?_⟩;refine af ?_;refine(tP (wm hn) hz2 hd R2 (zP h)).mono ?_ (fun _ _ _ h=>h);(intro _ g2 _ SM j';refine cU (j') fun th to I' El=>dM El fun st' l' K7 La=>a0 La fun R' e'=>?_;subst th;subst to);refine de (bI F2 ?_);exact⟨d.length,by exact Ts _,d,_,_,st',l',K7,rfl,K6,rfl,R',e'.trans hq⟩
    ·rename_i h123 SG h;have hq2:aM env st l lg (a::d)=aM env st l lg (d.dropWhile (·!=10)):=by rw [bT,Tc (Jf h),Tc (Je h),Tk (AR h)]
     refine uv (k:=t.length-(a::d).length) (by have:=hd.length_le;unfold ps;exact Jd h123 SG h this) (Nat.sub_le ..) ?_;rw [oM hd];have hdw:=lO (·!=10) d;have hdwl:=hdw.length_le;have ha10:(a !=10)=true:=by
      simp only [bne_iff_ne,ne_eq];rintro rfl;exact absurd h (by decide)
     have RR:=hR _ hdw;by_cases Sj:(10:UInt8)∈a::d
     ·rw [Tk Sj,show(a::d).dropWhile (·!=10)=d.dropWhile (·!=10) from List.dropWhile_cons_of_pos ha10];have hn:=di (hdw.trans K6);refine aL rfl (ag (bz rfl (cw (aC rfl (am (fun _=>aa aQ (aa ad (bR ay.head (b_.set (aB.tail (aB.tail aB.head))) aV (ca (bI F2 ?_))))) (fun _=>aP d9 trivial (ah rfl (aq ad (Tl ad) ad bj (af (fO K5 (aa ad (bR ay.head (b_.set (aB.tail (aB.tail aB.head))) aV (ca (bI F2 ?_)))))) rfl))))))))
      ·skip;exact⟨(d.dropWhile (·!=10)).length,by simp;exact o1 hdwl,_,_,_,st,l,lg,rfl,hdw.trans K6,rfl,RR,hq2.symm.trans hq⟩
      ·exact(Jc hn ‹_›).elim
     ·rw [Tc Sj];have e0:d.dropWhile (·!=10)=[]:=yE fun q=>Sj (Td _ q);rw [e0] at hq2 RR;rw [show ps t []=(t.length:Int) from by unfold ps;rfl] at RR;refine aL rfl (ag (bz rfl (cw (aC rfl (am (fun _=>aa aQ (aa ad (bR ay.head (b_.set (aB.tail (aB.tail aB.head))) aV (ca (bI F2 ?_))))) (fun _=>aP d9 trivial (ah rfl (aq ad (Tl ad) ad bj (af (fO K5 (aa ad (bR ay.head (b_.set (aB.tail (aB.tail aB.head))) aV (ca (bI F2 ?_)))))) rfl))))))))
      ·exact(Jb ‹_›).elim
      ·skip;exact⟨0,by simp,[],_,_,st,l,lg,rfl,List.nil_suffix,rfl,RR,hq2.symm.trans hq⟩
    ·rename_i h123 SG h35 K3 Sj;have hnl:=hcut.mp Sj;have hq2:aM env st l lg (a::d)=aM env st l lg d.tail:=by rw [bT,Tc (AK K3),Tc (Ja K3),Tc (I_ K3),Tk ⟨by exact o5 K3,hnl⟩]
     obtain⟨b,d2,rfl⟩:∃b d2,d=b::d2:=by
      cases d with
      |nil=>cases hnl
      |cons b d2=>exact(cA b d2 rfl)
     have RR:=hR d2 (T8 b d2);rw [←show ps t (a::b::d2)+2=ps t d2 from by unfold ps;simp;exact v9] at RR;exact⟨d2.length,by simp;exact AL,d2,_,_,st,l,lg,rfl,cY K6,rfl,RR,hq2.symm.trans hq⟩
    all_goals (have hn92:¬(a.toNat=92/\dy 10 d=true):=fun zp72=>a0 zp72 fun q1 q2=>by have q3:=hcut.mpr q2;first|contradiction|(first|exact E6 (by assumption) (by assumption)|omega))
    all_goals refine fT qK ?_
    all_goals refine kS ?_
    all_goals rw [SO]
    all_goals (have hn:a.toNat≠123/\a.toNat≠35/\a.toNat≠125:=(aN (by(first|exact I9 (by assumption)|exact E5 (by assumption) (by assumption) (by assumption) (by assumption) hn92|omega)) (by(first|exact I8 (by assumption)|exact E4 (by assumption) (by assumption) hn92|omega)) (by(first|exact I7 (by assumption)|exact E3 (by assumption) (by assumption) (by assumption) hn92|omega))))
    all_goals clear hcut hR
    all_goals refine aF ?_
    all_goals refine cQ (fun h=>?_) (fun h=>?_)
    all_goals refine ag (bm rfl (aH rfl rfl (Tb rfl) rfl (aa ad ?_)))
    all_goals first
     |(refine c_ (.inl ad) rZ (eK (by decide)) ⟨BM,?_⟩
       refine ap rfl ?_;refine(vy (wm ‹_›) hz2 hd R2 (by unfold dF at h;simp at h;(first|exact I6 ‹_› h|exact E2 hn h))).mono ?_ (fun _ _ _ h=>h);(intro _ g2 _ SM j';refine cU (j') fun th to I' El=>dM El fun st' l' K7 La=>a0 La fun R' e'=>?_;subst th;subst to);refine de (bI F2 ?_);exact⟨d.length,by exact Ts _,d,_,_,st',l',K7,rfl,K6,rfl,R',e'.trans hq⟩)
     |(refine c_ (.inl ad) pb (eK (by decide)) ⟨BK,?_⟩
       refine af ?_;refine(vr (wm ‹_›) hE hN hz hd R2 h (aN hn.1 hn.2.1 hn92) hB).mono ?_ (fun _ _ _ h=>h);(intro _ g2 _ SM j';refine cU (j') fun th to I' El=>eS El fun r' st' l' K7 La=>cU La fun Sp Sm R' e'=>?_;subst th;subst to);refine de (bI F2 ?_);exact⟨r'.length,by simp;exact o1 Sm,r',_,_,st',l',K7,rfl,Sp,rfl,R',e'.trans hq⟩)
  ·rintro g' vs an ⟨o,en,st,l,lg,rfl,R,hq⟩;refine dZ (R.ex) fun sk cl xs cm hp hl hs hk=>?_;unfold RL at hp;refine TG.turn hp ?_;have hz1:=hl.xz;refine ae (bm rfl (aH rfl rfl (Tb rfl) rfl (aa ad ?_)));refine c_ (.inl ad) fH (eK (by decide)) ⟨lZ,?_⟩;refine af ?_;refine a_ (a':=(e,.dictB (dn env))::(bl,.list (gw sk))::hJ sk) (r8 (dx:=dx) (e:=e) (t:=t) (p:=ps t []) (lg:=lg) (bl:=bl) (br:=br) (cl:=cl) (cm:=cm) (xs:=xs) (gp:=l.grp) Φ.wd (I4 hz F0 Hn hz1)) (Qm hn) ?_ (fun or h=>h.elim) ?_
   ·refine List.Perm.trans (l₂:=(x,ri dx t e (ps t []) cl (fP cm) (l.grp:Int) (lg:Int) bl br)::(br,.list [])::(cl,.list xs)::([(e,.dictB (dn env)),(bl,.list (gw sk))]++(bZ l.grp cm++hJ sk))) ?_ ?_
    ·(((try dsimp only [S9,S_,cF,bZ]);(try dsimp only [S9,S_]);with_reducible (repeat (first|exact T1 _|refine cE (by repeat (first|exact aT.head|apply aT.tail)) ?_))))
    ·exact .cons _ (.cons _ (.cons _ (jx _ _ _)))
   ·(intro _ g2 _ j' I' led' e1;refine bp (j') fun th to hf=>?_;subst th;subst to);(rename _++_=_=>e;(try dsimp only [S9,S_,cF,bZ] at e);(try dsimp only [S9,S_] at e);subst e);have hdn:=hl.done I' hf;rw [hM] at hq;refine de (ae (aS (eI (aq ad (Tl ad) ow fC (jp gy (am (fun _=>ag (eX (Tt (fun _=>(by(first|exact zu hn (by assumption)|omega)))) (bg (bg (aq ad (Tl ad) ow fC (gk (au (jY ?_))) rfl))) rfl rfl rfl)) (fun _=>bq (ae (aS (eI (aq ad (Tl ad) ou eH (jp a7 (am (fun _=>ag (eX (Tt (fun _=>(by(first|exact zu hn (by assumption)|omega)))) (gm rfl (bg (aq ad (Tl ad) ou eH (gk (au (jY ?_))) rfl))) rfl rfl rfl)) (fun _=>bq (ag (aE (aq ad (Tl ad) gy eG (aO (ql y' ?_)) rfl)))))) rfl))))))) rfl))))
    ·rename_i hb;cases hs with
     |nil=>exact absurd rfl hb
     |cons s r l2 k2 st2 h1 h2 h3 h4=>
      refine q9 (hs:=by intros;rfl) (xs:=gw r) (v:=.ref s.tp) (.inl (by simp only [v1,nG];((with_reducible (repeat (first|exact SZ .. |refine Td _ ?_)))))) (by rw [mu];simp at hk;exact I3 hz F0 Hn h3 hk) ?_;refine au ?_;refine q8 (hs:=by intros;rfl) (.inl (by simp only [v0,qs,S9];((with_reducible (repeat (first|exact SZ .. |refine Td _ ?_)))))) (by exact Ta rfl) (by decide) (by exact rfl) ?_;exact(aj k2 hq.symm (by rw [h3]))
    ·rename_i h1 h2;exact absurd h2 (by contradiction)
    ·rename_i hb h2;cases hs with
     |cons s r l2 k2 st2 h1 h2 h3 h4=>exact absurd (List.append_ne_nil_of_right_ne_nil _ (TS _ _)) hb
     |nil=>
      refine(cA _ ([]) (aN (.fz (p:=(cl,.list (g9 xs cm))) rfl (by exact aT.tail (aT.tail aT.head)) (.less (T2 _) .refl)) rfl (bc l.done cl _ (bJ hq.symm rfl (.inl rfl) (hdn.mono fun _ h=>.inr h)))))
noncomputable def du {α:Type} (M:Model) (A:Around) (c:Code) (t:Sem α) (Q:α->Shared->Prop) (E:Value->Shared->Prop) (s:Shared):Prop:=
 ∀Γ p,Γ.code=c->Γ.In A->CM Γ->Sem.wp M Γ t (fun a _ s'=>Q a s') (fun e _ s'=>E e s') p s
section
variable {α β:Type} {M:Model} {A:Around} {c:Code} {E:Value->Shared->Prop} {s:Shared} {env:Env}
theorem du.of {t:Sem α} {Q:α->Shared->Prop} (h:al M A t Q E s):du M A c t Q E s:=fun Γ p _ i k=>h Γ p i k
theorem du.at {t:Sem α} {Q:α->Shared->Prop} (h:PySem.wpAt M A c t Q E s):du M A c t Q E s:=fun Γ p e i _=>h Γ p e i
theorem du.mono {t:Sem α} {Q Q':α->Shared->Prop} {E':Value->Shared->Prop} (h:du M A c t Q E s) (hQ:∀a s,Q a s->Q' a s) (hE:∀e s,E e s->E' e s):du M A c t Q' E' s:=
 fun Γ p e i k=>Sem.wp_mono M Γ t (fun a _ s=>hQ a s) (fun e _ s=>hE e s) p s (h Γ p e i k)
theorem du.bind {m:Sem α} {f:α->Sem β} {Q:β->Shared->Prop} (h:du M A c m (fun a s'=>du M A c (f a) Q E s') E s):du M A c (m>>=f) Q E s:=fun Γ p e i k=>by
 rw [Sem.wp_bind'];exact Sem.wp_mono M Γ m (fun a p' s' z=>z Γ p' e i k) (fun _ _ _ z=>z) p s (h Γ p e i k)
theorem du.onRaise {m:Sem α} {k:Value->Sem Unit} {Q:α->Shared->Prop} (h:du M A c m Q (fun e s'=>al M A (k e) (fun _ Sl=>E e Sl) E s') s):du M A c (m.onRaise k) Q E s:=fun Γ p e i cl=>by
 rw [Sem.wp_onRaise];exact Sem.wp_mono M Γ m (fun _ _ _ z=>z) (fun e p' s' z=>z Γ p' i cl) p s (h Γ p e i cl)
theorem pV {R:Result->Shared->Prop} (hc:mC c=false) (h:du M (A.under c) c (M.den c) (fun fin s'=>match fin with| .done f=>R (.ok f) s'| .again c'=>c'.quiet=true/\bW M A c' R s') (fun e s'=>R (.error e) s') s):
 bW M A c R s:=fun Γ p e b k=>by
 rw [wpCode_iff_wp,e];refine Sem.wp_mono M Γ _ (fun fin p' s' z=>?_) (fun _ _ _ z=>z) p s (h Γ p e (e▸b.in) ⟨by rw [e];exact hc,k⟩);cases fin with
 |done f=>exact z
 |again c'=>exact⟨z.1,z.2 (Γ.goto c') p' rfl (b.goto c') k⟩
end
section
variable {prog:Program} {w:World} {A:Around} {E:Value->Shared->Prop} {R:Result->Shared->Prop} {s:Shared} {env:Env}
theorem pW {body}
 (h:du (model prog w) (A.deeper env) (.func body env) (execs body env) (fun f s'=>R (.ok (.ret (match f with| .ret v=>v|_=>.none))) s')
  (fun e s'=>al (model prog w) (A.deeper env) (leaving env e) (fun _ Sl=>R (.error e) Sl) (fun e' Sl=>R (.error e') Sl) s') s):bW (model prog w) A (.func body env) R s:=by
 refine pV rfl ?_;show du _ (A.deeper env) _ (do point;match ←(execs body env).onRaise (leaving env) with| .ret v=>ret v|_=>ret .none) _ _ s;refine du.bind (du.of (mS (du.bind (du.mono (du.onRaise h) (fun f s' h'=>?_) fun _ _ z=>z))));cases f<;>exact du.of (aG h')
theorem lX {a:Addr} {o:Obj} {fd:FuncData} {body:List Stmt} {args:Args} {binds:List (Str×Value)}
 (SV:A.depth<recursionLimit) (ho:s.heap.get? a=some o) (hdata:o.data= .func fd) (hlim:s.heap.NoLimit) (hcd:s.heap.CodeRec fd.code fd.qualname)
 (hbody:fd.body= .stmts body) (hbind:BindsTo s fd args binds)
 (SX:∀x∈fd.scope.names,x.2≠ .cell) (hloc:∀x∈binds,fd.scope.names.lookup x.1=some .local)
 (h:∀Pu,Pu.Ns s.heap.objs.size (fun x=>binds.reverse.lookup x)->(∀b o,s.heap.get? b=some o->Pu.get? b=some o)->
  du (model prog w) (A.deeper (callEnv fd s.heap.objs.size a)) (.func body (callEnv fd s.heap.objs.size a)) (execs body (callEnv fd s.heap.objs.size a)) (fun f s'=>R (.ok (.ret (match f with| .ret v=>v|_=>.none))) s')
   (fun e s'=>al (model prog w) (A.deeper (callEnv fd s.heap.objs.size a)) (leaving (callEnv fd s.heap.objs.size a) e) (fun _ Sl=>R (.error e) Sl) (fun e' Sl=>R (.error e') Sl) s')
   {s with heap:=Pu,toks:=s.toks+binds.length})
 (hco:fd.scope.isCoroutine=false) (hgen:fd.scope.isGenerator=false) (hk:fd.scope.kind= .function):
 bW (model prog w) A (.call (.ref a) args) R s:=by
 refine cV rfl ?_;show al _ A.in1 (callAny (.ref a) args) _ _ s;dsimp only [callAny];refine aX (wpAny_load ho ?_);refine dZ (hcd) fun c oc vs tq hc hoc hdc hq=>?_;rw [hdata];dsimp only;unfold callFunction;rw [hc,hbody,hgen,hco];dsimp only;refine aX (m:=field (.ref c) 1) (wpAny_field hoc hdc hq (aX (Tm ?_)));refine aX (hbind _ _ _ _ ?_);rw [←hc];refine aX (wpAny_newFunctionEnv SX hloc (fun Pu hns₀ SU=>?_) hk);exact aX (wpAny_enterFrame (hlim.fresh _ SU) SV (aG ⟨rfl,pW (h Pu hns₀ fun b o e=>SU.extBut b o (Nat.ne_of_lt (Heap.lt_size e)) (Tp _ e))⟩))
end
theorem Bt {F:aY} {body:List Stmt} {params a':List Str} {F3:Nat} {SK:List AV} (FK:bE F body params F3 SK) (hnames:F.names=params++a') {w:World} {H₀:Heap} (W:Wd w H₀)
 {g:GH} {own:LD} {as:List AV} {st:Bool} {n:Nat} {Q:AV->GH->LD->Prop} {E:AV->Prop} (hlen:as.length=F3)
 (h:∀Φ:Fx F,Φ.w=w->Φ.H₀=H₀->Φ.g₀=g->Φ.strict=st->Φ.room=n->Φ.own=aD own->Φ.inl=false->
  ∀s,aZ Φ st g s (fV params a' (as++SK)) own->du (model PG Φ.w) Φ.A (.func body Φ.env) (execs body Φ.env) (il AF.Is Φ (fun f g' _ led'=>match f with| .ret v=>Q v g' led'| .next=>Q .none g' led'|_=>False)) (dz Φ fun or _ _=>E or) s):
 ∀on,aA as on->cz w H₀ g own (.call (.ref F.f) ⟨on,[]⟩) (n+1) st Q E:=by
 intro on ra A outer s ar Hx;refine f_ (FK.at' w) fun oc od osl fd dv El=>kZ El fun f1 f2 f3 f4 f5 f6 f7 f8 f9=>?_;have X:(hd.heap_1 w.params).In s.heap:=W.X.keeps Hx.H;have dp:=ar.dp;have un:=ar.un;have hvl:on.length=F3:=by rw [←ra.length];exact hlen
 have nd:params.Nodup:=(TH.mp (hnames▸F.nd)).1;have rall:=ra.append f8;refine lX (fd:=fd) (body:=body) (binds:=params.zip (on++dv)) (DY dp) (X _ _ f1) rfl (W.nolimit Hx.H) (by rw [f5,f6];exact codeRec_of X f7) f2
  (f9 s on X hvl) (by rw [f3];exact FK.cell) (fun x hx=>by rw [f3];exact FK.loc x.1 (List.of_mem_zip hx).1) (fun Pu hns hk=>?_) (by rw [f3];exact FK.co) (by rw [f3];exact FK.gen) (by rw [f3];exact F.hk)
 rw [f4];have hL:s.heap.get? s.heap.objs.size=none:=T9 (Tj _)
 let Φ:Fx F:=Fx.mk w H₀ W s.heap.objs.size outer (A.deeper (envX F.qual F.scope s.heap.objs.size F.f F.cdv F.cl)) s.heap (aD own) g st n s.gens s.os false none (by show A.frames.map _=_;rw [ar.fr];rfl) ar.hh hL Hx.H Hx.ff Hx.hl Hx.fo
  (by show A.depth+1+2*n<_;exact DX dp) (by show A.units+3+8*n<_;exact DW un)
 have there:∀b∈aD own,∃y,s.heap.get? b=some y:=fun b hb=>by
  refine aw (bU.mp hb) fun p hp q=>?_;exact(Hx.ledAt p hp).there b q
 have S:aZ Φ st g {s with heap:=Pu,toks:=s.toks+(params.zip (on++dv)).length} (fV params a' (as++SK)) own:=by
  refine(aN ⟨⟨fun b o e=>hk b o (Hx.H b o e),gR Hx.ff fun b _ o e _=>(aj o (hk b o e) rfl),fun p hp=>(Hx.ledAt p hp).congr fun b _ y e=>hk b y e,fun p hp=>(Hx.gAt p hp).congr fun b _ y e=>hk b y e,Hx.nd,Hx.ga,Hx.hl,Hx.fo,Hx.gs⟩,
   ⟨fun b o e _=>dN.of_eq (hk b o e),fun b hb=>.inl hb,fun p hp=>.inl hp,fun p hp=>hp⟩,(aj _ hns (fun x v hm=>?_)),?_,fun hb=>?_,fun p hp hb=>?_⟩ rfl rfl)
  ·unfold fV at hm;rcases T3.mp hm with q|q
   ·exact nP nd rall x v q
   ·refine aw (List.mem_map.mp q) fun y _ q=>?_;cases q
  ·unfold fV;rw [TE,List.map_map,hnames];congr 1
   ·exact List.map_fst_zip (by rw [Tx,Tf,hlen,FK.len];exact Tj _)
   ·exact List.map_id' _
  ·refine ax (there _ hb) fun y hy=>?_;change s.heap.get? s.heap.objs.size=_ at hy;rw [hL] at hy;cases hy
  ·refine ax ((Hx.gAt p hp).there _ hb) fun y hy=>?_;change s.heap.get? s.heap.objs.size=_ at hy;rw [hL] at hy;cases hy
 refine du.mono (h Φ rfl rfl rfl rfl rfl rfl rfl _ S) (fun fl s' zp39=>zp39.u fun f' g' Ab led' S' rf q=>?_) fun e s' x=>?_
 ·cases f' with
  |next=>cases rf;exact⟨S'.2.1,S'.2.2,.none,g',led',S'.1.hs,S'.1.tr,rfl,q⟩
  |ret v=>(refine aw (rf) fun c j' rc=>?_;subst j');exact⟨S'.2.1,S'.2.2,v,g',led',S'.1.hs,S'.1.tr,rc,q⟩
  |cont=>exact q.elim
  |brk=>exact q.elim
 ·obtain⟨ea,or,g',Ab,rfl,S',X',q⟩:=x;unfold leaving;refine .of ?_;refine Te (jO rfl S' X' fun Op S₂ X₂=>?_);refine gD S₂ X₂ fun Ls So X₃=>?_;refine⟨So.2.1,So.2.2,ea,or,rfl,?_,?_,X₃.at,q⟩
  ·exact⟨So.1.hs.H,So.1.hs.ff,fun _ hp=>(nomatch hp),fun p hp=>So.1.hs.gAt p (So.1.tr.sub p hp),List.nodup_nil,fun _ _ _ _ hb=>(nomatch hb),fun _ hb=>(nomatch hb),fun _ hb=>(nomatch hb),Hx.gs⟩
  ·exact⟨So.1.tr.kept,fun _ hb=>(nomatch hb),fun p hp=>.inl hp,fun p hp=>hp⟩
theorem pX {prog:Program} {w:World} {A:Around} {b f:Addr} {x:Value} {a:Args} {R:Result->Shared->Prop} {s:Shared} (hb:s.heap.get? b=some (methodObj (.ref f) x))
 (hq:bW (model prog w) A (.call (.ref f) {a with pos:=x::a.pos}) R s):bW (model prog w) A (.call (.ref b) a) R s:=by
 refine cV rfl ?_;show al _ A.in1 (callAny (.ref b) a) _ _ _;unfold callAny;refine aX (wpAny_load hb ?_);exact aG ⟨rfl,hq⟩
section
variable {F:aY} {Φ:Fx F} {g:GH} {vs:LV} {an:LD} {E:ET}
theorem qc {q f x:Addr} {as:List AV} {own a':LD} {n:Nat} {Qc:AV->GH->LD->Prop} {Q:QT AV} (hq:(q,AO.raw (methodObj (.ref f) (.ref x)))∈own++a')
 (C:∀K9,aA (.ref x::as) K9->cz Φ.w Φ.H₀ g own (.call (.ref f) ⟨K9,[]⟩) n true Qc (fun _=>False)) (hn:n<=Φ.room)
 (hk:∀v g' own',Qc v g' own'->(∀p,g p->g' p)->Q v g' vs (own'++a')):bG Φ g vs (own++a') (.ref q) as Q E:=by
 rintro _ K9 rfl ra s S;have dp:=Φ.dp;have un:=Φ.un;have hat:s.heap.get? q=some (methodObj (.ref f) (.ref x)):=S.1.hs.ledAt _ hq;refine gM (pX (f:=f) (x:=.ref x) hat (cZ (C (.ref x::K9) (.cons rfl ra) Φ.A Φ.fr s ⟨Φ.hA,Φ.hh,by exact D2 hn dp,by exact D1 hn un⟩ S.1.sub) fun r s' zp56=>bp zp56 fun e1 e2 hr=>?_));rcases r with v|(v|_|_|v)
 ·obtain⟨e,or,rfl,H',T,X,q⟩:=hr;exact q.elim
 ·exact hr.elim
 ·exact hr.elim
 ·exact hr.elim
 ·obtain⟨av,g',own',H',T,ra',q⟩:=hr;exact⟨av,g',vs,own'++a',(aN (S.1.after H' T (fun _=>rfl) (.inl rfl)) (e1.trans S.2.1) (e2.trans S.2.2)),ra',hk _ _ _ q T.sub⟩
end
theorem pN {o x Jn args pos env} (hn:noStar args=true) (hl:args.length<30) (hp:(Jn.endLine==pos.line)=true):
 eval (.Call (.Attribute o x Jn) args [] pos) env=(do
  let ov ←attributeBase o x env (eval o env)
  standAt Jn.atName
  let (f,first) ←holding [ov] (getMethod ov x (do return (←importBound o env).getD true))
  callWith pos f first (backTo pos (starEach args env)) []):=by
 have hf:methodCallForm (args.length+([]:List Keyword).length) (backTo pos (starEach args env)) (backToKw pos (keywordEach [] env))=true:=by
  unfold methodCallForm;rw [e6 hn];simp [backToKw,arm_keywordEach_nil,hl]
 rw [arm_eval_Call];unfold methodCall;rw [hf];have e1:methodCallPos true o env Jn pos=pure pos:=by unfold methodCallPos;rw [hp];rfl
 rw [e1];rfl
noncomputable def xd:cD 153:=⟨_,fun P=>(bc _ _ _ rfl)⟩
noncomputable abbrev PX:aY:=dm xd ["self","octets","environment"] rfl (by decide+kernel) (by decide+kernel)
theorem Pd:bE PX (bY xd.fd) ["self","octets","environment"] 3 []:=
 bE.mk' _ _ _ _ [] rfl (fun _=>rfl) (fun _=>rfl) .nil (fun w s X _ _ _=>Tz rfl) rfl rfl rfl (by decide+kernel) (by decide+kernel)
theorem OG {w:World} {H₀:Heap} (W:Wd w H₀) {g:GH} {x dx:Addr} {a b:AV}:
 ∀on,aA [.ref x,a,b] on->cz w H₀ g [(x,.inst 291 dx [])] (.call (.ref 153) ⟨on,[]⟩) 1 true
 (fun v g' own'=>v= .none/\g'=g/\own'=[(x,.inst 291 dx [("octets",a),("environment",b),("at",.int 0)])]) (fun or=>False):=
 bK Pd 0 [("self",some (.ref x)),("octets",some a),("environment",some b)] W fun Φ hw hH hg Kd hn ho hi Qf y'=>by
  refine ae ?_;refine bz rfl (aa a7 (aa ad ?_));refine bR (by exact ay.head) (b_.new [] rfl (by decide) (by simp)) (by exact bj) ?_;refine ae (bz rfl (aa aQ (aa ad ?_)));refine bR (by exact ay.head) (b_.new ["octets"] rfl (by decide) (by exact Ta rfl)) (by exact fJ) ?_;refine ag (bz rfl (au (aa ad ?_)));refine bR (by exact ay.head) (b_.new ["octets","environment"] rfl (by decide) (by exact Ta rfl)) (by exact aV) ?_;refine ca (ql y' ?_);exact(bu _ _ .refl rfl rfl rfl)
noncomputable def nK:cD 211:=⟨_,fun P=>(bc _ _ _ rfl)⟩
noncomputable abbrev pG:aY:=dm nK ["self","octets","environment","decide"] rfl (by decide+kernel) (by decide+kernel)
theorem O8:bE pG (bY nK.fd) ["self","octets","environment","decide"] 4 []:=
 bE.mk' _ _ _ _ [] rfl (fun _=>rfl) (fun _=>rfl) .nil (fun w s X _ _ _ _=>Tz rfl) rfl rfl rfl (by decide+kernel) (by decide+kernel)
noncomputable abbrev nY (x:Addr):Obj:={cls:=.type "super",dict:=none,data:=.fields #[.ref 291,.ref x,.ref 291],slots:=#[]}
theorem yK (P:Params):∃oc vs tf,(hd.heap_1 P).lookup 210=some oc/\oc.data= .fields vs/\vs[2]? =some (.str "/claim/cut.py" tf):=(bc _ _ _ (aN rfl rfl rfl))
theorem yM (P:Params):∃oc,(hd.heap_1 P).lookup 199=some oc/\oc.data= .cell (some (.ref 291)):=(aj _ rfl rfl)
section
variable {F:aY} {Φ:Fx F} {g:GH} {vs:LV} {an:LD} {E:ET}
theorem TG.run {α β:Type} {R:β->α->Prop} {t:Sem α} {Q:QT β} {s:Shared} (S:aZ Φ Φ.strict g s vs an) (h:TG R Φ g vs an t Q E):al (model PG Φ.w) Φ.A t (il R Φ Q) (dz Φ E) s:=h s S
theorem qb {pos:Pos} {q f x:Addr} {args:List Expr} {Q:QT AV} (hm:∀w:World,fnIn (hd.heap_1 w.params) f=true)
 (h:TL Φ g vs an (spliced (backTo pos (starEach args Φ.env))) (fun l g vs an=>(q,AO.raw (methodObj (.ref f) (.ref x)))∈an/\bG Φ g vs an (.ref q) l Q E) E) (hn:noStar args=true):
 TV Φ g vs an (callWith pos (.ref q) [] (backTo pos (starEach args Φ.env)) []) Q E:=by
 intro s S;have hplain:=e6 (pos:=pos) (env:=Φ.env) hn;have hp:((backTo pos (starEach args Φ.env)).any (·.1))=false:=by
  rw [List.any_eq_false];intro y hy;have:=TW.mp hplain y hy;simpa using this
 refine j3 (P:=fun h=>MethP (hd.heap_1 Φ.w.params) q f (.ref x) h) (by rw [hp];rfl) (fun h X=>keeps_M (hm Φ.w) h X) ?_;revert hplain h;generalize backTo pos (starEach args Φ.env)=l at hp ⊢;intro h hplain;cases l with
 |nil=>exact gL (h.use S fun _ _ _ _ _ _ S1 r1 zp55=>a0 zp55 fun hq q1=>⟨⟨S1.1.hs.ledAt _ hq,S1.X⟩,(q1 _ _ rfl r1) _ S1⟩)
 |cons y r=>
  obtain⟨b,t⟩:=y;have hb:b=false:=by have:=TW.mp hplain (b,t) (SZ ..);simpa using this
  subst hb;exact j2 (h.use S fun _ _ _ _ _ _ S1 r1 zp46=>a0 zp46 fun hq q1=>⟨⟨S1.1.hs.ledAt _ hq,S1.X⟩,(q1 _ _ rfl r1) _ S1⟩)
end
theorem OC {w:World} {H₀:Heap} (W:Wd w H₀) {g:GH} {x dx e:Addr} {t:BS}:
 ∀on,aA [.ref x,.bytes t,.ref e,.none] on->cz w H₀ g [(x,.inst 291 dx [])] (.call (.ref 211) ⟨on,[]⟩) 3 true
 (fun v g' own'=>v= .none/\g'=g/\∃cl bl br,own'=[(x,ri dx t e 0 cl .none 0 0 bl br),(cl,.list []),(bl,.list []),(br,.list [])]) (fun or=>False):=
 Bt O8 (a':=[]) rfl W rfl fun Φ hw hH hg Kd hn ho hi s S=>by
  have hs:PG.main.file="/claim/cut.py":=rfl;show du _ _ _ (execs (_::_) Φ.env) _ _ _;rw [execs_cons];refine du.bind ?_;rw [exec_Expr _ _ _ (by show(pG.scope.kind== .module&&_)=false;rfl) rfl];refine du.bind (du.of (jh ?_));refine du.bind ?_;rw [pN rfl (by decide) rfl];refine du.bind ?_;have X:=S.X;refine eS (Φ.wd.T) fun loose mean mg mb T=>?_;refine jP (yK Φ.w.params) fun oc ws tf hc1 hc2 hc3=>?_;refine aw (yM Φ.w.params) fun occ hcc1 hcc2=>?_;refine dM (nK.at' Φ.w.params) fun ofn odn osn hfn=>?_;refine aw (S.1.loc) fun m hns hv=>?_;refine aw (hv "self" (.ref x) (SZ ..)) fun c hc rc=>?_;cases rc;obtain⟨oD,cdD,hD1,hD2⟩:∃oD cdD,s.heap.get? 291=some oD/\oD.data= .cls cdD:=(cT _ _ (X _ _ rfl) rfl)
  refine eS (At.inst_at (S.1.hs.ledAt (x,.inst 291 dx []) (SZ ..))) fun ox es n sl El=>a0 El fun I _=>?_;refine du.mono (du.at (ks_wpAt_super_base (fd:=nK.fd) (ar:=⟨"self",none,_⟩) (by rfl) (by rfl) (by decide) (by rw [Φ.env_eq hi]) (X _ _ hfn) rfl rfl (by rfl) (X _ _ hc1) hc2 hc3 (by decide+kernel) (by decide+kernel)
   (Q:=il AV.Is Φ (fun v g' Ab led'=>∃so,v= .ref so/\g'=g/\Ab=([("self",some (.ref x)),("octets",some (.bytes t)),("environment",some (.ref e)),("decide",some .none)]:LV)/\led'=[(so,.raw (nY x)),(x,.inst 291 dx [])])) (E:=fun _ _=>False) ?_)) ?_ (fun _ _ z=>z.elim)
  ·refine ks_loadName_global pG.hk rfl (loadGlobal_builtin (env:=Φ.env) (T.g.keeps S.1.hs.H) (mg_none_of Φ.wd.X T.g rfl) (T.b.keeps S.1.hs.H) ((T.builtins _ (by decide+kernel)).trans (by boot_by_name)) ⟨rfl,?_⟩);refine wpAny_loadName_free pG.hk rfl rfl (aj _ (X _ _ hcc1) hcc2) ?_;refine wpAny_loadName_local pG.hk rfl hns hc ?_;refine ks_wpAny_isType_cls hD1 hD2 ⟨rfl,?_⟩;obtain⟨hh,gg,dd,tt,oo⟩:=s;refine ks_wpAny_call_super hD1 hD2 I.at_ I.cls (fun c e=>?_) (looks_mroIn X rfl) (fun h' e1 k=>?_)
   ·have:=I.no;unfold notCls at this;rw [e] at this;exact Bool.noConfusion this
   ·skip;refine⟨.ref _,_,_,_,Kd.symm▸aZ.rot (S.more (o:=.raw (nY x)) (fun b hb=>by rw [Ti.mp hb];exact T9 (Tj _)) (by exact Tb rfl) k e1),rfl,_,rfl,rfl,rfl,rfl⟩
  ·rintro a s1 ⟨v,g1,Lu,KE,S1,r1,so,rfl,rfl,rfl,rfl⟩;cases r1;refine du.of (bo ?_);have X1:=S1.X;refine eS (At.inst_at (S1.1.hs.ledAt (x,.inst 291 dx []) (Td _ (SZ ..)))) fun ox1 es1 n1 sl1 El=>a0 El fun I1 _=>?_;have hso:s1.heap.get? so=some (nY x):=S1.1.hs.ledAt _ (SZ ..);obtain⟨cd,hcd,hmro⟩:∃cd,clsIn (hd.heap_1 Φ.w.params) 291=some cd/\cd.mro=[.ref 291,.ref 191,.type "object"]:=(aj _ rfl rfl)
   obtain⟨of,hof,hofc⟩:∃of,(hd.heap_1 Φ.w.params).lookup 153=some of/\of.cls= .type "function":=(aj _ rfl rfl)
   obtain⟨hh,gg,dd,tt,oo⟩:=s1;refine be (bN (.of (ks_wpAny_getMethod_super (l₀:=cd.mro) (l:=[.ref 191,.type "object"]) (K:=hd.heap_1 Φ.w.params) (f:=153) hso (looks_opaque X1 rfl) ((looks_clsIn X1 hcd).andThen .now) (by rw [hmro];decide+kernel) X1 rfl (X1 _ _ hof) hofc ?_ (by decide) ?_)))
   ·rintro rfl;obtain⟨z8,h291,d291⟩:∃o,(hd.heap_1 Φ.w.params).lookup 291=some o/\∃c,o.data= .cls c:=(dH _ (cN rfl (dH _ rfl)))
    have:=X1 _ _ h291;rw [I1.at_] at this;cases this;refine ax (d291) fun c d291=>?_;have q:=I1.no;unfold notCls at q;rw [d291] at q;exact Bool.noConfusion q
   ·have S2:aZ Φ true g1 {(⟨hh,gg,dd,tt,oo⟩:Shared) with heap:=hh.push (methodObj (.ref 153) (.ref x)),toks:=tt+1} [("self",some (.ref x)),("octets",some (.bytes t)),("environment",some (.ref e)),("decide",some .none)] ((hh.objs.size,.raw (methodObj (.ref 153) (.ref x)))::[(so,.raw (nY x)),(x,.inst 291 dx [])]):=(Kd▸S1).pushRaw (methodObj (.ref 153) (.ref x)) rfl;generalize hh.objs.size=q at S2 ⊢;have S2':aZ Φ Φ.strict g1 _ _ _:=Kd.symm▸S2;refine cy ((TG.postless (E:=fun or _ _=>False) (Q:=fun v g' Ab led'=>v= .none/\g'=g1/\Ab=([("self",some (.ref x)),("octets",some (.bytes t)),("environment",some (.ref e)),("decide",some .none)]:LV)/\led'=[(x,.inst 291 dx [("octets",.bytes t),("environment",.ref e),("at",.int 0)])]) (qb (f:=153) (x:=x) (fun w=>rfl) ?_ (by rfl))) _ S2') (fun v s3 zp30=>zp30.u fun av g3 vs3 G' S3 r3 zq30=>cU zq30 fun h1 h2 h3 h4=>?_) (fun _ _ z=>z)
    ·refine ap rfl ?_;refine⟨SZ ..,?_⟩;refine bG.turn (led':=[(x,.inst 291 dx [])]++[(q,.raw (methodObj (.ref 153) (.ref x))),(so,.raw (nY x))]) (by(((try dsimp only [S9,S_,cF,bZ]);(try dsimp only [S9,S_]);with_reducible (repeat (first|exact T1 _|refine cE (by repeat (first|exact aT.head|apply aT.tail)) ?_))))) ?_;refine qc (x:=x) (f:=153) (n:=1) (Td _ (SZ ..)) (OG Φ.wd) (qz hn) ?_;(intro _ _ _ j' _;refine bp (j') fun th to Ce=>?_;subst th;subst to;subst Ce);exact(e7 _ (List.sublist_append_left _ _) rfl rfl rfl rfl)
    ·subst h1;subst h2;subst h3;subst h4;cases r3;rw [dropValue_plain (fun a q=>by cases q)];refine du.bind (du.of (aG (du.of ?_)));refine aG (du.of ?_);refine TG.run S3 ?_;refine ae (bz rfl (aa dc (aa ad ?_)));refine bR (by exact ay.head) (b_.new ["octets","environment","at"] rfl (by decide) (by exact Ta rfl)) (by exact tO) ?_;refine ae (bz rfl ?_);refine bL (af ⟨by exact Tn _,fun cl hcl=>?_⟩);simp only [S9,S_];refine aa ad ?_;refine bR (by exact ay.head) (b_.new ["octets","environment","at","decide"] rfl (by decide) (by exact Ta rfl)) (by exact eG) ?_;refine ae (bz rfl (cP (aa ad ?_)));refine bR (by exact ay.head) (b_.new ["octets","environment","at","decide","commands"] rfl (by decide) (by exact Ta rfl)) (by exact cr) ?_;refine ae (bz rfl (au (aa ad ?_)));refine bR (by exact ay.head) (b_.new ["octets","environment","at","decide","commands","command"] rfl (by decide) (by exact Ta rfl)) (by exact iT) ?_;refine ae (bz rfl (au (aa ad ?_)));refine bR (by exact ay.head) (b_.new ["octets","environment","at","decide","commands","command","group"] rfl (by decide) (by exact Ta rfl)) (by exact fX) ?_;refine ae (bz rfl ?_);refine bL (af ⟨by exact Tn _,fun bl hbl=>?_⟩);simp only [S9,S_];refine aa ad ?_;refine bR (by exact ay.head) (b_.new ["octets","environment","at","decide","commands","command","group","last_group"] rfl (by decide) (by exact Ta rfl)) (by exact fC) ?_;refine ag (bz rfl ?_);refine bL (af ⟨by exact Tn _,fun br hbr=>?_⟩);simp only [S9,S_];refine aa ad ?_;refine bR (by exact ay.head) (b_.new ["octets","environment","at","decide","commands","command","group","last_group","blocks"] rfl (by decide) (by exact Ta rfl)) (by exact eH) ?_;refine ca ?_;exact(aN (by trivial) (by trivial) (bc cl bl br rfl))
theorem vn (pos:Pos) (env:Env):eval (.Dict [] [] pos) env=(do standAt pos;newDict):=by
 rw [arm_eval_Dict];first
  |rfl
  |(unfold dictDisplay;rfl)
  |(unfold dictDisplay;simp)
section
variable {F:aY} {Φ:Fx F} {g:GH} {vs:LV} {an:LD} {E:ET}
theorem yV {pos} {Q:QT AV} (h:∀d,d∉aD an->Q (.ref d) g vs (an++[(d,.dictB [])])):TV Φ g vs an (eval (.Dict [] [] pos) Φ.env) Q E:=by
 intro s S;rw [vn];have hd:dD (jf PG Φ.w) (s.heap.push {cls:=.type "dict",data:=.dict #[]}) s.heap.objs.size []:=
  (kM (aZ.high S) ([]) (bc _ (#[]) 0 (bF (Heap.get?_push_size _ rfl) (aN rfl rfl rfl) rfl (fun _ he=>by simp at he) .nil List.nodup_nil)) rfl .nil)
 have S1:aZ Φ Φ.strict g {s with heap:=s.heap.push {cls:=.type "dict",data:=.dict #[]}} vs (an++[(s.heap.objs.size,.dictB [])]):=
  S.more (o:=.dictB []) (fun b hb=>by rw [Ti.mp hb];exact T9 (Tj _)) (by exact Tb rfl) (fun b y e=>Tp _ e) hd
 exact bo (.of (wpAny_newObj_type ⟨.ref _,g,vs,_,S1,rfl,h _ S.fresh⟩ (by first|trivial|decide|(unfold sizeOk;exact Tn _))))
end
noncomputable def wW:cD 301:=⟨_,fun P=>(bc _ _ _ rfl)⟩
noncomputable abbrev PF:aY:=dm wW ["octets","environment","decide"] rfl (by decide+kernel) (by decide+kernel)
theorem Cv:bE PF (bY wW.fd) ["octets","environment","decide"] 2 [.none]:=
 bE.mk' _ _ _ _ [Value.none] rfl (fun _=>rfl) (fun _=>rfl) (.cons rfl .nil) (fun w s X _ _=>BindsTo.of_defaults rfl (X _ _ rfl) rfl rfl rfl) rfl rfl rfl (by decide+kernel) (by decide+kernel)
theorem wD:Gl "CommandReader" (.ref 291):=⟨fun w=>.inl (aj _ rfl rfl),by decide+kernel⟩
theorem tV:bB (.ref 291):=fun w=>rfl
noncomputable def uf (env:Ev) (t:BS) (v:AV) (g':GH) (own':LD):Prop:=own'=[]/\∃cs cl xs,aM env [] ⟨[],none,0⟩ 0 t= .ok cs/\v= .ref cl/\g' (cl,.list xs)/\eJ g' xs cs
noncomputable def xu (env:Ev) (t:BS) (or:AV):Prop:=∃k:Nat,aM env [] ⟨[],none,0⟩ 0 t= .err k/\or= .int (t.length-k)
section
variable {F:aY} {Φ:Fx F} {g:GH} {vs:LV} {E:ET}
theorem pB {an:LD} {f as} {Q:QT AV} (h:bG Φ g vs an f as (fun b g vs an=>∃g' led',dU g an g' led'/\Q b g' vs led') E):bG Φ g vs an f as Q E:=fun vf K9 a b=>TG.post (h vf K9 a b)
theorem kq {t:BS} {e:Addr} {env:Ev} (hr:9<=Φ.room) (hE:gJ env) (hN:cv t) (hz:4*t.length<=bf) (hB:aM env [] ⟨[],none,0⟩ 0 t≠ .bad) {Q:QT AV}
 (h:∀x cl bl br dx,Q (.ref x) g vs (RL x dx t e env 0 cl .none 0 0 bl br [] [] [] [])):
 bG Φ g vs [(e,.dictB (dn env))] (.ref 291) [.bytes t,.ref e,.none] Q E:=by
 refine pB ?_;refine pr (fI:=211) (n:=3) (Qc:=fun v g' own'=>g'=g/\∃x dx cl bl br,v= .ref x/\own'=[(x,ri dx t e 0 cl .none 0 0 bl br),(cl,.list []),(bl,.list []),(br,.list [])]) (fun w=>rfl) (fun w=>⟨rfl,rfl⟩) (fun x dx hx K9 ra A o s ar hs=>?_) (IE hr) ?_
 ·refine cZ (OC Φ.wd (.ref x::K9) (.cons rfl ra) A o s ar hs) fun r s' zp31=>bp zp31 fun e1 e2 hr=>(aN e1 e2 ?_);rcases r with v|(v|_|_|v)<;>try exact hr
  obtain⟨av,g',own',h1,h2,h3,rfl,rfl,cl,bl,br,rfl⟩:=hr;exact⟨_,_,_,h1,h2,h3,rfl,rfl,x,dx,cl,bl,br,rfl,rfl⟩
 ·(intro _ g' own' j' _;refine a0 (j') fun th El=>f_ El fun x dx cl bl br La=>a0 La fun to Ce=>?_;subst th;subst to;subst Ce);refine(cT _ _ (.turn (l':=RL x dx t e env 0 cl .none 0 0 bl br [] [] [] []) ?_ .refl) (h x cl bl br dx));simp only [RL,T7];(((try dsimp only [S9,S_,cF,bZ]);(try dsimp only [S9,S_]);with_reducible (repeat (first|exact T1 _|refine cE (by repeat (first|exact aT.head|apply aT.tail)) ?_))))
end
theorem Ow {w:World} {H₀:Heap} (W:Wd w H₀) {g:GH} {t:BS} {e:Addr} {env:Ev} (hE:gJ env) (hN:cv t) (hz:4*t.length<=bf) (hB:aM env [] ⟨[],none,0⟩ 0 t≠ .bad):
 ∀on,aA [.bytes t,.ref e] on->cz w H₀ g [(e,.dictB (dn env))] (.call (.ref 301) ⟨on,[]⟩) 10 true (uf env t) (xu env t):=
 bK Cv 9 [("octets",some (.bytes t)),("environment",some (.ref e)),("decide",some .none)] W fun Φ hw hH hg Kd hn ho hi Qf y'=>by
  refine ae ?_;refine aE ?_;refine pE (by exact rfl) (by exact rfl) (by exact Tb rfl) (by exact rfl) ?_;refine aP wD tV ?_;refine ah rfl (aa ad (ah rfl (cw (aC rfl (md rfl (aa a7 (ap rfl ?_)))))));refine kq (An hn) hE hN hz hB fun x cl bl br dx=>?_;refine c_ (.inl ad) qR (eK (by decide)) ⟨tY,?_⟩;refine af ?_;refine gl (B0 Φ.wd hE hN hz hB) (Am hn) ?_ (fun or h=>h);(intro v g' own' j' _;refine a0 (j') fun th h=>?_;subst th);refine aO (ba (ql y' ?_));exact(cf _ _ .refl rfl h)
theorem Dp {w:World} {H₀:Heap} (W:Wd w H₀) {g:GH} {t:BS} (hN:cv t) (hz:4*t.length<=bf) (hB:aM [] [] ⟨[],none,0⟩ 0 t≠ .bad):
 ∀on,aA [.bytes t,.none] on->cz w H₀ g [] (.call (.ref 301) ⟨on,[]⟩) 10 true (uf [] t) (xu [] t):=
 bK Cv 9 [("octets",some (.bytes t)),("environment",some .none),("decide",some .none)] W fun Φ hw hH hg Kd hn ho hi Qf y'=>by
  have hE:gJ []:=fun k=>by exact Tn _
  refine ae ?_;refine aE ?_;refine pE (by exact rfl) (by exact rfl) (by exact Tb rfl) (by exact rfl) ?_;refine aP wD tV ?_;refine ah rfl (aa ad (ah rfl (cw (aC rfl (nO rfl ?_)))));refine yV fun e he=>?_;simp only [S_];refine ap rfl ?_;refine kq (env:=[]) (An hn) hE hN hz hB fun x cl bl br dx=>?_;refine c_ (.inl ad) qR (eK (by decide)) ⟨tY,?_⟩;refine af ?_;refine gl (B0 Φ.wd hE hN hz hB) (Am hn) ?_ (fun or h=>h);(intro v g' own' j' _;refine a0 (j') fun th h=>?_;subst th);refine aO (ba (ql y' ?_));exact(cf _ _ .refl rfl h)
noncomputable abbrev xj (c:Addr) (m τ:Int):AO:=.dictS [("cells",.ref c),("mixed",.int m),("turn",.int τ)]
noncomputable abbrev dk (d c:Addr) (ms:List Int) (m τ:Int):LD:=[(d,xj c m τ),(c,.list (ms.map .int))]
theorem pk {k:Int} (h1:-(2 ^ 60)<k) (h2:k<2 ^ 60):Builtin.Int.intBits k<=64:=intBits_le_64 (Nm h1 h2) (Nl h1 h2)
noncomputable def wN:cD 351:=⟨_,fun P=>(bc _ _ _ rfl)⟩
noncomputable abbrev Pw:aY:=dm wN ["deck","below","figure","cell"] rfl (by decide+kernel) (by decide+kernel)
theorem OU:bE Pw (bY wN.fd) ["deck","below"] 2 []:=
 bE.mk' _ _ _ _ [] rfl (fun _=>rfl) (fun _=>rfl) .nil (fun w s X _ _=>Tz rfl) rfl rfl rfl (by decide+kernel) (by decide+kernel)
theorem lq {w:World} {H₀:Heap} (W:Wd w H₀) {g:GH} {d c:Addr} {ms:List Int} {m τ b:Int} (hm:0<=m/\m<2147483587) (hτ:0<=τ/\τ<=1000000) (hb:0<b/\b<=1000000) (hz:ms.length<=8):
 ∀on,aA [.ref d,.int b] on->cz w H₀ g (dk d c ms m τ) (.call (.ref 351) ⟨on,[]⟩) 1 true
 (fun v g' own'=>∃r Sw,v= .int r/\0<=r/\r<b/\g'=g/\Sw.length<=8/\own'=dk d c Sw m (τ+1)) (fun or=>False):=
 bK OU 0 [("deck",some (.ref d)),("below",some (.int b)),("figure",none),("cell",none)] W fun Φ hw hH hg Kd hn ho hi Qf y'=>by
  have Hn:cq=1000000:=rfl;refine ae ?_;refine qd (hs:=by rfl) (hw:=by rfl) ?_;refine ak (bg (aa ad (fm (fM ad rfl rfl (au (bD (aa ad (fm ?_))))))));refine y5 (by exact ay.head) (.tail (.tail .head)) (by exact Ta rfl) ?_;refine ae (aI rfl (ak (bg (aa ad (fm (fM ad rfl rfl (ak (ak (au (bg (aa ad (fm (fM ad rfl rfl (fq (PySem.IntMulOk.of_left (by decide+kernel)) (bg (aa ad (fm (fM ad rfl rfl ?_))))))))))))))))));refine fq (.of_right (pk (Nk hτ) (Nj hτ))) ?_;have fin:∀y:Int,0<=y.fmod b/\y.fmod b<b:=fun y=>⟨Int.fmod_nonneg_of_pos _ hb.1,Int.fmod_lt_of_pos _ hb.1⟩;have fB:∀y:Int,0<=y.fmod 2147483647/\y.fmod 2147483647<2147483647:=fun y=>⟨Int.fmod_nonneg_of_pos _ (by decide),Int.fmod_lt_of_pos _ (by decide)⟩;rcases List.eq_nil_or_concat ms with rfl|⟨L,z,rfl⟩
  ·refine bD (aL rfl (ae (aS (eI (bg (aa ad (fm (fM ad rfl rfl (jp a7 (am (fun _=>ae (aI rfl (aH rfl rfl (Tb rfl) rfl (bg (aa ad (fm (fM ad rfl rfl (sh (Tl a7) (T_ trivial (af ?_)))))))))) (fun _=>bq (ae (aI rfl (ak (ak (ak (aa aQ (au (ei (Tb rfl) (au (fq (PySem.IntMulOk.of_right (by decide+kernel)) (au (ei (Tb rfl) (aL rfl (ae (aI rfl (ak (ak (ak (aa aQ (aa aQ ?_)))))))))))))))))))))))))))))))
   ·rename_i h;exact absurd rfl h
   refine fq (.of_left (pk (by have:=fB ((m+601919*(τ+1)*(τ+1)).fmod 2147483629*40692);exact DS this) (by have:=fB ((m+601919*(τ+1)*(τ+1)).fmod 2147483629*40692);exact DQ this))) ?_;refine au (bD (au (ei (Tb rfl) (aL rfl (ag (aE (ak (ak (ak (ak (aa aQ (au (fq (PySem.IntMulOk.of_right (by decide+kernel)) (au (ei (Tb rfl) (au (ky (Tb rfl) (Tb rfl) (aa a7 ?_))))))))))))))))));refine ei (wj hb) ?_;refine aO (ql y' ?_);exact(cA _ _ (cN .refl (cA _ ([]) (bF rfl ((fin _).1) ((fin _).2) rfl (by assumption) rfl))))
  ·have hzL:L.length+1<=8:=by simpa using hz
   simp only [List.concat_eq_append,TE,TM,List.map_nil];refine bD (aL rfl (ae (aS (eI (bg (aa ad (fm (fM ad rfl rfl (jp a7 (am (fun _=>ae (aI rfl (aH rfl rfl (Tb rfl) rfl (bg (aa ad (fm (fM ad rfl rfl (sh (Tl a7) (T_ trivial (af ?_)))))))))) (fun _=>bq (ae (aI rfl (ak (ak (ak (aa aQ (au (ei (Tb rfl) (au (fq (PySem.IntMulOk.of_right (by decide+kernel)) (au (ei (Tb rfl) (aL rfl (ae (aI rfl (ak (ak (ak (aa aQ (aa aQ ?_)))))))))))))))))))))))))))))))
   ·refine xx (by exact ay.tail ay.head) (by simp;exact DP Hn hzL) ?_;refine aL rfl (ae (aS (aC rfl (am (fun _=>ae (bm rfl (aH rfl rfl (Tb rfl) rfl (bg (aa ad (fm (fM ad rfl rfl (dC (Tl a7) (T_ trivial (ah rfl (ak (aa dc (aa a7 ?_))))))))))))) (fun _=>bq (ag (aI rfl (ak (aa aQ (ak (aa dc (au (ei (Tb rfl) (bD (aL rfl (ae (aI rfl (ak (ak (ak (aa aQ (au (ei (Tb rfl) (au (fq (PySem.IntMulOk.of_right (by decide+kernel)) (au (ei (Tb rfl) (aL rfl (ae (aI rfl (ak (ak (ak (aa aQ (aa aQ ?_)))))))))))))))))))))))))))))))))))
    ·refine ky (wj hb) (by exact Int.natAbs_lt_natAbs_of_nonneg_of_lt (b:=1073741824) (Int.le_of_lt hb.1) (Int.lt_of_le_of_lt hb.2 (by decide))) ?_;refine af ?_;refine dB (by exact ay.tail ay.head) (by simp;exact DP Hn hzL) ?_;refine de (ag (aE (ak (aa dc (aa a7 ?_)))));refine ei (wj hb) ?_;refine aO (ba (ba (ql y' ?_)));exact(cA _ _ (cN .refl (cA _ (L++[z.fdiv b]) (bF rfl ((fin _).1) ((fin _).2) rfl (by simpa using hz) (by simp [dk])))))
    ·refine fq (.of_left (pk (by have:=fB ((m+601919*(τ+1)*(τ+1)+z.fmod 2147483563).fmod 2147483629*40692);exact DS this) (by have:=fB ((m+601919*(τ+1)*(τ+1)+z.fmod 2147483563).fmod 2147483629*40692);exact DQ this))) ?_;refine au (bD (au (ei (Tb rfl) (aL rfl (ag (aE (ak (ak (ak (ak (aa aQ (au (fq (PySem.IntMulOk.of_right (by decide+kernel)) (au (ei (Tb rfl) (au (ky (Tb rfl) (Tb rfl) (aa a7 ?_))))))))))))))))));refine ei (wj hb) ?_;refine aO (ql y' ?_);exact(cA _ _ (cN .refl (cA _ L (bF rfl ((fin _).1) ((fin _).2) rfl (Ni hzL) rfl))))
   ·rename_i h;exact absurd h (by simp)
theorem jN:Gl "_law_draw" (.ref 351):=⟨fun w=>.inl (aj _ rfl rfl),by decide+kernel⟩
theorem iV:bB (.ref 351):=fun w=>rfl
noncomputable def wM:cD 358:=⟨_,fun P=>(bc _ _ _ rfl)⟩
noncomputable abbrev Pv:aY:=dm wM ["deck","some"] rfl (by decide+kernel) (by decide+kernel)
theorem Cu:bE Pv (bY wM.fd) ["deck","some"] 2 []:=
 bE.mk' _ _ _ _ [] rfl (fun _=>rfl) (fun _=>rfl) .nil (fun w s X _ _=>Tz rfl) rfl rfl rfl (by decide+kernel) (by decide+kernel)
theorem vC {w:World} {H₀:Heap} (W:Wd w H₀) {g:GH} {d c s:Addr} {ms:List Int} {m τ:Int} {bs:List BS} (hm:0<=m/\m<2147483587) (hτ:0<=τ/\τ<=1000000) (hb:0<bs.length/\bs.length<=1000000) (hz:ms.length<=8):
 ∀on,aA [.ref d,.ref s] on->cz w H₀ g (dk d c ms m τ++[(s,.list (bs.map .bytes))]) (.call (.ref 358) ⟨on,[]⟩) 2 true
 (fun v g' own'=>∃x Sw,x∈bs/\v= .bytes x/\g'=g/\Sw.length<=8/\own'=dk d c Sw m (τ+1)++[(s,.list (bs.map .bytes))]) (fun or=>False):=
 bK Cu 1 [("deck",some (.ref d)),("some",some (.ref s))] W fun Φ hw hH hg Kd hn ho hi Qf y'=>by
  have Hn:cq=1000000:=rfl;simp only [S9,S_];refine ae ?_;refine aE (bg (aa a7 ?_));refine aP jN iV ?_;refine ah rfl (aa ad (ah rfl (aP d9 trivial (ap rfl ?_))));refine uo (.inl aQ) (by rw [Tx];exact TO hb.2 (Nat.le_of_eq Hn.symm)) ?_;refine af ?_;refine a_ (a':=[(s,.list (bs.map .bytes))]) (lq (b:=(bs.map AV.bytes).length) Φ.wd hm hτ (by rw [Tx];exact⟨Int.ofNat_lt.mpr hb.1,TQ.mpr hb.2⟩) hz) (o4 hn) (.refl _) (fun _ h=>h.elim) ?_;(intro _ _ _ j' _ led' e1;refine eC (j') fun r Sw th h0 h1 to hz' Ce=>?_;subst th;subst to;subst Ce);(rename _++_=_=>e;(try dsimp only [S9,S_] at e);subst e);rw [Tx] at h1;have Lc:r.toNat<bs.length:=(Int.toNat_lt h0).mpr h1;refine iH (v:=.bytes bs[r.toNat]) (.inl aQ) (by rw [Tx];exact TO hb.2 (Nat.le_of_eq Hn.symm)) h0 (by simp [Lc]) (by exact rfl) ?_;refine aO (ba (ql y' ?_));exact(cA _ _ (cN .refl (cA (bs[r.toNat]) Sw (cn (List.getElem_mem ..) rfl rfl hz' rfl))))
theorem Dn {w:World} {H₀:Heap} (W:Wd w H₀) {g:GH} {d c:Addr} {ms:List Int} {m τ:Int} {l:BS} (hm:0<=m/\m<2147483587) (hτ:0<=τ/\τ<=1000000) (hb:0<l.length/\l.length<=1000000) (hz:ms.length<=8):
 ∀on,aA [.ref d,.bytes l] on->cz w H₀ g (dk d c ms m τ) (.call (.ref 358) ⟨on,[]⟩) 2 true
 (fun v g' own'=>∃(x:UInt8) (Sw:List Int),x∈l/\v= .int (x.toNat:Nat)/\g'=g/\Sw.length<=8/\own'=dk d c Sw m (τ+1)) (fun or=>False):=
 bK Cu 1 [("deck",some (.ref d)),("some",some (.bytes l))] W fun Φ hw hH hg Kd hn ho hi Qf y'=>by
  have F0:bf=1000000:=rfl;have K5:l.length<=bf:=by exact Nh hb F0
  refine ae ?_;refine aE (bg (aa a7 ?_));refine aP jN iV ?_;refine ah rfl (aa ad (ah rfl (dG a7 K5 (af ?_))));refine a_ (a':=[]) (lq (b:=l.length) Φ.wd hm hτ (Ng hb) hz) (o4 hn) (.refl _) (fun _ h=>h.elim) ?_;(intro _ _ _ j' _ led' e1;refine eC (j') fun r Sw th h0 h1 to hz' Ce=>?_;subst th;subst to;subst Ce);(rename _++_=_=>e;(try dsimp only [S9,S_] at e);subst e);have Lc:r.toNat<l.length:=by exact FQ hb h1
  refine cb K5 h0 (Nf h1) (by exact rfl) ?_;refine aO (ba (ql y' ?_));refine(cA _ _ (cN .refl (cA (l[r.toNat]) Sw (cn (List.getElem_mem ..) ?_ rfl hz' rfl))));rw [TI,Th Lc];rfl
theorem ki {ns:List Int} {i:Nat} (h:i<ns.length):(ns.map AV.int).getD i .none= .int (ns.getD i 0):=by
 rw [TI,TI,List.getElem?_map,Th h];rfl
inductive xW (g':GH) (s:Addr) (F6:Addr) (ks:List Int) (b:Addr) (g2:GH) (vs:LV) (an:LD):Prop
 |mk:(g2=g')->(an=[(F6,.list (ks.map .int)),(b,.list (ks.map .int))])->∀(m:Int) (o:Option AV),(0<=m)->(m<2147483587)->(vs=([("script",some (.ref s)),("cells",some (.ref F6)),("mixed",some (.int m)),("cell",o)]:LV))->xW g' s F6 ks b g2 vs an
inductive xV (g':GH) (s:Addr) (F6:Addr) (ks:List Int) (b:Addr) (i:Nat) (g2:GH) (vs:LV) (an:LD):Prop
 |mk:(g2=g')->(an=[(F6,.list (ks.map .int)),(b,.list (ks.map .int))])->∀(m:Int) (o:Option AV),(0<=m)->(m<2147483587)->(vs=([("script",some (.ref s)),("cells",some (.ref F6)),("mixed",some (.int m)),("cell",o)]:LV))->xV g' s F6 ks b i g2 vs an
noncomputable def wO:cD 344:=⟨_,fun P=>(bc _ _ _ rfl)⟩
noncomputable abbrev Px:aY:=dm wO ["script","cells","mixed","cell"] rfl (by decide+kernel) (by decide+kernel)
theorem OV:bE Px (bY wO.fd) ["script"] 1 []:=
 bE.mk' _ _ _ _ [] rfl (fun _=>rfl) (fun _=>rfl) .nil (fun w s X _=>Tz rfl) rfl rfl rfl (by decide+kernel) (by decide+kernel)
theorem Os {w:World} {H₀:Heap} (W:Wd w H₀) {g:GH} {s:Addr} {ns:List Int} (hs:g (s,.list (ns.map .int))) (hz:ns.length<=1000):
 ∀on,aA [.ref s] on->cz w H₀ g [] (.call (.ref 344) ⟨on,[]⟩) 1 true
 (fun v g' own'=>∃d c ms m,v= .ref d/\g'=g/\ms.length<=8/\0<=m/\m<2147483587/\own'=dk d c ms m 0) (fun or=>False):=
 bK OV 0 [("script",some (.ref s)),("cells",none),("mixed",none),("cell",none)] W fun Φ hw hH hg Kd hn ho hi Qf y'=>by
  have Hn:cq=1000000:=rfl;refine ae ?_;refine bX (names:=["cells","mixed"]) ?_;refine ah (by exact rfl) ?_;refine jU (hs:=by intro _;rfl) (ht:=by intros;rfl) rfl (by decide+kernel) (by decide+kernel) (by decide+kernel) (by decide+kernel) (by decide+kernel) ?_;refine nq (np:="x") ?_;refine aa ad ?_;refine(bu s _ rfl (.inr hs) (by simp;exact Nc hz Hn) ?_);refine gi (bP (au (dQ (gi ?_))));refine(fF (.inr hs) (by exact of_decide_eq_false rfl) ((ns.map AV.int).take 8) (fun cs h=>sP 8 h) (fun b hb=>?_));simp only [S_];have ek:(ns.map AV.int).take 8=(ns.take 8).map .int:=by rw [List.map_take]
  rw [ek];generalize hk:ns.take 8=ks;have hkl:ks.length<=8:=by rw [←hk];exact List.length_take_le ..
  refine⟨_,_,_,_,fun Ψ=>gQ (Φ:=Ψ) (a:=b) (xs:=ks.map AV.int),fun i g' ys led'=>g'=g/\ys=(ks.take i).map .int/\led'=[(b,.list (ks.map .int))],?_,?_,?_,?_,?_,?_⟩
  ·rintro i g' ys led' p ⟨rfl,rfl,rfl⟩;exact .inl (Td _ (SZ ..))
  ·exact .inl (SZ ..)
  ·rintro i g' ys led' ⟨rfl,rfl,rfl⟩;rw [Tx];have:=List.length_take_le i ks;rw [List.length_take];exact FP Hn hkl
  ·skip;exact⟨rfl,by rfl,rfl⟩
  ·rintro Ψ hΨ i g' led' ys p q hi' ⟨rfl,rfl,rfl⟩;rw [Tx] at hi';rw [ki hi'];refine jT ?_;refine bv (aP jB trivial (ap rfl (vX ?_)));exact(dP _ (.refl _) rfl (by rw [List.take_add_one,Th hi',TE,TI,Th hi'];rfl) rfl)
  ·(intro g' ys led' F6 j' hacc;refine bp (j') fun th to Ce=>?_;subst th;subst to;subst Ce);rw [Tx,List.take_length];refine ap rfl ?_;refine(aN rfl (by exact Ta rfl) ?_);refine aW (aJ ?_);refine aL rfl ?_;refine aW (aJ ?_);refine aL rfl ?_;refine cu ?_;refine ae ?_;refine jE (xW g' s F6 ks b) ?_ ?_
   ·intro Q1 Lb;refine jV (hs:=by intro _;rfl) ?_;refine aa a7 ?_;refine iG (ht:=by intros;rfl) hi (gQ (a:=F6) (xs:=ks.map AV.int)) (xV g' s F6 ks b) ?_ ?_ ?_ ?_
    ·rintro i g2 vs an ⟨rfl,rfl,_⟩;exact .inl (SZ ..)
    ·rintro i p Qb F2 g2 vs an hi' ⟨rfl,rfl,m,o,hm1,hm2,rfl⟩ hp;rw [Tx] at hi';rw [ki hi'];refine bt ?_;refine aL rfl (ag (aI rfl (ak (ak (ak (ak (aa aQ (au (fq (PySem.IntMulOk.of_right (by decide+kernel)) (ak (aa dc (au (ei (Tb rfl) (bD (au (bD (au (ei (Tb rfl) (aL rfl (eN F2 ?_))))))))))))))))))));exact⟨_,rfl,rfl,rfl,_,_,Int.fmod_nonneg_of_pos _ (by decide),Int.fmod_lt_of_pos _ (by decide),rfl⟩
    ·skip;exact⟨rfl,rfl,1919,none,by decide,by decide,rfl⟩
    ·rintro g2 vs an ⟨rfl,rfl,m,o,hm1,hm2,rfl⟩;refine ql Lb ?_;exact⟨rfl,rfl,rfl,m,o,hm1,hm2,rfl⟩
   ·rintro g2 vs an ⟨rfl,rfl,m,o,hm1,hm2,rfl⟩;refine ag (aE ?_);refine yU (hk:=by with_unfolding_all rfl) (h0:=by exact TS _ _) (hlen:=by exact Tb rfl) fun d hd=>?_;refine iB ?_;refine fm ?_;refine nq (np:="x") ?_;refine aa a7 ?_;refine(bu F6 (ks.map .int) rfl (.inl (by exact SZ ..)) (by simp;exact Nb Hn hkl) ?_);refine gi (gi (bP (gk (au (jY (dQ ?_))))));refine(fF (.inl (by exact SZ ..)) (by exact of_decide_eq_false rfl) _ (fun cs h=>uN h) (fun c hc=>?_));refine iB (fm (aa aQ (iB (fm (au ?_)))));refine l7 ?_;refine(hU ([("cells",.ref c),("mixed",.int m),("turn",.int 0)]) rfl (show([("cells":Str),("mixed":Str),("turn":Str)]:List Str).Nodup from by decide+kernel) (by exact Ta rfl) _ (.tail (.tail .head)) ?_);refine aO (ql y' ?_);refine(cA _ (dk d c ks.reverse m 0) (cN (.less (l':=[(d,xj c m 0),(c,.list (ks.map .int).reverse)]) ?_ (by rw [←List.map_reverse];exact .refl)) (ge d c ks.reverse m (bF rfl rfl (by simpa using hkl) hm1 hm2 rfl))));exact .cons _ (.cons _ (.refl _))
noncomputable abbrev LE:Ev:=[([65],[120,32,121]),(j0,[47,104])]
theorem ti {p:BS×BS} {e:Ev} {k:BS}:look (p::e) k=if p.1=k then p.2 else look e k:=by
 unfold look;by_cases h:p.1=k
 ·rw [Tk h,List.find?_cons_of_pos (p:=fun p:BS×BS=>decide (p.1=k)) (decide_eq_true h)];rfl
 ·rw [Tc h,List.find?_cons_of_neg (p:=fun p:BS×BS=>decide (p.1=k)) (fun q=>h (Tb q))]
theorem gV:gJ LE:=fun k=>by
 unfold LE;rw [ti,ti];by_cases h1:([65]:BS)=k
 ·rw [Tk h1];exact Tj _
 ·rw [Tc h1];by_cases h2:j0=k
  ·rw [Tk h2];exact Nat.le_succ _
  ·rw [Tc h2];exact Tn _
noncomputable abbrev CS:BS:=[65,66,67,68,69,70,71,72,73,74,75,76,77,78,79,80,81,82,83,84,85,86,87,88,89,90,97,98,99,100,101,102,103,104,105,106,107,108,109,110,111,112,113,114,115,116,117,118,119,120,121,122,95]
noncomputable abbrev CK:BS:=[48,49,50,51,52,53,54,55,56,57]
theorem yO (c:UInt8):CS.contains c=lj c.toNat:=jr (P:=fun c=>CS.contains c=lj c.toNat) (by decide+kernel) c
theorem yI (c:UInt8):CK.contains c=decide (48<=c.toNat/\c.toNat<=57):=jr (P:=fun c=>CK.contains c=decide (48<=c.toNat/\c.toNat<=57)) (by decide+kernel) c
noncomputable def uT (t r:BS):Option (BS×BS)->List AV
 |none=>[.none,.int (ps t r)]
 |some q=>[.bytes q.1,.int (ps t q.2)]
inductive xU (t:BS) (r:BS) (g:GH) (r1:BS) (kd:Addr) (g':GH) (vs:LV) (an:LD):Prop
 |mk:(g'=g)->(an=[(kd,.dictB (dn LE))])->(vs=([("text",some (.bytes t)),("at",some (.int (ps t r))),("known",some (.ref kd)),("is_braced",some (.bool (dy 123 r))),("begin",some (.int (ps t r1))),("end",some (.int (ps t (r1.drop (bw true r1)))))]:LV))->xU t r g r1 kd g' vs an
inductive xT (t:BS) (r:BS) (g:GH) (r1:BS) (kd:Addr) (n:Nat) (g':GH) (vs:LV) (an:LD):Prop
 |mk:(g'=g)->(an=[(kd,.dictB (dn LE))])->∀d,(n=d.length)->(d<:+r1)->(vs=([("text",some (.bytes t)),("at",some (.int (ps t r))),("known",some (.ref kd)),("is_braced",some (.bool (dy 123 r))),("begin",some (.int (ps t r1))),("end",some (.int (ps t d)))]:LV))->(bw true r1=(r1.length-d.length)+bw (decide (d.length=r1.length)) d)->xT t r g r1 kd n g' vs an
noncomputable def wL:cD 365:=⟨_,fun P=>(bc _ _ _ rfl)⟩
noncomputable abbrev Pt:aY:=dm wL ["text","at","known","is_braced","begin","end"] rfl (by decide+kernel) (by decide+kernel)
theorem OT:bE Pt (bY wL.fd) ["text","at"] 2 []:=
 bE.mk' _ _ _ _ [] rfl (fun _=>rfl) (fun _=>rfl) .nil (fun w s X _ _=>Tz rfl) rfl rfl rfl (by decide+kernel) (by decide+kernel)
theorem BW {w:World} {H₀:Heap} (W:Wd w H₀) {g:GH} {t r:BS} (hr:r<:+t) (hz:t.length<=bf):
 ∀on,aA [.bytes t,.int (ps t r)] on->cz w H₀ g [] (.call (.ref 365) ⟨on,[]⟩) 1 true
 (fun v g' own'=>∃tp,v= .ref tp/\g'=g/\own'=[(tp,.tuple (uT t r (cH LE r)))]/\∀q,cH LE r=some q->q.2<:+r) (fun or=>False):=
 bK OT 0 [("text",some (.bytes t)),("at",some (.int (ps t r))),("known",none),("is_braced",none),("begin",none),("end",none)] W fun Φ hw hH hg Kd hn ho hi Qf y'=>by
  refine ae ?_;refine bX (names:=["known","is_braced"]) ?_;refine ah (by exact rfl) ?_;refine qW (hk:=by with_unfolding_all rfl) (h0:=by exact TS _ _) (hlen:=by exact Tb rfl) fun kd hkd=>?_;refine iB (bn (bn (iB (bn (bn ?_)))));refine l7 ?_;refine(hU (dn LE) rfl (by decide+kernel) (by exact Ta rfl) _ .head ?_);refine ah rfl (iC (cR (aa ad (gN hz (bP (aa a7 (dQ (bP (dJ rfl (dQ (bn (jZ (af ?_))))))))))) (fun _ _ _=>rfl) (fun _ _ _=>rfl)) rfl);rw [show ps t r+1=ps t r+(1:Nat) from rfl,fy hr 1,kG,show UInt8.toNat 123=123 from rfl];obtain⟨r1,hr1,hp1,hc⟩:∃r1,r1<:+r/\(ps t r+if dy 123 r=true then 1 else 0)=ps t r1/\(if dy 123 r=true then r1=r.tail else r1=r):=by
   cases hb:dy 123 r with
   |false=>exact(eP r (Tv _) (by simp) rfl)
   |true=>
    cases r with
    |nil=>cases hb
    |cons a r=>exact(eP r (T8 a r) (by rw [Tk rfl,aU]) rfl)
  refine(aN rfl (by exact Ta rfl) ?_);refine aW (aJ ?_);refine aL rfl ?_;refine aW (aJ ?_);refine aL rfl ?_;refine cu ?_;refine ae (aI rfl (ak (aa a7 (aP jB trivial (ap rfl (ii (bD (aL rfl (xq (hc:=by rfl) rfl rfl (ae ?_))))))))));rw [hp1];have SO:∀d:BS,d<:+r1->bw true r1=r1.length-d.length->d=r1.drop (bw true r1):=fun d hd h=>by rw [h];exact(sI hd).symm
  refine jE (xU t r g r1 kd) ?_ ?_
  ·intro Q1 Lb;refine fD hi (xT t r g r1 kd) ?_ r1.length ⟨rfl,rfl,r1,rfl,Tv _,rfl,by simp⟩;rintro n Qb F2 g' vs an ⟨rfl,rfl,d,rfl,hd,rfl,hk⟩;have K1:=hd.trans (hr1.trans hr);have F9:=hd.length_le;cases d with
   |nil=>
    refine aR (aK (aa d7 (dG ad hz (ef (aF (am (fun _=>aR (ch (aK (bg (aa ad (aa d7 ?_))) rfl))) (fun _=>bd (ql Lb ?_))))))) rfl)
    ·rename_i hq;exact absurd hq (by unfold ps;exact Int.lt_irrefl _)
    ·skip;exact⟨rfl,rfl,rfl,by rw [←SO [] hd hk]⟩
   |cons a d=>
    have h1:=di K1;have h2:=eg K1;have ha:=el K1;have hdl':=(cY hd).length_le;have step:gA (decide ((a::d).length=r1.length)) a.toNat=true->bw true r1=(r1.length-d.length)+bw (decide (d.length=r1.length)) d:=fun h=>by
     rw [jy,Tk h] at hk;rw [show decide (d.length=r1.length)=false from decide_eq_false (by simp at F9;exact DO F9)];simp at F9 hk ⊢;exact DN hk F9
    have stop:gA (decide ((a::d).length=r1.length)) a.toNat=false->bw true r1=r1.length-(a::d).length:=fun h=>by
     rw [jy,Tc (by rw [h];decide)] at hk;exact DM hk
    have hcmp:decide (ps t r1<ps t (a::d))=!decide ((a::d).length=r1.length):=by
     rw [←decide_not];exact decide_eq_decide.mpr (by unfold ps;exact Na F9)
    refine aR (aK (aa d7 (dG ad hz (ef (aF (am (fun zq=>aR (ch (aK (bg (aa ad (aa d7 (cb hz h1 zq rfl (bn ?_))))) rfl))) (fun _=>bd (ql Lb ?_))))))) rfl);rotate_left
    ·rename_i ht;exact absurd h2 ht
    rw [ha];refine kS ?_;rw [yO];refine aF (cQ (fun _=>bv (bQ (bv (ag (aI rfl (dJ rfl (aL rfl (bI F2 ?_)))))))) (fun _=>ch (aR (aC rfl (am (fun _=>aR (aK (bg (aa ad (aa d7 (cb hz h1 ‹_› rfl (bn ?_))))) rfl)) (fun _=>bd (cL (bd (bd (ql Lb ?_))))))))))
    ·rename_i hal;rw [aU];exact⟨d.length,by exact Ts _,rfl,rfl,d,rfl,cY hd,rfl,step (by unfold gA;rw [hal];rfl)⟩
    ·rename_i hal hgt;rw [ha];refine kS ?_;rw [yI];have Lc:(a::d).length≠r1.length:=by unfold ps at hgt;exact M_ hgt
     refine aF (am (fun _=>bQ (bv (bv (bQ (bv (ag (aI rfl (dJ rfl (aL rfl (bI F2 ?_)))))))))) (fun _=>bd (cL (bd (bd (ql Lb ?_))))))
     ·rename_i hdg;rw [aU];exact⟨d.length,by exact Ts _,rfl,rfl,d,rfl,cY hd,rfl,step (by unfold gA;rw [hal,decide_eq_false Lc];simp [hdg])⟩
     ·rename_i hdg;exact⟨rfl,rfl,rfl,by rw [←SO _ hd (stop (by unfold gA;rw [hal,decide_eq_false Lc];simp;exact M9 hdg))]⟩
    ·rename_i hal hgt;have Lc:(a::d).length=r1.length:=by unfold ps at hgt;exact M8 F9 hgt
     exact⟨rfl,rfl,rfl,by rw [←SO _ hd (stop (by unfold gA;rw [hal,decide_eq_true Lc];rfl))]⟩
  rintro g' vs an ⟨rfl,rfl,rfl⟩;have hd:=List.drop_suffix (bw true r1) r1;have K8:=oq true r1;have hdr:=hd.trans hr1;have K1:=hdr.trans hr;have hr1t:=hr1.trans hr;generalize hdd:r1.drop (bw true r1)=d at *;have e0:ps t r1<ps t d↔bw true r1≠0:=by
   have:d.length=r1.length-bw true r1:=by rw [←hdd,List.length_drop]
   unfold ps;exact M7 K8 this
  have e1:eW t (some (ps t d)) (some (ps t d+1))=d.take 1:=fy K1 1;have e2:eW t (some (ps t r1)) (some (ps t d))=r1.take (bw true r1):=by
   rw [mD hr1t hd];congr 1;have:d.length=r1.length-bw true r1:=by rw [←hdd,List.length_drop]
   exact DL K8 this
  have fin:∀{tp:Addr} {xs:List AV},xs=uT t r (cH LE r)->(∀q,cH LE r=some q->q.2<:+r)->∃g2 l,dU g' ([(kd,AO.dictB (dn LE))]++[(tp,.tuple xs)]) g2 l/\gO (fun v g2' own'=>∃tp,v= .ref tp/\g2'=g'/\own'=[(tp,.tuple (uT t r (cH LE r)))]/\∀q,cH LE r=some q->q.2<:+r) (.ret (.ref tp)) g2 l:=by
   intro tp xs hx hs;exact(gB _ _ (.less (List.sublist_append_right _ _) .refl) tp rfl rfl (by rw [hx]) hs)
  cases hb:dy 123 r with
  |true=>
   rw [Tk hb] at hc;have hv:cH LE r=if bw true r1=0\/dy 125 d=false then none else some (look LE (r1.take (bw true r1)),r1.drop (bw true r1+1)):=by
    unfold cH;rw [Tk hb,←hc,hdd]
   have ht1:(eW t (some (ps t d)) (some (ps t d+1))=[125])↔dy 125 d=true:=by
    rw [e1];have:=kG d 125;rw [show UInt8.toNat 125=125 from rfl] at this;rw [←this];simp
   refine ae (aS (da rfl (aa dc (aF (bv (ag (aE (cw (aR (aC rfl (am (fun _=>aR (aK (cR (aa ad (gN hz (bP (aa d7 (dQ (bP (dJ rfl (dQ (bn (jZ (aF (am (fun _=>bQ (bv ?_)) (fun _=>bd ?_))))))))))))) (fun _ _ _=>rfl) (fun _ _ _=>rfl)) rfl)) (fun _=>bd ?_))))))))))))
   ·rename_i h1 h2;have h3:=ht1.mp h2;refine bV ?_;refine ah rfl (aH rfl rfl (Tb rfl) rfl (aa aQ (kz (Tl ad) (T_ trivial (ah rfl (cR (aa ad (gN hz (bP (aa gy (dQ (bP (aa d7 (dQ (ap rfl ?_))))))))) (fun _ _ _=>rfl) (fun _ _ _=>rfl)))))));rw [e2];refine kE (.inl ad) ?_;rw [iP];refine ap rfl ?_;refine⟨by exact Ta rfl,fun tp Sy=>?_⟩;obtain⟨d',rfl⟩:∃d',d=125::d':=by
     cases d with
     |nil=>cases h3
     |cons a d=>exact⟨d,by rw [show a=125 from UInt8.toNat_inj.mp (oE h3)]⟩
    have K6:r1.drop (bw true r1+1)=d':=by rw [←List.drop_drop,hdd];rfl
    have hv2:cH LE r=some (look LE (r1.take (bw true r1)),d'):=by rw [hv,Tc (by rintro(q|q);exact e0.mp h1 q;rw [h3] at q;cases q),K6]
    refine aO (ba (ql y' ?_));exact fin (by rw [hv2,aU];rfl) (fun q hq=>by rw [hv2] at hq;cases hq;exact(T8 _ _).trans hdr)
   ·rename_i h1 h2;refine bV ?_;refine ap rfl ?_;refine⟨by exact Ta rfl,fun tp Sy=>?_⟩;have hv2:cH LE r=none:=hv.trans (Tk (.inr (by
     cases h:dy 125 d with
     |false=>rfl
     |true=>exact absurd (ht1.mpr h) h2)))
    refine aO (ba (ql y' ?_));exact fin (by rw [hv2];rfl) (fun q hq=>by rw [hv2] at hq;cases hq)
   ·rename_i h1;refine bV ?_;refine ap rfl ?_;refine⟨by exact Ta rfl,fun tp Sy=>?_⟩;have hv2:cH LE r=none:=hv.trans (Tk (.inl (Tg fun q=>h1 (e0.mpr q))));refine aO (ba (ql y' ?_));exact fin (by rw [hv2];rfl) (fun q hq=>by rw [hv2] at hq;cases hq)
  |false=>
   rw [hb,Tc (by decide)] at hc;subst hc;have hv:cH LE r1=if bw true r1=0 then some ([36],r1) else some (look LE (r1.take (bw true r1)),d):=by
    unfold cH;rw [Tc (by rw [hb];decide),hdd]
   refine ae (aS (da rfl (aa dc (aF (bd (bq (ag (aE (cw (aC rfl (am (fun _=>?_) (fun _=>?_))))))))))))
   ·rename_i h1;refine bV ?_;refine ah rfl (aH rfl rfl (Tb rfl) rfl (aa aQ (kz (Tl ad) (T_ trivial (ah rfl (cR (aa ad (gN hz (bP (aa gy (dQ (bP (aa d7 (dQ (ap rfl ?_))))))))) (fun _ _ _=>rfl) (fun _ _ _=>rfl)))))));rw [e2];refine kE (.inl ad) ?_;rw [iP];refine ap rfl ?_;refine⟨by exact Ta rfl,fun tp Sy=>?_⟩;have hv2:cH LE r1=some (look LE (r1.take (bw true r1)),d):=by rw [hv,Tc (e0.mp h1)]
    refine aO (ql y' ?_);exact fin (by rw [hv2];rfl) (fun q hq=>by rw [hv2] at hq;cases hq;exact hdr)
   ·rename_i h1;refine bV ?_;refine ap rfl ?_;refine⟨by exact Ta rfl,fun tp Sy=>?_⟩;have h0:bw true r1=0:=Tg fun q=>h1 (e0.mpr q);have hv2:cH LE r1=some ([36],r1):=by rw [hv,Tk h0]
    refine aO (ql y' ?_);exact fin (by rw [hv2];rfl) (fun q hq=>by rw [hv2] at hq;cases hq;exact Tv _)
noncomputable def cS (l:BS):List Int:=l.map fun c=>(c.toNat:Int)-48
theorem rQ {l:BS} {i:Nat} (h:i<l.length):(l.getD i 0)=l[i]:=by
 rw [TI,Th h];rfl
theorem nX {α:Type} {l:List α} {i:Nat} (h:i<l.length):l.take (i+1)=l.take i++[l[i]]:=by
 rw [List.take_add_one,Th h];rfl
noncomputable def wK:cD 370:=⟨_,fun P=>(bc _ _ _ rfl)⟩
noncomputable abbrev Ps:aY:=dm wK ["text","at","three","known"] rfl (by decide+kernel) (by decide+kernel)
theorem OS:bE Ps (bY wK.fd) ["text","at"] 2 []:=
 bE.mk' _ _ _ _ [] rfl (fun _=>rfl) (fun _=>rfl) .nil (fun w s X _ _=>Tz rfl) rfl rfl rfl (by decide+kernel) (by decide+kernel)
theorem BV {w:World} {H₀:Heap} (W:Wd w H₀) {g:GH} {t r:BS} (hr:r<:+t) (Fd:r≠[]) (hz:t.length<=bf):
 ∀on,aA [.bytes t,.int (ps t r)] on->cz w H₀ g [] (.call (.ref 370) ⟨on,[]⟩) 1 true
 (fun v g' own'=>∃tp,v= .ref tp/\g'=g/\own'=[(tp,.tuple [.bytes (cp r).1,.int (ps t (cp r).2)])]/\(cp r).2<:+r) (fun or=>False):=
 bK OS 0 [("text",some (.bytes t)),("at",some (.int (ps t r))),("three",none),("known",none)] W fun Φ hw hH hg Kd hn ho hi Qf y'=>by
  have Hn:cq=1000000:=rfl;have hz':bf=1000000:=rfl;refine ae ?_;refine kr (hs:=by intro _;rfl) (ht:=by intros;rfl) rfl (by decide+kernel) (by decide+kernel) (by decide+kernel) (by decide+kernel) (by decide+kernel) ?_ rfl;refine cR (aa ad (gN hz (bP (aa a7 (dQ (bP (dJ rfl (dQ ?_)))))))) (fun _ _ _=>rfl) (fun _ _ _=>rfl);dsimp only;rw [show ps t r+3=ps t r+(3:Nat) from rfl,fy hr 3];generalize hk:r.take 3=ks;have hkl:ks.length<=3:=by rw [←hk];exact List.length_take_le ..
  refine(ge _ _ _ _ (cN (fun Ψ=>ke (Φ:=Ψ) (l:=ks)) (dH (fun i g' ys led'=>g'=g/\ys=(cS (ks.take i)).map .int/\led'=[]) (bF (fun _ _ _ _ _ _=>trivial) trivial ?_ ?_ ?_ ?_))))
  ·(intro i g' ys led' j';refine bp (j') fun th to Ce=>?_;subst th;subst to;subst Ce);rw [Tx,cS,Tx];have:=List.length_take_le i ks;rw [List.length_take];exact FO Hn hkl
  ·skip;exact(aN rfl (by rfl) rfl)
  ·(intro Ψ hΨ i g' led' ys p q hi' j';refine bp (j') fun th to Ce=>?_;subst th;subst to;subst Ce);refine jT ?_;refine bv (dJ rfl ?_);refine(dP _ (.refl _) rfl ?_ rfl);rw [nX hi',rQ hi',cS,cS,TE,TE];rfl
  ·(intro g' ys led' F6 j' hacc;refine bp (j') fun th to Ce=>?_;subst th;subst to;subst Ce);rw [List.take_length];refine aL rfl ?_;have hsl:((cS ks).map AV.int).length=ks.length:=by rw [Tx,cS,Tx]
   obtain⟨b0,r0,rfl⟩:∃b0 r0,r=b0::r0:=by
    cases r with
    |nil=>exact absurd rfl Fd
    |cons b0 r0=>exact(cA b0 r0 rfl)
   have hb0:=b0.toNat_lt;have hescN:db (b0::r0)=none->cp (b0::r0)=if b0.toNat=10 then([],r0) else([(gS b0.toNat).toUInt8],r0):=kj;have h1:=di hr;have h2:=eg hr;have ha:=el hr;refine ae ?_;refine fY ((db (b0::r0)).isSome) (TG.postless ?_) ?_
   ·have hfil:∀{i:Nat},i<(cS ks).length->((cS ks).take (i+1)).filter (fun n=>!decide (0<=n/\n<8))=((cS ks).take i).filter (fun n=>!decide (0<=n/\n<8))++(if 0<=(cS ks).getD i 0/\(cS ks).getD i 0<8 then [] else [(cS ks).getD i 0]):=fun {i} h=>by
     have e:(cS ks).getD i 0=(cS ks)[i]:=by rw [TI,Th h];rfl
     rw [nX h,List.filter_append,e];generalize (cS ks)[i]=y;by_cases hy:0<=y/\y<8
     ·rw [Tk hy,List.filter_cons_of_neg (by rw [decide_eq_true hy];decide),List.filter_nil]
     ·rw [Tc hy,List.filter_cons_of_pos (by rw [decide_eq_false hy];rfl),List.filter_nil]
    rw [Tx] at hsl;refine aR (aK (aP d9 trivial (ap rfl ?_)) rfl);refine uo (.inl ad) (by simp;exact M6 Hn hkl hsl) ?_;rw [Tx];refine au (gI (aF (am (fun _=>aR (gb ?_)) (fun _=>?_))))
    ·rename_i SQ;refine jU (hs:=by intro _;rfl) (ht:=by intros;rfl) rfl (by decide+kernel) (by decide+kernel) (by decide+kernel) (by decide+kernel) (by decide+kernel) ?_;refine aa aQ ?_;refine⟨_,_,_,_,fun Ψ=>gQ (Φ:=Ψ) (a:=F6) (xs:=(cS ks).map AV.int),fun i g'' ys F7=>g''=g'/\ys=(((cS ks).take i).filter (fun n=>!decide (0<=n/\n<8))).map .int/\F7=[(F6,.list ((cS ks).map .int))],?_,.inl (SZ ..),?_,⟨rfl,rfl,rfl⟩,?_,?_⟩
     ·rintro i g'' ys F7 p ⟨rfl,rfl,rfl⟩;exact .inl (Td _ (SZ ..))
     ·rintro i g'' ys F7 ⟨rfl,rfl,rfl⟩;rw [Tx];have a1:=List.length_filter_le (fun n:Int=>!decide (0<=n/\n<8)) ((cS ks).take i);have a2:=List.length_take_le i (cS ks);have a3:((cS ks).take i).length<=(cS ks).length:=by rw [List.length_take];exact FN SQ
      exact M5 Hn SQ a1 a3
     ·rintro Ψ hΨ i g'' F7 ys p q hi' ⟨rfl,rfl,rfl⟩;rw [Tx] at hi';rw [ki hi'];have hf:=hfil hi';generalize (cS ks).getD i 0=y at *;refine vJ ?_;refine ib (iX rfl (au (ku (aa ad (im (aF (am (fun _=>kx (au (ef (aF (kT (fun _=>aa ad ?_) (fun _=>?_)))))) (fun _=>nN (aa ad ?_)))))))))
      ·rename_i n1 n2;exact(dP _ (.refl _) rfl (by rw [hf,Tc (fun q=>n2 q.2),TE];rfl) rfl)
      ·rename_i n1 n2;exact(dP _ (.refl _) rfl (by rw [hf,Tk ⟨n1,n2⟩,T7]) rfl)
      ·rename_i n1;exact(dP _ (.refl _) rfl (by rw [hf,Tc (fun q=>n1 q.1),TE];rfl) rfl)
     ·(intro g'' ys F7 acc2 j' hacc2;refine bp (j') fun th to Ce=>?_;subst th;subst to;subst Ce);rw [Tx,List.take_length];have hlk:ks.length=3:=M4 hsl SQ;have h3:ks.length<=(b0::r0).length:=by rw [←hk];exact List.length_take_le' ..
      rw [hlk] at h3;refine dM (uY (l:=r0) (Nat.le_of_succ_le_succ h3)) fun b1 b2 r3 e=>?_;subst e;have hks:ks=[b0,b1,b2]:=by rw [←hk];rfl
      subst hks;have hb1:=b1.toNat_lt;have hb2:=b2.toNat_lt;have hflt:((cS [b0,b1,b2]).filter (fun n=>!decide (0<=n/\n<8))=[])↔(48<=b0.toNat/\b0.toNat<=55)/\(48<=b1.toNat/\b1.toNat<=55)/\(48<=b2.toNat/\b2.toNat<=55):=by
       rw [List.filter_eq_nil_iff];simp only [cS,TM,List.map_nil,T4,List.not_mem_nil,or_false,forall_eq_or_imp,forall_eq,Bool.not_eq_true',decide_eq_false_iff_not,Classical.not_not];exact FM hb0 hb1 hb2
      have hsome:∀{P:Prop},((db (b0::b1::b2::r3)).isSome=true↔48<=b0.toNat/\b0.toNat<=51/\48<=b1.toNat/\b1.toNat<=55/\48<=b2.toNat/\b2.toNat<=55):=by
       intro P;rw [mv];exact u3
      refine(cf acc2 _ rfl (.inl (SZ ..)) ?_);refine am (fun _=>aR (aK (bg (aa aQ (au ?_))) rfl)) (fun _=>?_)
      ·rename_i hnil;have hnil:=hflt.mp (List.map_eq_nil_iff.mp hnil);refine iH (v:=.int ((b0.toNat:Int)-48)) (.inl a7) (by simp [cS];exact wi Hn) (by decide) (by exact rfl) (by exact rfl) ?_;refine au (ef (aF (am (fun _=>bQ ?_) (fun _=>?_))))
       ·rename_i h4;exact(e7 _ (List.sublist_cons_self ..) (((hsome (P:=True)).mpr (FJ hb0 hb1 hb2 hnil h4)).symm) rfl rfl rfl)
       ·rename_i h4;exact(e7 _ (List.sublist_cons_self ..) ((Bool.eq_false_iff.mpr fun q=>by have:=(hsome (P:=True)).mp q;exact M3 hb0 hnil h4 this).symm) rfl rfl rfl)
      ·rename_i hnil;refine(e7 _ (List.sublist_cons_self ..) ?_ rfl rfl rfl);symm;rw [Bool.eq_false_iff];intro hs;have hs:=(hsome (P:=True)).mp hs;exact hnil (List.map_eq_nil_iff.mpr (hflt.mpr (FI hb0 hb1 hb2 hs)))
    ·rename_i SQ;refine(e7 _ (.refl _) ?_ rfl rfl rfl);have hk2:ks.length=min 3 (b0::r0).length:=by rw [←hk,List.length_take]
     rw [kY (FH hsl SQ hk2)];rfl
   ·cases hoct:db (b0::r0) with
    |some n=>
     refine a0 (lE hoct) fun n1 n2=>?_;refine dM (uY (Nat.le_of_succ_le_succ n2)) fun b1 b2 r3 e=>?_;subst e;have hks:ks=[b0,b1,b2]:=by rw [←hk];rfl
     subst hks;have hn:48<=b0.toNat/\48<=b1.toNat/\48<=b2.toNat/\n=(b0.toNat-48)*64+(b1.toNat-48)*8+(b2.toNat-48):=by
      rw [mv] at hoct;refine dR hoct (fun q e=>?_) fun _ e=>ot e;cases e;exact M2 hb0 q
     rw [Tk (by rfl)];have e2:cp (b0::b1::b2::r3)=([n.toUInt8],r3):=lJ hoct;refine ae ?_;refine aE ?_;refine bV ?_;refine ah (by exact rfl) ?_;refine aP d_ trivial ?_;refine ah (by exact rfl) ?_;refine bL ?_;refine ah rfl (ak (ak (ak (au (bg (aa aQ (au ?_)))))));refine iH (v:=.int ((b0.toNat:Int)-48)) (.inl ad) (by simp [cS];exact wi Hn) (by decide) (by exact rfl) (by exact rfl) ?_;refine fq (PySem.IntMulOk.of_left (by decide+kernel)) (ak (au (bg (aa aQ (au ?_)))));refine iH (v:=.int ((b1.toNat:Int)-48)) (.inl ad) (by simp [cS];exact wi Hn) (by decide) (by exact rfl) (by exact rfl) ?_;refine fq (PySem.IntMulOk.of_left (by decide+kernel)) (bD (bg (aa aQ (au ?_))));refine iH (v:=.int ((b2.toNat:Int)-48)) (.inl ad) (by simp [cS];exact wi Hn) (by decide) (by exact rfl) (by exact rfl) ?_;refine bD (af ?_);refine⟨by exact Ta rfl,fun lb SW=>?_⟩;refine af ?_;refine fe (ns:=[64*((b0.toNat:Int)-48)+8*((b1.toNat:Int)-48)+((b2.toNat:Int)-48)]) (.inl (To _ (SZ ..))) (by intro n' Sn;rw [Ti] at Sn;exact FG hb0 n1 hn Sn) (by dsimp;exact o2 hz') ?_;refine ap rfl ?_;refine⟨by exact Ta rfl,fun tp Sy=>?_⟩;refine aO (ba (ba (ql y' ?_)));rw [e2];refine(gB _ ([(tp,.tuple [.bytes [n.toUInt8],.int (ps t r3)])]) (.less (l':=[(tp,_)]) (List.sublist_append_right _ _) ?_) tp rfl rfl rfl ((T8 _ _).trans ((T8 _ _).trans (T8 _ _))));simp only [TM,List.map_nil];rw [show(64*((b0.toNat:Int)-48)+8*((b1.toNat:Int)-48)+((b2.toNat:Int)-48)).toNat=n from by exact FF hb0 n1 hn,show ps t (b0::b1::b2::r3)+3=ps t r3 from by unfold ps;simp;exact M1];exact .refl
    |none=>
     have he:=hescN hoct;rw [Tc (by decide)];refine TG.less (T2 _) ?_;refine bq ?_;refine ae ?_;refine iW (hs:=by rfl) ?_;refine qV (hk:=by with_unfolding_all rfl) (h0:=by exact TS _ _) (hlen:=by exact Tb rfl) ?_;intro d hd
     repeat' (refine iB ?_;refine au ?_;refine au ?_)
     refine l7 (hU mw rfl (by decide) (by decide) _ .head ?_);refine aL rfl (ae (aS (aK (bg (aa ad (aa a7 (cb hz h1 h2 rfl (au (gI (aF (am (fun _=>ag (aE ?_)) (fun _=>bq (ag (aE ?_))))))))))) rfl)))
     ·rename_i Sj;rw [ha] at Sj;refine bV ?_;refine ap rfl ?_;refine⟨by exact Ta rfl,fun tp Sy=>?_⟩;refine aO (ba (ql y' ?_));rw [he,Tk (qC Sj)];rw [show ps t (b0::r0)+1=ps t r0 from aU];exact(gB _ _ (.less (List.sublist_append_right _ _) .refl) tp rfl rfl rfl (T8 _ _))
     ·rename_i Sj;rw [ha] at Sj;refine bV ?_;refine ah rfl ?_;refine aP d_ trivial ?_;refine ah (by exact rfl) ?_;refine bL ?_;refine ah rfl (aH rfl rfl (Tb rfl) rfl (aa dc ?_));refine ui (.inl ad) ⟨trivial,?_⟩;refine ah rfl (bg (aa ad (aa a7 (cb hz h1 h2 rfl (ah rfl (bg (aa ad (aa a7 (cb hz h1 h2 rfl (af ?_))))))))));rw [ha];refine uu (.inl ad) ?_;rw [kb];refine af ?_;refine⟨by exact Ta rfl,fun lb SW=>?_⟩;refine af ?_;have:=qL hb0;refine fe (ns:=[((gS b0.toNat:Nat):Int)]) (.inl (To _ (SZ ..))) (by intro n' Sn;rw [Ti] at Sn;exact M0 this Sn) (by dsimp;exact o2 hz') ?_;refine ap rfl ?_;refine⟨by exact Ta rfl,fun tp Sy=>?_⟩;refine aO (ql y' ?_);rw [he,Tc (zX Sj)];rw [show ps t (b0::r0)+1=ps t r0 from aU];exact(gB _ _ (.less (List.sublist_append_right _ _) .refl) tp rfl rfl rfl (T8 _ _))
noncomputable def lQ (q:BS) (f d:BS):WR:=match dX LE f d with
 | .open=>.err (q.length+1)
 | .err k=>.err k
 | .ok f' r'=>if r'.length<=q.length then bO LE false false f' r' else .err 0
noncomputable def iJ (q:BS) (f d:BS):WR:=match gu d with
 |none=>.err (q.length+1)
 |some p=>if p.2.length<=q.length then bO LE false false (f++p.1) p.2 else .err 0
theorem rj {q f d:BS} (h:d.length<=q.length):iJ q f (39::d)=bO LE false false f d:=by
 unfold iJ;rw [yd];simp [h]
theorem pO {q f d:BS} {a:UInt8} (h:a≠39):iJ q f (a::d)=iJ q (f++[a]) d:=by
 unfold iJ;rw [uG h];cases gu d with
 |none=>rfl
 |some p=>simp
noncomputable def lz (t:BS):WR->List AV
 | .ok f _ r'=>[.bytes f,.int (ps t r')]
 | .err k=>[.none,.int (t.length-k)]
noncomputable abbrev Cr:BS:=[32,59,10,125]
theorem yc (c:UInt8):Cr.contains c=dF c.toNat:=jr (P:=fun c=>Cr.contains c=dF c.toNat) (by decide+kernel) c
theorem wA:Gl "_law_named" (.ref 365):=⟨fun w=>.inl (aj _ rfl rfl),by decide+kernel⟩
theorem tS:bB (.ref 365):=fun w=>rfl
theorem wz:Gl "_law_escaped" (.ref 370):=⟨fun w=>.inl (aj _ rfl rfl),by decide+kernel⟩
theorem tR:bB (.ref 370):=fun w=>rfl
inductive WI (t r:BS) (W:WR):BS->BS->AV->Prop
 |out {d f b}:bO LE (decide (d.length=r.length)) b f d=W->WI t r W d f .none
 |dq {d f q}:(34::q)<:+t->d<:+q->q.length<r.length->lQ q f d=W->WI t r W d f (.int (ps t (34::q)))
 |sq {d f q}:(39::q)<:+t->d<:+q->q.length<r.length->iJ q f d=W->WI t r W d f (.int (ps t (39::q)))
noncomputable abbrev Qq (t d f r:BS) (q:AV) (o1 o2 o3:Option AV):LV:=[("text",some (.bytes t)),("at",some (.int (ps t d))),("found",some (.bytes f)),("begin",some (.int (ps t r))),("quote",some q),("sign",o1),("octets",o2),("later",o3)]
inductive xS (t:BS) (r:BS) (g:GH) (WW:WR) (n:Nat) (g':GH) (vs:LV) (an:LD):Prop
 |mk:(g'=g)->∀d f q o1 o2 o3,(n=d.length)->(d<:+r)->(vs=Qq t d f r q o1 o2 o3)->(WI t r WW d f q)->(f.length+3*d.length<=3*r.length)->xS t r g WW n g' vs an
noncomputable def wJ:cD 377:=⟨_,fun P=>(bc _ _ _ rfl)⟩
noncomputable abbrev Pr:aY:=dm wJ ["text","at","found","begin","quote","sign","octets","later"] rfl (by decide+kernel) (by decide+kernel)
theorem OR:bE Pr (bY wJ.fd) ["text","at"] 2 []:=
 bE.mk' _ _ _ _ [] rfl (fun _=>rfl) (fun _=>rfl) .nil (fun w s X _ _=>Tz rfl) rfl rfl rfl (by decide+kernel) (by decide+kernel)
theorem Oq {w:World} {H₀:Heap} (W:Wd w H₀) {g:GH} {t r:BS} (hr:r<:+t) (hz:4*t.length<=bf):
 ∀on,aA [.bytes t,.int (ps t r)] on->cz w H₀ g [] (.call (.ref 377) ⟨on,[]⟩) 2 true
 (fun v g' own'=>∃tp,v= .ref tp/\g'=g/\own'=[(tp,.tuple (lz t (bO LE true true [] r)))]/\∀f b r',bO LE true true [] r= .ok f b r'->r'<:+r) (fun or=>False):=
 bK OR 1 [("text",some (.bytes t)),("at",some (.int (ps t r))),("found",none),("begin",none),("quote",none),("sign",none),("octets",none),("later",none)] W fun Φ hw hH hg Kd hn ho hi Qf y'=>by
  have F0:bf=1000000:=rfl;have K5:t.length<=bf:=by exact zW hz F0
  refine ae ?_;refine bX (names:=["found","begin","quote"]) ?_;refine ap rfl ?_;refine(aN rfl (by exact Ta rfl) ?_);refine aW (aJ ?_);refine aL rfl ?_;refine aW (aJ ?_);refine aL rfl ?_;refine aW (aJ ?_);refine aL rfl ?_;refine cu ?_;refine ae ?_;generalize hW:bO LE true true [] r=WW at y' ⊢;have fin:∀{g':GH} {l1:LD} {tp:Addr} {xs:List AV},g'=g->xs=lz t WW->(∀f b r',WW= .ok f b r'->r'<:+r)->∃g2 l,dU g' (l1++[(tp,AO.tuple xs)]) g2 l/\gO (fun v g2' own'=>∃tp,v= .ref tp/\g2'=g/\own'=[(tp,.tuple (lz t WW))]/\∀f b r',WW= .ok f b r'->r'<:+r) (.ret (.ref tp)) g2 l:=by
   rintro g' l1 tp xs rfl hx hs;exact(gB _ _ (.less (List.sublist_append_right _ _) .refl) tp rfl rfl (by rw [hx]) hs)
  refine fD hi (xS t r g WW) ?_ r.length
   ⟨rfl,r,[],.none,none,none,none,rfl,Tv _,rfl,.out (b:=true) (by rw [decide_eq_true rfl];exact hW),by simp⟩
  rintro n Qb F2 g' vs an ⟨rfl,d,f,q,o1,o2,o3,rfl,hd,rfl,hI,hl⟩;have K1:=hd.trans hr;have Sm:=hr.length_le;have esym:∀c:UInt8,c.toNat=39↔c=39:=fun c=>⟨fun h=>UInt8.toNat_inj.mp h,fun h=>by rw [h];rfl⟩;cases d with
  |nil=>
   refine TG.less (T2 _) ?_;cases hI with
   |out hq=>
    rw [jv] at hq;refine aK (aa a7 (dG ad K5 (ef (aF (si (by unfold ps;exact Int.lt_irrefl _) (ag (aE (cw (aC rfl (ft rfl ?_)))))))))) rfl
    ·refine bV ?_;refine ap rfl ?_;refine⟨by exact Ta rfl,fun tp Sy=>?_⟩;refine aO (ql y' ?_);exact fin rfl (by rw [←hq];rfl) (fun f b r' h=>by rw [←hq] at h;cases h;exact hd)
   |@dq qq hq1 hq2 hq3 hq=>
    have hq:WW= .err (qq.length+1):=by rw [←hq];unfold lQ;rw [rS]
    refine aK (aa a7 (dG ad K5 (ef (aF (si (by unfold ps;exact Int.lt_irrefl _) (ag (aE (cw (aC rfl (fc rfl ?_)))))))))) rfl
    ·refine bV ?_;refine ap rfl ?_;refine⟨by exact Ta rfl,fun tp Sy=>?_⟩;refine aO (ql y' ?_);exact fin rfl (by rw [hq];unfold lz ps;rfl) (fun f b r' h=>by rw [hq] at h;cases h)
   |@sq qq hq1 hq2 hq3 hq=>
    have hq:WW= .err (qq.length+1):=by rw [←hq];rfl
    refine aK (aa a7 (dG ad K5 (ef (aF (si (by unfold ps;exact Int.lt_irrefl _) (ag (aE (cw (aC rfl (fc rfl ?_)))))))))) rfl
    ·refine bV ?_;refine ap rfl ?_;refine⟨by exact Ta rfl,fun tp Sy=>?_⟩;refine aO (ql y' ?_);exact fin rfl (by rw [hq];unfold lz ps;rfl) (fun f b r' h=>by rw [hq] at h;cases h)
  |cons a d=>
   have h1:=di K1;have h2:=eg K1;have ha:=el K1;have hdt':=cY K1;have K6:=cY hd;have F9:=hd.length_le;have Su:=a.toNat_lt;have Kd:∀d2:BS,d2.length<=d.length->decide (d2.length=r.length)=false:=fun d2 h=>decide_eq_false (by simp at F9;exact DK F9 h);refine TG.less (T2 _) ?_;cases hI with
   |@out bb hq=>
    rw [ev] at hq;refine aK (aa a7 (dG ad K5 (ef (aF (am (fun zq=>ae (aI rfl (bg (aa ad (aa a7 (cb K5 h1 zq rfl (aL rfl (ae (aS (aR (aC rfl (ft rfl (aR (aK (aa d7 (bn ?_)) rfl)))))))))))))) (fun _=>ag (aE (cw (aC rfl (ft rfl ?_)))))))))) rfl;rotate_left
    ·rename_i ht;exact absurd h2 ht
    rw [ha];refine kS ?_;rw [yc];have SQ:f.length+3*d.length+3<=3*r.length:=by simp at hl;exact wh hl
    refine aF (cQ (fun _=>bQ (bv (ag (aE ?_)))) (fun _=>bd (bq (ag (aS (aR (aC rfl (nO rfl (bd (ag (aS (aC rfl (am (fun _=>ae (aS (aK (dJ rfl (dG ad K5 (gI (aF (am (fun _=>ag (aE ?_)) (fun _=>bq (ae ?_))))))) rfl))) (fun _=>ag (aS (aC rfl (am (fun _=>ae ?_) (fun _=>ag (aS (ch (aC rfl (am (fun _=>bv (ag ?_)) (fun _=>ch (aR (aC rfl (am (fun _=>aR (aC rfl (ft rfl (bQ (bv (bv (ag ?_))))))) (fun _=>bd (cL (bd (ag (aS (aR (aC rfl (am (fun _=>aR (aC rfl (am (fun _=>bQ (bv (ag ?_))) (fun _=>bd (ag ?_))))) (fun _=>bd (ag ?_))))))))))))))))))))))))))))))))))))
    ·rename_i he;rw [Tk he] at hq;refine bV ?_;refine ap rfl ?_;refine⟨by exact Ta rfl,fun tp Sy=>?_⟩;refine aO (ba (ew F2 (ba (ql y' ?_))));exact fin rfl (by rw [←hq];rfl) (fun f b r' h=>by rw [←hq] at h;cases h;exact hd)
    ·rename_i he K3 Rp;have hde:d=[]:=by
      cases d with
      |nil=>rfl
      |cons b d=>exact absurd Rp (by unfold ps;simp;exact DJ)
     subst hde;rw [Tc (by rw [he];decide),Tc (zV K3),Tc (qB K3),Tk (o5 K3),Tk (show([]:BS).isEmpty=true from rfl)] at hq;refine bV ?_;refine ap rfl ?_;refine⟨by exact Ta rfl,fun tp Sy=>?_⟩;refine aO (ba (ew F2 (ba (ql y' ?_))));exact fin rfl (by rw [←hq];unfold lz ps;rfl) (fun f b r' h=>by rw [←hq] at h;cases h)
    ·rename_i he K3 Rp;rw [Tc (by rw [he];decide),Tc (zV K3),Tc (qB K3),Tk (o5 K3),Tc (by rw [List.isEmpty_iff];rintro rfl;exact Rp (by unfold ps;simp))] at hq;have hdne:d≠[]:=by rintro rfl;exact Rp (by unfold ps;simp)
     refine dj ?_;refine aP wz tR ?_;refine ap rfl ?_;rw [show ps t (a::d)+1=ps t d from aU];refine a_ (a':=[]) (BV Φ.wd hdt' hdne K5) (o4 hn) (.refl _) (fun _ h=>h.elim) ?_;(intro _ _ _ j' _ led' e1;refine fG (j') fun tp th to Ce Sp=>?_;subst th;subst to;subst Ce);(rename _++_=_=>e;(try dsimp only [S9,S_] at e);subst e);refine(bu tp _ rfl (.inl (SZ ..)) rfl ?_);refine aW (bt ?_);refine aL rfl ?_;refine aW (bt ?_);refine aL rfl ?_;refine cu ?_;have hlen:=eE d;have hb:=lL d;refine ag (aI rfl (ak (aa aQ (aa m9 ?_))));refine dA (DI hz F0 Sm hl hb) ?_;refine aL rfl (bI F2 ?_);exact⟨(cp d).2.length,by simp;exact Mine.Internal.o1 hlen,rfl,(cp d).2,_,_,_,_,_,rfl,Sp.trans K6,rfl,.out (b:=false) (by rw [Kd _ hlen];exact hq),by rw [Tf];exact DH SQ hlen hb⟩
    ·rename_i he K3 Ru;rw [Tc (by rw [he];decide),Tc (DG Ru),Tc (wg Ru),Tc (we Ru),Tk (wc Ru)] at hq;refine dj ?_;refine aP wA tS ?_;refine ap rfl ?_;rw [show ps t (a::d)+1=ps t d from aU];refine a_ (a':=[]) (BW Φ.wd hdt' K5) (o4 hn) (.refl _) (fun _ h=>h.elim) ?_;(intro _ _ _ j' _ led' e1;refine fG (j') fun tp th to Ce Sp=>?_;subst th;subst to;subst Ce);(rename _++_=_=>e;(try dsimp only [S9,S_] at e);subst e);cases hv:cH LE d with
     |none=>
      rw [hv] at hq;refine(bu tp _ rfl (.inl (SZ ..)) rfl ?_);refine aW (bt ?_);refine aL rfl ?_;refine aW (bt ?_);refine aL rfl ?_;refine cu ?_;refine ae (aS (aC rfl (ft rfl (ag (aE ?_)))));refine bV ?_;refine ap rfl ?_;refine⟨by exact Ta rfl,fun tp2 Sy=>?_⟩;have hq:WW= .err (d.length+1):=hq.symm;refine aO (ba (ew F2 (ba (ql y' ?_))));exact fin rfl (by rw [hq];unfold lz ps;rfl) (fun f b r' h=>by rw [hq] at h;cases h)
     |some p=>
      rw [hv] at hq;have hb:=lB gV hv;have hlen:=eD hv;have Sp:=Sp p hv;refine(bu tp _ rfl (.inl (SZ ..)) rfl ?_);refine aW (bt ?_);refine aL rfl ?_;refine aW (bt ?_);refine aL rfl ?_;refine cu ?_;refine ae (aS (aC rfl (fc rfl (bq (ag ?_)))));refine bX (names:=["found","at"]) ?_;refine ah rfl (ak (aa aQ (aa m9 ?_)));refine dA (DF hz F0 Sm hl hb) ?_;refine ap rfl ?_;refine(aN rfl (by exact Ta rfl) ?_);refine aW (aJ ?_);refine aL rfl ?_;refine aW (aJ ?_);refine aL rfl ?_;refine cu ?_;refine ca (bI F2 ?_);exact⟨p.2.length,by simp;exact Mine.Internal.o1 hlen,rfl,p.2,_,_,_,_,_,rfl,Sp.trans K6,rfl,.out (b:=false) (by rw [Kd _ hlen];exact hq),by rw [Tf];exact zU SQ hb hlen⟩
    ·rename_i he K3 Ru Sr;rw [Tc (by rw [he];decide),Tc (A3 Sr),Tk (s_ Sr)] at hq;have ea:a=34:=UInt8.toNat_inj.mp (by simp;exact s_ Sr);subst ea;refine bX (names:=["quote","at"]) ?_;refine ah rfl (cw (aC rfl (ft rfl (aa a7 (ap rfl ?_)))));refine(aN rfl (by exact Ta rfl) ?_);refine aW (aJ ?_);refine aL rfl ?_;refine aW (aJ ?_);refine aL rfl ?_;refine cu ?_;refine ca (bI F2 ?_);exact⟨d.length,by exact Ts _,rfl,d,_,_,_,_,_,rfl,K6,by rw [show ps t ((34:UInt8)::d)+1=ps t d from aU],.dq K1 (Tv _) (by simp at F9;exact zT F9) (by rw [←hq];unfold lQ;rfl),by simp at hl;exact zS SQ⟩
    ·rename_i he K3 Ru Sr Sv;rw [Tc (by rw [he];decide),Tk (wb Sv)] at hq;have ea:a=39:=UInt8.toNat_inj.mp (by simp;exact wb Sv);subst ea;refine bX (names:=["quote","at"]) ?_;refine ah rfl (cw (aC rfl (ft rfl (aa a7 (ap rfl ?_)))));refine(aN rfl (by exact Ta rfl) ?_);refine aW (aJ ?_);refine aL rfl ?_;refine aW (aJ ?_);refine aL rfl ?_;refine cu ?_;refine ca (bI F2 ?_);exact⟨d.length,by exact Ts _,rfl,d,_,_,_,_,_,rfl,K6,by rw [show ps t ((39:UInt8)::d)+1=ps t d from aU],.sq K1 (Tv _) (by simp at F9;exact zT F9) (by rw [←hq];unfold iJ;rfl),by simp at hl;exact zS SQ⟩
    ·rename_i he K3 Ru Sr Sv F4 SY;rw [Tc (by rw [he];decide),Tc (wa F4),Tc (s9 F4),Tc (sZ F4),Tc (sY F4),Tk ⟨by exact A2 F4,decide_eq_true (by unfold ps at SY;exact A1 SY)⟩] at hq;refine bX (names:=["found","at"]) ?_;refine ah rfl (ak (aa aQ (bn ?_)));refine dA (by dsimp;exact MZ hz F0 Sm SQ) ?_;refine ap rfl ?_;refine(aN rfl (by exact Ta rfl) ?_);refine aW (aJ ?_);refine aL rfl ?_;refine aW (aJ ?_);refine aL rfl ?_;refine cu ?_;refine ca (bI F2 ?_);exact⟨d.length,by exact Ts _,rfl,d,_,_,_,_,_,rfl,K6,by first|rw [show ps t (a::d)+1=ps t d from aU]|rw [←show ps t (a::d)+1=ps t d from aU],.out (b:=false) (by rw [Kd _ (Tj _)];exact hq),by rw [Tf];dsimp;exact MY SQ⟩
    ·rename_i he K3 Ru Sr Sv F4 SY;rw [Tc (by rw [he];decide),Tc (wa F4),Tc (s9 F4),Tc (sZ F4),Tc (sY F4),Tc (by(intro j';refine a0 (j') fun _ q=>?_);have:=Tb q;unfold ps at SY;exact A0 SY this)] at hq;refine bX (names:=["found","at"]) ?_;refine ah rfl (ak (aa aQ ?_));refine aP d_ trivial ?_;refine ah (by exact rfl) ?_;refine bL ?_;refine ap rfl ?_;refine⟨by exact Ta rfl,fun lb SW=>?_⟩;refine af ?_;refine fe (ns:=[(a.toNat:Int)]) (.inl (To _ (SZ ..))) (by intro n' Sn;rw [Ti] at Sn;exact AZ F4 Sn) (by dsimp;exact Mine.Internal.o2 F0) ?_;refine dA (by simp;exact AY hz F0 Sm SQ) ?_;rw [show([(a.toNat:Int)].map fun n=>n.toNat.toUInt8)=[a] from by simp];refine ap rfl ?_;refine(aN rfl (by exact Ta rfl) ?_);refine aW (aJ ?_);refine aL rfl ?_;refine aW (aJ ?_);refine aL rfl ?_;refine cu ?_;refine ca (bI F2 ?_);exact⟨d.length,by exact Ts _,rfl,d,_,_,_,_,_,rfl,K6,by first|rw [show ps t (a::d)+1=ps t d from aU]|rw [←show ps t (a::d)+1=ps t d from aU],.out (b:=bb) (by rw [Kd _ (Tj _)];exact hq),by rw [Tf];dsimp;exact o6 SQ⟩
    ·rename_i he K3 Ru Sr Sv F4;rw [Tc (by rw [he];decide),Tc (MX Sv F4),Tc (AX Sr Sv F4),Tc (AW K3 Ru Sr Sv F4),Tc (AU Ru Sr Sv F4),Tc (by(intro j';refine a0 (j') fun q _=>?_);exact AT F4 q)] at hq;refine bX (names:=["found","at"]) ?_;refine ah rfl (ak (aa aQ ?_));refine aP d_ trivial ?_;refine ah (by exact rfl) ?_;refine bL ?_;refine ap rfl ?_;refine⟨by exact Ta rfl,fun lb SW=>?_⟩;refine af ?_;refine fe (ns:=[(a.toNat:Int)]) (.inl (To _ (SZ ..))) (by intro n' Sn;rw [Ti] at Sn;exact zR Su Sn) (by dsimp;exact Mine.Internal.o2 F0) ?_;refine dA (by simp;exact AY hz F0 Sm SQ) ?_;rw [show([(a.toNat:Int)].map fun n=>n.toNat.toUInt8)=[a] from by simp];refine ap rfl ?_;refine(aN rfl (by exact Ta rfl) ?_);refine aW (aJ ?_);refine aL rfl ?_;refine aW (aJ ?_);refine aL rfl ?_;refine cu ?_;refine ca (bI F2 ?_);exact⟨d.length,by exact Ts _,rfl,d,_,_,_,_,_,rfl,K6,by first|rw [show ps t (a::d)+1=ps t d from aU]|rw [←show ps t (a::d)+1=ps t d from aU],.out (b:=bb) (by rw [Kd _ (Tj _)];exact hq),by rw [Tf];dsimp;exact o6 SQ⟩
   |@dq qq hq1 hq2 hq3 hq=>
    have hq0:=hq;unfold lQ at hq;rw [iR] at hq;have hqd:=(cY hq2)
    have hqn:=di hq1;have hql:=eg hq1;have hqa:=el hq1;have hql2:=hq2.length_le;have Fd:ps t (a::d)≠ps t r:=by unfold ps;simp at hql2 ⊢;exact MW hq3 hql2
    clear h1 hqn;refine aK (aa a7 (dG ad K5 (ef (aF (am (fun _=>ae (aI rfl (bg (aa ad (aa a7 ?_))))) (fun _=>ag (aE (cw (aC rfl (fc rfl ?_)))))))))) rfl;rotate_left
    ·rename_i ht;exact absurd h2 ht
    refine cb K5 (di K1) h2 (by exact rfl) ?_;rw [ha];have SQ:f.length+3*d.length+3<=3*r.length:=by simp at hl;exact wh hl
    refine aL rfl (ae (aS (aR (aC rfl (fc rfl (bd (bq (ag (aS (aR (aC rfl (md rfl (aR (aK (bg (aa ad (aa gy ?_))) rfl))))))))))))));refine cb K5 (di hq1) hql (by exact rfl) ?_;rw [hqa];refine au (gI (aF (am (fun _=>bQ (bv (ae (aS (aC rfl (am (fun _=>ag (aI rfl (cP (aL rfl (ag (aI rfl (dJ rfl (aL rfl (bI F2 ?_))))))))) (fun _=>ag (aI rfl (ak (aa aQ ?_)))))))))) (fun _=>bd (ag (aS (aC rfl (am (fun _=>ae (aS (aK (dJ rfl (dG ad K5 (gI (aF (am (fun _=>ag (aE ?_)) (fun _=>bq (ae ?_))))))) rfl))) (fun _=>ag (aS (aC rfl (am (fun _=>ae ?_) (fun _=>ag (aS (ch (aC rfl (am (fun _=>bv (ag ?_)) (fun _=>ch (aR (aC rfl (am (fun _=>aR (aC rfl (fc rfl (bd (cL (bd (ag (aS (aR (aC rfl (am (fun _=>aR (aC rfl (am (fun _=>bQ (bv (ag ?_))) (fun _=>bd (ag ?_))))) (fun _=>bd (ag ?_))))))))))))) (fun _=>bd (cL (bd (ag (aS (aR (aC rfl (am (fun _=>aR (aC rfl (am (fun _=>bQ (bv (ag ?_))) (fun _=>bd (ag ?_))))) (fun _=>bd (ag ?_)))))))))))))))))))))))))))))))
    ·rename_i Sv _;exact absurd Sv (by decide)
    ·rename_i Sv _;exact absurd Sv (by decide)
    ·rename_i _ K3 Rp;have hde:d=[]:=by
      cases d with
      |nil=>rfl
      |cons b d=>exact absurd Rp (by unfold ps;simp;exact DJ)
     subst hde;rw [Tc (qB K3),Tk (o5 K3),Tk (show([]:BS).isEmpty=true from rfl)] at hq;refine bV ?_;refine ap rfl ?_;refine⟨by exact Ta rfl,fun tp Sy=>?_⟩;have hq:WW= .err 1:=hq.symm;refine aO (ba (ew F2 (ba (ql y' ?_))));exact fin rfl (by rw [hq];unfold lz ps;rfl) (fun f b r' h=>by rw [hq] at h;cases h)
    ·rename_i _ K3 Rp;rw [Tc (qB K3),Tk (o5 K3),Tc (by rw [List.isEmpty_iff];rintro rfl;exact Rp (by unfold ps;simp))] at hq;have hdne:d≠[]:=by rintro rfl;exact Rp (by unfold ps;simp)
     refine dj ?_;refine aP wz tR ?_;refine ap rfl ?_;rw [show ps t (a::d)+1=ps t d from aU];refine a_ (a':=[]) (BV Φ.wd hdt' hdne K5) (o4 hn) (.refl _) (fun _ h=>h.elim) ?_;(intro _ _ _ j' _ led' e1;refine fG (j') fun tp th to Ce Sp=>?_;subst th;subst to;subst Ce);(rename _++_=_=>e;(try dsimp only [S9,S_] at e);subst e);refine(bu tp _ rfl (.inl (SZ ..)) rfl ?_);refine aW (bt ?_);refine aL rfl ?_;refine aW (bt ?_);refine aL rfl ?_;refine cu ?_;have hlen:=eE d;have hb:=lL d;refine ag (aI rfl (ak (aa aQ (aa m9 ?_))));refine dA (DI hz F0 Sm hl hb) ?_;refine aL rfl (bI F2 ?_);exact⟨(cp d).2.length,by simp;exact Mine.Internal.o1 hlen,rfl,(cp d).2,_,_,_,_,_,rfl,Sp.trans K6,rfl,.dq hq1 (Sp.trans hqd) hq3 hq,by rw [Tf];exact DH SQ hlen hb⟩
    ·rename_i _ K3 Ru;rw [Tc (wg Ru),Tc (we Ru),Tk (wc Ru)] at hq;refine dj ?_;refine aP wA tS ?_;refine ap rfl ?_;rw [show ps t (a::d)+1=ps t d from aU];refine a_ (a':=[]) (BW Φ.wd hdt' K5) (o4 hn) (.refl _) (fun _ h=>h.elim) ?_;(intro _ _ _ j' _ led' e1;refine fG (j') fun tp th to Ce Sp=>?_;subst th;subst to;subst Ce);(rename _++_=_=>e;(try dsimp only [S9,S_] at e);subst e);cases hv:cH LE d with
     |none=>
      rw [hv] at hq;refine(bu tp _ rfl (.inl (SZ ..)) rfl ?_);refine aW (bt ?_);refine aL rfl ?_;refine aW (bt ?_);refine aL rfl ?_;refine cu ?_;refine ae (aS (aC rfl (ft rfl (ag (aE ?_)))));refine bV ?_;refine ap rfl ?_;refine⟨by exact Ta rfl,fun tp2 Sy=>?_⟩;have hq:WW= .err (d.length+1):=hq.symm;refine aO (ba (ew F2 (ba (ql y' ?_))));exact fin rfl (by rw [hq];unfold lz ps;rfl) (fun f b r' h=>by rw [hq] at h;cases h)
     |some p=>
      rw [hv] at hq;have hb:=lB gV hv;have hlen:=eD hv;have Sp:=Sp p hv;refine(bu tp _ rfl (.inl (SZ ..)) rfl ?_);refine aW (bt ?_);refine aL rfl ?_;refine aW (bt ?_);refine aL rfl ?_;refine cu ?_;refine ae (aS (aC rfl (fc rfl (bq (ag ?_)))));refine bX (names:=["found","at"]) ?_;refine ah rfl (ak (aa aQ (aa m9 ?_)));refine dA (DF hz F0 Sm hl hb) ?_;refine ap rfl ?_;refine(aN rfl (by exact Ta rfl) ?_);refine aW (aJ ?_);refine aL rfl ?_;refine aW (aJ ?_);refine aL rfl ?_;refine cu ?_;refine ca (bI F2 ?_);exact⟨p.2.length,by simp;exact Mine.Internal.o1 hlen,rfl,p.2,_,_,_,_,_,rfl,Sp.trans K6,rfl,.dq hq1 (Sp.trans hqd) hq3 hq,by rw [Tf];exact zU SQ hb hlen⟩
    ·rename_i _ K3 Ru Sr;rw [Tk (s_ Sr)] at hq;have hq:(if d.length<=qq.length then bO LE false false f d else .err 0)=WW:=hq;rw [Tk (by simp at hql2;exact o9 hql2)] at hq;refine bX (names:=["quote","at"]) ?_;refine ah rfl (cw (aC rfl (fc rfl (cP (ap rfl ?_)))));refine(aN rfl (by exact Ta rfl) ?_);refine aW (aJ ?_);refine aL rfl ?_;refine aW (aJ ?_);refine aL rfl ?_;refine cu ?_;refine ca (bI F2 ?_);exact⟨d.length,by exact Ts _,rfl,d,_,_,_,_,_,rfl,K6,by first|rw [show ps t (a::d)+1=ps t d from aU]|rw [←show ps t (a::d)+1=ps t d from aU],.out (b:=false) (by rw [Kd _ (Tj _)];exact hq),by simp at hl;exact MV hl⟩
    all_goals try (rename_i hbad;exact absurd hbad Fd)
    all_goals (rw [Tc (by(first|exact MU (by assumption) (by assumption)|exact MR (by assumption)|exact s9 (by assumption)|exact AX (by assumption) (by assumption) (by assumption)|omega)),Tc (by(first|exact MT (by assumption) (by assumption)|exact MQ (by assumption)|exact sZ (by assumption)|exact AW (by assumption) (by assumption) (by assumption) (by assumption) (by assumption)|omega)),Tc (by(first|exact MS (by assumption) (by assumption)|exact MP (by assumption)|exact sY (by assumption)|exact AU (by assumption) (by assumption) (by assumption) (by assumption)|omega))] at hq)
    all_goals
     (refine bX (names:=["found","at"]) ?_
      refine ah rfl (ak (aa aQ ?_));refine aP d_ trivial ?_;refine ah (by exact rfl) ?_;refine bL ?_;refine ap rfl ?_;refine⟨by exact Ta rfl,fun lb SW=>?_⟩;refine af ?_;refine fe (ns:=[(a.toNat:Int)]) (.inl (To _ (SZ ..))) (by intro n' Sn;rw [Ti] at Sn;(first|exact MO (by assumption) (by assumption)|exact MK (by assumption) Sn|exact AZ (by assumption) Sn|exact zR Su Sn|omega)) (by dsimp;(first|exact MN (by assumption) (by assumption)|exact o2 F0|omega)) ?_;refine dA (by simp;(first|exact MM (by assumption) (by assumption)|exact D_ hz F0 Sm hl|omega)) ?_;rw [show([(a.toNat:Int)].map fun n=>n.toNat.toUInt8)=[a] from by simp];refine ap rfl ?_;refine(aN rfl (by exact Ta rfl) ?_);refine aW (aJ ?_);refine aL rfl ?_;refine aW (aJ ?_);refine aL rfl ?_;refine cu ?_;refine ca (bI F2 ?_);exact⟨d.length,by exact Ts _,rfl,d,_,_,_,_,_,rfl,K6,by first|rw [show ps t (a::d)+1=ps t d from aU]|rw [←show ps t (a::d)+1=ps t d from aU],.dq hq1 hqd hq3 hq,by rw [Tf];dsimp;(first|exact ML (by assumption) (by assumption)|exact o6 SQ|omega)⟩)
   |@sq qq hq1 hq2 hq3 hq=>
    have hqd:=(cY hq2)
    have hqn:=di hq1;have hql:=eg hq1;have hqa:=el hq1;have hql2:=hq2.length_le;clear h1 hqn;refine aK (aa a7 (dG ad K5 (ef (aF (am (fun _=>ae (aI rfl (bg (aa ad (aa a7 ?_))))) (fun _=>ag (aE (cw (aC rfl (fc rfl ?_)))))))))) rfl;rotate_left
    ·rename_i ht;exact absurd h2 ht
    refine cb K5 (di K1) h2 (by exact rfl) ?_;rw [ha];have SQ:f.length+3*d.length+3<=3*r.length:=by simp at hl;exact wh hl
    refine aL rfl (ae (aS (aR (aC rfl (fc rfl (bd (bq (ag (aS (aR (aC rfl (md rfl (aR (aK (bg (aa ad (aa gy ?_))) rfl))))))))))))));refine cb K5 (di hq1) hql (by exact rfl) ?_;rw [hqa];refine au (gI (aF (am (fun _=>bQ (bv (ae (aS (aC rfl (am (fun _=>ag (aI rfl (cP (aL rfl (ag (aI rfl (dJ rfl (aL rfl (bI F2 ?_))))))))) (fun _=>ag (aI rfl (ak (aa aQ ?_)))))))))) (fun _=>bd (ag (aS (aC rfl (am (fun _=>ae (aS (aK (dJ rfl (dG ad K5 (gI (aF (am (fun _=>ag (aE ?_)) (fun _=>bq (ae ?_))))))) rfl))) (fun _=>ag (aS (aC rfl (am (fun _=>ae ?_) (fun _=>ag (aS (ch (aC rfl (am (fun _=>bv (ag ?_)) (fun _=>ch (aR (aC rfl (am (fun _=>aR (aC rfl (fc rfl (bd (cL (bd (ag (aS (aR (aC rfl (am (fun _=>aR (aC rfl (am (fun _=>bQ (bv (ag ?_))) (fun _=>bd (ag ?_))))) (fun _=>bd (ag ?_))))))))))))) (fun _=>bd (cL (bd (ag (aS (aR (aC rfl (am (fun _=>aR (aC rfl (am (fun _=>bQ (bv (ag ?_))) (fun _=>bd (ag ?_))))) (fun _=>bd (ag ?_)))))))))))))))))))))))))))))))
    ·rename_i _ Sv;have ea:a=39:=UInt8.toNat_inj.mp (by simp;exact wb Sv);subst ea;rw [rj (by simp at hql2;exact o9 hql2)] at hq;exact⟨d.length,by exact Ts _,rfl,d,_,_,_,_,_,rfl,K6,by first|rw [show ps t ((39:UInt8)::d)+1=ps t d from aU]|rw [←show ps t ((39:UInt8)::d)+1=ps t d from aU],.out (b:=false) (by rw [Kd _ (Tj _)];exact hq),by exact zS SQ⟩
    ·rename_i _ Sv;rw [pO (fun q=>Sv (by rw [q];rfl))] at hq;refine aP d_ trivial ?_;refine ah (by exact rfl) ?_;refine bL ?_;refine ap rfl ?_;refine⟨by exact Ta rfl,fun lb SW=>?_⟩;refine af ?_;refine fe (ns:=[(a.toNat:Int)]) (.inl (To _ (SZ ..))) (by intro n' Sn;rw [Ti] at Sn;exact zR Su Sn) (by dsimp;exact Mine.Internal.o2 F0) ?_;refine dA (by simp;exact D_ hz F0 Sm hl) ?_;rw [show([(a.toNat:Int)].map fun n=>n.toNat.toUInt8)=[a] from by simp];refine aL rfl (ag (aI rfl (dJ rfl (aL rfl (bI F2 ?_)))));exact⟨d.length,by exact Ts _,rfl,d,_,_,_,_,_,rfl,K6,by first|rw [show ps t (a::d)+1=ps t d from aU]|rw [←show ps t (a::d)+1=ps t d from aU],.sq hq1 hqd hq3 hq,by rw [Tf];dsimp;exact o6 SQ⟩
    all_goals exact absurd (show(((39:UInt8).toNat:Nat):Int)=39 from rfl) (by assumption)
theorem oO (r:BS):(cp r).2<:+r:=
 lK (P:=fun r q=>q.2<:+r) (Tv _) (fun c r _=>(List.drop_suffix 2 r).trans (T8 c r)) T8 (fun c r _=>T8 c r) r
theorem oP (r:BS):(cp r).1.length<=1:=
 lK (P:=fun _ q=>q.1.length<=1) (Tn _) (fun _ _ _=>Tj _) (fun _ _=>Tn _) (fun _ _ _=>Tj _) r
theorem jH {env:Ev} (hE:∀k,(look env k).length<=3) {r:BS} {q:BS×BS} (h:cH env r=some q):q.2<:+r/\q.1.length<=3:=
 nT h fun k h e=>⟨h,e.elim (fun e=>e▸hE k) fun e=>e▸Ta rfl⟩
theorem ng {env:Ev} (hE:∀k,(look env k).length<=3) {r f f' r':BS} (h:dX env f r= .ok f' r'):r'<:+r/\f'.length+3*r'.length<=f.length+3*r.length:=
 qO (fun f r=>r'<:+r/\f'.length+3*r'.length<=f.length+3*r.length) (fun c=>⟨T8 c r',by rw [Tu];exact Nat.add_le_add_left LW _⟩) (fun f c r f2 r2 hl e q=>by
  have key:r2<:+r/\f2.length<=f.length+3:=by
   rcases e with⟨e1,e2⟩|⟨q,hq,e1,e2⟩|⟨e1,e2⟩
   ·rw [e1,e2,Tf];exact⟨oO r,Nat.add_le_add_left (TO (oP r) (Ta rfl)) _⟩
   ·rw [e1,e2,Tf];exact⟨(jH hE hq).1,Nat.add_le_add_left (jH hE hq).2 _⟩
   ·rw [e1,e2,Tf];exact⟨Tv _,Nat.add_le_add_left (Ta rfl) _⟩
  exact⟨(q.1.trans key.1).trans (T8 c r),by rw [Tu];exact oD q.2 key.2 key.1.length_le⟩) r f h
theorem uy {env:Ev} (hE:∀k,(look env k).length<=3) {s b b':Bool} {f f' r':BS} {c:UInt8} {r:BS} {G:Prop} (h:bO env s b f (c::r)= .ok f' b' r') (k0:dF c.toNat=true->f=f'->b=b'->c::r=r'->G)
 (k1:∀s2 b2 f2 r2,r2<:+r->f2.length+3*r2.length<=f.length+3*(r.length+1)->(b2=true->b=true/\f2=f++[c])->bO env s2 b2 f2 r2= .ok f' b' r'->G):G:=by
 have no:∀{P:Prop},false=true->P:=fun h=>Bool.noConfusion h;rw [ev] at h;refine dR h (fun q h=>by cases h;exact k0 q rfl rfl rfl) fun _ h=>dR h (fun _ h=>?_) fun _ h=>dR h (fun _ h=>?_) fun _ h=>dR h (fun _ h=>dR h (fun _ h=>by cases h) fun _ h=>?_) fun _ h=>dR h (fun _ h=>?_) fun _ h=>dR h (fun _ h=>?_) fun _ h=>?_
 ·cases hq:gu r with
  |none=>rw [hq] at h;cases h
  |some q=>
   rw [hq] at h;exact k1 _ _ _ _ (mn hq).1 (by rw [Tf];exact LU (mn hq).2) no ((dif_pos (qr hq)).symm.trans h)
 ·cases hq:dX env f r with
  |«open»=>rw [hq] at h;cases h
  |err=>rw [hq] at h;cases h
  |ok f2 r2=>
   rw [hq] at h;exact k1 _ _ _ _ (ng hE hq).1 (LT (ng hE hq).2) no ((dif_pos (qN env hq)).symm.trans h)
 ·exact k1 _ _ _ _ (oO r) (by rw [Tf];exact LS (eE r) (oP r)) no h
 ·cases hq:cH env r with
  |none=>rw [hq] at h;cases h
  |some q=>
   rw [hq] at h;exact k1 _ _ _ _ (jH hE hq).1 (by rw [Tf];exact LR (jH hE hq).2 (eD hq)) no h
 ·exact k1 _ _ _ _ (Tv _) (by rw [Tf];exact LQ (hE j0)) no h
 ·exact k1 _ _ _ _ (Tv _) (by rw [Tf];exact LP) (fun z=>⟨z,rfl⟩) h
theorem gW {env:Ev} (hE:∀k,(look env k).length<=3) {r f:BS} {s b:Bool} {f':BS} {b':Bool} {r':BS} (h:bO env s b f r= .ok f' b' r'):
 r'<:+r/\f'.length+3*r'.length<=f.length+3*r.length/\(b'=true->b=true/\∀x∈f',x∈f\/x∈r)/\(∀c d,r=c::d->dF c.toNat=false->r'.length<=d.length):=by
 generalize hn:r.length=n;induction n using Nat.strongRecOn generalizing r f s b with
 |ind n ih=>
  subst hn;cases r with
  |nil=>rw [jv] at h;cases h;exact(bJ (Tv _) (Tj _) (fun h=>⟨h,fun x hx=>.inl hx⟩) (fun c d e=>by cases e))
  |cons c r=>
   refine uy hE h (fun he e1 e2 e3=>?_) fun s2 b2 f2 r2 h1 h2 h3 h4=>?_
   ·subst e1;subst e2;subst e3;exact(bJ (Tv _) (Tj _) (fun h=>⟨h,fun x hx=>.inl hx⟩) (fun c' d e hn=>by cases e;rw [he] at hn;cases hn))
   ·refine cU (ih _ (TD h1.length_le) h4 rfl) fun a1 a2 a3 _=>?_;refine(bJ ((a1.trans h1).trans (T8 c r)) (TO a2 h2) (fun hb=>?_) (fun c' d e _=>by cases e;exact TO a1.length_le h1.length_le));refine a0 (a3 hb) fun p1 p2=>a0 (h3 p1) fun p3 p4=>⟨p3,fun x hx=>?_⟩;rcases p2 x hx with q|q
    ·rw [p4] at q;exact(T3.mp q).imp id fun q=>by rw [Ti.mp q];exact SZ ..
    ·exact .inr (Td _ (h1.subset q))
section
variable {F:aY} {Φ:Fx F} {g:GH} {vs:LV} {an:LD} {E:ET}
theorem jX {t:Sem Bool} {Q:QT Bool} (b:Bool) (h:TB Φ g vs an t (fun b' g' Ab led'=>b'=b/\g'=g/\Ab=vs/\led'=an) E) (k:Q b g vs an):TB Φ g vs an t Q E:=
 h.mono (by(intro _ _ _ _ j';refine cU (j') fun th to Ce zz4=>?_;subst th;subst to;subst Ce;subst zz4);exact k) fun _ _ _ z=>z
end
theorem Dc:Gl "_law_word" (.ref 377):=⟨fun w=>.inl (aj _ rfl rfl),by decide+kernel⟩
theorem BC:bB (.ref 377):=fun w=>rfl
theorem rO:Gl "_law_block" (.ref 384):=⟨fun w=>.inl (aj _ rfl rfl),by decide+kernel⟩
theorem ph:bB (.ref 384):=fun w=>rfl
noncomputable def xo (t:BS):Option Nat->AV
 |none=>.none
 |some k=>.int (t.length-k)
noncomputable def x4 (t r:BS) (B:BT) (xs:List AV) (g':GH):Prop:=match B with
 | .ok rows r'=>∃a,xs=[.ref a,.int (ps t r')]/\dK g' (.ref a) (.l rows)/\r'<:+r
 | .err k=>xs=[.none,.int (t.length-k)]
 | .bad=>False
noncomputable def Er (t r:BS) (B:BT) (v:AV) (g':GH) (own':LD):Prop:=∃tp xs,v= .ref tp/\own'=[(tp,.tuple xs)]/\x4 t r B xs g'
noncomputable abbrev qF (t d:BS) (br:Option Nat) (a b c:AV) (o1 o2 o3:Option AV):LV:=[("text",some (.bytes t)),("at",some (.int (ps t d))),("brace",some (xo t br)),("groups",some a),("group",some b),("command",some c),("sign",o1),("rows",o2),("word",o3)]
noncomputable def cW (r:BS):Nat:=r.countP (·.toNat==123)
theorem m8 (a:UInt8) (d:BS):cW (a::d)=cW d+if a.toNat=123 then 1 else 0:=by
 unfold cW;rw [List.countP_cons];by_cases h:a.toNat=123<;>simp [h]
theorem lh {d r:BS} (h:d<:+r):cW d<=cW r:=h.sublist.countP_le
theorem yi (c:UInt8):([59,10,125]:BS).contains c=(c.toNat==59||c.toNat==10||c.toNat==125):=jr (P:=fun c=>([59,10,125]:BS).contains c=(c.toNat==59||c.toNat==10||c.toNat==125)) (by decide+kernel) c
theorem cG.emp {g:GH} {vs:List AV} {ts:List Tr} (h:cG g vs ts):vs=[]↔ts.isEmpty=true:=by
 have:=h.1;cases vs<;>cases ts<;>simp_all
theorem jD {g c:List Tr} (h:c.isEmpty=false):dg g c=g++[.l c]:=by unfold dg;rw [h];rfl
theorem ko {g c:List Tr} (h:c.isEmpty=true):dg g c=g:=by unfold dg;rw [h];rfl
inductive xR (t:BS) (r:BS) (br:Option Nat) (g:GH) (g':GH) (vs:LV) (an:LD):Prop
 |mk:(an=[])->((∀p,g p->g' p))->∀a b c,(vs=qF t r br (.ref a) (.ref b) (.ref c) none none none)->(g' (a,.list []))->(g' (b,.list []))->(g' (c,.list []))->xR t r br g g' vs an
inductive xQ (t:BS) (r:BS) (br:Option Nat) (BB:BT) (n:Nat) (g':GH) (vs:LV) (an:LD):Prop
 |mk:(an=[])->∀d a b c va vb vc gs gr cm o1 o2 o3,(n=d.length)->(d<:+r)->(vs=qF t d br (.ref a) (.ref b) (.ref c) o1 o2 o3)->(g' (a,.list va))->(cG g' va gs)->(g' (b,.list vb))->(cG g' vb gr)->(g' (c,.list vc))->(cG g' vc cm)->(va.length+d.length<=r.length)->(vb.length+d.length<=r.length)->(vc.length+d.length<=r.length)->(cO LE br gs gr cm d=BB)->xQ t r br BB n g' vs an
inductive xP (t:BS) (g':GH) (c:Addr) (vb:List AV) (gr:List Tr) (cm:List Tr) (o1:Option AV) (o2:Option AV) (o3:Option AV) (a:Addr) (g2:GH) (vs:LV) (an:LD):Prop
 |mk:(an=[])->((∀p,g' p->g2 p))->∀b vb2,(vs=qF t [] none (.ref a) (.ref b) (.ref c) o1 o2 o3)->(g2 (b,.list vb2))->(cG g2 vb2 (dg gr cm))->(vb2.length<=vb.length+1)->xP t g' c vb gr cm o1 o2 o3 a g2 vs an
inductive xO (t:BS) (d:BS) (br:Option Nat) (g':GH) (c:Addr) (s:UInt8) (o2:Option AV) (o3:Option AV) (a:Addr) (b:Addr) (n:Nat) (g2:GH) (vs:LV) (an:LD):Prop
 |mk:(g2=g')->(an=[])->∀e,(n=e.length)->(e<:+(s::d))->(vs=qF t e br (.ref a) (.ref b) (.ref c) (some (.int (s.toNat:Nat))) o2 o3)->(e.dropWhile (·!=10)=d.dropWhile (·!=10))->xO t d br g' c s o2 o3 a b n g2 vs an
inductive xN (t:BS) (d:BS) (br:Option Nat) (g':GH) (vb:List AV) (gr:List Tr) (cm:List Tr) (s:UInt8) (o2:Option AV) (o3:Option AV) (a:Addr) (g2:GH) (vs:LV) (an:LD):Prop
 |mk:(an=[])->((∀p,g' p->g2 p))->∀b c vb2,(vs=qF t (s::d) br (.ref a) (.ref b) (.ref c) (some (.int (s.toNat:Nat))) o2 o3)->(g2 (b,.list vb2))->(cG g2 vb2 (dg gr cm))->(g2 (c,.list []))->(vb2.length<=vb.length+1)->xN t d br g' vb gr cm s o2 o3 a g2 vs an
inductive xM (t:BS) (d:BS) (br:Option Nat) (g2:GH) (va:List AV) (vb:List AV) (gs:List Tr) (gr:List Tr) (cm:List Tr) (s:UInt8) (o2:Option AV) (o3:Option AV) (c2:Addr) (g3:GH) (vs:LV) (an:LD):Prop
 |mk:(an=[])->((∀p,g2 p->g3 p))->∀a3 b3 va3 vb3,(vs=qF t (s::d) br (.ref a3) (.ref b3) (.ref c2) (some (.int (s.toNat:Nat))) o2 o3)->(g3 (a3,.list va3))->(cG g3 va3 (if s.toNat=10 then dg gs (dg gr cm) else gs))->(g3 (b3,.list vb3))->(cG g3 vb3 (if s.toNat=10 then [] else dg gr cm))->(va3.length<=va.length+1)->(vb3.length<=vb.length+1)->xM t d br g2 va vb gs gr cm s o2 o3 c2 g3 vs an
noncomputable def wI:cD 384:=⟨_,fun P=>(bc _ _ _ rfl)⟩
noncomputable abbrev Pq:aY:=dm wI ["text","at","brace","groups","group","command","sign","rows","word"] rfl (by decide+kernel) (by decide+kernel)
theorem OQ:bE Pq (bY wI.fd) ["text","at","brace"] 3 []:=
 bE.mk' _ _ _ _ [] rfl (fun _=>rfl) (fun _=>rfl) .nil (fun w s X _ _ _=>Tz rfl) rfl rfl rfl (by decide+kernel) (by decide+kernel)
theorem BU:∀(N:Nat) {w:World} {H₀:Heap} (W:Wd w H₀) {g:GH} {t r:BS} (br:Option Nat) (hN:r.length<N) (hr:r<:+t) (hz:4*t.length<=bf),
 ∀on,aA [.bytes t,.int (ps t r),xo t br] on->cz w H₀ g [] (.call (.ref 384) ⟨on,[]⟩) (cW r+3) true (Er t r (cO LE br [] [] [] r)) (fun or=>False):=by
 intro N;induction N with
 |zero=>intro w H₀ W g t r br hN;exact absurd hN (Nat.not_lt_zero _)
 |succ N IH=>
 intro w H₀ W g t r br hN hr hz;refine bK OQ (cW r+2) [("text",some (.bytes t)),("at",some (.int (ps t r))),("brace",some (xo t br)),("groups",none),("group",none),("command",none),("sign",none),("rows",none),("word",none)] W fun Φ hw hH hg Kd hn ho hi Qf y'=>?_;have F0:bf=1000000:=rfl;have Hn:cq=1000000:=rfl;have K5:t.length<=bf:=by exact zW hz F0
 have Sm:=hr.length_le;generalize hBB:cO LE br [] [] [] r=BB at y' ⊢;have fin:∀{g1 g2:GH} {l:LD} {tp:Addr} {xs:List AV},dU g1 l g2 [(tp,AO.tuple xs)]->x4 t r BB xs g2->∃g2 l',dU g1 l g2 l'/\gO (fun v g2' own'=>Er t r BB v g2' own') (.ret (.ref tp)) g2 l':=fun hc hx=>(cA _ _ (cN hc (cA _ _ (aN rfl rfl hx))));refine ae ?_;refine fi (R:=(xR t r br g)) ?_ ?_
 ·intro Q1 Lb;refine bX (names:=["groups","group","command"]) ?_;refine ah rfl ?_;refine bL (af ⟨by exact Tn _,fun a ha=>?_⟩);refine ah rfl ?_;refine bL (af ⟨by exact Tn _,fun b hb=>?_⟩);refine ah rfl ?_;refine bL (af ⟨by exact Tn _,fun c hc=>?_⟩);refine af ?_;refine(aN rfl (by exact Ta rfl) ?_);refine aW (aJ ?_);refine aL rfl ?_;refine aW (aJ ?_);refine aL rfl ?_;refine aW (aJ ?_);refine aL rfl ?_;refine cu ?_;refine ca (ql Lb ?_);exact⟨rfl,_,_,.fz rfl (by(try simp only [S_,S9]);((with_reducible (repeat (first|exact aT.head|apply aT.tail))))) (.fz rfl (by(try simp only [S_,S9]);((with_reducible (repeat (first|exact aT.head|apply aT.tail))))) (.fz rfl (by(try simp only [S_,S9]);((with_reducible (repeat (first|exact aT.head|apply aT.tail))))) .refl)),rfl,fun p hp=>.inr (.inr (.inr hp)),a,b,c,rfl,.inr (.inr (.inl rfl)),.inr (.inl rfl),.inl rfl⟩
 rintro g0 vs an ⟨rfl,hg0,a,b,c,rfl,hga,hgb,hgc⟩;refine ae ?_;refine fD hi (xQ t r br BB) ?_ r.length
  ⟨rfl,r,a,b,c,[],[],[],[],[],[],none,none,none,rfl,Tv _,rfl,hga,.nil,hgb,.nil,hgc,.nil,by simp,by simp,by simp,hBB⟩
 rintro n Qb F2 g' vs an ⟨rfl,d,a,b,c,va,vb,vc,gs,gr,cm,o1,o2,o3,rfl,hd,rfl,hga,hta,hgb,htb,hgc,htc,hla,SW,hlc,hq⟩;have K1:=hd.trans hr;have hfrz1:∀{la lc:Addr} {vs:List AV} {x:AV} {v2:List AV} (ts t2:List Tr),cG g' vs ts->dK g' x (.l t2)->cG g' (vs++[x]) (ts++[.l t2]):=fun ts t2 h1 h2=>h1.snoc h2;cases d with
 |nil=>
  refine jX false ?_ ?_
  ·refine aK (aa a7 (dG ad K5 (ef (aF ?_)))) rfl;exact(bJ (decide_eq_false (by unfold ps;exact Int.lt_irrefl _)) rfl rfl rfl)
  refine bd ?_;rw [iz] at hq;cases br with
  |some k=>
   refine ae ?_;refine fY true ?_ ?_
   ·refine aC rfl ?_;exact(bJ rfl rfl rfl rfl)
   refine bv (ag (aE ?_));refine bV ?_;refine ap rfl ?_;refine⟨by exact Ta rfl,fun tp Sy=>?_⟩;refine aO (ba (ql y' ?_));exact fin .refl (by rw [←hq];rfl)
  |none=>
   refine ae ?_;refine fY false ?_ ?_
   ·refine aC rfl ?_;exact(bJ rfl rfl rfl rfl)
   refine bd ?_;refine bq ?_;refine ae ?_;refine fi (R:=(xP t g' c vb gr cm o1 o2 o3 a)) ?_ ?_
   ·intro Q1 Lb;refine aI rfl (cw (eI (aa d7 ?_)));refine(cf _ _ rfl (.inr hgc) ?_);refine am (fun _=>ak (aa gy ?_)) (fun _=>aa gy (aL rfl (ql Lb ?_)))
    ·rename_i Fd;refine bL ?_;refine ap rfl ?_;refine⟨by exact Ta rfl,fun e1 he1=>?_⟩;refine ic (.inr hgb) (.inl (To _ (SZ ..))) (by dsimp;exact MJ hz F0 Hn Sm SW) (fun e2 he2=>?_);refine aL rfl (ql Lb ?_);refine⟨rfl,?_⟩;simp only [S_,S9];exact⟨_,_,.fz (p:=(e2,.list (vb++[.ref c]))) rfl (.tail .head) (.less (T2 _) .refl),rfl,fun p hp=>.inr hp,e2,vb++[.ref c],rfl,.inl rfl,
      by rw [jD (Bool.eq_false_iff.mpr fun q=>Fd (htc.emp.mpr q))];exact(htb.mono fun p hp=>.inr hp).snoc ((dK.li hgc htc).mono fun p hp=>.inr hp),by simp⟩
    ·rename_i Fd;have hv:vc=[]:=Tg Fd;subst hv;exact⟨rfl,_,_,.refl,rfl,fun _ z=>z,b,vb,rfl,hgb,by rw [ko (htc.emp.mp rfl)];exact htb,by exact qA⟩
   rintro g2 vs an ⟨rfl,SR,b2,vb2,rfl,hgb2,htb2,hlb2⟩;refine ag (aE ?_);refine bV ?_;refine ah rfl (cw (eI (aa gy ?_)));refine(cf _ _ rfl (.inr hgb2) ?_);refine am (fun _=>ak (aa dc ?_)) (fun _=>aa dc (ap rfl ?_))
   ·rename_i Fd;refine bL ?_;refine ap rfl ?_;refine⟨by exact Ta rfl,fun e1 he1=>?_⟩;refine ic (.inr (SR _ hga)) (.inl (To _ (SZ ..))) (by dsimp at hla SW ⊢;exact MI hz F0 Hn Sm hla) (fun e2 he2=>?_);refine ap rfl ?_;refine⟨by exact Ta rfl,fun tp Sy=>?_⟩;simp only [S_,S9];refine aO (ql y' ?_);refine fin (.fz (p:=(e2,.list (va++[.ref b2]))) rfl (.tail .head) (.less (List.sublist_cons_self _ _) .refl)) ?_;rw [←hq];refine(eP e2 rfl ?_ List.nil_suffix);rw [jD (Bool.eq_false_iff.mpr fun q=>Fd (htb2.emp.mpr q))];exact .li (.inl rfl) ((hta.mono fun p hp=>.inr (SR _ hp)).snoc ((dK.li hgb2 htb2).mono fun p hp=>.inr hp))
   ·rename_i Fd;have hv:vb2=[]:=Tg Fd;subst hv;refine⟨by exact Ta rfl,fun tp Sy=>?_⟩;refine aO (ql y' ?_);refine fin .refl ?_;rw [←hq];refine(eP a rfl ?_ List.nil_suffix);rw [ko (htb2.emp.mp rfl)];exact .li (SR _ hga) (hta.mono SR)
 |cons s d=>
  have h1:=di K1;have h2:=eg K1;have hs:=el K1;have hdt':=cY K1;have K6:=cY hd;have F9:=hd.length_le;have hs256:=s.toNat_lt;rw [dr] at hq;have hcut:(eW t (some (ps t (s::d)+1)) (some (ps t (s::d)+2))=[10])↔dy 10 d=true:=by
   rw [aU,show ps t (s::d)+2=ps t d+(1:Nat) from by unfold ps;simp;exact AS,fy hdt' 1];have:=kG d 10;rw [show UInt8.toNat 10=10 from rfl] at this;rw [←this];simp
  simp only [Tu] at hla SW hlc F9;refine jX true ?_ ?_
  ·refine aK (aa a7 (dG ad K5 (ef (aF ?_)))) rfl;exact(bJ (decide_eq_true h2) rfl rfl rfl)
  clear h1;refine bv (ae (aI rfl (bg (aa ad (aa a7 ?_)))));refine cb K5 (di K1) h2 (by exact rfl) ?_;rw [hs];have h1:=di K1;refine aL rfl (ag (aS (aC rfl (am (fun _=>ag ?_) (fun _=>ag (aS (aK (aa m9 (bn ?_)) rfl)))))))
  ·rename_i h35;rw [Tk (AR h35)] at hq;refine fD hi (xO t d br g' c s o2 o3 a b) ?_ (s::d).length
    ⟨rfl,rfl,s::d,rfl,Tv _,rfl,List.dropWhile_cons_of_pos (by simp;rintro rfl;simp at h35)⟩
   rintro n Qb F2 g2 vs an ⟨rfl,rfl,e,rfl,he,rfl,hde⟩;cases e with
   |nil=>
    refine jX false ?_ ?_
    ·refine aR (aK (aa a7 (dG ad K5 (ef (aF (am (fun _=>aR (aK (bg (aa ad (aa a7 ?_))) rfl)) (fun _=>?_)))))) rfl)
     ·rename_i h;exact absurd h (by unfold ps;exact Int.lt_irrefl _)
     ·skip;exact(bJ rfl rfl rfl rfl)
    ·refine bd (bI ‹_› ?_);exact⟨0,by simp,rfl,[],a,b,c,va,vb,vc,gs,gr,cm,_,_,_,rfl,List.nil_suffix,rfl,hga,hta,hgb,htb,hgc,htc,by simp;exact MH hla,by simp;exact AQ hz F0 Sm SW F9,by simp;exact AQ hz F0 Sm hlc F9,by rw [←hq,←hde];rfl⟩
   |cons x e=>
    have hxt:=he.trans K1;have hxa:=el hxt;have hx2:=eg hxt;have SB:=he.length_le;simp only [Tu] at SB;refine jX (decide (x≠10)) ?_ ?_
    ·refine aR (aK (aa a7 (dG ad K5 (ef (aF (am (fun _=>aR (aK (bg (aa ad (aa a7 ?_))) rfl)) (fun _=>?_)))))) rfl)
     ·refine cb K5 (di hxt) hx2 (by exact rfl) ?_;rw [hxa];refine au (sf (aF (am (fun _=>bQ ?_) (fun _=>?_))))
      ·rename_i h;exact(bJ (by rw [eq_comm,decide_eq_true_iff];exact fun q=>h (by rw [q];rfl)) rfl rfl rfl)
      ·rename_i h;exact(bJ (by rw [eq_comm,decide_eq_false_iff_not];exact fun q=>q (UInt8.toNat_inj.mp (by simp;exact zI h))) rfl rfl rfl)
     ·rename_i h;exact absurd hx2 h
    ·by_cases hx:x=10
     ·rw [Tc (by simpa using hx)];subst hx;have e0:d.dropWhile (·!=10)=10::e:=by rw [←hde];rfl
      have K8:(10::e).length<=d.length:=by rw [←e0];exact(List.dropWhile_suffix _).length_le
      simp only [Tu] at K8;rw [e0] at hq;refine bI ‹_› ?_;exact⟨(10::e).length,by simp;exact zT K8,rfl,10::e,a,b,c,va,vb,vc,gs,gr,cm,_,_,_,rfl,he.trans hd,rfl,hga,hta,hgb,htb,hgc,htc,by simp;exact zQ hla K8,by simp;exact zQ SW K8,by simp;exact zQ hlc K8,hq⟩
     ·rw [Tk (by simpa using hx)];refine ag (aI rfl (dJ rfl (aL rfl (bI F2 ?_))));exact⟨e.length,by exact Ts _,rfl,rfl,e,rfl,(T8 _ _).trans he,by rw [show ps t (x::e)+1=ps t e from aU],by rw [←hde];exact(List.dropWhile_cons_of_pos (by simpa using hx)).symm⟩
  rename_i h35;refine kS ?_;rw [yi];cases h3:(s.toNat==59||s.toNat==10||s.toNat==125) with
  |true=>
   refine aF (bv ?_);refine ae ?_;refine fi (R:=(xN t d br g' vb gr cm s o2 o3 a)) ?_ ?_
   ·intro Q1 Lb;refine aS (eI (aa d7 ?_));refine(cf _ _ rfl (.inr hgc) ?_);refine am (fun _=>ag ?_) (fun _=>bq (ql Lb ?_))
    ·rename_i Fd;refine bX (names:=["group","command"]) ?_;refine ah rfl (ak (aa gy ?_));refine bL ?_;refine ap rfl ?_;refine⟨by exact Ta rfl,fun e1 he1=>?_⟩;refine ic (.inr hgb) (.inl (To _ (SZ ..))) (by dsimp;exact AP hz F0 Hn Sm SW) (fun e2 he2=>?_);refine ah rfl ?_;refine bL (af ⟨by exact Tn _,fun e3 he3=>?_⟩);refine af ?_;refine(aN rfl (by exact Ta rfl) ?_);refine aW (aJ ?_);refine aL rfl ?_;refine aW (aJ ?_);refine aL rfl ?_;refine cu ?_;refine ca (ql Lb ?_);refine⟨rfl,?_⟩;simp only [S_,S9];exact⟨_,_,.fz (p:=(e3,.list [])) rfl (.tail (.tail .head)) (.fz (p:=(e2,.list (vb++[.ref c]))) rfl (.tail .head) (.less (T2 _) .refl)),rfl,fun p hp=>.inr (.inr hp),e2,e3,vb++[.ref c],rfl,.inl rfl,
      by rw [jD (Bool.eq_false_iff.mpr fun q=>Fd (htc.emp.mpr q))];exact(htb.mono fun p hp=>.inr (.inr hp)).snoc ((dK.li hgc htc).mono fun p hp=>.inr (.inr hp)),.inr (.inl rfl),by simp⟩
    ·rename_i Fd;have hv:vc=[]:=Tg Fd;subst hv;exact⟨rfl,_,_,.refl,rfl,fun _ z=>z,b,c,vb,rfl,hgb,by rw [ko (htc.emp.mp rfl)];exact htb,hgc,by exact qA⟩
   rintro g2 vs an ⟨rfl,SR,b2,c2,vb2,rfl,hgb2,htb2,hgc2,hlb2⟩;refine ae ?_;refine fi (R:=(xM t d br g2 va vb gs gr cm s o2 o3 c2)) ?_ ?_
   ·intro Q1 Lb;refine aS (aR (aC rfl (am (fun _=>aR (eI (aa gy ?_))) (fun _=>bd (bq (ql Lb ?_))))))
    ·rename_i Sj;refine(cf _ _ rfl (.inr hgb2) ?_);refine am (fun _=>bQ (bv (ag ?_))) (fun _=>bd (bq (ql Lb ?_)))
     ·rename_i Fd;refine bX (names:=["groups","group"]) ?_;refine ah rfl (ak (aa dc ?_));refine bL ?_;refine ap rfl ?_;refine⟨by exact Ta rfl,fun e1 he1=>?_⟩;refine ic (.inr (SR _ hga)) (.inl (To _ (SZ ..))) (by dsimp;exact AP hz F0 Hn Sm hla) (fun e2 he2=>?_);refine ah rfl ?_;refine bL (af ⟨by exact Tn _,fun e3 he3=>?_⟩);refine af ?_;refine(aN rfl (by exact Ta rfl) ?_);refine aW (aJ ?_);refine aL rfl ?_;refine aW (aJ ?_);refine aL rfl ?_;refine cu ?_;refine ca (ql Lb ?_);refine⟨rfl,?_⟩;simp only [S_,S9];exact⟨_,_,.fz (p:=(e3,.list [])) rfl (.tail (.tail .head)) (.fz (p:=(e2,.list (va++[.ref b2]))) rfl (.tail .head) (.less (T2 _) .refl)),rfl,fun p hp=>.inr (.inr hp),e2,e3,va++[.ref b2],[],rfl,.inl rfl,
       by rw [Tk (qC Sj),jD (Bool.eq_false_iff.mpr fun q=>Fd (htb2.emp.mpr q))];exact(hta.mono fun p hp=>.inr (.inr (SR _ hp))).snoc ((dK.li hgb2 htb2).mono fun p hp=>.inr (.inr hp)),.inr (.inl rfl),by rw [Tk (qC Sj)];exact .nil,by simp,by exact Tn _⟩
     ·rename_i Fd;have hv:vb2=[]:=Tg Fd;subst hv;exact⟨rfl,_,_,.refl,rfl,fun _ z=>z,a,b2,va,[],rfl,SR _ hga,by rw [Tk (qC Sj),ko (htb2.emp.mp rfl)];exact hta.mono SR,hgb2,by rw [Tk (qC Sj)];exact .nil,by exact qA,by trivial⟩
    ·rename_i Sj;exact⟨rfl,_,_,.refl,rfl,fun _ z=>z,a,b2,va,vb2,rfl,SR _ hga,by rw [Tc (zX Sj)];exact hta.mono SR,hgb2,by rw [Tc (zX Sj)];exact htb2,by exact qA,hlb2⟩
   rintro g3 vs an ⟨rfl,hg3,a3,b3,va3,vb3,rfl,hga3,hta3,hgb3,htb3,hla3,hlb3⟩;refine ae (aS (aC rfl (am (fun _=>ae (aS (aC rfl (cQ (fun _=>ag (aE ?_)) (fun _=>bq (ag (aE ?_))))))) (fun _=>bq (ag (aI rfl (dJ rfl (aL rfl (bI F2 ?_)))))))))
   ·rename_i SG hbr;rw [Tc (AN SG),Tk (zP SG)] at hq;cases br with
    |some k=>cases hbr
    |none=>
     refine bV ?_;refine ap rfl ?_;refine⟨by exact Ta rfl,fun tp Sy=>?_⟩;refine aO (ba (ba (ew F2 (ba (ql y' ?_)))));exact fin .refl (by rw [←hq];unfold x4 ps;rfl)
   ·rename_i SG hbr;rw [Tc (AN SG),Tk (zP SG)] at hq;rw [Tc (NR SG)] at hta3 htb3;cases br with
    |none=>cases hbr
    |some k=>
     refine bV ?_;refine ah rfl (cw (eI (aa gy ?_)));refine(cf _ _ rfl (.inr hgb3) ?_);refine am (fun _=>ak (aa dc ?_)) (fun _=>aa dc (ap rfl ?_))
     ·rename_i Fd;refine bL ?_;refine ap rfl ?_;refine⟨by exact Ta rfl,fun e1 he1=>?_⟩;refine ic (.inr hga3) (.inl (To _ (SZ ..))) (by dsimp;exact MG hz F0 Hn Sm hla hla3) (fun e2 he2=>?_);refine ap rfl ?_;refine⟨by exact Ta rfl,fun tp Sy=>?_⟩;simp only [S_,S9];refine aO (ba (ew F2 (ba (ql y' ?_))));refine fin (.fz (p:=(e2,.list (va3++[.ref b3]))) rfl (.tail .head) (.less (List.sublist_cons_self _ _) .refl)) ?_;rw [←hq];refine(eP e2 (by rw [aU]) ?_ K6);rw [jD (Bool.eq_false_iff.mpr fun q=>Fd (htb3.emp.mpr q))];exact .li (.inl rfl) ((hta3.mono fun p hp=>.inr hp).snoc ((dK.li hgb3 htb3).mono fun p hp=>.inr hp))
     ·rename_i Fd;have hv:vb3=[]:=Tg Fd;subst hv;refine⟨by exact Ta rfl,fun tp Sy=>?_⟩;refine aO (ba (ew F2 (ba (ql y' ?_))));refine fin .refl ?_;rw [←hq];refine(eP a3 (by rw [aU]) ?_ K6);rw [ko (htb3.emp.mp rfl)];exact .li hga3 hta3
   ·rename_i SG;rw [Tc (MF h35 SG),Tc (ME SG)] at hq;by_cases Sj:s.toNat=10
    ·rw [Tk Sj] at hq hta3 htb3;exact⟨d.length,by exact Ts _,rfl,d,a3,b3,c2,va3,vb3,[],_,_,[],_,_,_,rfl,K6,by rw [show ps t (s::d)+1=ps t d from aU],hga3,hta3,hgb3,htb3,hg3 _ hgc2,.nil,by exact v_ hla hla3,by exact v_ SW hlb3,by simp;exact o9 F9,hq⟩
    ·have h59:s.toNat=59:=by simp at h3;exact FE hs256 SG Sj h3
     rw [Tc Sj,Tk h59] at hq;rw [Tc Sj] at hta3 htb3;exact⟨d.length,by exact Ts _,rfl,d,a3,b3,c2,va3,vb3,[],_,_,[],_,_,_,rfl,K6,by rw [show ps t (s::d)+1=ps t d from aU],hga3,hta3,hgb3,htb3,hg3 _ hgc2,.nil,by exact v_ hla hla3,by exact v_ SW hlb3,by simp;exact o9 F9,hq⟩
  |false=>
   refine aF (bd ?_);have hne3:s.toNat≠59/\s.toNat≠10/\s.toNat≠125:=by simp at h3;exact FD h3
   rw [Tc (MD h35 hne3),Tc (MC hne3),Tc (MB hne3),Tc (MA hne3)] at hq;refine ag (aS (ch (aC rfl (am (fun _=>bv (ag (aI rfl (ak (aa a7 (cw (aC rfl (am (fun _=>au (bD (aL rfl (bI F2 ?_)))) (fun _=>au (bD (aL rfl (bI F2 ?_)))))))))))) (fun _=>ch (aR (aC rfl (am (fun _=>aR (aK (cR (aa ad (gN K5 (bP (dJ rfl (dQ (bP (dJ rfl (dQ (bn (jZ (aF (am (fun _=>bQ (bv (bv (ag (aI rfl (ak (aa a7 (cw (aC rfl (am (fun _=>au (bD (aL rfl (bI F2 ?_)))) (fun _=>au (bD (aL rfl (bI F2 ?_)))))))))))))) (fun _=>bd (cL (bd (ag (aS (aC rfl (am (fun _=>ae (aS (gb (aa d7 ?_)))) (fun _=>ae ?_)))))))))))))))))))) (fun _ _ _=>rfl) (fun _ _ _=>rfl)) rfl)) (fun _=>bd (cL (bd (ag (aS (aC rfl (am (fun _=>ae (aS (gb (aa d7 ?_)))) (fun _=>ae ?_))))))))))))))))
   ·rename_i h32 _;rw [Tk (Mz h32)] at hq;exact⟨d.length,by exact Ts _,rfl,d,a,b,c,va,vb,vc,_,_,_,_,_,_,rfl,K6,by rw [show ps t (s::d)+1=ps t d from aU],hga,hta,hgb,htb,hgc,htc,by exact zO hla,by exact zO SW,by exact zO hlc,hq⟩
   ·rename_i h32 h;exact absurd h32 h
   ·rename_i h32 _ _ h;exact absurd h h32
   ·rename_i h32 K3 hc _;rw [Tc (AM K3),Tk ⟨by exact o5 K3,hcut.mp hc⟩] at hq;cases d with
    |nil=>simp [dy] at hcut;exact absurd hc hcut
    |cons x d=>
     have e2:ps t (s::x::d)+2=ps t d:=by unfold ps;simp;exact v9
     simp only [Tu] at hla SW hlc;exact⟨d.length,by simp;exact AL,rfl,d,a,b,c,va,vb,vc,_,_,_,_,_,_,rfl,cY K6,by rw [e2],hga,hta,hgb,htb,hgc,htc,by exact zN hla,by exact zN SW,by exact zN hlc,hq⟩
   ·rename_i K3 _ h;exact absurd (K3.symm.trans h) (by decide)
   rotate_left
   ·rename_i h32 K3 h123;rw [Tc (My h123),Tc (by(intro j';refine a0 (j') fun q _=>?_);exact Mx h123 q),Tk (zM h123)] at hq;refine(cf _ _ rfl (.inr hgc) ?_);refine am (fun _=>ag (aE ?_)) (fun _=>bq (ae ?_))
    ·rename_i Fd;rw [Tk (htc.emp.mp Fd)] at hq;refine bV ?_;refine ap rfl ?_;refine⟨by exact Ta rfl,fun tp Sy=>?_⟩;refine aO (ba (ew F2 (ba (ql y' ?_))));exact fin .refl (by rw [←hq];unfold x4 ps;rfl)
    ·rename_i Fd;rw [Tc fun q=>Fd (htc.emp.mpr q)] at hq;refine dj ?_;refine aP rO ph ?_;refine ap rfl ?_;have e0:AV.int (ps t (s::d))=xo t (some (d.length+1)):=rfl;rw [show ps t (s::d)+1=ps t d from aU];have hnn:cW d+1<=cW r:=by have:=lh hd;rw [m8,Tk (zM h123)] at this;exact this
     refine a_ (a':=[]) (IH Φ.wd (g:=g') (some (d.length+1)) (Mw hN F9) hdt' hz) (Mv hn hnn) (.refl _) (fun _ h=>h.elim) ?_;(intro _ g2 _ j' SR led' e1;refine cX (j') fun tp xs th to hx=>?_;subst th;subst to);(rename _++_=_=>e;(try dsimp only [S9,S_] at e);subst e);cases hB:cO LE (some (d.length+1)) [] [] [] d with
     |bad=>rw [hB] at hx;exact hx.elim
     |err k=>
      rw [hB] at hx hq;have hx:xs=[.none,.int (t.length-k)]:=hx;subst hx;refine(bu tp _ rfl (.inl (SZ ..)) rfl ?_);refine aW (bt ?_);refine aL rfl ?_;refine aW (bt ?_);refine aL rfl ?_;refine cu ?_;refine ae (aS (aC rfl (ft rfl (ag (aE ?_)))));refine bV ?_;refine ap rfl ?_;refine⟨by exact Ta rfl,fun tp2 Sy=>?_⟩;simp only [S_,S9];refine aO (ba (ew F2 (ba (ql y' ?_))));exact fin (.less (List.sublist_cons_self _ _) .refl) (by rw [←hq];rfl)
     |ok rows r'=>
      rw [hB] at hx hq;(refine cB (hx) fun e j' htr hr'=>?_;subst j');have SN:=hr'.length_le;dsimp only at hq;rw [dif_pos SN] at hq;refine(bu tp _ rfl (.inl (SZ ..)) rfl ?_);refine aW (bt ?_);refine aL rfl ?_;refine aW (bt ?_);refine aL rfl ?_;refine cu ?_;refine ae ?_;refine fY false ?_ ?_
      ·refine aC rfl ?_;exact(bJ rfl rfl rfl rfl)
      refine bd ?_;refine bq ?_;refine TG.post ?_;refine ag (aI rfl (ak (aa d7 ?_)));refine bL ?_;refine ap rfl ?_;refine⟨by exact Ta rfl,fun e1 he1=>?_⟩;refine ic (.inr (SR _ hgc)) (.inl (To _ (SZ ..))) (by dsimp;exact D9 hz F0 Hn Sm hlc F9) (fun e2 he2=>?_);refine aL rfl ?_;simp only [S_,S9];have hm:∀p,g' p->mz (e2,AO.list (vc++[.ref e])) g2 p:=fun p hp=>.inr (SR _ hp);refine(cT _ _ (.fz (p:=(e2,.list (vc++[.ref e]))) rfl (.tail (.tail .head)) (.less (T2 _) .refl)) ?_);refine bI F2 ?_;exact⟨r'.length,by simp;exact Mine.Internal.o1 SN,rfl,r',a,b,e2,va,vb,vc++[.ref e],_,_,_,_,_,_,rfl,hr'.trans K6,rfl,hm _ hga,hta.mono hm,hm _ hgb,htb.mono hm,.inl rfl,
       (htc.mono hm).snoc (htr.mono fun p hp=>.inr hp),by exact wn hla SN,by exact wn SW SN,by simp;exact D8 hlc SN,hq⟩
   all_goals
    have hn92:¬(s.toNat=92/\dy 10 d=true):=fun zp92=>a0 zp92 fun q1 q2=>by have q3:=hcut.mpr q2;first|contradiction|(first|exact FC (by assumption) (by assumption) (by assumption)|omega)
   all_goals
    rw [Tc (by(first|exact FA (by assumption) (by assumption) (by assumption) hn92|exact AM (by assumption)|omega)),Tc hn92,Tc (by(first|exact Mu ‹_›|exact AK ‹_›))] at hq;have SO:dF s.toNat=false:=by unfold dF;simp;(first|exact Mt ‹_›|(first|exact Fz hne3 (by assumption) (by assumption) (by assumption) hn92|omega))
    refine dj ?_;refine aP Dc BC ?_;refine ap rfl ?_;refine a_ (a':=[]) (Oq Φ.wd K1 hz) (NQ hn) (.refl _) (fun _ h=>h.elim) ?_;(intro _ g2 _ j' _ led' e1;refine fG (j') fun tp th K0 to Sp=>?_;subst th;subst to);have K0:=K0.symm;subst K0;(rename _++_=_=>e;(try dsimp only [S9,S_] at e);subst e);cases hW:bO LE true true [] (s::d) with
    |err k=>
     rw [hW] at hq;refine(bu tp _ rfl (.inl (SZ ..)) rfl ?_);refine aW (bt ?_);refine aL rfl ?_;refine aW (bt ?_);refine aL rfl ?_;refine cu ?_;refine ae (aS (aC rfl (ft rfl (ag (aE ?_)))));refine bV ?_;refine ap rfl ?_;refine⟨by exact Ta rfl,fun tp2 Sy=>?_⟩;simp only [S_,S9];refine aO (ba (ew F2 (ba (ql y' ?_))));exact fin (.less (List.sublist_cons_self _ _) .refl) (by rw [←hq];rfl)
    |ok f bb r'=>
     rw [hW] at hq;have Sp:=Sp f bb r' hW;have SN:=(gW gV hW).2.2.2 s d rfl SO;have hrd:r'<:+d:=by
      rcases List.suffix_cons_iff.mp (gW gV hW).1 with q|q
      ·have:=congrArg List.length q;simp at this;exact(NP SN this).elim
      ·exact q
     dsimp only at hq;rw [dif_pos SN] at hq;refine(bu tp _ rfl (.inl (SZ ..)) rfl ?_);refine aW (bt ?_);refine aL rfl ?_;refine aW (bt ?_);refine aL rfl ?_;refine cu ?_;refine ae ?_;refine fY false ?_ ?_
     ·refine aC rfl ?_;exact(bJ rfl rfl rfl rfl)
     refine bd ?_;refine bq ?_;refine TG.post ?_;refine ag (aI rfl (ak (aa d7 ?_)));refine bL ?_;refine ap rfl ?_;refine⟨by exact Ta rfl,fun e1 he1=>?_⟩;refine ic (.inr hgc) (.inl (To _ (SZ ..))) (by dsimp;exact D9 hz F0 Hn Sm hlc F9) (fun e2 he2=>?_);refine aL rfl ?_;simp only [S_,S9];have hm:∀p,g' p->mz (e2,AO.list (vc++[.bytes f])) g' p:=fun p hp=>.inr hp;refine(cT _ _ (.fz (p:=(e2,.list (vc++[.bytes f]))) rfl (.tail (.tail .head)) (.less (T2 _) .refl)) ?_);refine bI F2 ?_;exact⟨r'.length,by simp;exact Mine.Internal.o1 SN,rfl,r',a,b,e2,va,vb,vc++[.bytes f],_,_,_,_,_,_,rfl,hrd.trans K6,rfl,hm _ hga,hta.mono hm,hm _ hgb,htb.mono hm,.inl rfl,
      (htc.mono hm).snoc (.w f),by exact wn hla SN,by exact wn SW SN,by simp;exact D8 hlc SN,hq⟩
theorem wC:Gl "read_commands" (.ref 301):=⟨fun w=>.inl (aj _ rfl rfl),by decide+kernel⟩
theorem tU:bB (.ref 301):=fun w=>rfl
noncomputable def CI (t:BS) (v:AV) (g':GH) (own':LD):Prop:=∃tp,v= .ref tp/\match aM LE [] ⟨[],none,0⟩ 0 t with
 | .ok cs=>∃ra cl xs,own'=[(tp,.tuple [.ref ra,.ref cl])]/\dK g' (.ref ra) (.l (dh cs))/\g' (cl,.list xs)/\eJ g' xs cs
 | .err k=>own'=[(tp,.tuple [.none,.int (t.length-k)])]
 | .bad=>False
noncomputable def wH:cD 391:=⟨_,fun P=>(bc _ _ _ rfl)⟩
noncomputable abbrev Po:aY:=dm wH ["text","found","commands","e"] rfl (by decide+kernel) (by decide+kernel)
theorem OP:bE Po (bY wH.fd) ["text"] 1 []:=
 bE.mk' _ _ _ _ [] rfl (fun _=>rfl) (fun _=>rfl) .nil (fun w s X _=>Tz rfl) rfl rfl rfl (by decide+kernel) (by decide+kernel)
theorem Oo {w:World} {H₀:Heap} (W:Wd w H₀) {g:GH} {t:BS} {D:Nat} (hN:cv t) (hz:4*t.length<=bf) (hB:aM LE [] ⟨[],none,0⟩ 0 t≠ .bad)
 (hok:∀cs,aM LE [] ⟨[],none,0⟩ 0 t= .ok cs->(∀c∈cs,WF true c)/\4*(cg none cs).length+8<=bf/\cK cs<=D):
 ∀on,aA [.bytes t] on->cz w H₀ g [] (.call (.ref 391) ⟨on,[]⟩) (D+11) false (CI t) (fun or=>False):=
 bK OP (D+10) [("text",some (.bytes t)),("found",none),("commands",none),("e",none)] W fun Φ hw hH hg Kd hn ho hi Qf y'=>by
  have K5:t.length<=bf:=by exact Ax hz
  refine ae ?_;refine aI rfl ?_;refine bV ?_;refine ah rfl (cP (ah rfl (gk (au (jY (af ?_))))));refine⟨by exact Ta rfl,fun t0 ht0=>?_⟩;refine aL rfl (ae ?_);refine ud hi Kd (by rfl) (by rfl) ?_;refine ae ?_;refine aI rfl ?_;refine aP wC tU ?_;refine ah rfl (aa ad (ah rfl ?_));refine qW (hk:=by with_unfolding_all rfl) (h0:=by exact TS _ _) (hlen:=by exact Tb rfl) fun kd hkd=>?_;simp only [S_,S9];refine iB (bn (bn (iB (bn (bn ?_)))));refine l7 ?_;refine(hU (dn LE) rfl (by decide+kernel) (by exact Ta rfl) _ (.tail .head) ?_);refine af ?_;refine a_ (own:=[(kd,.dictB (dn LE))]) (a':=[(t0,.tuple [.none,.int (-1)])]) (Ow Φ.wd gV hN hz hB) (HM hn) (by(((try dsimp only [S9,S_,cF,bZ]);(try dsimp only [S9,S_]);with_reducible (repeat (first|exact T1 _|refine cE (by repeat (first|exact aT.head|apply aT.tail)) ?_))))) ?_ ?_
  ·(intro or j';refine aw (j') fun k hk th=>?_;subst th);refine(aN (cT ("text") (.bytes t) (by((with_reducible (repeat (first|exact SZ .. |refine Td _ ?_))))) (by decide)) rfl (fun ea=>(aj _ (by((with_reducible (repeat (first|exact cM.head|apply cM.tail))))) (fun a=>(aj _ (by((with_reducible (repeat (first|exact cM.head|apply cM.tail))))) ?_)))));simp only [nU,TM,List.map_nil,Tc (show ¬(Str.ofString "text"=Str.ofString "e") from by decide+kernel),Tc (show ¬(Str.ofString "found"=Str.ofString "e") from by decide+kernel),Tc (show ¬(Str.ofString "commands"=Str.ofString "e") from by decide+kernel),if_true];refine ag (aE (aa a7 (aO (ql y' ?_))));refine(cA _ _ (cN .refl (dH a (cN rfl ?_))));rw [hk]
  ·(intro v g1 own' j' hg1 led' e1;refine a0 (j') fun th El=>dM El fun cs cl xs La=>cU La fun hcs to hcl hxs=>?_;subst th;subst to);(rename _++_=_=>e;(try dsimp only [S9,S_] at e);subst e);refine bp (hok cs hcs) fun hwf hoz hdep=>?_;refine aL rfl (ag (aI rfl ?_));refine bV ?_;refine ah rfl ?_;refine aP rP pi ?_;refine ap rfl ?_;refine a_ (a':=[(t0,.tuple [.none,.int (-1)])]) (xn cs Φ.wd hwf hcl hxs hoz) (HL hn hdep) (.refl _) (fun _ h=>h.elim) ?_;(intro v g2 own' j' SR led' e1;refine a0 (j') fun th hrow=>?_;subst th);(rename _++_=_=>e;(try dsimp only [S9,S_] at e);subst e);(refine cX (hrow.inv) fun ra va j' hra hva=>?_;subst j');refine ap rfl ?_;refine⟨by exact Ta rfl,fun tp Sy=>?_⟩;refine aL rfl ?_;refine⟨rfl,?_⟩;refine ag (aE (aa a7 (aO (ql y' ?_))));refine(cA _ _ (cN (.less (l':=[(tp,.tuple [.ref ra,.ref cl])]) (by simp only [S_,S9];((with_reducible (repeat (first|exact List.Sublist.refl _|refine List.Sublist.cons_cons _ ?_ |refine List.Sublist.cons _ ?_))))) .refl) (dH tp (cN rfl ?_))));rw [hcs];exact(kg ra cl xs rfl hrow (SR _ hcl) (hxs.mono SR))
mutual
noncomputable def dT:Tr->Nat
 | .w _=>0
 | .l xs=>je xs+1
noncomputable def je:List Tr->Nat
 |[]=>0
 |x::r=>Nat.max (dT x) (je r)
end
theorem iF {x:Tr} {l:List Tr} (h:x∈l):dT x<=je l:=by
 induction l with
 |nil=>cases h
 |cons y r ih=>exact(T4.mp h).elim (fun e=>e▸Nat.le_max_left ..) fun h=>TO (ih h) (Nat.le_max_right ..)
theorem yD {A:Around} {s:Shared} (a:Array UInt8) (t u:Tok):SeqAt.EqAt A s (.bytes a t) (.bytes a u) true:=fun prog w E Q h=>by
 unfold eqBool;refine wpAny_holding ?_;refine wpAny_ite_split (fun _=>Te (wpAny_rule (Tm h))) (fun _=>Te ?_);exact show wpAny _ _ (compareOp .Eq (.bytes a t) (.bytes a u)) _ _ _ from eq_bytes (wpAny_truthy_bool (by simpa using h))
theorem jS (n:Nat):(List.range n).all (fun _=>true)=true:=by simp
section
variable {F:aY} {Φ:Fx F} {g:GH} {vs:LV} {an:LD} {E:ET}
theorem Eg {st:Bool} {s:Shared} (S:aZ Φ st g s vs an) {v:AV} {T:Tr} (h1:dK g v T):∀(A:Around) {v2:AV},dK g v2 T->A.units+dT T<=cLine->∀{c1 c2},AV.Is v c1->AV.Is v2 c2->SeqAt.EqAt A s c1 c2 true:=by
 induction h1 with
 |w b=>
  intro A v2 h2 hu c1 c2 r1 r2;cases h2;(refine ax (r1) fun t j'=>?_;subst j');(refine ax (r2) fun u j'=>?_;subst j');exact yD _ t u
 |l a xs ts ha hl hel ih=>
  intro A v2 h2 hu c1 c2 r1 r2;cases h2 with
  |l b ys _ hb hl2 hel2=>
   cases r1;cases r2;by_cases SJ:a=b
   ·subst SJ;exact SeqAt.EqAt.same _
   refine cB ((show bM g an (a,.list xs) from .inr ha).isList S.1) fun cs la fa _=>?_;refine cB ((show bM g an (b,.list ys) from .inr hb).isList S.1) fun ds lb fb _=>?_;have e1:cs.size=xs.length:=by rw [←TR,←fa.length]
   have e2:ds.size=ys.length:=by rw [←TR,←fb.length]
   have hd:dT (.l ts)=je ts+1:=rfl;have:=SeqAt.RcAt.lists (A:=A) (e:=fun _=>true) la lb (z4 hl hl2 e1 e2) (Ny hu hd) (fun j h1 h2=>by
    have i1:j<xs.length:=by exact z0 hl hl2 e1 e2 h1
    have i2:j<ys.length:=by exact zZ hl hl2 e1 e2 h1
    have i3:j<ts.length:=by exact zY hl hl2 e1 e2 h1
    refine aw (fa.get (i:=j) (a:=xs[j]) (Th i1)) fun c hc rc=>?_;refine aw (fb.get (i:=j) (a:=ys[j]) (Th i2)) fun c' hc' rc'=>?_;rw [TJ,Array.getElem?_eq_getElem h1] at hc;rw [TJ,Array.getElem?_eq_getElem h2] at hc';rw [Option.some.inj hc,Option.some.inj hc'];have hdj:=iF (List.getElem_mem i3);exact ih j xs[j] ts[j] (Th i1) (Th i3) A.in1 (hel2 j ys[j] ts[j] (Th i2) (Th i3)) (by show A.units+1+_<=_;exact Nx hu hd i3 hdj) rc rc')
   rw [jS] at this;exact .of_refs SJ this
theorem xy {v v2:AV} {ts:List Tr} {Q:QT AV} (h1:dK g v (.l ts)) (h2:dK g v2 (.l ts)) (hd:je ts+1<=8*Φ.room) (h:Q (.bool true) g vs an):d0 Φ g vs an .Eq v v2 Q E:=by
 intro va vb r1 r2 s S;(refine dl (h1.inv) fun a xs j' ha hl hel=>?_;subst j');(refine dl (h2.inv) fun b ys j' hb hl2 hel2=>?_;subst j');cases r1;cases r2;refine cB ((show bM g an (a,.list xs) from .inr ha).isList S.1) fun cs la fa _=>?_;refine cB ((show bM g an (b,.list ys) from .inr hb).isList S.1) fun ds lb fb _=>?_;have e1:cs.size=xs.length:=by rw [←TR,←fa.length]
 have e2:ds.size=ys.length:=by rw [←TR,←fb.length]
 have un:=Φ.un;refine .of (SeqAt.eq_listAt (e:=fun _=>true) la lb (z4 hl hl2 e1 e2) (DV hd un) (fun j h1 h2=>?_) (by rw [jS];exact⟨.bool true,g,vs,an,S,rfl,h⟩));have i1:j<xs.length:=by exact z0 hl hl2 e1 e2 h1
 have i2:j<ys.length:=by exact zZ hl hl2 e1 e2 h1
 have i3:j<ts.length:=by exact zY hl hl2 e1 e2 h1
 refine aw (fa.get (i:=j) (a:=xs[j]) (Th i1)) fun c hc rc=>?_;refine aw (fb.get (i:=j) (a:=ys[j]) (Th i2)) fun c' hc' rc'=>?_;rw [TJ,Array.getElem?_eq_getElem h1] at hc;rw [TJ,Array.getElem?_eq_getElem h2] at hc';rw [Option.some.inj hc,Option.some.inj hc'];have hdj:=iF (List.getElem_mem i3);exact Eg S (hel j xs[j] ts[j] (Th i1) (Th i3)) _ (hel2 j ys[j] ts[j] (Th i2) (Th i3)) (by show Φ.A.units+1+_<=_;exact DU hd un i3 hdj) rc rc'
theorem Dw {v v2:AV} {ts:List Tr} {Q:QT AV} (h1:dK g v (.l ts)) (h2:dK g v2 (.l ts)) (hd:je ts+1<=8*Φ.room) (h:Q (.bool false) g vs an):d0 Φ g vs an .NotEq v v2 Q E:=by
 intro va vb r1 r2 s S;(refine dl (h1.inv) fun a xs j' ha hl hel=>?_;subst j');(refine dl (h2.inv) fun b ys j' hb hl2 hel2=>?_;subst j');cases r1;cases r2;refine cB ((show bM g an (a,.list xs) from .inr ha).isList S.1) fun cs la fa _=>?_;refine cB ((show bM g an (b,.list ys) from .inr hb).isList S.1) fun ds lb fb _=>?_;have e1:cs.size=xs.length:=by rw [←TR,←fa.length]
 have e2:ds.size=ys.length:=by rw [←TR,←fb.length]
 have un:=Φ.un;refine .of (SeqAt.RcNeAt.lists (A:=Φ.A) (e:=fun _=>true) la lb (z4 hl hl2 e1 e2) (DV hd un) (fun j h1 h2=>?_) _ _ _ _ (by rw [jS];exact⟨.bool false,g,vs,an,S,rfl,h⟩));have i1:j<xs.length:=by exact z0 hl hl2 e1 e2 h1
 have i2:j<ys.length:=by exact zZ hl hl2 e1 e2 h1
 have i3:j<ts.length:=by exact zY hl hl2 e1 e2 h1
 refine aw (fa.get (i:=j) (a:=xs[j]) (Th i1)) fun c hc rc=>?_;refine aw (fb.get (i:=j) (a:=ys[j]) (Th i2)) fun c' hc' rc'=>?_;rw [TJ,Array.getElem?_eq_getElem h1] at hc;rw [TJ,Array.getElem?_eq_getElem h2] at hc';rw [Option.some.inj hc,Option.some.inj hc'];have hdj:=iF (List.getElem_mem i3);exact Eg S (hel j xs[j] ts[j] (Th i1) (Th i3)) _ (hel2 j ys[j] ts[j] (Th i2) (Th i3)) (by show Φ.A.units+1+_<=_;exact DU hd un i3 hdj) rc rc'
theorem Ct {a b:Addr} {k:Int} {Q:QT AV} (h1:bM g an (a,.tuple [.none,.int k])) (h2:bM g an (b,.tuple [.none,.int k])) (h:Q (.bool true) g vs an):d0 Φ g vs an .Eq (.ref a) (.ref b) Q E:=by
 intro va vb r1 r2 s S;cases r1;cases r2;obtain⟨cs,n,sl,ea,fa⟩:=h1.at S.1;obtain⟨ds,n2,sl2,eb,fb⟩:=h2.at S.1;obtain⟨cs⟩:=cs;obtain⟨ds⟩:=ds;have un:=Φ.un;change aA [.none,.int k] cs at fa;change aA [.none,.int k] ds at fb;cases fa with
 |cons a1 fa=>
 cases fa with
 |cons a2 fa=>
 cases fa;cases fb with
 |cons b1 fb=>
 cases fb with
 |cons b2 fb=>
 cases fb;cases a1;cases b1;(refine ax (a2) fun t j'=>?_;subst j');(refine ax (b2) fun u j'=>?_;subst j');refine .of (SeqAt.eq_tupleAt (e:=fun _=>true) (fh _ ea rfl n rfl) (fh _ eb rfl n2 rfl) (DT un) (fun j h1 h2=>?_) ?_)
 ·match j,h1,h2 with
  |0,_,_=>exact SeqAt.EqAt.same _
  |1,_,_=>have:=SeqAt.EqAt.int_int (A:=Φ.A.in1) (s:=s) k t k u;rw [beq_self_eq_true] at this;exact this
 ·rw [jS];exact⟨.bool true,g,vs,an,S,rfl,h⟩
end
section
variable {F:aY} {Φ:Fx F} {g:GH} {vs:LV} {an:LD} {E:ET}
theorem kQ {f:Addr} {as:List AV} {n:Nat} {own a':LD} {Qc:AV->GH->LD->Prop} {Ec:AV->Prop} {Q:QT AV} (hs:Φ.strict=false) (C:∀K9,aA as K9->cz Φ.w Φ.H₀ g own (.call (.ref f) ⟨K9,[]⟩) n false Qc Ec) (hn:n<=Φ.room) (hp:an.Perm (own++a'))
 (hsl:∀p∈a',p.2.slack=true) (hx:∀or,Ec or->E or g vs) (hq:∀v g' own',Qc v g' own'->(∀p,g p->g' p)->∀led',own'++a'=led'->Q v g' vs led'):bG Φ g vs an (.ref f) as Q E:=
 .turn hp (jg C hn (fun h=>by rw [hs] at h;cases h) (.inr hsl) (fun v g' own' a b=>hq v g' own' a b _ rfl) hx)
end
theorem Db:Gl "_law_heard" (.ref 391):=⟨fun w=>.inl (aj _ rfl rfl),by decide+kernel⟩
theorem BA:bB (.ref 391):=fun w=>rfl
structure Ek (cs:List Nd) (D R:Nat):Prop where
 wf:∀c∈cs,WF true c
 sz:4*(cg none cs).length+8<=bf
 dep:cK cs<=D
structure pC (t:BS) (D R:Nat):Prop where
 cl:cv t
 sz:4*t.length<=bf
 n3:cW t+3<=R
 hD:3*D+12<=R
 ab:match cO LE none [] [] [] t,aM LE [] ⟨[],none,0⟩ 0 t with
  | .ok rows _,.ok cs=>rows=dh cs/\Ek cs D R/\je (dh cs)+1<=8*R/\cv (cg none cs)/\∃cs2,aM [] [] ⟨[],none,0⟩ 0 (cg none cs)= .ok cs2/\dh cs2=dh cs/\Ek cs2 D R
  | .err k,.err k'=>k=k'
  |_,_=>False
noncomputable def wG:cD 398:=⟨_,fun P=>(bc _ _ _ rfl)⟩
noncomputable abbrev Pn:aY:=dm wG ["text","due","told"] rfl (by decide+kernel) (by decide+kernel)
theorem OO:bE Pn (bY wG.fd) ["text"] 1 []:=
 bE.mk' _ _ _ _ [] rfl (fun _=>rfl) (fun _=>rfl) .nil (fun w s X _=>Tz rfl) rfl rfl rfl (by decide+kernel) (by decide+kernel)
theorem vB {w:World} {H₀:Heap} (W:Wd w H₀) {g:GH} {t:BS} {D R:Nat} (H:pC t D R):
 ∀on,aA [.bytes t] on->cz w H₀ g [] (.call (.ref 398) ⟨on,[]⟩) (R+1) false (fun v g' own'=>v= .bool true/\own'=[]) (fun or=>False):=
 bK OO R [("text",some (.bytes t)),("due",none),("told",none)] W fun Φ hw hH hg Kd hn ho hi Qf y'=>by
  have hz:=H.sz;have Hn:cq=1000000:=rfl;have F0:bf=1000000:=rfl;have hn3:=H.n3;have hD:=H.hD;have SJ:=H.ab;have hB:aM LE [] ⟨[],none,0⟩ 0 t≠ .bad:=fun q=>by rw [q] at SJ;revert SJ;cases cO LE none [] [] [] t<;>exact fun h=>h
  have hok:∀cs,aM LE [] ⟨[],none,0⟩ 0 t= .ok cs->(∀c∈cs,WF true c)/\4*(cg none cs).length+8<=bf/\cK cs<=D:=fun cs q=>by
   rw [q] at SJ;revert SJ;cases cO LE none [] [] [] t with
   |ok rows r=>exact fun zp61=>bp zp61 fun _ h _=>(aN h.wf h.sz h.dep)
   |err k=>exact fun h=>h.elim
   |bad=>exact fun h=>h.elim
  have fin:∀{g':GH} {l1:LD},∃g2 l,dU g' l1 g2 l/\gO (fun v g2' own'=>v= .bool true/\own'=[]) (.ret (.bool true)) g2 l:=
   fun {g' l1}=>(cf _ _ (.less (T2 _) .refl) rfl rfl)
  have C1:=BU (t.length+1) Φ.wd (g:=g) none (Ts _) (Tv t) hz;rw [show ps t t=0 from by unfold ps;simp] at C1;refine ae ?_;refine bX (names:=["due","told"]) ?_;refine ah rfl ?_;refine aP rO ph ?_;refine ap rfl ?_;refine a_ (a':=[]) C1 (HK hn hn3) (.refl _) (fun _ h=>h.elim) ?_;(intro _ g1 _ j' hg1 led' e1;refine cX (j') fun tp1 xs1 th to hx1=>?_;subst th;subst to);(rename _++_=_=>e;(try dsimp only [S9,S_] at e);subst e);refine ah rfl ?_;refine aP Db BA ?_;refine ap rfl ?_;refine kQ Kd (a':=[(tp1,.tuple xs1)]) (Oo Φ.wd (D:=D) H.cl hz hB hok) (HJ hn hD) (.refl _) (by intro p hp;rw [Ti.mp hp];rfl) (fun _ h=>h.elim) ?_;(intro _ g2 own2 j' SR led' e1;refine aw (j') fun tp2 th hx2=>?_;subst th);cases hb:cO LE none [] [] [] t with
  |bad=>rw [hb] at hx1;exact hx1.elim
  |err k=>
   rw [hb] at SJ hx1;cases hr:aM LE [] ⟨[],none,0⟩ 0 t with
   |bad=>rw [hr] at SJ;exact SJ.elim
   |ok cs=>rw [hr] at SJ;exact SJ.elim
   |err k'=>
    rw [hr] at SJ hx2;have SJ:k=k':=SJ;subst SJ;have hx1:xs1=[.none,.int (t.length-k)]:=hx1;subst hx1;have hx2:own2=[(tp2,.tuple [.none,.int (t.length-k)])]:=hx2;subst hx2;(rename _++_=_=>e;(try dsimp only [S9,S_] at e);subst e);refine af ?_;refine(aN rfl (by exact Ta rfl) ?_);refine aW (aJ ?_);refine aL rfl ?_;refine aW (aJ ?_);refine aL rfl ?_;refine cu ?_;refine ae ?_;refine fY true ?_ ?_
    ·refine ch (aK (bg (aa a7 (au ?_))) rfl);refine fK (v:=.none) (.inl a7) (by dsimp;exact o3 Hn) (by decide) (by rfl) (by exact rfl) ?_;refine cP (e9 (aF (ft rfl ?_)));exact(bJ rfl rfl rfl rfl)
    refine bv (ag (aE (sd (iC (bg (aa a7 (au ?_))) rfl))));refine fK (v:=.none) (.inl a7) (by dsimp;exact o3 Hn) (by decide) (by rfl) (by exact rfl) ?_;refine cP (e9 (aF (ft rfl (iC (aa aQ (aa a7 ?_)) rfl))));refine Ct (.inl ad) (.inl a7) ?_;refine aO (ba (ql y' ?_));exact fin
  |ok rows r'=>
   rw [hb] at SJ hx1;cases hr:aM LE [] ⟨[],none,0⟩ 0 t with
   |bad=>rw [hr] at SJ;exact SJ.elim
   |err k=>rw [hr] at SJ;exact SJ.elim
   |ok cs=>
    rw [hr] at SJ hx2;refine eV (SJ) fun hrows hO K1 hcl2 El=>ax El fun cs2 La=>bp La fun hr2 hrow2 hO2=>?_;(refine cB (hx1) fun a1 j' ht1 _=>?_;subst j');(refine jc (hx2) fun ra cl xs j' ht2 hcl hxs=>?_;subst j');subst hrows;have ht1:=ht1.mono SR;(rename _++_=_=>e;(try dsimp only [S9,S_] at e);subst e);refine af ?_;refine(aN rfl (by exact Ta rfl) ?_);refine aW (aJ ?_);refine aL rfl ?_;refine aW (aJ ?_);refine aL rfl ?_;refine cu ?_;refine ae ?_;refine fY false ?_ ?_
    ·refine ch (aK (bg (aa a7 (au ?_))) rfl);refine fK (v:=.ref a1) (.inl a7) (by dsimp;exact o3 Hn) (by decide) (by rfl) (by exact rfl) ?_;refine cP (e9 (aF (fc rfl (ch (aK (bg (aa aQ (au ?_))) rfl)))));refine fK (v:=.ref ra) (.inl ad) (by dsimp;exact o3 Hn) (by decide) (by rfl) (by exact rfl) ?_;refine cP (e9 (aF (fc rfl (cL ?_))));exact(bJ rfl rfl rfl rfl)
    refine bd ?_;refine bq ?_;refine ae ?_;refine fY false ?_ ?_
    ·refine aK (bg (aa aQ (au ?_))) rfl;refine fK (v:=.ref ra) (.inl ad) (by dsimp;exact o3 Hn) (by decide) (by rfl) (by exact rfl) ?_;refine bg (aa a7 (au ?_));refine fK (v:=.ref a1) (.inl a7) (by dsimp;exact o3 Hn) (by decide) (by rfl) (by exact rfl) ?_;refine Dw ht2 ht1 (Ah hn K1) ?_;refine aF ?_;exact(bJ rfl rfl rfl rfl)
    refine bd (bq (ag (aE (iC ?_ rfl))));refine aP rP pi ?_;refine ah rfl ?_;refine aP wC tU ?_;refine ah rfl ?_;refine aP wB tT ?_;refine ah rfl (bg (aa aQ (au ?_)));refine fK (v:=.ref cl) (.inl ad) (by dsimp;exact o3 Hn) (by decide) (by rfl) (by exact rfl) ?_;refine af ?_;have dy:=hO.dep;have hd2:=hO2.dep;have hs1:=hO.sz;refine a_ (own:=[]) (a':=[(tp2,.tuple [.ref ra,.ref cl]),(tp1,.tuple [.ref a1,.int (ps t r')])]) (Do cs Φ.wd hO.wf hcl hxs hO.sz) (HI hn hD dy) (.refl _) (fun _ h=>h.elim) ?_;(intro _ g3 _ j' _ led' e1;refine bp (j') fun th hg3 to=>?_;subst th;subst to);have hg3:=hg3.symm;subst hg3;(rename _++_=_=>e;(try dsimp only [S9,S_] at e);subst e);refine ap rfl ?_;refine a_ (own:=[]) (a':=[(tp2,.tuple [.ref ra,.ref cl]),(tp1,.tuple [.ref a1,.int (ps t r')])]) (Dp Φ.wd hcl2 (HH F0 hs1) (by rw [hr2];exact fun q=>nomatch q)) (HG hn hD hd2) (.refl _) (fun or zp48=>aw zp48 fun k hk _=>by rw [hr2] at hk;cases hk) ?_;(intro _ g4 _ j' hg4 led' e1;refine a0 (j') fun th El=>dM El fun cs3 cl3 xs3 La=>cU La fun hr3 to hcl3 hxs3=>?_;subst th;subst to);rw [hr2] at hr3;cases hr3;(rename _++_=_=>e;(try dsimp only [S9,S_] at e);subst e);refine af ?_;refine a_ (own:=[]) (a':=[(tp2,.tuple [.ref ra,.ref cl]),(tp1,.tuple [.ref a1,.int (ps t r')])]) (xn cs2 Φ.wd hO2.wf hcl3 hxs3 hO2.sz) (HF hn hD hd2) (.refl _) (fun _ h=>h.elim) ?_;(intro v5 g5 _ j' hg5 led' e1;refine a0 (j') fun th ht5=>?_;subst th);(rename _++_=_=>e;(try dsimp only [S9,S_] at e);subst e);refine bg (aa a7 (au ?_));refine fK (v:=.ref a1) (.inl a7) (by dsimp;exact o3 Hn) (by decide) (by rfl) (by exact rfl) ?_;rw [hrow2] at ht5;refine xy ht5 ((ht1.mono hg4).mono hg5) (Ah hn K1) ?_;refine aO (ql y' ?_);exact fin
noncomputable def zo (b:UInt8):Prop:=b≠9/\b≠13/\b≠37
structure df (x:BS) (L K:Nat):Prop where
 len:x.length<=L
 cnt:cW x<=K
 chr:∀b∈x,zo b
theorem df.app {x y:BS} {L K L' K':Nat} (h:df x L K) (h':df y L' K'):df (x++y) (L+L') (K+K'):=
 ⟨by rw [Tf];exact Nat.add_le_add h.len h'.len,by unfold cW;rw [List.countP_append];exact Nat.add_le_add h.cnt h'.cnt,fun b hb=>(T3.mp hb).elim (h.chr b) (h'.chr b)⟩
theorem df.le {x:BS} {L K L' K':Nat} (h:df x L K) (h1:L<=L') (h2:K<=K'):df x L' K':=⟨TO h.len h1,TO h.cnt h2,h.chr⟩
theorem df.of {x:BS} {L K:Nat} (h:(decide (x.length<=L)&&decide (x.countP (·.toNat==123)<=K)&&x.all fun b=>b !=9&&b !=13&&b !=37)=true):df x L K:=by
 simp only [Bool.and_eq_true,decide_eq_true_eq,TW,bne_iff_ne] at h;exact⟨h.1.1,h.1.2,fun b hb=>(aN ((h.2 b hb).1.1) ((h.2 b hb).1.2) ((h.2 b hb).2))⟩
noncomputable def l6 (k L K T:Nat):Prop:=∀{w:World} {H₀:Heap} (W:Wd w H₀) {g:GH} {d c:Addr} {ms:List Int} {m τ:Int},0<=m/\m<2147483587->0<=τ/\τ+100*k<=999800->ms.length<=8->
 ∀on,aA [.ref d,.int (k:Nat)] on->cz w H₀ g (dk d c ms m τ) (.call (.ref 405) ⟨on,[]⟩) (k+3) true
  (fun v g' own'=>∃x Sw τ',v= .bytes x/\g'=g/\df x L K/\Sw.length<=8/\τ<=τ'/\τ'<=τ+T/\own'=dk d c Sw m τ') (fun _=>False)
theorem wy:Gl "_law_text" (.ref 405):=⟨fun w=>.inl (aj _ rfl rfl),by decide+kernel⟩
theorem tQ:bB (.ref 405):=fun w=>rfl
theorem nJ:Gl "_law_pick" (.ref 358):=⟨fun w=>.inl (aj _ rfl rfl),by decide+kernel⟩
theorem lY:bB (.ref 358):=fun w=>rfl
noncomputable abbrev qD (d:Addr) (k:Nat) (w:Addr) (x:BS) (o1 o2:Option AV):LV:=[("deck",some (.ref d)),("deep",some (.int (k:Nat))),("words",some (.ref w)),("found",some (.bytes x)),("turn",o1),("go",o2)]
noncomputable abbrev mW:List BS:=[[97],[108,115,32,45,116],[39,98,32,99,39],[34,120,32,121,34],[97,92,110],[92,49,48,49,98],[34,112,92,34,113,34],[36,65],[34,36,123,65,125,122,34],[39,36,65,39],[126,47,100],[97,35,98],[39,39]]
noncomputable abbrev nQ:List BS:=[[97,39,98,39,34,99,34],[117,123,118],[34,36,67,34],[39,10,39],[92,59],[97,92,10,98],[120,126],[92,115],[92,57],[36,49],[97,36]]
noncomputable abbrev qS:List BS:=[[],[32],[10]]
noncomputable abbrev sN:List BS:=[[59,32],[10],[32,35,32,114,32,59,10],[32,59,10,10]]
inductive xE (d:Addr) (g:GH) (c:Addr) (m:Int) (ms:List Int) (τ:Int) (k:Nat) (g2:GH) (vs:LV) (an:LD):Prop
 |mk:(g2=g)->∀w1,(vs=([("deck",some (.ref d)),("deep",some (.int (k:Nat))),("words",some (.ref w1)),("found",none),("turn",none),("go",none)]:LV))->(an=dk d c ms m τ++[(w1,.list (mW.map .bytes))])->xE d g c m ms τ k g2 vs an
inductive xD (d:Addr) (g2:GH) (c:Addr) (m:Int) (ms:List Int) (τ:Int) (k:Nat) (g3:GH) (vs:LV) (an:LD):Prop
 |mk:(g3=g2)->∀w1,(vs=([("deck",some (.ref d)),("deep",some (.int (k:Nat))),("words",some (.ref w1)),("found",none),("turn",none),("go",none)]:LV))->(an=dk d c ms m τ++[(w1,.list ((mW++nQ).map .bytes))])->xD d g2 c m ms τ k g3 vs an
inductive xC (t:Tok) (r:Addr) (d:Addr) (g':GH) (c:Addr) (ws:List BS) (m:Int) (τ:Int) (k:Nat) (w3:Addr) (L:Nat) (K:Nat) (T:Nat) (N:Nat) (u:Tok) (v:Tok) (i:Nat) (g2:GH) (vs:LV) (an:LD):Prop
 |mk:(g2=g')->∀x Sw τ' o1 o2,(vs=qD d k w3 x o1 o2)->(an=(r,.raw (cc (N:Nat) t u v))::(dk d c Sw m τ'++[(w3,.list (ws.map .bytes))]))->(df x (i*(L+20)) (i*(K+2)))->(Sw.length<=8)->(τ<=τ')->(τ'<=τ+1+(i*(T+5):Nat))->xC t r d g' c ws m τ k w3 L K T N u v i g2 vs an
inductive xB (t:Tok) (r:Addr) (d:Addr) (g2:GH) (c:Addr) (x:BS) (i:Nat) (p:Addr×AO) (ws:List BS) (m:Int) (k:Nat) (w3:Addr) (L:Nat) (K:Nat) (T:Nat) (N:Nat) (u:Tok) (v:Tok) (τ':Int) (g4:GH) (vs:LV) (an:LD):Prop
 |mk:(g4=g2)->∀x2 ms2 τ2 o2,(vs=qD d k w3 (x++[99]++x2) (some (.int (i:Nat))) o2)->(an=dk d c ms2 m τ2++[p,(r,.raw (cc (N:Nat) t u v)),(w3,.list (ws.map .bytes))])->(df x2 (L+12) (K+2))->(ms2.length<=8)->(τ'<=τ2)->(τ2<=τ'+(T+4:Nat))->xB t r d g2 c x i p ws m k w3 L K T N u v τ' g4 vs an
inductive xA (t:Tok) (r:Addr) (d:Addr) (c:Addr) (x:BS) (i:Nat) (p:Addr×AO) (ws:List BS) (m:Int) (k:Nat) (w3:Addr) (L:Nat) (K:Nat) (T:Nat) (N:Nat) (u:Tok) (v:Tok) (N2:Nat) (r2:Addr) (t2:Tok) (u2:Tok) (v2:Tok) (τ':Int) (g4:GH) (j:Nat) (g5:GH) (vs:LV) (an:LD):Prop
 |mk:(g5=g4)->∀x2 ms3 τ3 o2,(vs=qD d k w3 (x++[99]++x2) (some (.int (i:Nat))) o2)->(an=(r2,.raw (cc (N2:Nat) t2 u2 v2))::(dk d c ms3 m τ3++[p,(r,.raw (cc (N:Nat) t u v)),(w3,.list (ws.map .bytes))]))->(df x2 (if j=0 then 0 else L+4+8*(j-1)) (if j=0 then 0 else K+1+(j-1)))->(ms3.length<=8)->(τ'+1<=τ3)->(τ3<=τ'+1+((if j=0 then 0 else T+2+(j-1):Nat):Int))->xA t r d c x i p ws m k w3 L K T N u v N2 r2 t2 u2 v2 τ' g4 j g5 vs an
noncomputable def wF:cD 405:=⟨_,fun P=>(bc _ _ _ rfl)⟩
noncomputable abbrev Pm:aY:=dm wF ["deck","deep","words","found","turn","go"] rfl (by decide+kernel) (by decide+kernel)
theorem ON:bE Pm (bY wF.fd) ["deck","deep"] 2 []:=
 bE.mk' _ _ _ _ [] rfl (fun _=>rfl) (fun _=>rfl) .nil (fun w s X _ _=>Tz rfl) rfl rfl rfl (by decide+kernel) (by decide+kernel)
theorem vA (k L K T:Nat) (hk:k<=2) (hL:4<=L) (hLB:L<=1000) (hT:T<=20) (IH:∀j,k=j+1->l6 j L K T):l6 k ((if k=2 then 2 else 1)*(L+20)) ((if k=2 then 2 else 1)*(K+2)) (1+(if k=2 then 2 else 1)*(T+5)):=by
 intro w H₀ W g d c ms m τ hm hτ hms;refine bK ON (k+2) [("deck",some (.ref d)),("deep",some (.int (k:Nat))),("words",none),("found",none),("turn",none),("go",none)] W fun Φ hw hH hg Kd hn ho hi Qf y'=>?_;have F0:bf=1000000:=rfl;have Hn:cq=1000000:=rfl;refine ae ?_
 with_reducible refine fi (R:=(xE d g c m ms τ k)) ?_ ?_
 ·intro Q1 Lb
  with_reducible refine aI ?_ ?_
  ·rfl
  with_reducible refine bL ?_
  repeat
   refine ah ?_ ?_
   ·rfl
   refine bn ?_
  with_reducible refine af ?_
  refine⟨by exact Ta rfl,fun w1 hw1=>?_⟩
  with_reducible refine vg (by exact cM.tail (cM.tail cM.head)) ?_
  refine ql Lb ?_;exact⟨rfl,_,_,.refl,rfl,w1,rfl,rfl⟩
 rintro g2 vs an ⟨rfl,w1,rfl,rfl⟩;refine ae ?_
 with_reducible refine fi (R:=(xD d g2 c m ms τ k)) ?_ ?_
 ·intro Q1 Lb
  with_reducible refine aI ?_ ?_
  ·rfl
  with_reducible refine ak ?_
  with_reducible refine CJ ?_
  with_reducible refine aa aQ ?_
  with_reducible refine bL ?_
  repeat
   refine ah ?_ ?_
   ·rfl
   refine bn ?_
  with_reducible refine af ?_
  refine⟨by exact Ta rfl,fun w2 hw2=>?_⟩;refine ic (xs:=mW.map .bytes) (ys:=nQ.map .bytes) (.inl (.tail _ (.tail _ (.head _)))) (.inl (.tail _ (.tail _ (.tail _ (.head _))))) (by rw [Tx,Tx,Hn];decide) (fun w3 hw3=>?_)
  with_reducible refine vg (by exact cM.tail (cM.tail cM.head)) ?_
  refine ql Lb ?_;exact⟨rfl,_,_,.less (l':=dk d c ms m τ++[(w3,.list ((mW++nQ).map .bytes))]) (.cons_cons _ (.cons_cons _ (.cons _ (.cons _ (.refl _))))) .refl,rfl,w3,rfl,rfl⟩
 rintro g3 vs an ⟨rfl,w3,rfl,rfl⟩;have hws:∀x∈mW++nQ,df x 7 1:=fun x hx=>.of (by
  have:(mW++nQ).all (fun x=>decide (x.length<=7)&&decide (x.countP (·.toNat==123)<=1)&&x.all fun b=>b !=9&&b !=13&&b !=37)=true:=by decide+kernel
  exact TW.mp this x hx)
 have hwsl:(mW++nQ).length=24:=rfl;generalize mW++nQ=ws at hws hwsl;refine ae ?_
 with_reducible refine aI ?_ ?_
 ·rfl
 refine bn ?_
 with_reducible refine vg (by exact cM.tail (cM.tail (cM.tail cM.head))) ?_
 refine ae ?_;refine jV (hs:=by intro _;rfl) ?_;have hkk:(if k=2 then 2 else 1)<=2:=by split<;>(first|exact Ag|exact zE)
 refine TG.mono (Q:=fun x g' vs an=>∃r t u v N Sw τ',x= .ref r/\g'=g3/\vs=qD d k w3 [] none none/\an=(r,.raw (cc (N:Nat) t u v))::(dk d c Sw m τ'++[(w3,.list (ws.map .bytes))])/\N<=(if k=2 then 2 else 1)/\Sw.length<=8/\τ<=τ'/\τ'<=τ+1) ?_ ?_ (fun _ _ _ z=>z)
 ·refine aP oH trivial ?_;refine ah rfl (cw (aC rfl (am (fun _=>ak (au ?_)) (fun _=>au (af ?_)))))
  ·rename_i hk2;refine aP jN iV ?_;refine ap rfl ?_;refine a_ (own:=dk d c ms m τ) (a':=[(w3,.list (ws.map .bytes))]) (lq (b:=2) Φ.wd hm (HE hτ hn hk2) Af hms) (HD hn hk2) (.refl _) (fun _ h=>h.elim) ?_;(intro _ _ _ j' _ led' e1;refine eC (j') fun r Sw th h0 h1 K0 hz' to=>?_;subst th;subst to);have K0:=K0.symm;subst K0;(rename _++_=_=>e;(try dsimp only [S9,S_] at e);subst e);refine bD (af ?_);(refine ax (Int.eq_ofNat_of_zero_le h0) fun n j'=>?_;subst j');rw [show(1:Int)+(n:Int)=((n+1:Nat):Int) from by exact HC];refine mV fun r t u v hr=>?_;exact(jL r t u v (n+1) Sw (τ+1) (jM rfl rfl rfl rfl (by rw [Tk (HA hn hk2)];exact Hz h0 h1) hz' zw Ae))
  ·rename_i hk2;rw [show(1:Int)=((1:Nat):Int) from rfl];refine mV fun r t u v hr=>?_;exact(jL r t u v 1 ms τ (jM rfl rfl rfl rfl (by split<;>(first|exact zE|exact Hy)) hms D7 D6))
 (intro _ g' vs an j';refine lT (j') fun r t u v N ms0 τ0 El=>rT El fun th to Ce zz4 hN hms0 ht1 ht2=>?_;subst th;subst to;subst Ce;subst zz4);refine iG (ht:=by intros;rfl) hi (na (n:=N) (Hw hkk hN)) (xC t r d g' c ws m τ k w3 L K T N u v) (fun i g2 vs an h=>by obtain⟨_,x,Sw,τ',o1,o2,_,rfl,_⟩:=h;exact .inl (.head _)) ?_ ⟨rfl,[],ms0,τ0,none,none,rfl,rfl,⟨by exact Tn _,by exact Tn _,by exact fun _ h=>absurd h List.not_mem_nil⟩,hms0,ht1,by exact Hv ht1 ht2⟩ ?_
 ·rintro i p Qb F2 g2 vs an hiN ⟨rfl,x,Sw,τ',o1,o2,rfl,rfl,hx,hms',ht3,ht4⟩ hp;have hi1:i<=1:=by exact Hu hkk hN hiN
  have hb1:i*(L+20)<=1*1020:=Nat.mul_le_mul hi1 (Ht hL hLB);have hb2:i*(T+5)<=1*25:=Nat.mul_le_mul hi1 (Hr hT);have SB:=hx.len;refine bt ?_;refine aL rfl ?_;refine TG.post ?_;refine ae ?_
  with_reducible refine aI ?_ ?_
  ·rfl
  refine ak (aa dc (bn ?_));refine dA (by simp only [Tu,TC];exact Hq F0 hb1 SB) ?_;refine aL rfl (ae ?_)
  with_reducible refine fi (R:=(xB t r d g2 c x i p ws m k w3 L K T N u v τ')) ?_ ?_
  ·intro Q1 Lb;refine jV (hs:=by intro _;rfl) ?_;refine TG.mono (Q:=fun y g4 vs an=>∃r2 t2 u2 v2 N2 ms2,y= .ref r2/\g4=g2/\vs=qD d k w3 (x++[99]) (some (.int (i:Nat))) o2/\an=(r2,.raw (cc (N2:Nat) t2 u2 v2))::(dk d c ms2 m (τ'+1)++[p,(r,.raw (cc (N:Nat) t u v)),(w3,.list (ws.map .bytes))])/\N2<=2/\ms2.length<=8) ?_ ?_ (fun _ _ _ z=>z)
   ·refine aP oH trivial ?_;refine ah rfl ?_;refine aP jN iV ?_;refine ap rfl ?_;refine a_ (own:=dk d c Sw m τ') (a':=[p,(r,.raw (cc (N:Nat) t u v)),(w3,.list (ws.map .bytes))]) (lq (b:=3) Φ.wd hm (EF hk hτ hn ht3 ht4 hb2) Ad hms') (Hp hk hn) (by(((try dsimp only [S9,S_,cF,bZ]);(try dsimp only [S9,S_]);with_reducible (repeat (first|exact T1 _|refine cE (by repeat (first|exact aT.head|apply aT.tail)) ?_))))) (fun _ h=>h.elim) ?_;(intro _ _ _ j' _ led' e1;refine eC (j') fun r2 ms2 th h0 h1 K0 hz' to=>?_;subst th;subst to);have K0:=K0.symm;subst K0;(rename _++_=_=>e;(try dsimp only [S9,S_] at e);subst e);refine af ?_;(refine ax (Int.eq_ofNat_of_zero_le h0) fun n j'=>?_;subst j');refine mV fun r2 t2 u2 v2 hr=>?_;exact(hS r2 t2 u2 v2 n ms2 (bF rfl rfl rfl rfl (Ho h0 h1) hz'))
   (intro _ g4 vs an j';refine kl (j') fun r2 t2 u2 v2 N2 ms2 El=>eF El fun th to Ce zz4 hN2 hms2=>?_;subst th;subst to;subst Ce;subst zz4);refine iG (ht:=by intros;rfl) hi (na (n:=N2) (Hm hN2)) (xA t r d c x i p ws m k w3 L K T N u v N2 r2 t2 u2 v2 τ' g4) (fun j g5 vs an h=>by obtain⟨_,x2,ms3,τ3,o2,_,rfl,_⟩:=h;exact .inl (.head _)) ?_ ⟨rfl,[],ms2,τ'+1,_,by rw [T7],rfl,⟨by exact Tj _,by exact Tj _,by exact fun _ h=>absurd h List.not_mem_nil⟩,hms2,by exact Ae,by simp⟩ ?_
   ·rintro j q Qb F2 g5 vs an hjN ⟨rfl,x2,ms3,τ3,o2,rfl,rfl,hx2,hms3,ht5,ht6⟩ hq;have hx2l:=hx2.len;have hj1:j<=1:=by exact Hl hN2 hjN
    have hx2b:x2.length<=L+4:=by split at hx2l<;>(first|exact Hk hL hLB hx2l|exact Hj hj1 hx2l)
    have ht7:τ3<=τ'+1+(T+2:Nat):=by split at ht6<;>(first|exact Hi hT ht5 ht6|exact Hh hj1 ht6)
    refine bt ?_;refine aL rfl ?_;refine TG.pre (.turn (l':=dk d c ms3 m τ3++[q,(r2,.raw (cc (N2:Nat) t2 u2 v2)),p,(r,.raw (cc (N:Nat) t u v)),(w3,.list (ws.map .bytes))]) (by(((try dsimp only [S9,S_,cF,bZ]);(try dsimp only [S9,S_]);with_reducible (repeat (first|exact T1 _|refine cE (by repeat (first|exact aT.head|apply aT.tail)) ?_))))) .refl) ?_;refine TG.post ?_;refine ag ?_;refine aS ?_;refine TG.mono (Q:=fun b g6 vs an=>g6=g5/\vs=qD d k w3 (x++[99]++x2) (some (.int (i:Nat))) (some (.int (j:Nat)))/\∃ms4 τ4,an=dk d c ms4 m τ4++[q,(r2,.raw (cc (N2:Nat) t2 u2 v2)),p,(r,.raw (cc (N:Nat) t u v)),(w3,.list (ws.map .bytes))]/\ms4.length<=8/\τ3<=τ4/\((b=true/\j=0/\0<k/\τ4=τ3+1)\/(b=false/\τ4<=τ3+(if j=0 then 1 else 0:Nat)))) ?_ ?_ (fun _ _ _ z=>z)
    ·refine aR (aC rfl (am (fun _=>aR (aC rfl (am (fun _=>aR (aK ?_ rfl)) (fun _=>?_)))) (fun _=>?_)))
     ·rename_i hk0 hj0;refine aP jN iV ?_;refine ap rfl ?_;refine a_ (own:=dk d c ms3 m τ3) (a':=[q,(r2,.raw (cc (N2:Nat) t2 u2 v2)),p,(r,.raw (cc (N:Nat) t u v)),(w3,.list (ws.map .bytes))]) (lq (b:=2) Φ.wd hm (EE hk hT hτ hn ht3 ht4 hb2 ht5 ht7 hk0) Af hms3) (Hg hk hn hk0) (by(((try dsimp only [S9,S_,cF,bZ]);(try dsimp only [S9,S_]);with_reducible (repeat (first|exact T1 _|refine cE (by repeat (first|exact aT.head|apply aT.tail)) ?_))))) (fun _ h=>h.elim) ?_;(intro _ _ _ j' _ led' e1;refine eC (j') fun z ms4 th h0 h1 K0 hz' to=>?_;subst th;subst to);have K0:=K0.symm;subst K0;(rename _++_=_=>e;(try dsimp only [S9,S_] at e);subst e);refine au (gI (aF (am (fun _=>bQ ?_) (fun _=>?_))))
      ·skip;exact(aN rfl rfl (cA ms4 (τ3+1) (bJ rfl hz' zw (.inl (bJ rfl (Ac hj0) (Hf hk hn hk0) rfl)))))
      ·skip;exact(aN rfl rfl (cA ms4 (τ3+1) (bJ rfl hz' zw (.inr ⟨rfl,by rw [Tk (Ac hj0)];exact He⟩))))
     all_goals exact(aN rfl rfl (cA ms3 τ3 (bJ rfl hms3 D7 (.inr ⟨rfl,by split<;>(first|exact D6|exact NJ)⟩))))
    ·(intro b g6 vs an j';refine bp (j') fun th to El=>iy El fun ms4 τ4 La=>cU La fun Ce hms4 ht8 zz4=>?_;subst th;subst to;subst Ce;rcases zz4 with⟨rfl,rfl,hk0,rfl⟩|⟨rfl,ht9⟩)
     ·refine bv ?_;obtain⟨k',rfl⟩:∃k',k=k'+1:=⟨k-1,by exact Hd hk hn hk0⟩
      have hbs:∀y∈qS,df y 1 0:=fun x hx=>.of (by
       have:qS.all (fun x=>decide (x.length<=1)&&decide (x.countP (·.toNat==123)<=0)&&x.all fun b=>b !=9&&b !=13&&b !=37)=true:=by decide+kernel
       exact TW.mp this x hx)
      refine ag (aI rfl (ak (ak (ak (ak (aa dc (bn ?_)))))));refine dA (by simp only [Tf,Tu,TC];exact Hb hL hLB F0 hb1 SB hx2b) ?_;refine aP nJ lY ?_;refine ah rfl (aa ad (ah rfl ?_));refine bL ?_;refine ah rfl (bn (ah rfl (bn (ah rfl (bn (af ?_))))));refine⟨by exact Ta rfl,fun lp hlp=>?_⟩;rw [show([.bytes [],.bytes [32],.bytes [10]]:List AV)=qS.map .bytes from rfl];refine af ?_;refine a_ (own:=dk d c ms4 m (τ3+1)++[(lp,.list (qS.map .bytes))]) (a':=[q,(r2,.raw (cc (N2:Nat) t2 u2 v2)),p,(r,.raw (cc (N:Nat) t u v)),(w3,.list (ws.map .bytes))]) (vC Φ.wd (bs:=qS) hm (ED hT ht3 ht4 hb2 ht5 ht7 hk hτ hn) (by decide) hms4) (Ha hk hn) (by(((try dsimp only [S9,S_,cF,bZ]);(try dsimp only [S9,S_]);with_reducible (repeat (first|exact T1 _|refine cE (by repeat (first|exact aT.head|apply aT.tail)) ?_))))) (fun _ h=>h.elim) ?_;(intro _ _ _ j' _ led' e1;refine fw (j') fun y ms5 hy th K0 hz5 to=>?_;subst th;subst to);have K0:=K0.symm;subst K0;(rename _++_=_=>e;(try dsimp only [S9,S_] at e);subst e);have hyl:=(hbs y hy).len;refine dA (by simp only [Tf,Tu,TC];exact G_ hL hLB F0 hb1 SB hx2b hyl) ?_;refine aP wy tQ ?_;refine ap rfl ?_;rw [show((k'+1:Nat):Int)-1=((k':Nat):Int) from by exact G9];refine a_ (own:=dk d c ms5 m (τ3+1+1)) (a':=[(lp,.list (qS.map .bytes)),q,(r2,.raw (cc (N2:Nat) t2 u2 v2)),p,(r,.raw (cc (N:Nat) t u v)),(w3,.list (ws.map .bytes))]) (IH k' rfl Φ.wd hm (EC hT ht3 ht4 hb2 ht5 ht7 hτ hn) hz5) (G8 hn) (by(((try dsimp only [S9,S_,cF,bZ]);(try dsimp only [S9,S_]);with_reducible (repeat (first|exact T1 _|refine cE (by repeat (first|exact aT.head|apply aT.tail)) ?_))))) (fun _ h=>h.elim) ?_;(intro _ _ _ j' _ led' e1;refine dM (j') fun z ms6 τ6 El=>jd El fun th K0 hz hz6 ht10 ht11 to=>?_;subst th;subst to);have K0:=K0.symm;subst K0;(rename _++_=_=>e;(try dsimp only [S9,S_] at e);subst e);have K5:=hz.len;refine dA (by simp only [Tf,Tu,TC];exact G7 hL hLB F0 hb1 SB hx2b hyl K5) ?_;refine bn ?_;refine dA (by simp only [Tf,Tu,TC];exact G6 hL hLB F0 hb1 SB hx2b hyl K5) ?_;refine aL rfl ?_;have e32:df [32,123] 2 1:=.of (by decide);have e125:df [125] 1 0:=.of (by decide);refine(cT _ _ (.less (l':=[(d,xj c m τ6),(c,.list (ms6.map .int)),q,(r2,.raw (cc (N2:Nat) t2 u2 v2)),p,(r,.raw (cc (N:Nat) t u v)),(w3,.list (ws.map .bytes))]) (.cons_cons _ (.cons_cons _ (.cons _ (.refl _)))) (.turn (l':=q::(r2,.raw (cc (N2:Nat) t2 u2 v2))::(dk d c ms6 m τ6++[p,(r,.raw (cc (N:Nat) t u v)),(w3,.list (ws.map .bytes))])) (by(((try dsimp only [S9,S_,cF,bZ]);(try dsimp only [S9,S_]);with_reducible (repeat (first|exact T1 _|refine cE (by repeat (first|exact aT.head|apply aT.tail)) ?_))))) .refl)) ?_);refine eN F2 ?_;refine⟨_,rfl,rfl,x2++([32,123]++(y++(z++[125]))),ms6,τ6,some (.int ((0:Nat):Int)),?_,rfl,?_,hz6,by exact G5 ht5 ht10,?_⟩
      ·rw [show x++[99]++(x2++([32,123]++(y++(z++[125]))))=x++[99]++x2++[32,123]++y++z++[125] from by simp]
      ·rw [Tk rfl,Tk rfl] at hx2;exact(hx2.app (e32.app ((hbs y hy).app (hz.app e125)))).le (by simp;exact G4) (by simp;exact G3)
      ·simp at ht6 ⊢;exact G2 ht5 ht11 ht6
     ·refine bd ?_;refine ag (aI rfl (ak (ak (aa dc (bn ?_)))));refine dA (by simp only [Tf,Tu,TC];exact GZ hL hLB F0 hb1 SB hx2b) ?_;refine aP nJ lY ?_;refine ap rfl ?_;refine a_ (own:=dk d c ms4 m τ4++[(w3,.list (ws.map .bytes))]) (a':=[q,(r2,.raw (cc (N2:Nat) t2 u2 v2)),p,(r,.raw (cc (N:Nat) t u v))]) (vC Φ.wd (bs:=ws) hm (by split at ht9<;>(first|exact EB hk hT hτ hn ht3 ht4 hb2 ht5 ht7 ht8 ht9|exact EA hk hT hτ hn ht3 ht4 hb2 ht5 ht7 ht8 ht9)) (GY hwsl) hms4) (Aa hk hn) (by(((try dsimp only [S9,S_,cF,bZ]);(try dsimp only [S9,S_]);with_reducible (repeat (first|exact T1 _|refine cE (by repeat (first|exact aT.head|apply aT.tail)) ?_))))) (fun _ h=>h.elim) ?_;(intro _ _ _ j' _ led' e1;refine fw (j') fun y ms5 hy th K0 hz5 to=>?_;subst th;subst to);have K0:=K0.symm;subst K0;(rename _++_=_=>e;(try dsimp only [S9,S_] at e);subst e);have hyl:=(hws y hy).len;refine dA (by simp only [Tf,Tu,TC];exact GW hL hLB F0 hb1 SB hx2b hyl) ?_;refine aL rfl ?_;have e32:df [32] 1 0:=.of (by decide);refine(cT _ _ (.turn (l':=q::(r2,.raw (cc (N2:Nat) t2 u2 v2))::(dk d c ms5 m (τ4+1)++[p,(r,.raw (cc (N:Nat) t u v)),(w3,.list (ws.map .bytes))])) (by(((try dsimp only [S9,S_,cF,bZ]);(try dsimp only [S9,S_]);with_reducible (repeat (first|exact T1 _|refine cE (by repeat (first|exact aT.head|apply aT.tail)) ?_))))) .refl) ?_);refine eN F2 ?_;refine⟨_,rfl,rfl,x2++([32]++y),ms5,τ4+1,some (.int (j:Nat)),?_,rfl,?_,hz5,by exact GV hT ht5 ht7 ht8,?_⟩
      ·rw [show x++[99]++(x2++([32]++y))=x++[99]++x2++[32]++y from by simp]
      ·exact(hx2.app (e32.app (hws y hy))).le (by rw [show(if j+1=0 then 0 else L+4+8*(j+1-1))=L+4+8*j from by rw [Tc (Nat.succ_ne_zero j)];rfl];split<;>(first|exact GU hL hLB ‹_›|exact GT hj1 ‹_›)) (by rw [show(if j+1=0 then 0 else K+1+(j+1-1))=K+1+j from by rw [Tc (Nat.succ_ne_zero j)];rfl];split<;>(first|exact GS ‹_›|exact GR hj1 ‹_›))
      ·rw [show(if j+1=0 then 0 else T+2+(j+1-1))=T+2+j from by rw [Tc (Nat.succ_ne_zero j)];rfl];split at ht6<;>split at ht9<;>(first|exact Ez hT ht5 ht8 (by assumption) ht6 ht9|exact GQ (by assumption) (by assumption)|exact Ey hj1 ht7 ht8 (by assumption) ht9|omega)
   ·rintro g5 vs an ⟨rfl,x2,ms3,τ3,o2,rfl,rfl,hx2,hms3,ht5,ht6⟩;refine ql Lb ?_;refine⟨rfl,_,_,.less (l':=dk d c ms3 m τ3++[p,(r,.raw (cc (N:Nat) t u v)),(w3,.list (ws.map .bytes))]) (.cons _ (.refl _)) .refl,rfl,x2,ms3,τ3,o2,rfl,rfl,hx2.le (by split<;>(first|exact GP hL hLB|exact GO hN2)) (by split<;>(first|exact GN|exact GM hN2)),hms3,by exact GL ht5,?_⟩
    split at ht6<;>(first|exact GK hT ht5 ht6|exact GJ hN2 ht6)
  rintro g4 vs an ⟨rfl,x2,ms2,τ2,o2,rfl,rfl,hx2,hms2,ht5,ht6⟩;have hx2l:=hx2.len;refine ag (aI rfl (ak (aa dc ?_)));refine aP nJ lY ?_;refine ah rfl (aa ad (ah rfl ?_));refine bL ?_;refine ah rfl (bn (ah rfl (bn (ah rfl (bn (ah rfl (bn (af ?_))))))));refine⟨by exact Ta rfl,fun lp hlp=>?_⟩;rw [show([.bytes [59,32],.bytes [10],.bytes [32,35,32,114,32,59,10],.bytes [32,59,10,10]]:List AV)=sN.map .bytes from rfl];refine af ?_;have hps:∀y∈sN,df y 7 0:=fun x hx=>.of (by
   have:sN.all (fun x=>decide (x.length<=7)&&decide (x.countP (·.toNat==123)<=0)&&x.all fun b=>b !=9&&b !=13&&b !=37)=true:=by decide+kernel
   exact TW.mp this x hx)
  refine a_ (own:=dk d c ms2 m τ2++[(lp,.list (sN.map .bytes))]) (a':=[p,(r,.raw (cc (N:Nat) t u v)),(w3,.list (ws.map .bytes))]) (vC Φ.wd (bs:=sN) hm (Ex hk hT hτ hn ht3 ht4 hb2 ht5 ht6) (by decide) hms2) (Aa hk hn) (by(((try dsimp only [S9,S_,cF,bZ]);(try dsimp only [S9,S_]);with_reducible (repeat (first|exact T1 _|refine cE (by repeat (first|exact aT.head|apply aT.tail)) ?_))))) (fun _ h=>h.elim) ?_;(intro _ _ _ j' _ led' e1;refine fw (j') fun y ms4 hy th K0 hz4 to=>?_;subst th;subst to);have K0:=K0.symm;subst K0;(rename _++_=_=>e;(try dsimp only [S9,S_] at e);subst e);have hyl:=(hps y hy).len;refine dA (by simp only [Tf,Tu,TC];exact GI hL hLB F0 hb1 SB hx2l hyl) ?_;refine aL rfl ?_;have h99:df [99] 1 0:=.of (by decide);refine(cT _ _ (.less (l':=[(d,xj c m (τ2+1)),(c,.list (ms4.map .int)),p,(r,.raw (cc (N:Nat) t u v)),(w3,.list (ws.map .bytes))]) (.cons_cons _ (.cons_cons _ (.cons _ (.refl _)))) (.turn (l':=p::(r,.raw (cc (N:Nat) t u v))::(dk d c ms4 m (τ2+1)++[(w3,.list (ws.map .bytes))])) (by(((try dsimp only [S9,S_,cF,bZ]);(try dsimp only [S9,S_]);with_reducible (repeat (first|exact T1 _|refine cE (by repeat (first|exact aT.head|apply aT.tail)) ?_))))) .refl)) ?_);refine eN F2 ?_;refine⟨_,rfl,rfl,x++[99]++x2++y,ms4,τ2+1,_,_,rfl,rfl,?_,hz4,by exact GG hT ht3 ht5 ht6,?_⟩
  ·exact(((hx.app h99).app hx2).app (hps y hy)).le (by rw [Nat.succ_mul];exact GF) (by rw [Nat.succ_mul];exact GE)
  ·rw [Nat.succ_mul];exact GD ht4 ht6
 ·rintro g2 vs an ⟨rfl,x,Sw,τ',o1,o2,rfl,rfl,hx,hms',ht3,ht4⟩;have hb:N*(L+20)<=(if k=2 then 2 else 1)*(L+20):=Nat.mul_le_mul_right _ hN;have hb':N*(K+2)<=(if k=2 then 2 else 1)*(K+2):=Nat.mul_le_mul_right _ hN;have hb2:N*(T+5)<=(if k=2 then 2 else 1)*(T+5):=Nat.mul_le_mul_right _ hN;refine ag (aE (aa dc (aO (ql y' ?_))));exact(cA _ _ (cN (.less (l':=dk d c Sw m τ') (.cons _ (.cons_cons _ (.cons_cons _ (.cons _ (.refl _))))) .refl) (bc x Sw τ' (tw rfl rfl (hx.le hb hb') hms' ht3 (GC ht4 hb2) rfl))))
theorem CV:l6 0 24 2 6:=vA 0 4 0 0 GB Gz Gy Gx (fun j h=>by exact(Gw h).elim)
theorem CU:l6 1 44 4 12:=vA 1 24 2 6 zE Gv Gu Gr (fun j h=>by cases h;exact CV)
theorem CT:l6 2 128 12 35:=vA 2 44 4 12 Ag Gq Gp Go (fun j h=>by cases h;exact CU)
theorem Dd:Gl "_law_deck" (.ref 344):=⟨fun w=>.inl (aj _ rfl rfl),by decide+kernel⟩
theorem BD:bB (.ref 344):=fun w=>rfl
theorem rN:Gl "_law_right" (.ref 398):=⟨fun w=>.inl (aj _ rfl rfl),by decide+kernel⟩
theorem pg:bB (.ref 398):=fun w=>rfl
theorem pe (n a:Nat):clipAt n (a:Int)=Nat.min a n:=by
 unfold clipAt;rw [Tc z5];show _=min a n;exact Ew
theorem tJ (x:BS) (a:Nat):eW x none (some (a:Int))=x.take a:=by
 show(x.drop 0).take (clipAt x.length (a:Int)-0)=_;rw [pe,Nat.sub_zero,List.drop_zero];rcases Nat.le_total a x.length with h|h
 ·rw [show Nat.min a x.length=a from Nat.min_eq_left h]
 ·rw [show Nat.min a x.length=x.length from Nat.min_eq_right h,List.take_of_length_le h,List.take_of_length_le (Tj _)]
theorem tK (x:BS) (a:Nat):eW x (some (a:Int)) none=x.drop a:=by
 show(x.drop (clipAt x.length (a:Int))).take (x.length-clipAt x.length (a:Int))=_;rw [pe,List.take_of_length_le (by rw [List.length_drop];exact Tj _)];rcases Nat.lt_or_ge a x.length with h|h
 ·rw [show Nat.min a x.length=a from Nat.min_eq_left (Gn h)]
 ·rw [show Nat.min a x.length=x.length from Nat.min_eq_right h,List.drop_of_length_le (Tj _),List.drop_of_length_le h]
theorem qT {x f:BS} {a b L K:Nat} (h:df x L K) (SJ:a<=b) (hf:df f 1 1):df (x.take a++f++x.drop b) (L+1) (K+1):=by
 have h1:=h.len;have h2:=h.cnt;have h3:cW (x.take a)+cW (x.drop b)<=cW x:=by
  have e:cW (x.drop b)<=cW (x.drop a):=by
   rw [show b=a+(b-a) from by exact Gm SJ,←List.drop_drop];exact(List.drop_suffix _ _).sublist.countP_le
  have e2:cW x=cW (x.take a)+cW (x.drop a):=by unfold cW;rw [←List.countP_append,List.take_append_drop]
  exact Gk e e2
 have hfl:=hf.len;have hfc:=hf.cnt;have hn:cW (x.take a++f++x.drop b)=cW (x.take a)+cW f+cW (x.drop b):=by unfold cW;rw [List.countP_append,List.countP_append]
 refine⟨by simp only [Tf,List.length_take,List.length_drop];exact Eu SJ h1 hfl,by rw [hn];exact Gj h2 h3 hfc hn,fun y hy=>?_⟩;rcases T3.mp hy with hy|hy
 ·rcases T3.mp hy with hy|hy
  ·exact h.chr y (List.mem_of_mem_take hy)
  ·exact hf.chr y hy
 ·exact h.chr y (List.mem_of_mem_drop hy)
theorem B4:cO LE none [] [] [] [97,35,98]= .ok [.l [.l [.w [97,35,98]]]] []:=by
 have hw:bO LE true true [] [97,35,98]= .ok [97,35,98] true []:=by
  rw [ev,Tc (by decide),Tc (by decide),Tc (by decide),Tc (by decide),Tc (by decide),Tc (by decide),
   ev,Tc (by decide),Tc (by decide),Tc (by decide),Tc (by decide),Tc (by decide),Tc (by decide),
   ev,Tc (by decide),Tc (by decide),Tc (by decide),Tc (by decide),Tc (by decide),Tc (by decide),jv]
  rfl
 rw [dr,Tc (by decide),Tc (by decide),Tc (by decide),Tc (by decide),Tc (by decide),Tc (by decide),Tc (by decide),hw];dsimp only;rw [dif_pos (by decide),iz];rfl
noncomputable def wE:cD 412:=⟨_,fun P=>(bc _ _ _ rfl)⟩
noncomputable abbrev Pl:aY:=dm wE ["script","deck","text","at","way","fresh","bent"] rfl (by decide+kernel) (by decide+kernel)
theorem OM:bE Pl (bY wE.fd) ["script"] 1 []:=
 bE.mk' _ _ _ _ [] rfl (fun _=>rfl) (fun _=>rfl) .nil (fun w s X _=>Tz rfl) rfl rfl rfl (by decide+kernel) (by decide+kernel)
theorem On {w:World} {H₀:Heap} (W:Wd w H₀) {g:GH} {s:Addr} {ns:List Int} (hs:g (s,.list (ns.map .int))) (hz:ns.length<=1000) {D R:Nat} (hR:60<=R) (HR:∀x:BS,x.length<=130->cW x<=13->(∀b∈x,zo b)->pC x D R):
 ∀on,aA [.ref s] on->cz w H₀ g [] (.call (.ref 412) ⟨on,[]⟩) (R+2) false (fun v g' own'=>v= .bool true/\own'=[]) (fun or=>False):=
 bK OM (R+1) [("script",some (.ref s)),("deck",none),("text",none),("at",none),("way",none),("fresh",none),("bent",none)] W fun Φ hw hH hg Kd hn ho hi Qf y'=>by
  have F0:bf=1000000:=rfl;have Hn:cq=1000000:=rfl;refine ae ?_
  with_reducible refine aI ?_ ?_
  ·rfl
  refine aP Dd BD ?_;refine ap rfl ?_;refine a_ (a':=[]) (Os Φ.wd hs hz) (zt hR hn) (.refl _) (fun _ h=>h.elim) ?_;(intro _ g1 _ j' _ led' e1;refine eT (j') fun d c ms m th K0 hms hm1 hm2 to=>?_;subst th;subst to);have K0:=K0.symm;subst K0;(rename _++_=_=>e;(try dsimp only [S9,S_] at e);subst e);refine aL rfl (ae (aI rfl ?_));refine aP wy tQ ?_;refine ap rfl ?_;rw [show(2:Int)=((2:Nat):Int) from rfl];refine a_ (a':=[]) (CT Φ.wd ⟨hm1,hm2⟩ ⟨Int.le_refl _,by decide⟩ hms) (Gi hR hn) (.refl _) (fun _ h=>h.elim) ?_;(intro _ g2 _ j' _ led' e1;refine dM (j') fun x ms2 τ2 El=>jd El fun th K0 hx hms2 ht1 ht2 to=>?_;subst th;subst to);have K0:=K0.symm;subst K0;(rename _++_=_=>e;(try dsimp only [S9,S_] at e);subst e);have SB:=hx.len;have hxz:x.length<=bf:=by exact Gh F0 SB
  refine aL rfl (ae ?_);refine bX (names:=["at","way"]) ?_;refine ah rfl ?_;refine aP jN iV ?_;refine ah rfl (aa a7 (ah rfl (ak (dG aQ hxz (au (bD (af ?_)))))));rw [show((x.length:Nat):Int)+1=((x.length+1:Nat):Int) from by exact z_];refine a_ (own:=dk d c ms2 m τ2) (a':=[]) (lq (b:=((x.length+1:Nat):Int)) Φ.wd ⟨hm1,hm2⟩ (Gg ht1 ht2) (Gf SB) hms2) (zt hR hn) (.refl _) (fun _ h=>h.elim) ?_;(intro _ _ _ j' _ led' e1;refine eC (j') fun r1 ms3 th h01 h11 K0 hms3 to=>?_;subst th;subst to);have K0:=K0.symm;subst K0;(rename _++_=_=>e;(try dsimp only [S9,S_] at e);subst e);(refine ax (Int.eq_ofNat_of_zero_le h01) fun pos j'=>?_;subst j');refine ah rfl ?_;refine aP jN iV ?_;refine ap rfl ?_;refine a_ (own:=dk d c ms3 m (τ2+1)) (a':=[]) (lq (b:=3) Φ.wd ⟨hm1,hm2⟩ (Ge ht1 ht2) Ad hms3) (zt hR hn) (.refl _) (fun _ h=>h.elim) ?_;(intro _ _ _ j' _ led' e1;refine eC (j') fun r2 ms4 th h02 h12 K0 hms4 to=>?_;subst th;subst to);have K0:=K0.symm;subst K0;(rename _++_=_=>e;(try dsimp only [S9,S_] at e);subst e);(refine ax (Int.eq_ofNat_of_zero_le h02) fun way j'=>?_;subst j');refine af ?_;refine(aN rfl (by exact Ta rfl) ?_);refine aW (aJ ?_);refine aL rfl ?_;refine aW (aJ ?_);refine aL rfl ?_;refine cu ?_;refine ae (aI rfl ?_);refine aP d_ trivial ?_;refine ah (by exact rfl) ?_;refine bL ?_;refine ah rfl ?_;refine aP nJ lY ?_;refine ap rfl ?_;refine a_ (own:=dk d c ms4 m (τ2+1+1)) (a':=[]) (Dn Φ.wd ⟨hm1,hm2⟩ (Gd ht1 ht2) (by decide) hms4) (Gc hR hn) (.refl _) (fun _ h=>h.elim) ?_;(intro _ _ _ j' _ led' e1;refine fw (j') fun y ms5 hy th K0 hms5 to=>?_;subst th;subst to);have K0:=K0.symm;subst K0;(rename _++_=_=>e;(try dsimp only [S9,S_] at e);subst e);refine af ?_;refine⟨by exact Ta rfl,fun lb SW=>?_⟩;refine af ?_;refine fe (ns:=[(y.toNat:Int)]) (.inl (To _ (SZ ..))) (by intro n' Sn;have:=y.toNat_lt;rw [Ti] at Sn;exact Gb Sn this) (by dsimp;exact o2 F0) ?_;rw [show([(y.toNat:Int)].map fun n=>n.toNat.toUInt8)=[y] from by simp];refine aL rfl ?_;refine ae ?_
  with_reducible refine aI ?_ ?_
  ·rfl
  refine TG.mono (Q:=fun v g4 vs4 Sq=>g4=g/\vs4=([("script",some (.ref s)),("deck",some (.ref d)),("text",some (.bytes x)),("at",some (.int (pos:Nat))),("way",some (.int (way:Nat))),("fresh",some (.bytes [y])),("bent",none)]:LV)/\Sq=[]/\∃bx:BS,v=AV.bytes bx/\df bx 129 13) ?_ ?_ (fun _ _ _ z=>z);have hy1:df [y] 1 1:=by
   have hall:([39,34,123,125,59,10,32,35,97,126,36]:BS).all (fun b=>b !=9&&b !=13&&b !=37)=true:=by decide
   have:=TW.mp hall y hy;simp only [Bool.and_eq_true,bne_iff_ne] at this;refine⟨by exact Tj _,?_,fun b hb=>?_⟩
   ·unfold cW;exact List.countP_le_length
   ·rw [Ti.mp hb];exact(aN this.1.1 this.1.2 this.2)
  ·refine TG.postless ?_;have hlen:=oY x;refine cw (aC rfl (am (fun _=>ak (cR (aa aQ (gN hxz (gi (bP (aa dc (dQ (cR (aa aQ (gN hxz (bP (dJ rfl (dQ (gi ?_)))))) (fun _ _ _=>rfl) (fun _ _ _=>rfl)))))))) (fun _ _ _=>rfl) (fun _ _ _=>rfl))) (fun _=>ak (ak (cR (aa aQ (gN hxz (gi (bP (aa dc (dQ (aa d7 ?_))))))) (fun _ _ _=>rfl) (fun _ _ _=>rfl))))))
   ·refine dA (by have:=hlen none (some (pos:Int));have:=hlen (some ((pos:Int)+1)) none;exact Ga F0 SB ‹_› this) ?_;refine(dH ([]) (cn (T2 _) rfl rfl rfl (dH _ (cN rfl ?_))));rw [show((pos:Int)+1)=((pos+1:Nat):Int) from by exact z_,tJ,tK];have:=qT (f:=[]) (a:=pos) (b:=pos+1) hx qA ⟨by exact Tn _,by exact Tn _,by exact fun _ h=>absurd h List.not_mem_nil⟩;rw [T7] at this;exact this
   ·refine dA (by have:=hlen none (some (pos:Int));simp only [Tu,TC];exact F_ F0 SB this) ?_;refine cR (aa aQ (gN hxz (bP (dJ rfl (dQ (gi ?_)))))) (fun _ _ _=>rfl) (fun _ _ _=>rfl);rename_i hw0;refine dA (by have:=hlen none (some (pos:Int));have:=hlen (some ((pos:Int)+way-1)) none;simp only [Tf,Tu,TC];exact FZ F0 SB ‹_› this) ?_;refine(dH ([]) (cn (T2 _) rfl rfl rfl (dH _ (cN rfl ?_))));rw [show((pos:Int)+way-1)=((pos+way-1:Nat):Int) from by exact FY SB h01 h11 h02 h12 hw0,tJ,tK];exact qT hx (FX SB h01 h11 h02 h12 hw0) hy1
  ·(intro _ g4 vs4 Sq j';refine cU (j') fun th to Ce El=>ax El fun bx La=>a0 La fun zz4 hbx=>?_;subst th;subst to;subst Ce;subst zz4);have HX:=HR x (FW SB) (by have:=hx.cnt;exact FV this) hx.chr;have HB:=HR bx (by have:=hbx.len;exact FU this) hbx.cnt hbx.chr;refine aL rfl (ae (aS (ch (ib (da rfl ?_)))));refine aP rN pg ?_;refine ap rfl ?_;refine kQ Kd (own:=[]) (a':=[]) (vB Φ.wd HX) (zs hn) (.refl _) (fun _ h=>nomatch h) (fun _ h=>h.elim) ?_;(intro _ g5 _ j' hg5 led' e1;refine a0 (j') fun th to=>?_;subst th;subst to);(rename _++_=_=>e;(try dsimp only [S9,S_] at e);subst e);refine aF (xX (ch (ib (da rfl ?_))));refine aP rN pg ?_;refine ap rfl ?_;refine kQ Kd (own:=[]) (a':=[]) (vB Φ.wd HB) (zs hn) (.refl _) (fun _ h=>nomatch h) (fun _ h=>h.elim) ?_;(intro _ g6 _ j' hg6 led' e1;refine a0 (j') fun th to=>?_;subst th;subst to);(rename _++_=_=>e;(try dsimp only [S9,S_] at e);subst e);refine aF (xX (cL (bd (bq (ag (aE (sd ?_)))))));refine aP rN pg ?_;refine ap rfl ?_;refine kQ Kd (own:=[]) (a':=[]) (vB Φ.wd (HR _ (by decide) (by decide) (df.of (L:=130) (K:=13) (by decide)).chr)) (zs hn) (.refl _) (fun _ h=>nomatch h) (fun _ h=>h.elim) ?_;(intro _ g7 _ j' hg7 led' e1;refine a0 (j') fun th to=>?_;subst th;subst to);(rename _++_=_=>e;(try dsimp only [S9,S_] at e);subst e);refine aF (bv (iC (bg ?_) rfl));have C1:=BU 4 Φ.wd (g:=g7) (t:=[97,35,98]) (r:=[97,35,98]) none (by decide) (Tv _) (by decide);rw [show ps [97,35,98] [97,35,98]=0 from by unfold ps;rfl] at C1;refine aP rO ph ?_;refine ap rfl ?_;refine a_ (own:=[]) (a':=[]) C1 (by have:cW [97,35,98]=0:=rfl;exact FT hR hn this) (.refl _) (fun _ h=>h.elim) ?_;(intro _ g8 _ j' hg8 led' e1;refine cX (j') fun tp xs th to hxx=>?_;subst th;subst to);(rename _++_=_=>e;(try dsimp only [S9,S_] at e);subst e);refine au ?_;rw [B4] at hxx;(refine cB (hxx) fun a1 j' ht1 _=>?_;subst j');refine fK (v:=.ref a1) (.inl ad) (by dsimp;exact o3 Hn) (by decide) (by rfl) (by exact rfl) ?_;refine bL ?_;refine ah rfl ?_;refine bL ?_;refine ah rfl ?_;refine bL ?_;refine ap rfl ?_;refine⟨by exact Ta rfl,fun l1 hl1=>?_⟩;refine af ?_;refine⟨by exact Ta rfl,fun l2 hl2=>?_⟩;refine af ?_;refine⟨by exact Ta rfl,fun l3 SQ=>?_⟩;simp only [S_,S9];have K1:je [.l [.l [.w [97,35,98]]]]=2:=by rfl
   intro va vb r1 r2;have hm:∀p,g8 p->mz (l3,AO.list [.ref l2]) (mz (l2,AO.list [.ref l1]) (mz (l1,AO.list [.bytes [97,35,98]]) g8)) p:=fun p h=>.inr (.inr (.inr h));refine TG.pre (.fz (p:=(l1,.list [.bytes [97,35,98]])) rfl (.tail .head) (.fz (p:=(l2,.list [.ref l1])) rfl (.tail .head) (.fz (p:=(l3,.list [.ref l2])) rfl (.tail .head) .refl))) ?_;refine xy (ts:=[.l [.l [.w [97,35,98]]]]) (ht1.mono hm) (.li (vs:=[.ref l2]) (.inl rfl) (cG.nil.snoc (.li (vs:=[.ref l1]) (.inr (.inl rfl)) (cG.nil.snoc (.li (vs:=[.bytes [97,35,98]]) (.inr (.inr (.inl rfl))) (cG.nil.snoc (.w _))))))) (FS hR hn K1) ?_ va vb r1 r2;refine aO (ql y' ?_);exact(cf _ _ (.less (T2 _) .refl) rfl rfl)
theorem A4 {f:BS} (h:∀x∈f,x.toNat≠37):f∉jb:=by
 intro hm;simp only [jb,T4,List.not_mem_nil,or_false] at hm;rcases hm with rfl|rfl|rfl|rfl<;>exact h 37 (SZ ..) (by decide)
noncomputable def mc (env:Ev) (st:List (Le×Nat)) (lg:Nat) (r:BS) (N:NT):BT->Prop
 | .ok rows r'=>∃K7 cs,lg<=K7/\r'<:+r/\rows=dh cs/\N=(match st with|[]=>.ok cs|(l',_)::st'=>aM env st' (l'.add (.blk cs)) K7 r')
 | .err k=>N= .err k
 | .bad=>False
theorem mc.weak {env:Ev} {st:List (Le×Nat)} {lg lg1:Nat} {r r1:BS} {N:NT} {B:BT} (h:mc env st lg1 r1 N B) (h1:lg<=lg1) (h2:r1<:+r):mc env st lg r N B:=by
 cases B with
 |ok rows r'=>refine dl (h) fun K7 cs a b c d=>?_;exact(bu K7 cs (TO h1 a) (b.trans h2) c d)
 |err k=>exact h
 |bad=>exact h
theorem u4 {n:Nat} (h1:n≠32) (h2:n≠10) (h3:n≠59) (h4:n≠125):dF n=false:=by
 simp [dF,h1,h2,h3,h4]
theorem uB {env:Ev} (hE:∀k,(look env k).length<=3):∀(n:Nat) (r:BS),r.length<=n->(∀x∈r,x.toNat≠37)->∀(st:List (Le×Nat)) (l:Le) (lg:Nat) (gs g c:List Tr),fp l gs g c lg->
 mc env st lg r (aM env st l lg r) (cO env (st.head?.map (·.2)) gs g c r):=by
 intro n;induction n with
 |zero=>
  intro r hr h37 st l lg gs g c R;cases r with
  |cons a r=>simp at hr
  |nil=>
   rw [iz,hM];cases st with
   |nil=>exact(bu lg l.done (Tj _) (Tv _) R.rows.symm rfl)
   |cons p st=>rfl
 |succ n ih=>
  intro r hr h37 st l lg gs g c R;cases r with
  |nil=>
   rw [iz,hM];cases st with
   |nil=>exact(bu lg l.done (Tj _) (Tv _) R.rows.symm rfl)
   |cons p st=>rfl
  |cons a r=>
   have hr:r.length<=n:=by simp at hr;exact hr
   have h37r:∀x∈r,x.toNat≠37:=fun x hx=>h37 x (Td _ hx);have hc:=T8 a r;have go:∀(r2:BS) (l2:Le) (lg2:Nat) (gs2 g2 c2:List Tr),r2<:+r->lg<=lg2->fp l2 gs2 g2 c2 lg2->mc env st lg (a::r) (aM env st l2 lg2 r2) (cO env (st.head?.map (·.2)) gs2 g2 c2 r2):=
    fun r2 l2 lg2 gs2 g2 c2 h1 h2 h3=>(ih r2 (TO h1.length_le hr) (fun x hx=>h37r x (h1.subset hx)) st l2 lg2 gs2 g2 c2 h3).weak h2 (h1.trans hc)
   by_cases q1:a.toNat=123
   ·have q35:¬a.toNat=35:=by exact LO q1
    have q125:¬a.toNat=125:=by exact LM q1
    have q10:¬a.toNat=10:=by exact LK q1
    have q59:¬a.toNat=59:=by exact LJ q1
    have q32:¬a.toNat=32:=by exact LI q1
    have q92:¬(a.toNat=92/\dy 10 r=true):=by exact Fp q1
    rw [bT,Tk q1,dr,Tc q35,Tc q125,Tc q10,Tc q59,Tc q32,Tc q92,Tk q1];have hi:=R.isE;cases hcm:l.cmd with
    |none=>
     rw [hcm] at hi;rw [Tk (show c.isEmpty=true from hi)];rfl
    |some ws=>
     rw [hcm] at hi;rw [Tc (show ¬c.isEmpty=true from by rw [hi];exact Bool.false_ne_true)];have I:=ih r hr h37r ((l,r.length+1)::st) ⟨[],none,lg+1⟩ (lg+1) [] [] [] (fp.new _);dsimp only [List.head?_cons,Option.map_some] at I;dsimp only;cases hb:cO env (some (r.length+1)) [] [] [] r with
     |bad=>rw [hb] at I;exact I
     |err k=>rw [hb] at I;exact I
     |ok rows r'=>
      rw [hb] at I;refine dl (I) fun K7 cs i1 i2 i3 i4=>?_;dsimp only at i4 ⊢;rw [i4,dif_pos i2.length_le];have R2:=(R.up (show lg<=K7 by exact o9 i1)).add (.blk cs);have e:wT (.blk cs)= .l rows:=congrArg Tr.l i3.symm;rw [e] at R2;exact go r' _ _ _ _ _ i2 (o9 i1) R2
   by_cases q2:a.toNat=125
   ·have q35:¬a.toNat=35:=by exact z8 q2
    rw [bT,Tc q1,Tk q2,dr,Tc q35,Tk q2];cases st with
    |nil=>rfl
    |cons p st=>
     obtain⟨l',k'⟩:=p;exact(bu lg l.done (Tj _) hc R.rows.symm rfl)
   by_cases q3:a.toNat=35
   ·rw [bT,Tc q1,Tc q2,Tk q3,dr,Tk q3];exact go _ _ _ _ _ _ (List.dropWhile_suffix _) (Tj _) R
   by_cases q4:a.toNat=10
   ·have q92:¬(a.toNat=92/\dy 10 r=true):=by exact Fo q4
    rw [bT,Tc q1,Tc q2,Tc q3,Tc q92,Tk q4,dr,Tc q3,Tc q2,Tk q4];exact go _ _ _ _ _ _ (Tv _) qA R.line
   by_cases q5:a.toNat=59
   ·have q92:¬(a.toNat=92/\dy 10 r=true):=by exact Fn q5
    rw [bT,Tc q1,Tc q2,Tc q3,Tc q92,Tc q4,Tk q5,dr,Tc q3,Tc q2,Tc q4,Tk q5];exact go _ _ _ _ _ _ (Tv _) (Tj _) R.semi
   by_cases q6:a.toNat=32
   ·have q92:¬(a.toNat=92/\dy 10 r=true):=by exact Fm q6
    rw [bT,Tc q1,Tc q2,Tc q3,Tc q92,Tc q4,Tc q5,Tk q6,dr,Tc q3,Tc q2,Tc q4,Tc q5,Tk q6];exact go _ _ _ _ _ _ (Tv _) (Tj _) R
   by_cases q7:a.toNat=92/\dy 10 r=true
   ·rw [bT,Tc q1,Tc q2,Tc q3,Tk q7,dr,Tc q3,Tc q2,Tc q4,Tc q5,Tc q6,Tk q7];exact go _ _ _ _ _ _ (iI r) (Tj _) R
   rw [bT,Tc q1,Tc q2,Tc q3,Tc q7,Tc q4,Tc q5,Tc q6,dr,Tc q3,Tc q2,Tc q4,Tc q5,Tc q6,Tc q7,Tc q1];cases hw:bO env true true [] (a::r) with
   |err k=>rfl
   |ok f b r'=>
    refine cU (gW hE hw) fun f1 f2 f3 f4=>?_;have hl:=f4 a r rfl (u4 q6 q4 q5 q2);have hs:r'<:+r:=List.suffix_of_suffix_length_le f1 hc hl;dsimp only;rw [dif_pos hl,dif_pos hl,Tc (fun zp45=>a0 zp45 fun hb hd=>A4 (fun x hx=>by
     rcases (f3 hb).2 x hx with z|z
     ·cases z
     ·exact h37 x z) hd)]
    have e:wT (.w f)= .w f:=rfl;have R2:=R.add (.w f);rw [e] at R2;exact go _ _ _ _ _ _ hs (Tj _) R2
mutual
noncomputable def kW:Nd->Nat
 | .w b=>4*b.length+2
 | .blk cs=>fS cs+4
 | .cmd _ ws=>fS ws
noncomputable def fS:List Nd->Nat
 |[]=>0
 |c::r=>kW c+3+fS r
end
theorem qp (a b:List Nd):fS (a++b)=fS a+fS b:=by
 induction a with
 |nil=>exact(Nat.zero_add _).symm
 |cons x a ih=>exact(congrArg (kW x+3+·) ih).trans (Nat.add_assoc ..).symm
theorem oW (a b:List Nd):cK (a++b)=Nat.max (cK a) (cK b):=by
 induction a with
 |nil=>exact(Nat.max_eq_right (Tn _)).symm
 |cons x a ih=>exact(congrArg (Nat.max (fR x)) ih).trans Fl
theorem yl (b:BS):(eO b).length<=4*b.length+2:=by
 unfold eO;by_cases h:gF b=true
 ·rw [Tk h];exact LH
 ·rw [Tc h,Tf,Tu];exact LG (ik b)
theorem u1 (Mm:BS) (hs:Mm.length<=3) (ws:List Nd) (h:∀w∈ws,(bH w).length<=kW w):(fk Mm (ir ws)).length<=fS ws:=by
 induction ws with
 |nil=>exact Tn _
 |cons x r ih=>
  have ih:=ih fun w hw=>h w (Td _ hw);have h1:=h x (SZ ..);cases r with
  |nil=>exact LB h1
  |cons y r=>
   show(bH x++Mm++fk Mm (ir (y::r))).length<=kW x+3+fS (y::r);rw [Tf,Tf];exact LA hs h1 ih
noncomputable def j9 (p:Option Nat) (n:Nat):BS:=match p with|none=>[]|some p=>if n=p then [32,59,32] else [10]
theorem iu (p:Option Nat) (c:Nd) (r:List Nd):cg p (c::r)=j9 p c.num++bH c++cg (some c.num) r:=rfl
theorem zg (p:Option Nat) (n:Nat):(j9 p n).length<=3:=by
 cases p with
 |none=>exact Tn _
 |some p=>
  show(if n=p then [32,59,32] else [10]:BS).length<=3
  by_cases h:n=p
  ·rw [Tk h];exact Tj _
  ·rw [Tc h];exact Ta rfl
theorem oa (cs:List Nd) (p:Option Nat) (h:∀w∈cs,(bH w).length<=kW w):(cg p cs).length<=fS cs:=by
 induction cs generalizing p with
 |nil=>exact Tn _
 |cons c r ih=>
  rw [iu,Tf,Tf];exact Lz (h c (SZ ..)) (ih (some c.num) fun w hw=>h w (Td _ hw)) (zg p c.num)
theorem ym (n:Nd):(bH n).length<=kW n:=
 n.ind yl (fun cs h=>by
  show([123,32]++cg none cs++[32,125]:BS).length<=fS cs+4;rw [Tf,Tf];exact Ly (oa cs none h)) fun _ ws h=>u1 [32] (by decide) ws h
theorem sR (cs:List Nd):(cg none cs).length<=fS cs:=oa cs none fun w _=>ym w
structure gU (l:Le):Prop where
 cs:∀c∈l.cs,WF true c
 cmd:∀ws,l.cmd=some ws->∃b SH,ws= .w b::SH/\∀w∈SH,WF false w
noncomputable def m0 (l:Le):Nat:=fS l.cs+match l.cmd with|none=>0|some ws=>fS ws+3
noncomputable def lR (l:Le):Nat:=Nat.max (cK l.cs) (match l.cmd with|none=>0|some ws=>cK ws)
theorem gU.done {l:Le} (h:gU l):∀c∈l.done,WF true c:=by
 obtain⟨cs,cmd,gr⟩:=l;obtain⟨h1,h2⟩:=h;cases cmd with
 |none=>exact h1
 |some ws=>
  intro c hc;rcases T3.mp hc with hc|hc
  ·exact h1 c hc
  ·(refine eU (h2 ws rfl) fun b SH j' h3=>?_;subst j');rw [Ti.mp hc];exact .cmd gr b SH h3
theorem gU.line {l:Le} (h:gU l) (n:Nat):gU ⟨l.done,none,n⟩:=⟨h.done,fun ws e=>by cases e⟩
theorem gU.word {l:Le} (h:gU l) (b:BS):gU (l.add (.w b)):=by
 obtain⟨cs,cmd,gr⟩:=l;obtain⟨h1,h2⟩:=h;cases cmd with
 |none=>exact⟨h1,fun ws e=>by cases e;exact(cT b ([]) rfl (fun w hw=>nomatch hw))⟩
 |some ws=>
  (refine eU (h2 ws rfl) fun b' SH j' h3=>?_;subst j');refine⟨h1,fun ws e=>by
   cases e;refine(cT b' (SH++[.w b]) rfl (fun w hw=>?_));rcases T3.mp hw with hw|hw
   ·exact h3 w hw
   ·rw [Ti.mp hw];exact .w b⟩
theorem gU.blk {l:Le} (h:gU l) (hn:l.cmd≠none) {ds:List Nd} (hd:∀c∈ds,WF true c):gU (l.add (.blk ds)):=by
 obtain⟨cs,cmd,gr⟩:=l;obtain⟨h1,h2⟩:=h;cases cmd with
 |none=>exact absurd rfl hn
 |some ws=>
  (refine eU (h2 ws rfl) fun b' SH j' h3=>?_;subst j');refine⟨h1,fun ws e=>by
   cases e;refine(cT b' (SH++[.blk ds]) rfl (fun w hw=>?_));rcases T3.mp hw with hw|hw
   ·exact h3 w hw
   ·rw [Ti.mp hw];exact .blk ds hd⟩
theorem lf (l:Le):fS l.done=m0 l:=by
 obtain⟨cs,cmd,gr⟩:=l;cases cmd with
 |none=>rfl
 |some ws=>exact qp cs [.cmd gr ws]
theorem uF (l:Le) (n:Nat):m0 ⟨l.done,none,n⟩=m0 l:=by show fS l.done+0=_;rw [lf];rfl
theorem qo (l:Le) (w:Nd):m0 (l.add w)<=m0 l+kW w+6:=by
 obtain⟨cs,cmd,gr⟩:=l;cases cmd with
 |none=>exact Lx (b:=kW w)
 |some ws=>show fS cs+(fS (ws++[w])+3)<=fS cs+(fS ws+3)+kW w+6;rw [qp];exact Lw (c:=kW w)
theorem ll (l:Le):cK l.done=lR l:=by
 obtain⟨cs,cmd,gr⟩:=l;cases cmd with
 |none=>exact(Nat.max_eq_left (Tn _)).symm
 |some ws=>
  show cK (cs++[.cmd gr ws])=Nat.max (cK cs) (cK ws);rw [oW];exact Fk
theorem vh (l:Le) (n:Nat):lR ⟨l.done,none,n⟩=lR l:=by
 show Nat.max (cK l.done) 0=_;rw [ll];exact Nat.max_eq_left (Tn _)
theorem qP (l:Le) (w:Nd):lR (l.add w)<=Nat.max (lR l) (fR w):=by
 obtain⟨cs,cmd,gr⟩:=l;cases cmd with
 |none=>show Nat.max (cK cs) (cK [w])<=Nat.max (Nat.max (cK cs) 0) (fR w);exact Fj
 |some ws=>show Nat.max (cK cs) (cK (ws++[w]))<=Nat.max (Nat.max (cK cs) (cK ws)) (fR w);rw [oW];exact Fi
structure gH (st:List (Le×Nat)) (l:Le) (S K:Nat):Prop where
 ol:gU l
 ost:∀p∈st,gU p.1/\p.1.cmd≠none
 sz:(st.map (fun p=>m0 p.1)).sum+m0 l<=S
 dp:(st.map (fun p=>lR p.1+1)).sum+lR l<=K
theorem Di {α:Type} {p:Prop} [Decidable p] {a:p->α} {b:¬p->α} {x:α} {G:Prop} (h:dite p a b=x) (k:∀q,a q=x->G) (l:∀q,b q=x->G):G:=
 (Decidable.em p).elim (fun q=>k q ((dif_pos q).symm.trans h)) fun q=>l q ((dif_neg q).symm.trans h)
structure Ej (cs:List Nd) (r:BS) (S K:Nat):Prop where
 wf:∀c∈cs,WF true c
 sz:fS cs<=S+20*r.length
 dp:cK cs<=K+cW r
theorem gH.push {st l S K} (H:gH st l S K) (hn:l.cmd≠none) (k g:Nat):gH ((l,k)::st) ⟨[],none,g⟩ S (K+1):=by
 refine⟨⟨fun c h=>(by cases h),fun ws e=>(by cases e)⟩,fun p hp=>(T4.mp hp).elim (fun e=>by rw [e];exact⟨H.ol,hn⟩) (H.ost p),?_,?_⟩
 ·rw [TM,List.sum_cons];exact Lo H.sz
 ·rw [TM,List.sum_cons];exact Ln H.dp
theorem gH.pop {l' k' st l S K} (H:gH ((l',k')::st) l S K):gH st (l'.add (.blk l.done)) (S+10) K:=by
 have hp:=H.ost (l',k') (SZ ..);have h1:=H.sz;have h2:=H.dp;rw [TM,List.sum_cons] at h1 h2;refine⟨hp.1.blk hp.2 H.ol.done,fun p hp=>H.ost p (Td _ hp),?_,?_⟩
 ·refine Lj h1 (c:=m0 l) ?_;rw [←lf l];exact qo l' (.blk l.done)
 ·have this:lR (l'.add (.blk l.done))<=Nat.max (lR l') (cK l.done+1):=qP l' (.blk l.done);rw [ll] at this;exact Li h2 this Fh
theorem gH.ln {st l S K} (H:gH st l S K) (n:Nat):gH st ⟨l.done,none,n⟩ S K:=⟨H.ol.line _,H.ost,by rw [uF];exact H.sz,by rw [vh];exact H.dp⟩
theorem gH.wd {st l S K} (H:gH st l S K) (f:BS):gH st (l.add (.w f)) (S+(4*f.length+8)) K:=
 ⟨H.ol.word f,H.ost,Ld H.sz (qo l (.w f)),K_ H.dp (qP l (.w f)) (Nat.max_eq_left (Tn _))⟩
theorem rm {env:Ev} (hE:∀k,(look env k).length<=3) {r:BS} {st:List (Le×Nat)} {l:Le} {lg S K:Nat} (H:gH st l S K) {cs:List Nd} (h:aM env st l lg r= .ok cs):Ej cs r S K:=by
 generalize hn:r.length=n;induction n using Nat.strongRecOn generalizing r st l lg S K with
 |ind n ih=>
  subst hn;cases r with
  |nil=>
   rw [hM] at h;cases st with
   |cons p st=>cases h
   |nil=>
    cases h;have h1:=H.sz;have h2:=H.dp;rw [List.map_nil,List.sum_nil,Nat.zero_add] at h1 h2;exact⟨H.ol.done,TO (Nat.le_of_eq (lf l)) h1,TO (Nat.le_of_eq (ll l)) (TO h2 (Nat.le_add_right ..))⟩
  |cons a r=>
   have go:∀{r2:BS} {st2:List (Le×Nat)} {l2:Le} {lg2 S2 K2:Nat},r2<:+r->gH st2 l2 S2 K2->S2+20*r2.length<=S+20*(r.length+1)->K2+cW r<=K+cW (a::r)->aM env st2 l2 lg2 r2= .ok cs->Ej cs (a::r) S K:=
    fun h1 h2 h3 h4 h5=>(ih _ (TD h1.length_le) h2 h5 rfl).casesOn fun a1 a2 a3=>⟨a1,Lv h3 a2,Lr h4 a3 (lh h1)⟩
   have hm:K+cW r<=K+cW (a::r):=Qp (lh (T8 a r));rw [bT] at h;refine dR h (fun q1 h=>?_) fun _ h=>dR h (fun _ h=>?_) fun _ h=>dR h (go (List.dropWhile_suffix _) H (AI (List.dropWhile_suffix _).length_le) hm|>fun z _=>z) fun _ h=>dR h (go (iI r) H (AI (iI r).length_le) hm|>fun z _=>z) fun _ h=>
    dR h (go (Tv _) (H.ln _) v8 hm|>fun z _=>z) fun _ h=>dR h (go (Tv _) (H.ln _) v8 hm|>fun z _=>z) fun _ h=>dR h (go (Tv _) H v8 hm|>fun z _=>z) fun _ h=>?_
   ·cases hcm:l.cmd with
    |none=>rw [hcm] at h;cases h
    |some ws=>
     rw [hcm] at h;exact go (Tv _) (H.push (hcm▸Option.some_ne_none _) _ _) v8 (by rw [m8,Tk q1];exact Lq) h
   ·cases st with
    |nil=>cases h
    |cons p st=>exact go (Tv _) H.pop Lm hm h
   ·cases hw:bO env true true [] (a::r) with
    |err=>rw [hw] at h;cases h
    |ok f b r'=>
     rw [hw] at h;refine dR h (fun _ h=>by cases h) fun _ h=>Di h (fun hl h=>?_) fun _ h=>by cases h
     refine cU (gW hE hw) fun f1 f2 _ _=>?_;exact go (List.suffix_of_suffix_length_le f1 (T8 a r) hl) (H.wd f) (Lh hl f2) hm h
theorem kX {env:Ev} (hE:∀k,(look env k).length<=3) (r:BS) (cs:List Nd) (h:aM env [] ⟨[],none,0⟩ 0 r= .ok cs):(∀c∈cs,WF true c)/\fS cs<=20*r.length/\cK cs<=cW r:=
 (rm hE (S:=0) (K:=0) (st:=[]) (l:=⟨[],none,0⟩) ⟨⟨fun c hc=>(by cases hc),fun ws e=>(by cases e)⟩,fun p hp=>(by cases hp),Tj _,Tj _⟩ h).casesOn fun a b c=>aN a (KZ b) (KY c)
theorem oX {l:List Tr} {k:Nat} (h:∀x∈l,dT x<=k):je l<=k:=by
 induction l with
 |nil=>exact Tn _
 |cons x l ih=>exact Nat.max_le.mpr ⟨h x (SZ ..),ih fun y hy=>h y (Td _ hy)⟩
theorem mB {l:List Nd} {k:Nat} (h:∀x∈l,fR x<=k):cK l<=k:=by
 induction l with
 |nil=>exact Tn _
 |cons x l ih=>exact Nat.max_le.mpr ⟨h x (SZ ..),ih fun y hy=>h y (Td _ hy)⟩
theorem oG (l:List (Nat×Tr)):(grp l).flatten=l.map (·.2):=by
 induction l with
 |nil=>rfl
 |cons p r ih=>
  cases p with
  |mk n t=>
   cases r with
   |nil=>rfl
   |cons q r=>
    cases q with
    |mk m u=>
     rw [et,TM,←ih];by_cases h:m=n
     ·rw [Tk h];cases hg:grp ((m,u)::r) with
      |nil=>exact absurd hg (tz _ _)
      |cons x xs=>rfl
     ·rw [Tc h];rfl
theorem yx (l:List (Nat×Tr)) (x:List Tr) (t:Tr) (h:x∈grp l) (ht:t∈x):∃p∈l,p.2=t:=List.mem_map.mp (oG l▸List.mem_flatten.mpr ⟨x,h,ht⟩)
theorem yo (l:List (Nat×Tr)) (p:Nat×Tr) (h:p∈l):∃x∈grp l,p.2∈x:=List.mem_flatten.mp (oG l▸TP h)
theorem x7 (l:List Nd) (t:Tr) (h:t∈dO l):∃x∈l,t=wT x:=aw (List.mem_map.mp (iZ l▸h)) fun x hx e=>aj x hx e.symm
theorem yn (l:List Nd) (x:Nd) (h:x∈l):wT x∈dO l:=iZ l▸TP h
theorem uU (l:List Nd) (x:Nd) (h:x∈l):(x.num,wT x)∈dE l:=iO l▸TP (f:=fun c=>(c.num,wT c)) h
theorem ta (a:List Nd) (p:Nat×Tr) (h:p∈dE a):∃x∈a,p=(x.num,wT x):=aw (List.mem_map.mp (iO a▸h)) fun x hx e=>aj x hx e.symm
theorem qt {cs:List Nd} {k:Nat} (h:∀c∈cs,dT (wT c)<=k):je (dh cs)<=k+1:=by
 refine oX fun x hx=>?_;(refine aw (List.mem_map.mp hx) fun y hy j'=>?_;subst j');refine Nat.succ_le_succ (oX fun t ht=>?_);(refine aw (yx _ _ _ hy ht) fun p hp j'=>?_;subst j');(refine aw (ta _ _ hp) fun c hc j'=>?_;subst j');exact h c hc
theorem qu {cs:List Nd} {c:Nd} (h:c∈cs):dT (wT c)+1<=je (dh cs):=by
 refine aw (yo _ _ (uU cs c h)) fun x hx ht=>?_;have h1:Tr.l x∈dh cs:=List.mem_map.mpr (aj x hx rfl);exact KW (iF h1) (iF ht)
theorem Dj {b:Bool} {n:Nd} (h:WF b n):dT (wT n)<=3*fR n+(if b=true then 1 else 0):=by
 induction h with
 |w b=>exact Tn _
 |blk cs h ih=>
  have:je (dh cs)<=(3*cK cs+1)+1:=qt fun c hc=>by
   have h1:=ih c hc;have h2:=f0 hc;rw [Tk rfl] at h1;exact AH h2 h1
  exact KV this
 |cmd n b ws h ih=>
  refine Nat.succ_le_succ (oX fun t ht=>?_);(refine aw (x7 _ _ ht) fun x hx j'=>?_;subst j');have h2:=f0 hx;rcases T4.mp hx with rfl|hx
  ·exact Tn _
  ·have h1:=ih x hx;rw [Tc Bool.false_ne_true] at h1;exact KU h2 h1
theorem uJ {cs:List Nd} (h:∀c∈cs,WF true c):je (dh cs)<=3*cK cs+2:=
 qt fun c hc=>by
  have h1:=Dj (h c hc);have h2:=f0 hc;rw [Tk rfl] at h1;exact AH h2 h1
theorem By {b:Bool} {n:Nd} (h:WF b n):fR n<=dT (wT n):=by
 induction h with
 |w b=>exact Tn _
 |blk cs h ih=>
  refine Nat.succ_le_succ (mB fun c hc=>?_);have h1:=ih c hc;have h2:=qu hc;exact AG h1 h2
 |cmd n b ws h ih=>
  refine mB fun c hc=>?_;have h3:=iF (yn _ _ hc);rcases T4.mp hc with rfl|hc
  ·exact Tn _
  ·have h1:=ih c hc;exact KT h3 h1
theorem vq {cs:List Nd} (h:∀c∈cs,WF true c):cK cs<=je (dh cs):=
 mB fun c hc=>by
  have h1:=By (h c hc);have h2:=qu hc;exact AG h1 h2
noncomputable def gK (r:BS):Prop:=∀c d,r=c::d->dF c.toNat=true
theorem mX (env:Ev) (s b:Bool) (f:BS) {r:BS} (h:gK r):bO env s b f r= .ok f b r:=by
 cases r with
 |nil=>rw [jv]
 |cons c d=>rw [ev,Tk (h c d rfl)]
theorem m3 (c:UInt8):dW c=true->dF c.toNat=false/\c.toNat≠39/\c.toNat≠34/\c.toNat≠92/\c.toNat≠36/\c.toNat≠123/\c.toNat≠35:=
 jr (P:=fun c=>dW c=true->dF c.toNat=false/\c.toNat≠39/\c.toNat≠34/\c.toNat≠92/\c.toNat≠36/\c.toNat≠123/\c.toNat≠35) (by decide+kernel) c
theorem t_ (env:Ev) (bare:Bool) (b a' f:BS) (start:Bool) (hb:∀c∈b,dW c=true) (hs:start=true->∀c d,b=c::d->c.toNat≠126) (hr:gK a'):bO env start bare f (b++a')= .ok (f++b) bare a':=by
 induction b generalizing f start with
 |nil=>rw [S_,T7];exact mX env start bare f hr
 |cons c b ih=>
  refine jd (m3 c (hb c (SZ ..))) fun h1 h2 h3 h4 h5 _ _=>?_;rw [S9,ev,Tc (by rw [h1];decide),Tc h2,Tc h3,Tc h4,Tc h5,Tc (fun e=>hs e.2 c b rfl e.1)];rw [ih (f++[c]) false (fun x hx=>hb x (Td _ hx)) (fun z=>Bool.noConfusion z),Tw];rfl
noncomputable def uP (c:UInt8):Bool:=db ([(48+c.toNat/64).toUInt8,(48+c.toNat/8%8).toUInt8,(48+c.toNat%8).toUInt8]:BS)==some c.toNat
theorem uO (c:UInt8):uP c=true:=jr (P:=fun c=>uP c=true) (by decide+kernel) c
theorem sX {a b c:UInt8} {r:BS}:db (a::b::c::r)=db [a,b,c]:=rfl
theorem tE (c:UInt8) (r:BS):cp ((48+c.toNat/64).toUInt8::(48+c.toNat/8%8).toUInt8::(48+c.toNat%8).toUInt8::r)=([c],r):=by
 have h:=uO c;unfold uP at h;have h:db ([(48+c.toNat/64).toUInt8,(48+c.toNat/8%8).toUInt8,(48+c.toNat%8).toUInt8]:BS)=some c.toNat:=by simpa using h
 rw [lJ (sX.trans h)];show([c.toNat.toUInt8],r)=_;rw [show c.toNat.toUInt8=c from by exact UInt8.ofNat_toNat]
theorem yC {c:UInt8} (hc:c.toNat=34\/c.toNat=36\/c.toNat=92) (r:BS):cp (c::r)=([c],r):=by
 have ho:db (c::r)=none:=by
  cases r with
  |nil=>rfl
  |cons a r=>
   cases r with
   |nil=>rfl
   |cons b r=>rw [mv,Tc (KS hc)]
 rw [kj ho,Tc (KR hc)];have e:(gS c.toNat).toUInt8=c:=by
  rcases hc with h|h|h<;>(rw [h];have:c=c.toNat.toUInt8:=(by simp);rw [this,h];rfl)
 rw [e]
theorem Bw (env:Ev) (f:BS) (c:UInt8) (r:BS):dX env f (ej c++r)=dX env (f++[c]) r:=by
 unfold ej;by_cases h1:c.toNat=34\/c.toNat=36\/c.toNat=92
 ·rw [Tk h1,S9,S9,S_,iR,Tc (by decide),Tk (by decide),Tc (by exact Bool.false_ne_true),yC h1]
 ·rw [Tc h1];by_cases h2:c.toNat<32\/c.toNat=127
  ·rw [Tk h2,S9,S9,S9,S9,S_,iR,Tc (by decide),Tk (by decide),Tc (by exact Bool.false_ne_true),tE]
  ·rw [Tc h2,S9,S_,iR,Tc (KQ h1 h2),Tc (KP h1 h2),Tc (KO h1 h2)]
theorem yG (env:Ev) (b f a':BS):dX env f (b.flatMap ej++34::a')= .ok (f++b) a':=by
 induction b generalizing f with
 |nil=>rw [List.flatMap_nil,S_,iR,Tk (by decide),T7]
 |cons c b ih=>rw [List.flatMap_cons,Tw,Bw,ih (f++[c]),Tw];rfl
theorem nk {b:BS} (h:gF b=true):∃c d,b=c::d/\c.toNat≠37/\c.toNat≠126/\∀x∈b,dW x=true:=by
 cases b with
 |nil=>cases h
 |cons c d=>
  refine a0 (Bool.and_eq_true _ _▸h) fun h1 h2=>?_;have h1:¬c.toNat=37/\¬c.toNat=126:=by simpa using h1
  exact(bu c d rfl h1.1 h1.2 (fun x hx=>TW.mp h2 x hx))
theorem lA (env:Ev) (b a':BS) (hr:gK a') (st:List (Le×Nat)) (l:Le) (lg:Nat):aM env st l lg (eO b++a')=aM env st (l.add (.w b)) lg a':=by
 by_cases hq:gF b=true
 ·have e:eO b=b:=by unfold eO;rw [Tk hq]
  (refine dl (nk hq) fun c d j' h37 F4 hp=>?_;subst j');have hw:bO env true true [] (c::(d++a'))= .ok (c::d) true a':=t_ env true (c::d) a' [] true hp (by rintro-_ _ e;cases e;exact F4) hr;refine jd (m3 c (hp c (SZ ..))) fun p1 p2 p3 p4 p5 p6 p7=>?_;have q:c.toNat≠32/\c.toNat≠10/\c.toNat≠59/\c.toNat≠125:=by
   simp only [dF,Bool.or_eq_false_iff,beq_eq_false_iff_ne] at p1;exact(bJ p1.1.1.1 p1.1.1.2 p1.1.2 p1.2)
  rw [e,S9,bT,Tc p6,Tc q.2.2.2,Tc p7,Tc (fun z=>p4 z.1),Tc q.2.1,Tc q.2.2.1,Tc q.1,hw];dsimp only;rw [Tc,dif_pos (by simp)];(intro j';refine a0 (j') fun _ hd=>?_);simp only [jb,T4,List.not_mem_nil,or_false] at hd;rcases hd with hd|hd|hd|hd<;>·injection hd with h1 h2;exact h37 (by rw [h1];rfl)
 ·have e:eO b=34::b.flatMap ej++[34]:=by unfold eO;rw [Tc hq]
  have hw:bO env true true [] (34::(b.flatMap ej++34::a'))= .ok b false a':=by
   rw [ev,Tc (by decide),Tc (by decide),Tk (by decide),yG];dsimp only;rw [dif_pos (by simp;exact AE),mX env _ _ _ hr];rfl
  have e2:eO b++a'=34::(b.flatMap ej++34::a'):=by rw [e];exact Tw ..
  rw [e2,bT,Tc (by decide),Tc (by decide),Tc (by decide),Tc (by exact of_decide_eq_false rfl),Tc (by decide),Tc (by decide),Tc (by decide),hw];dsimp only;rw [Tc (by exact fun h=>Bool.noConfusion h.1),dif_pos (by simp;exact AE)]
theorem j_ (env:Ev) (st:List (Le×Nat)) (l:Le) (lg:Nat) (r:BS):aM env st l lg (32::r)=aM env st l lg r:=by
 rw [bT,Tc (by decide),Tc (by decide),Tc (by decide),Tc (by exact of_decide_eq_false rfl),Tc (by decide),Tc (by decide),Tk (by decide)]
theorem zh (env:Ev) (st:List (Le×Nat)) (l:Le) (lg:Nat) (r:BS):aM env st l lg (59::r)=aM env st ⟨l.done,none,l.grp⟩ lg r:=by
 rw [bT,Tc (by decide),Tc (by decide),Tc (by decide),Tc (by exact of_decide_eq_false rfl),Tc (by decide),Tk (by decide)]
theorem zi (env:Ev) (st:List (Le×Nat)) (l:Le) (lg:Nat) (r:BS):aM env st l lg (10::r)=aM env st ⟨l.done,none,lg+1⟩ (lg+1) r:=by
 rw [bT,Tc (by decide),Tc (by decide),Tc (by decide),Tc (by exact of_decide_eq_false rfl),Tk (by decide)]
theorem yk (env:Ev) (st:List (Le×Nat)) (l:Le) (lg:Nat) (r:BS) (h:l.cmd≠none):aM env st l lg (123::r)=aM env ((l,r.length+1)::st) ⟨[],none,lg+1⟩ (lg+1) r:=by
 rw [bT,Tk (by decide)];cases hc:l.cmd with
 |none=>exact absurd hc h
 |some ws=>rfl
theorem yj (env:Ev) (st:List (Le×Nat)) (l l':Le) (k:Nat) (lg:Nat) (r:BS):aM env ((l',k)::st) l lg (125::r)=aM env st (l'.add (.blk l.done)) lg r:=by
 rw [bT,Tc (by decide),Tk (by decide)]
noncomputable def PW (n:Nd):Prop:=∀(env:Ev) (st:List (Le×Nat)) (l:Le) (lg:Nat) (a':BS),gK a'->l.grp<=lg->(l.cmd≠none\/∃b,n= .w b)->
 ∃n' K7,lg<=K7/\wT n'=wT n/\aM env st l lg (bH n++a')=aM env st (l.add n') K7 a'
noncomputable def PC (n:Nd):Prop:=∀(env:Ev) (st:List (Le×Nat)) (cs:List Nd) (G lg:Nat) (a':BS),gK a'->G<=lg->
 ∃SH K7,lg<=K7/\wT n= .l (dO SH)/\aM env st ⟨cs,none,G⟩ lg (bH n++a')=aM env st ⟨cs,some SH,G⟩ K7 a'
noncomputable def mY:List Nd->BS
 |[]=>[]
 |w::r=>32::bH w++mY r
theorem qG (w:Nd) (ws:List Nd):fk [32] (ir (w::ws))=bH w++mY ws:=by
 induction ws generalizing w with
 |nil=>exact(T7 _).symm
 |cons x ws ih=>
  show bH w++[32]++fk [32] (ir (x::ws))=bH w++(32::bH x++mY ws);rw [ih];exact Tw ..
theorem qn {ws:List Nd} {a':BS} (h:gK a'):gK (mY ws++a'):=by
 cases ws with
 |nil=>exact h
 |cons w ws=>exact fun c d e=>(List.cons.inj e).1▸(by decide)
theorem uD (env:Ev) (st:List (Le×Nat)) (ws:List Nd) (h:∀w∈ws,PW w) (cs ws0:List Nd) (G lg:Nat) (a':BS) (hr:gK a') (hG:G<=lg):
 ∃SH K7,lg<=K7/\dO SH=dO ws/\aM env st ⟨cs,some ws0,G⟩ lg (mY ws++a')=aM env st ⟨cs,some (ws0++SH),G⟩ K7 a':=by
 induction ws generalizing ws0 lg with
 |nil=>exact(cf ([]) lg (Tj _) rfl (by rw [T7];rfl))
 |cons w ws ih=>
  refine cX (h w (SZ ..) env st ⟨cs,some ws0,G⟩ lg (mY ws++a') (qn hr) hG (.inl (Option.some_ne_none _))) fun n' lg1 a1 a2 a3=>?_;refine cX (ih (fun x hx=>h x (Td _ hx)) (ws0++[n']) lg1 (oh hG a1)) fun SH lg2 b1 b2 b3=>?_;refine(cf (n'::SH) lg2 (oh a1 b1) (by show wT n'::dO SH=wT w::dO ws;rw [a2,b2]) ?_);show aM env st ⟨cs,some ws0,G⟩ lg (32::((bH w++mY ws)++a'))=_;rw [j_,Tw,a3,List.append_cons];exact b3
theorem tN {n:Nat} {b:BS} {ws:List Nd} (h:∀w∈ws,PW w):PC (.cmd n (.w b::ws)):=by
 intro env st cs G lg a' hr hG;refine cX (uD env st ws h cs [.w b] G lg a' hr hG) fun SH lg2 b1 b2 b3=>?_;refine(cf (.w b::SH) lg2 b1 (congrArg (fun z=>Tr.l (.w b::z)) b2.symm) ?_);show aM env st _ lg (fk [32] (ir (.w b::ws))++a')=_;rw [qG,show bH (.w b)=eO b from rfl,Tw,lA env b _ (qn hr)];exact b3
noncomputable def ml:Nat->Nat->List (Nat×Tr)->List (Nat×Tr)->Prop
 |_,_,[],[]=>True
 |p,q,(n,t)::r,(m,u)::s=>(n=p↔m=q)/\t=u/\ml n m r s
 |_,_,_,_=>False
theorem tA (r s:List (Nat×Tr)) (p q:Nat) (t:Tr) (h:ml p q r s):grp ((p,t)::r)=grp ((q,t)::s):=by
 induction r generalizing s p q t with
 |nil=>
  cases s with
  |nil=>rfl
  |cons=>cases h
 |cons x r ih=>
  cases x with
  |mk n u=>
   cases s with
   |nil=>cases h
   |cons y s=>
    cases y with
    |mk m v=>
     have h:(n=p↔m=q)/\u=v/\ml n m r s:=h;rw [et,et,←h.2.1,ih s n m u h.2.2];by_cases hn:n=p
     ·rw [Tk hn,Tk (h.1.mp hn)]
     ·rw [Tc hn,Tc fun z=>hn (h.1.mpr z)]
theorem yh {p:Option Nat} {n:Nat} {x:BS} (h:p≠none):gK (j9 p n++x):=by
 cases p with
 |none=>exact absurd rfl h
 |some p=>
  show gK ((if n=p then [32,59,32] else [10])++x);by_cases hn:n=p
  ·rw [Tk hn];exact fun c d e=>(List.cons.inj e).1▸(by decide)
  ·rw [Tc hn];exact fun c d e=>(List.cons.inj e).1▸(by decide)
theorem m7 {p:Nat} {r:List Nd} {a':BS} (h:gK a'):gK (cg (some p) r++a'):=by
 cases r with
 |nil=>exact h
 |cons c r=>rw [iu,Tw,Tw];exact yh (Option.some_ne_none _)
theorem rY (env:Ev) (st:List (Le×Nat)) (r:List Nd) (h:∀c∈r,PC c) (p:Nat) (cs ws0:List Nd) (G lg:Nat) (a':BS) (hr:gK a') (hG:G<=lg):
 ∃l2 K7 r',lg<=K7/\aM env st ⟨cs,some ws0,G⟩ lg (cg (some p) r++a')=aM env st l2 K7 a'/\l2.done=cs++ .cmd G ws0::r'/\ml p G (dE r) (dE r'):=by
 induction r generalizing p cs ws0 G lg with
 |nil=>exact(kg ⟨cs,some ws0,G⟩ lg ([]) (Tj _) rfl rfl trivial)
 |cons c r ih=>
  have he:=m7 (p:=c.num) (r:=r) hr;have hc:=h c (SZ ..);have ih:=ih fun x hx=>h x (Td c hx);rw [iu];have go:∀G1 lg0,lg<=lg0->G1<=lg0->(c.num=p↔G1=G)->(∀x,aM env st ⟨cs,some ws0,G⟩ lg (j9 (some p) c.num++x)=aM env st ⟨cs++[.cmd G ws0],none,G1⟩ lg0 x)->
   ∃l2 K7 r',lg<=K7/\aM env st ⟨cs,some ws0,G⟩ lg (j9 (some p) c.num++bH c++cg (some c.num) r++a')=aM env st l2 K7 a'/\l2.done=cs++ .cmd G ws0::r'/\ml p G (dE (c::r)) (dE r'):=by
   intro G1 lg0 hl hg hi hs;refine cX (hc env st (cs++[.cmd G ws0]) G1 lg0 _ he hg) fun SH lg1 a1 a2 a3=>?_;refine jc (ih c.num (cs++[.cmd G ws0]) SH G1 lg1 (oh hg a1)) fun l2 lg2 r' b1 b2 b3 b4=>?_;refine(kg l2 lg2 (.cmd G1 SH::r') (oh hl (oh a1 b1)) ?_ (b3.trans (Tw ..)) (aN hi a2 b4));rw [Tw,Tw,hs,a3,b2]
  by_cases hn:c.num=p
  ·refine go G lg (Tj _) hG ⟨fun _=>rfl,fun _=>hn⟩ fun x=>?_;rw [show j9 (some p) c.num=[32,59,32] from Tk hn];show aM env st _ lg (32::59::32::x)=_;rw [j_,zh,j_];rfl
  ·refine go (lg+1) (lg+1) (Nat.le_succ _) (Tj _) ⟨fun z=>absurd z hn,fun z=>absurd (z▸hG) (Nat.not_succ_le_self _)⟩ fun x=>?_;rw [show j9 (some p) c.num=[10] from Tc hn];show aM env st _ lg (10::x)=_;rw [zi];rfl
theorem lG (env:Ev) (st:List (Le×Nat)) (cs:List Nd) (h:∀c∈cs,PC c) (G lg:Nat) (a':BS) (hr:gK a') (hG:G<=lg):
 ∃l2 K7,lg<=K7/\dh l2.done=dh cs/\aM env st ⟨[],none,G⟩ lg (cg none cs++a')=aM env st l2 K7 a':=by
 cases cs with
 |nil=>exact(cf ⟨[],none,G⟩ lg (Tj _) rfl rfl)
 |cons c r=>
  refine cX (h c (SZ ..) env st [] G lg (cg (some c.num) r++a') (m7 hr) hG) fun SH lg1 a1 a2 a3=>?_;refine jc (rY env st r (fun x hx=>h x (Td c hx)) c.num [] SH G lg1 a' hr (oh hG a1)) fun l2 lg2 r' b1 b2 b3 b4=>?_;refine(cf l2 lg2 (oh a1 b1) ?_ ?_)
  ·unfold dh;rw [b3];show List.map _ (grp ((G,.l (dO SH))::dE r'))=List.map _ (grp ((c.num,wT c)::dE r));rw [tA _ _ _ _ _ b4,a2]
  ·rw [iu];show aM env st ⟨[],none,G⟩ lg (([]++bH c++cg (some c.num) r)++a')=_;rw [S_,Tw,a3,b2]
theorem uc {b:Bool} {n:Nd} (h:WF b n):match b with|false=>PW n|true=>PC n:=by
 induction h with
 |w b=>exact fun env st l lg a' hr hG _=>(cf (.w b) lg (Tj _) rfl (lA env b a' hr st l lg))
 |blk cs h ih=>
  intro env st l lg a' hr hG hc;have hc:l.cmd≠none:=hc.elim id fun e=>ax e fun b e=>by cases e
  refine cX (lG env ((l,(32::(cg none cs++32::125::a')).length+1)::st) cs (fun c hc=>ih c hc) (lg+1) (lg+1) (32::125::a') (by intro c d e;injection e with e1 e2;rw [←e1];decide) (Tj _)) fun l2 K7 a1 a2 a3=>?_;refine(cf (.blk l2.done) K7 (o9 a1) ?_ ?_)
  ·exact congrArg Tr.l a2
  ·have e:bH (.blk cs)++a'=123::32::(cg none cs++32::125::a'):=Tw ([123,32]++_) _ _;rw [e,yk _ _ _ _ _ hc,j_,a3,j_,yj]
 |cmd n b ws h ih=>exact tN fun w hw=>ih w hw
theorem rl (env:Ev) (cs:List Nd) (h:∀c∈cs,WF true c):∃cs2,aM env [] ⟨[],none,0⟩ 0 (cg none cs)= .ok cs2/\dh cs2=dh cs:=by
 refine cX (lG env [] cs (fun c hc=>uc (h c hc)) 0 0 [] (fun c d e=>by cases e) (Tj _)) fun l2 K7 a1 a2 a3=>?_;refine(aj l2.done ?_ a2);rw [T7] at a3;rw [a3,hM]
theorem pR (c:UInt8):dW c=true->c.toNat≠9/\c.toNat≠13:=jr (P:=fun c=>dW c=true->c.toNat≠9/\c.toNat≠13) (by decide+kernel) c
theorem ru (c:UInt8):(ej c).all (fun x=>x.toNat !=9&&x.toNat !=13)=true:=jr (P:=fun c=>(ej c).all (fun x=>x.toNat !=9&&x.toNat !=13)=true) (by decide+kernel) c
theorem rn (b:BS):cv (eO b):=by
 intro x hx;unfold eO at hx;by_cases hq:gF b=true
 ·rw [Tk hq] at hx;refine dl (nk hq) fun c d _ _ _ hp=>?_;exact pR x (hp x hx)
 ·rw [Tc hq] at hx;rcases T3.mp hx with hx|hx
  ·rcases T4.mp hx with rfl|hx
   ·decide
   ·refine aw (List.mem_flatMap.mp hx) fun c _ hc=>?_;have:=TW.mp (ru c) x hc;simpa using this
  ·rw [Ti.mp hx];decide
theorem cv.app {a b:BS} (h1:cv a) (h2:cv b):cv (a++b):=fun x hx=>(T3.mp hx).elim (h1 x) (h2 x)
theorem cv.nil:cv []:=fun x hx=>absurd hx List.not_mem_nil
theorem uC {ws:List Nd} (h:∀w∈ws,cv (bH w)):cv (mY ws):=by
 induction ws with
 |nil=>exact .nil
 |cons w ws ih=>exact cv.app (a:=[32]++bH w) (cv.app (show cv [32] by unfold cv;decide) (h w (SZ ..))) (ih fun y hy=>h y (Td _ hy))
theorem rI {ws:List Nd} (h:∀w∈ws,cv (bH w)):cv (fk [32] (ir ws)):=by
 cases ws with
 |nil=>exact .nil
 |cons w ws=>rw [qG];exact(h w (SZ ..)).app (uC fun y hy=>h y (Td _ hy))
theorem sJ (p:Option Nat) (n:Nat):cv (j9 p n):=by
 cases p with
 |none=>exact .nil
 |some p=>
  show cv (if n=p then [32,59,32] else [10]);by_cases h:n=p
  ·rw [Tk h];unfold cv;decide
  ·rw [Tc h];unfold cv;decide
theorem oZ {cs:List Nd} {p:Option Nat} (h:∀w∈cs,cv (bH w)):cv (cg p cs):=by
 induction cs generalizing p with
 |nil=>exact .nil
 |cons c r ih=>exact((sJ p c.num).app (h c (SZ ..))).app (ih fun w hw=>h w (Td _ hw))
theorem ro (n:Nd):cv (bH n):=
 n.ind rn (fun cs h=>((show cv [123,32] by unfold cv;decide).app (oZ h)).app (by unfold cv;decide)) fun _ _ h=>rI h
theorem sT (cs:List Nd):cv (cg none cs):=oZ fun w _=>ro w
theorem pF (k:BS):(look LE k).length<=3:=gV k
theorem tc (k:BS):(look [] k).length<=3:=by exact Tn _
theorem uK {x:BS} (hl:x.length<=130) (hn:cW x<=13) (hc:∀b∈x,zo b):pC x 41 140:=by
 have hu:∀(b n:UInt8),b≠n->b.toNat≠n.toNat:=fun b n h e=>h (UInt8.toNat_inj.mp e);have hB:bf=1000000:=rfl;refine⟨fun b hb=>⟨hu _ 9 (hc b hb).1,hu _ 13 (hc b hb).2.1⟩,by exact KN hl hB,by exact KM hn,by exact KL,?_⟩;have T:=uB pF x.length x (Tj _) (fun b hb=>hu _ 37 (hc b hb).2.2) [] ⟨[],none,0⟩ 0 [] [] [] (fp.new 0);dsimp only [List.head?_nil,Option.map_none] at T;cases hb:cO LE none [] [] [] x with
 |bad=>rw [hb] at T;exact T.elim
 |err k=>
  rw [hb] at T;have T:aM LE [] ⟨[],none,0⟩ 0 x= .err k:=T;rw [T]
 |ok rows r'=>
  rw [hb] at T;refine dl (T) fun K7 cs _ _ t1 t2=>?_;dsimp only at t2;rw [t2];refine bp (kX pF x cs t2) fun f1 f2 f3=>?_;have f4:=sR cs;have f5:=uJ f1;refine aw (rl [] cs f1) fun cs2 s1 s2=>?_;refine bp (kX tc _ cs2 s1) fun g1 g2 g3=>?_;have g4:=sR cs2;have g5:=vq g1;rw [s2] at g5;exact(cn t1 ⟨f1,by exact KK hl hB f2 f4,by exact KJ hn f3⟩ (KI hn f3 f5) (sT cs) (dH cs2 (aN s1 s2 ⟨g1,by exact KH hl hB f2 f4 g2 g4,by exact KG hn f3 f5 g5⟩)))
theorem gl412:Gl "law" (.ref 412):=⟨fun w=>.inl (aj _ rfl rfl),by decide+kernel⟩
theorem wellInts {P:Params} {h:Heap} {ns:List Int} {vs:List Value} (x:WellAll P h vs (ofPys (ns.map .int))):aA (ns.map .int) vs:=by
 induction ns generalizing vs with
 |nil=>cases x;exact .nil
 |cons n ns ih=>
  have one:∀{v:Value},Well P h v (ofPy (.int n))->AV.Is (.int n) v:=fun h1=>by cases h1;exact⟨_,rfl⟩
  cases x with
  |cons h1 h2=>exact .cons (one h1) (ih h2)
theorem wellList {w:World} {h:Heap} {a:Addr} {ns:List Int} (x:Well w.params h (.ref a) (ofPy (.list (ns.map .int)))):(AO.list (ns.map .int)).At w h a:=by
 cases x with
 |list e r=>exact⟨_,_,_,e,by simpa using wellInts r⟩
theorem joined (h412:∀{w:World} {H₀:Heap} (W:Wd w H₀) {g:GH} {s:Addr} {ns:List Int},g (s,.list (ns.map .int))->ns.length<=1000->
 ∀on,aA [.ref s] on->cz w H₀ g [] (.call (.ref 412) ⟨on,[]⟩) 142 false (fun v g' own'=>v= .bool true/\own'=[]) (fun or=>False)):Challenge.rw_og0264_01.Holds:=by
 refine headed ?_;intro w s₀ o0 mg mb G Y a hm hgens args on as hpre hlay hrd hwl hlo;replace hm:mg "law"=some (.ref a):=hm;have KX:(hd.heap_1 w.params).In o0.heap:=Y;have W:Wd w o0.heap:=⟨KX,_,_,_,_,G.T⟩
 have ha:a=412:=by
  rcases gl412.all w with⟨c,e,r⟩|⟨e,_⟩
  ·cases r;have:=mg_of KX G.T.g e;rw [hm] at this;cases this;rfl
  ·have:=mg_none_of KX G.T.g e;rw [hm] at this;cases this
 subst ha;clear Y
 wrow_args hpre hlay hrd hwl hlo
 rename Well _ _ _ _=>hW
 rename_i ns _ _ _ _ _ _ _ sa _ _ _ _ _ _ _ hlen _;refine gM (cZ (h412 W (g:=fun p=>p=(sa,.list (ns.map .int))) rfl (Nn hlen) _ (.cons rfl .nil) callerA [] o0 ⟨rfl,rfl,by decide,by decide⟩ ?_) ?_)
 ·refine⟨fun _ _ e=>e,trivial,(fun p hp=>nomatch hp),?_,.nil,(fun p hp b hb q=>nomatch q),(fun b hb=>nomatch hb),(fun b hb=>nomatch hb),?_⟩
  ·rintro p rfl;exact wellList hW
  ·rintro p rfl;rfl
 ·(intro r s' j';refine bp (j') fun e1 e2 hr=>?_);rcases r with v|(v|_|_|v)
  ·obtain⟨_,_,_,_,_,_,q⟩:=hr;exact q.elim
  ·exact hr.elim
  ·exact hr.elim
  ·exact hr.elim
  ·obtain⟨av,g',own',H',T,ra',rfl,rfl⟩:=hr;cases ra';refine(bJ (.inl (bc (.bool true) (.bool true) ([]) (cn rfl (fun cls=>rfl) (.bool true) ?_ (fun _=>⟨.nil,fun a ha=>nomatch ha⟩)))) (.of_keep H'.H) e2 (.of_eq (e1.trans hgens)));first
    |rfl
    |wrow_post
theorem closed:Challenge.rw_og0264_01.Holds:=
 joined (fun {_ _} W {_ _ _} hs hz=>On W hs hz (by decide) fun x h1 h2 h3=>uK h1 h2 h3)
end Mine.Internal
theorem PySem.Challenge.cw_og0264_01_holds : PySem.Challenge.rw_og0264_01.Holds := by
  exact Mine.Internal.closed
