import PyProof.Rows.All
import Wide.All
import OpenK.AllK
import Wide.FinOn
import Lean
import PySem.Challenge.RW_nt0259_01
set_option Elab.async false
set_option genSizeOf false
set_option genSizeOfSpec false
set_option genInjectivity false
set_option linter.all false
set_option bootstrap.genMatcherCode false
set_option compiler.extract_closed false
set_option maxRecDepth 1000000
set_option maxHeartbeats 4000000
namespace Mine.Internal
noncomputable section
open PySem PySem.W PySem.Calls PyProof.Rows
open Nat (le_trans le_add_right sub_le eq_of_beq_eq_true lt_irrefl zero_le ne_of_lt lt_succ_self le_succ zero_add succ_ne_zero sub_self le_zero le_succ_of_le)
open Int (natCast_nonneg ofNat_lt lt_trans)
open List (length casesOn replicate getElem?_append_left length_cons mem_singleton mem_cons not_mem_nil mem_append prefix_refl lookup_cons mem_cons_self mem_cons_of_mem cons_append append_assoc nodup_append getElem?_append_right getElem?_set_self getElem?_set_ne append_nil mem_append_right size_toArray findIdx?_cons contains_cons all_cons reverse_cons length_map length_drop all_eq_true mem_map_of_mem contains_iff_mem mem_range getElem?_map map_cons getElem?_eq_none find?_cons any_cons isEmpty_iff mem_append_left zip_cons_cons forIn_nil forIn_cons getElem?_cons_succ length_set mem_map mem_of_getElem? getElem?_replicate length_append nodup_nil nodup_cons of_mem_zip take_append_drop length_take nil_append drop_zero map_nil length_nil map_append map_take take_of_length_le drop_append drop_of_length_le countP_append countP_cons any_append reverse_append length_reverse isEmpty_nil isEmpty_cons)
open Option (ne_none_iff_exists' map_eq_some_iff getD_some bind_some isSome_iff_exists map_some isSome_none bind_eq_some_iff elim_none elim_some bind_none)
open Bool (and_eq_true_iff and_eq_true or_eq_true not_eq_true' not_not false_eq_true or_eq_true_iff true_eq_false)
open Heap (lt_size get?_push_of_some get?_push_size get?_update_self size_push get?_update_other)
open Array (any_toList)
def zy:type_of% @wpAny_bind:=@wpAny_bind
def zx:type_of% @mem_cons_of_mem:=@mem_cons_of_mem
def zw:type_of% @mem_cons_self:=@mem_cons_self
def zv:type_of% @Nat.le_refl:=@Nat.le_refl
def zu:type_of% @List.getElem?_eq_some_iff:=@List.getElem?_eq_some_iff
def zt:type_of% @Bool.false_ne_true:=@Bool.false_ne_true
def zq:type_of% @wpAny_pure:=@wpAny_pure
def zp:type_of% @mem_singleton:=@mem_singleton
def zo:type_of% @List.getElem?_eq_getElem:=@List.getElem?_eq_getElem
def zm:type_of% @and_eq_true:=@and_eq_true
def zk:type_of% @getElem?_append_right:=@getElem?_append_right
def zj:type_of% @append_assoc:=@append_assoc
def zi:type_of% @congrArg:=@congrArg
def zh:type_of% @mem_append_left:=@mem_append_left
def ze:type_of% @beq_iff_eq:=@beq_iff_eq
def zd:type_of% @length_cons:=@length_cons
def zc:type_of% @get?_push_of_some:=@get?_push_of_some
def zb:type_of% @decide_eq_true:=@decide_eq_true
def za:type_of% @decide_eq_false:=@decide_eq_false
def zZ:type_of% @mem_cons:=@mem_cons
def zY:type_of% @wpAny_mono:=@wpAny_mono
def zX:type_of% @dif_neg:=@dif_neg
def zW:type_of% @size_toArray:=@size_toArray
def zV:type_of% @length_append:=@length_append
def zU:type_of% @mem_append_right:=@mem_append_right
def zT:type_of% @le_trans:=@le_trans
def zS:type_of% @nodup_cons:=@nodup_cons
def zR:type_of% @get?_push_size:=@get?_push_size
def zQ:type_of% @wpAny_holding:=@wpAny_holding
def zP:type_of% @all_eq_true:=@all_eq_true
def zO:type_of% @prefix_refl:=@prefix_refl
def zN:type_of% @decide_eq_true_eq:=@decide_eq_true_eq
def zM:type_of% @length_map:=@length_map
def zL:type_of% @wpAny_standAt:=@wpAny_standAt
def zK:type_of% @getElem?_append_left:=@getElem?_append_left
def zJ:type_of% @append_nil:=@append_nil
def zH:type_of% @mem_append:=@mem_append
def zG:type_of% @of_decide_eq_true:=@of_decide_eq_true
def zF:type_of% @ne_none_iff_exists':=@ne_none_iff_exists'
def zE:type_of% @beq_eq_false_iff_ne:=@beq_eq_false_iff_ne
def zD:type_of% @getElem?_set_ne:=@getElem?_set_ne
def zC:type_of% @get?_update_self:=@get?_update_self
def zB:type_of% @reverse_cons:=@reverse_cons
def zA:type_of% @contains_iff_mem:=@contains_iff_mem
def z9:type_of% @wpAny_truthy_bool:=@wpAny_truthy_bool
def z8:type_of% @drop_of_length_le:=@drop_of_length_le
def z7:type_of% @map_eq_some_iff:=@map_eq_some_iff
def z6:type_of% @Ne.symm:=@Ne.symm
def z5:type_of% @getElem?_set_self:=@getElem?_set_self
def z0:type_of% @map_cons:=@map_cons
universe u
section
variable{A B C D E F G:Type}{m:Prop}
def x0_1{p:Prop}(h:p)(k:p->m):m:=k h
def x0_2{p q:Prop}(h:p/\q)(k:p->q->m):m:=x0_1 h.2 (k h.1)
def x0_3{p q r:Prop}(h:p/\q/\r)(k:p->q->r->m):m:=x0_2 h.2 (k h.1)
def x0_4{p q r s:Prop}(h:p/\q/\r/\s)(k:p->q->r->s->m):m:=x0_3 h.2 (k h.1)
def x0_5{p q r s t:Prop}(h:p/\q/\r/\s/\t)(k:p->q->r->s->t->m):m:=x0_4 h.2 (k h.1)
def x0_6{p q r s t u:Prop}(h:p/\q/\r/\s/\t/\u)(k:p->q->r->s->t->u->m):m:=x0_5 h.2 (k h.1)
def x0_7{p q r s t u v:Prop}(h:p/\q/\r/\s/\t/\u/\v)(k:p->q->r->s->t->u->v->m):m:=x0_6 h.2 (k h.1)
def x0_8{p q r s t u v w:Prop}(h:p/\q/\r/\s/\t/\u/\v/\w)(k:p->q->r->s->t->u->v->w->m):m:=x0_7 h.2 (k h.1)
def x0_9{p q r s t u v w o:Prop}(h:p/\q/\r/\s/\t/\u/\v/\w/\o)(k:p->q->r->s->t->u->v->w->o->m):m:=x0_8 h.2 (k h.1)
def x1_1{p:A->Prop}(h:∃a,p a)(k:∀a,p a->m):m:=h.elim λa h=>x0_1 h (k a)
def x1_2{p q:A->Prop}(h:∃a,p a/\q a)(k:∀a,p a->q a->m):m:=h.elim λa h=>x0_2 h (k a)
def x1_3{p q r:A->Prop}(h:∃a,p a/\q a/\r a)(k:∀a,p a->q a->r a->m):m:=h.elim λa h=>x0_3 h (k a)
def x1_4{p q r s:A->Prop}(h:∃a,p a/\q a/\r a/\s a)(k:∀a,p a->q a->r a->s a->m):m:=h.elim λa h=>x0_4 h (k a)
def x1_5{p q r s t:A->Prop}(h:∃a,p a/\q a/\r a/\s a/\t a)(k:∀a,p a->q a->r a->s a->t a->m):m:=h.elim λa h=>x0_5 h (k a)
def x1_6{p q r s t u:A->Prop}(h:∃a,p a/\q a/\r a/\s a/\t a/\u a)(k:∀a,p a->q a->r a->s a->t a->u a->m):m:=h.elim λa h=>x0_6 h (k a)
def x1_9{p q r s t u v w o:A->Prop}(h:∃a,p a/\q a/\r a/\s a/\t a/\u a/\v a/\w a/\o a)(k:∀a,p a->q a->r a->s a->t a->u a->v a->w a->o a->m):m:=h.elim λa h=>x0_9 h (k a)
def x2_1{p:A->B->Prop}(h:∃a b,p a b)(k:∀a b,p a b->m):m:=h.elim λa h=>x1_1 h (k a)
def x2_2{p q:A->B->Prop}(h:∃a b,p a b/\q a b)(k:∀a b,p a b->q a b->m):m:=h.elim λa h=>x1_2 h (k a)
def x2_3{p q r:A->B->Prop}(h:∃a b,p a b/\q a b/\r a b)(k:∀a b,p a b->q a b->r a b->m):m:=h.elim λa h=>x1_3 h (k a)
def x2_4{p q r s:A->B->Prop}(h:∃a b,p a b/\q a b/\r a b/\s a b)(k:∀a b,p a b->q a b->r a b->s a b->m):m:=h.elim λa h=>x1_4 h (k a)
def x2_5{p q r s t:A->B->Prop}(h:∃a b,p a b/\q a b/\r a b/\s a b/\t a b)(k:∀a b,p a b->q a b->r a b->s a b->t a b->m):m:=h.elim λa h=>x1_5 h (k a)
def x2_6{p q r s t u:A->B->Prop}(h:∃a b,p a b/\q a b/\r a b/\s a b/\t a b/\u a b)(k:∀a b,p a b->q a b->r a b->s a b->t a b->u a b->m):m:=h.elim λa h=>x1_6 h (k a)
def x2_9{p q r s t u v w o:A->B->Prop}(h:∃a b,p a b/\q a b/\r a b/\s a b/\t a b/\u a b/\v a b/\w a b/\o a b)(k:∀a b,p a b->q a b->r a b->s a b->t a b->u a b->v a b->w a b->o a b->m):m:=h.elim λa h=>x1_9 h (k a)
def x3_1{p:A->B->C->Prop}(h:∃a b c,p a b c)(k:∀a b c,p a b c->m):m:=h.elim λa h=>x2_1 h (k a)
def x3_2{p q:A->B->C->Prop}(h:∃a b c,p a b c/\q a b c)(k:∀a b c,p a b c->q a b c->m):m:=h.elim λa h=>x2_2 h (k a)
def x3_3{p q r:A->B->C->Prop}(h:∃a b c,p a b c/\q a b c/\r a b c)(k:∀a b c,p a b c->q a b c->r a b c->m):m:=h.elim λa h=>x2_3 h (k a)
def x3_4{p q r s:A->B->C->Prop}(h:∃a b c,p a b c/\q a b c/\r a b c/\s a b c)(k:∀a b c,p a b c->q a b c->r a b c->s a b c->m):m:=h.elim λa h=>x2_4 h (k a)
def x3_5{p q r s t:A->B->C->Prop}(h:∃a b c,p a b c/\q a b c/\r a b c/\s a b c/\t a b c)(k:∀a b c,p a b c->q a b c->r a b c->s a b c->t a b c->m):m:=h.elim λa h=>x2_5 h (k a)
def x3_6{p q r s t u:A->B->C->Prop}(h:∃a b c,p a b c/\q a b c/\r a b c/\s a b c/\t a b c/\u a b c)(k:∀a b c,p a b c->q a b c->r a b c->s a b c->t a b c->u a b c->m):m:=h.elim λa h=>x2_6 h (k a)
def x3_9{p q r s t u v w o:A->B->C->Prop}(h:∃a b c,p a b c/\q a b c/\r a b c/\s a b c/\t a b c/\u a b c/\v a b c/\w a b c/\o a b c)(k:∀a b c,p a b c->q a b c->r a b c->s a b c->t a b c->u a b c->v a b c->w a b c->o a b c->m):m:=h.elim λa h=>x2_9 h (k a)
def x4_1{p:A->B->C->D->Prop}(h:∃a b c d,p a b c d)(k:∀a b c d,p a b c d->m):m:=h.elim λa h=>x3_1 h (k a)
def x4_2{p q:A->B->C->D->Prop}(h:∃a b c d,p a b c d/\q a b c d)(k:∀a b c d,p a b c d->q a b c d->m):m:=h.elim λa h=>x3_2 h (k a)
def x4_5{p q r s t:A->B->C->D->Prop}(h:∃a b c d,p a b c d/\q a b c d/\r a b c d/\s a b c d/\t a b c d)(k:∀a b c d,p a b c d->q a b c d->r a b c d->s a b c d->t a b c d->m):m:=h.elim λa h=>x3_5 h (k a)
def x4_6{p q r s t u:A->B->C->D->Prop}(h:∃a b c d,p a b c d/\q a b c d/\r a b c d/\s a b c d/\t a b c d/\u a b c d)(k:∀a b c d,p a b c d->q a b c d->r a b c d->s a b c d->t a b c d->u a b c d->m):m:=h.elim λa h=>x3_6 h (k a)
def x4_9{p q r s t u v w o:A->B->C->D->Prop}(h:∃a b c d,p a b c d/\q a b c d/\r a b c d/\s a b c d/\t a b c d/\u a b c d/\v a b c d/\w a b c d/\o a b c d)(k:∀a b c d,p a b c d->q a b c d->r a b c d->s a b c d->t a b c d->u a b c d->v a b c d->w a b c d->o a b c d->m):m:=h.elim λa h=>x3_9 h (k a)
def x5_1{p:A->B->C->D->E->Prop}(h:∃a b c d e,p a b c d e)(k:∀a b c d e,p a b c d e->m):m:=h.elim λa h=>x4_1 h (k a)
def x5_5{p q r s t:A->B->C->D->E->Prop}(h:∃a b c d e,p a b c d e/\q a b c d e/\r a b c d e/\s a b c d e/\t a b c d e)(k:∀a b c d e,p a b c d e->q a b c d e->r a b c d e->s a b c d e->t a b c d e->m):m:=h.elim λa h=>x4_5 h (k a)
def x5_6{p q r s t u:A->B->C->D->E->Prop}(h:∃a b c d e,p a b c d e/\q a b c d e/\r a b c d e/\s a b c d e/\t a b c d e/\u a b c d e)(k:∀a b c d e,p a b c d e->q a b c d e->r a b c d e->s a b c d e->t a b c d e->u a b c d e->m):m:=h.elim λa h=>x4_6 h (k a)
def x5_9{p q r s t u v w o:A->B->C->D->E->Prop}(h:∃a b c d e,p a b c d e/\q a b c d e/\r a b c d e/\s a b c d e/\t a b c d e/\u a b c d e/\v a b c d e/\w a b c d e/\o a b c d e)(k:∀a b c d e,p a b c d e->q a b c d e->r a b c d e->s a b c d e->t a b c d e->u a b c d e->v a b c d e->w a b c d e->o a b c d e->m):m:=h.elim λa h=>x4_9 h (k a)
def x6_1{p:A->B->C->D->E->F->Prop}(h:∃a b c d e f,p a b c d e f)(k:∀a b c d e f,p a b c d e f->m):m:=h.elim λa h=>x5_1 h (k a)
def x6_5{p q r s t:A->B->C->D->E->F->Prop}(h:∃a b c d e f,p a b c d e f/\q a b c d e f/\r a b c d e f/\s a b c d e f/\t a b c d e f)(k:∀a b c d e f,p a b c d e f->q a b c d e f->r a b c d e f->s a b c d e f->t a b c d e f->m):m:=h.elim λa h=>x5_5 h (k a)
def x6_9{p q r s t u v w o:A->B->C->D->E->F->Prop}(h:∃a b c d e f,p a b c d e f/\q a b c d e f/\r a b c d e f/\s a b c d e f/\t a b c d e f/\u a b c d e f/\v a b c d e f/\w a b c d e f/\o a b c d e f)(k:∀a b c d e f,p a b c d e f->q a b c d e f->r a b c d e f->s a b c d e f->t a b c d e f->u a b c d e f->v a b c d e f->w a b c d e f->o a b c d e f->m):m:=h.elim λa h=>x5_9 h (k a)
def x7_9{p q r s t u v w o:A->B->C->D->E->F->G->Prop}(h:∃a b c d e f g,p a b c d e f g/\q a b c d e f g/\r a b c d e f g/\s a b c d e f g/\t a b c d e f g/\u a b c d e f g/\v a b c d e f g/\w a b c d e f g/\o a b c d e f g)(k:∀a b c d e f g,p a b c d e f g->q a b c d e f g->r a b c d e f g->s a b c d e f g->t a b c d e f g->u a b c d e f g->v a b c d e f g->w a b c d e f g->o a b c d e f g->m):m:=h.elim λa h=>x6_9 h (k a)
def y1_2{p q:A->Prop}(a:A)(hp:p a)(hq:q a):∃a,p a/\q a:=⟨a,hp,hq⟩
def y1_3{p q r:A->Prop}(a:A)(hp:p a)(hq:q a)(hr:r a):∃a,p a/\q a/\r a:=⟨a,hp,hq,hr⟩
def y2_2{p q:A->B->Prop}(a:A)(b:B)(hp:p a b)(hq:q a b):∃a b,p a b/\q a b:=⟨a,b,hp,hq⟩
def y1_4{p q r s:A->Prop}(a:A)(hp:p a)(hq:q a)(hr:r a)(hs:s a):∃a,p a/\q a/\r a/\s a:=⟨a,hp,hq,hr,hs⟩
def y2_3{p q r:A->B->Prop}(a:A)(b:B)(hp:p a b)(hq:q a b)(hr:r a b):∃a b,p a b/\q a b/\r a b:=⟨a,b,hp,hq,hr⟩
def y3_2{p q:A->B->C->Prop}(a:A)(b:B)(c:C)(hp:p a b c)(hq:q a b c):∃a b c,p a b c/\q a b c:=⟨a,b,c,hp,hq⟩
def y2_4{p q r s:A->B->Prop}(a:A)(b:B)(hp:p a b)(hq:q a b)(hr:r a b)(hs:s a b):∃a b,p a b/\q a b/\r a b/\s a b:=⟨a,b,hp,hq,hr,hs⟩
def y3_3{p q r:A->B->C->Prop}(a:A)(b:B)(c:C)(hp:p a b c)(hq:q a b c)(hr:r a b c):∃a b c,p a b c/\q a b c/\r a b c:=⟨a,b,c,hp,hq,hr⟩
def y3_4{p q r s:A->B->C->Prop}(a:A)(b:B)(c:C)(hp:p a b c)(hq:q a b c)(hr:r a b c)(hs:s a b c):∃a b c,p a b c/\q a b c/\r a b c/\s a b c:=⟨a,b,c,hp,hq,hr,hs⟩
def y5_6{p q r s t u:A->B->C->D->E->Prop}(a:A)(b:B)(c:C)(d:D)(e:E)(hp:p a b c d e)(hq:q a b c d e)(hr:r a b c d e)(hs:s a b c d e)(ht:t a b c d e)(hu:u a b c d e):∃a b c d e,p a b c d e/\q a b c d e/\r a b c d e/\s a b c d e/\t a b c d e/\u a b c d e:=⟨a,b,c,d,e,hp,hq,hr,hs,ht,hu⟩
def y7_9{p q r s t u v w o:A->B->C->D->E->F->G->Prop}(a:A)(b:B)(c:C)(d:D)(e:E)(f:F)(g:G)(hp:p a b c d e f g)(hq:q a b c d e f g)(hr:r a b c d e f g)(hs:s a b c d e f g)(ht:t a b c d e f g)(hu:u a b c d e f g)(hv:v a b c d e f g)(hw:w a b c d e f g)(ho:o a b c d e f g):∃a b c d e f g,p a b c d e f g/\q a b c d e f g/\r a b c d e f g/\s a b c d e f g/\t a b c d e f g/\u a b c d e f g/\v a b c d e f g/\w a b c d e f g/\o a b c d e f g:=⟨a,b,c,d,e,f,g,hp,hq,hr,hs,ht,hu,hv,hw,ho⟩
end
section
variable{α:Type}{β:Type}{a r:α}{b c:β}{Q:Prop}
def nn(h:none=some r):Q:=nomatch h
def nn'(h:some r=none):Q:=nomatch h
def ff(h:false=true):Q:=nomatch h
def ff'(h:true=false):Q:=nomatch h
def eqe(h:b=c)(k:b=c->Q):Q:=k h
def sj(h:some a=some r)(k:a=r->Q):Q:=k (Option.some.inj h)
def sj2(h:some (a,b)=some (r,c))(k:a=r->b=c->Q):Q:=k (zi Prod.fst (Option.some.inj h)) (zi Prod.snd (Option.some.inj h))
def pj2(h:(a,b)=(r,c))(k:a=r->b=c->Q):Q:=k (zi Prod.fst h) (zi Prod.snd h)
end
def Bw{α:Type}{l:List α}{m:List α->Prop}(h:l.length=2)(k:∀a b,m [a,b]):m l:=by
 cases l with
 |nil=>exact nomatch h
 |cons a l=>cases l with
  |nil=>exact nomatch h
  |cons b l=>cases l with
   |nil=>exact k a b
   |cons c l=>exact nomatch h
def KH{α:Type}{l:List α}{m:List α->Prop}(h:l.length=6)(k:∀a b c d e f,m [a,b,c,d,e,f]):m l:=by
 cases l with
 |nil=>exact nomatch h
 |cons a l=>cases l with
  |nil=>exact nomatch h
  |cons b l=>cases l with
   |nil=>exact nomatch h
   |cons c l=>cases l with
    |nil=>exact nomatch h
    |cons d l=>exact Bw (m:=λl=>m (a::b::c::d::l)) (Nat.succ.inj (Nat.succ.inj (Nat.succ.inj (Nat.succ.inj h)))) (k a b c d)
def leA{a b c d:Nat}(h:a<=b)(k:b<=c)(l:c<=d):a<=d:=zT h (zT k l)
def leT{a b c:Nat}(h:a<b)(k:b<=c):a<=c:=zT (Nat.le_of_lt h) k
def leL{a b c:Nat}(h:a+b<=c):a<=c:=zT (le_add_right _ _) h
def leR{a b c:Nat}(h:a+b<=c):b<=c:=zT (Nat.le_add_left _ _) h
def ltC{a b c l:Nat}(h:a+b<l)(k:c<=b):a+c<l:=Nat.lt_of_le_of_lt (Nat.add_le_add_left k a) h
def ltD{a x b c l:Nat}(h:a+x+b<l)(k:c<=b):a+c<l:=Nat.lt_of_le_of_lt (Nat.add_le_add (le_add_right a x) k) h
def lt62d{n m:Nat}(h:n<=m)(k:m<=1000):(n:Int)<2 ^ 62:=by
 have:=zT h k
 omega
def WF{n:Nat}(h:n<=1000):(n:Int)<2 ^ 62:=by omega
def gt62(n:Nat): -2 ^ 62<(n:Int):=by omega
def VK{n d x:Nat}(h1:d<=n)(h2:n<=x+d):n-d+(x+d-n)=x:=by
 obtain⟨a,rfl⟩:=Nat.exists_eq_add_of_le' h1;rw[Nat.add_sub_cancel,Nat.add_sub_add_right];exact Nat.add_sub_of_le (Nat.le_of_add_le_add_right h2)
def VL{a m n:Nat}(h1:a<=n):a+m-n=m-(n-a):=by
 obtain⟨c,rfl⟩:=Nat.exists_eq_add_of_le h1;rw[Nat.add_sub_add_left,Nat.add_sub_cancel_left]
def VM{a m n:Nat}(h1:a<=n)(h2:n<=a+m):a+(m-(m-(n-a)))=n:=by
 rw[Nat.sub_sub_self (Nat.sub_le_iff_le_add'.mpr h2)];exact Nat.add_sub_of_le h1
def ww{n i:Nat}(h:i<=n):(max 0 (min (i:Int) n)).toNat=i:=by
 rw[Int.min_eq_left (Int.ofNat_le.mpr h),Int.max_eq_right (natCast_nonneg _),Int.toNat_natCast]
def Ox(n k:Nat):(max 0 (min (k:Int) n)).toNat=min k n:=
 (Nat.le_total k n).elim (λh=>(ww h).trans (Nat.min_eq_left h).symm) λh=>by rw[Int.min_comm];exact (ww h).trans (Nat.min_eq_right h).symm
def Oy{n k:Nat}(h:k<=n):(max 0 (min (-(k:Int)+n) n)).toNat=n-k:=by
 rw[Int.add_comm,<-Int.sub_eq_add_neg,<-Int.ofNat_sub h];exact ww (sub_le _ _)
def Oz{n:Nat}:(((n:Nat):Int) - 1).toNat=n-1:=Int.toNat_sub n 1
def OA{c n:Nat}{z:Int}(h:(c:Int)=max 0 (min z n)):c<=n:=Int.ofNat_le.mp (h▸Int.max_le.mpr ⟨natCast_nonneg _,Int.min_le_right _ _⟩)
@[elab_as_elim] theorem rwm{α:Sort u}{b:α}{m:α->Prop}{a:α}(h:a=b)(e:m b):m a:=h▸e
@[elab_as_elim] theorem rwl{α:Sort u}{b:α}{m:α->Prop}{a:α}(h:b=a)(e:m b):m a:=h▸e
abbrev mqS:=Lean.Syntax
abbrev mqR:=Lean.MacroM mqS
def mqI(n:String):mqS:=Lean.mkIdent n.toName
def mqD(x:mqS):List (Lean.Name×Array mqS)->List (Lean.Name×Array mqS)
 |[]=>[(.anonymous,#[x])]
 |(k,c)::s=>(k,c.push x)::s
def mqB(a:List mqS):List String->List (Lean.Name×Array mqS)->mqS
 |[],s=>match s with
  |[]=>.missing
  |(_,c)::_=>c.getD 0 .missing
 |w::r,s=>
  let u:=(w.drop 1).toString
  if w.startsWith "(" then mqB a r ((if u == "" then `null else ("Lean.Parser." ++ u).toName,#[])::s)
  else if w == ")" then match s with
   |[]=>.missing
   |(k,c)::s=>mqB a r (mqD (.node .none k c) s)
  else mqB a r (mqD (if w.startsWith "$" then a.getD u.toNat! .missing else if w.startsWith "%" then mqI u else Lean.mkAtom w) s)
def mqT(t:String)(a:List mqS):mqS:=mqB a (t.splitOn " ") []
def mqF(a b:mqS):mqS:=mqT "(Tactic.first first ( ( | $0 ) ( | $1 ) ) )" [a,b]
def mqQ(a b:mqS):mqS:=mqT "(Tactic.tacticSeq (Tactic.tacticSeq1Indented ( $0 ; $1 ) ) )" [a,b]
def mqL(f:String->mqS)(a:mqS):List String->mqS
 |[]=>a
 |n::r=>mqF (f n) (mqL f a r)
def mqA(n e:mqS):mqS:=mqT "(Tactic.refine refine (Term.app $0 ( $1 (Term.syntheticHole ? _ ) ) ) )" [n,e]
def mqZ(n:mqS):mqS:=mqT "(Tactic.subst subst ( $0 ) )" [n]
def mqN(n:mqS):mqS:=mqT "(Tactic.intro intro ( $0 ) )" [n]
def mqC(n:mqS):mqS:=mqT "(Tactic.clear clear ( $0 ) )" [n]
def mqW(s:String):List String:=s.splitOn " "
def mqE(c:Bool)(r:mqS):mqR:=if c then pure r else Lean.Macro.throwUnsupported
def mqJ(n:String):String:=if (mqW "nil cons").contains n then "List" else if (mqW "none some").contains n then "Option" else if (mqW "true false").contains n then "Bool" else if (mqW "zero succ").contains n then "Nat" else if (mqW "dat w").contains n then "It" else ""
def mqO(e fin alt:mqS):Nat->Nat->mqS
 |_,0=>alt
 |i,j+1=>mqF (mqQ (mqA (mqI s!"x{i}_{j + 1}") e) fin) (mqO e fin alt (i+1) j)
def mqP(k:Nat)(u:Bool)(fin:mqS):List mqS->mqS
 |[]=>fin
 |p::r=>
  let fin:=mqP (k+1) u fin r
  let m:=p[0]
  let q:=m[0][0]
  let z:=mqI s!"zz{k}"
  let o:=m[0].getNumArgs==1
  let f:=q[0].getId == `rfl
  if o&&q[0].isToken "_" then if u then mqQ (mqN (mqT "(Term.hole _ )" [])) fin else fin
  else if o&&q[0].isIdent && !f then if u then mqQ (mqN q[0]) fin else fin
  else mqQ (if u then mqN z else if o&&f then mqZ z else mqT "(Tactic.obtain obtain ( $0 ) ( ) ( := ( $1 ) ) )" [m,z]) fin
def mqG(rs:List mqS)(a:mqS):mqS:=match rs with
 |[]=>a
 |r::rs=>
  let t:=r[1]
  let l:=if r[0].getNumArgs==0 then mqI "rwm" else mqI "rwl"
  let p (t:mqS):=mqT "(Term.app %propext ( $0 ) )" [t]
  let q:=mqT "(Term.app $0 ( (Term.ellipsis .. ) ) )" [t]
  mqQ (mqF (mqA l t) (mqF (mqA l q) (mqF (mqA l (p t)) (mqF (mqA l (p q)) (mqT "(Tactic.rewriteSeq rewrite (Tactic.optConfig ( ) ) (Tactic.rwRuleSeq [ ( $0 ) ] ) ( ) )" [r]))))) (mqG rs a)
def mqV(es hs a:mqS):Nat->Nat->mqS
 |_,0=>a
 |i,j+1=>
  let t (x:mqS):=mqT "(Tactic.refine refine (Term.app $0 $1 ) )" [mqI s!"y{i}_{j + 1}",x]
  mqF (mqQ (mqT "(Tactic.failIfSuccess fail_if_success (Tactic.failIfSuccess fail_if_success $0 ) )" [t hs]) (t es)) (mqV es hs a (i+1) j)
def mqH(s:mqS):mqR:=
 let es:=s[1][1].getSepArgs
 if s.getNumArgs==2&&s[1].isOfKind `Lean.Parser.Term.anonymousCtor&&es.size>2 then pure (mqV (Lean.mkNullNode es) (Lean.mkNullNode (es.map λ_=>mqT "(Term.syntheticHole ? _ )" [])) (mqT "(Tactic.refine refine $0 x )" [s[1]]) 1 (es.size-1))
 else Lean.Macro.throwUnsupported
local macro_rules (kind:=Lean.Parser.Tactic.obtain)
 |s=>do
  let m:=s[1][0][0]
  let ps:=m[0][1].getSepArgs.toList
  let e:=s[3][1][0]
  let fin:=mqP 0 true (mqP 0 false (mqT "(Tactic.skip skip )" []) ps) ps
  mqE (m.getNumArgs==1&&m[0].isOfKind `Lean.Parser.Tactic.rcasesPat.tuple&&s[2].getNumArgs==0&&ps.length>1) (mqO e (if e.isIdent then mqQ (mqF (mqC e) (mqT "(Tactic.skip skip )" [])) fin else fin) (mqT "(Tactic.rcases rcases ( (Tactic.elimTarget ( ) $0 ) ) ( with (Tactic.rcasesPatLo $1 ( ) ) ) )" [e,s[1][0]]) 0 ps.length)
local macro_rules (kind:=Lean.Parser.Tactic.rwSeq)
 |s=>mqE (s[1][0].getNumArgs==0&&s[3].getNumArgs==0) (mqG s[2][1].getSepArgs.toList (mqF (mqT "(Tactic.withReducible with_reducible (Tactic.tacticRfl rfl ) )" []) (mqT "(Tactic.skip skip )" [])))
local macro_rules (kind:=Lean.Parser.Tactic.lia)
 |s=>mqE (s.getNumArgs==2&&s[1][0].getNumArgs==0) (mqF (mqT "(Tactic.withReducible with_reducible (Tactic.assumption assumption ) )" []) (mqL (λn=>mqT "(Tactic.withReducible with_reducible (Tactic.tacticSeq (Tactic.tacticSeq1Indented ( (Tactic.apply apply $0 ) ; (Tactic.allGoals all_goals (Tactic.first first ( ( | (Tactic.assumption assumption ) ) ( | (Tactic.decide decide (Tactic.optConfig ( ) ) ) ) ) ) ) ) ) ) )" [mqI n]) (mqT "(Tactic.lia lia (Tactic.optConfig ( ) ) x )" []) (mqW "Nat.le_trans leT Nat.lt_of_le_of_lt Nat.lt_of_lt_of_le Nat.ne_of_lt Nat.ne_of_gt Nat.le_refl Nat.succ_pos leL leR Nat.le_of_lt leA Int.natCast_nonneg lt62d gt62 ltC ltD Nat.add_sub_cancel_left Nat.add_sub_add_left Int.ofNat_lt Int.ofNat_le Int.natCast_inj Nat.sub_le_sub_right Nat.le_of_not_lt Nat.min_le_left Nat.min_le_right")))
local macro_rules (kind:=Lean.Parser.Tactic.injection)
 |s=>do
  let h:=s[1]
  let z:=mqI "z"
  let u:=mqQ (mqN z) (mqZ z)
  let f (u:mqS) (n:String):=mqQ (mqA (mqI n) h) (mqQ (mqC h) u)
  mqE (h.isIdent&&s[2].getNumArgs==0) (mqL (λn=>mqT "(Tactic.exact exact (Term.app $0 ( $1 ) ) )" [mqI n,h]) (mqL (f u) (mqL (f (mqQ u u)) (mqF (mqQ (mqT "(Tactic.failIfSuccess fail_if_success (Tactic.failIfSuccess fail_if_success $0 ) )" [mqA (mqI "eqe") h]) (mqZ h)) (mqT "(Tactic.cases cases ( (Tactic.elimTarget ( ) $0 ) ) ( ) ( ) )" [h])) ["sj2", "pj2"]) ["sj", "vjr", "vjv", "sjr"]) ["nn", "ff", "nn'", "ff'"])
local macro_rules (kind:=Lean.Parser.Tactic.exact)
 |s=>mqH s
local macro_rules (kind:=Lean.Parser.Tactic.refine)
 |s=>mqH s
local macro_rules (kind:=Lean.Parser.Tactic.simp)
 |s=>
  let f:=λt=>mqT "(Tactic.withReducible with_reducible (Tactic.exact exact $0 ) )" [t]
  let g:=λt=>mqT "(Term.app %List.Mem.tail ( (Term.hole _ ) $0 ) )" [t]
  let a:=mqI "List.mem_cons_self"
  mqE (s.getNumArgs==6&&s[1][0].getNumArgs+s[2].getNumArgs+s[3].getNumArgs+s[4].getNumArgs+s[5].getNumArgs==0) (mqF (f a) (mqF (f (g a)) (mqF (f (g (g a))) (mqF (f (g (g (g a)))) (mqF (mqT "(Tactic.withReducible with_reducible (Tactic.tacticRfl rfl ) )" []) (mqT "(Tactic.simp simp (Tactic.optConfig ( ) ) ( ) ( ) ( ) ( ) x )" []))))))
local macro_rules (kind:=Lean.Parser.Tactic.cases)
 |s=>do
  let t:=mqJ (((s[3].find? (·.isIdent)).map (·.getId.toString)).getD "")
  mqE (s[2].getNumArgs==0&&s[3].getNumArgs != 0&&t != "") (mqT "(Tactic.induction induction $0 ( using $1 ) ( ) $2 )" [s[1],mqI (t ++ ".casesOn"),s[3]])
inductive KI where
 |len | ord | abs | isinstance | min | max | all
inductive Ty where
 |bool | int | str | tuple | range | enumerate
set_option genCtorIdx false in
set_option genInjectivity true in
inductive V where
 |undef
 |none
 |bool (b:Bool)
 |int (i:Int)
 |str (s:List Nat)
 |tup (vs:List V)
 |lst (vs:List V)
 |obj (c:Nat) (fs:List V)
 |ref (n:Nat)
 |base (a:Nat)
 |dct (ks:List (List Nat)) (vs:List V)
 |rng (a b s:Int)
 |blt (b:KI)
 |ty (t:Ty)
 |exn (c:Nat) (fs:List V)
gen_injective_theorems% V
noncomputable def fS.{v}{Q:Sort v}(h:false=true):Q:=nomatch h
noncomputable def V.int.elim.{v}{motive_1:V->Sort v}(t:V)(h:t.ctorIdx=3)(f:∀i,motive_1 (.int i)):motive_1 t:=(by clear h;induction t using V.casesOn<;>first | exact fS | exact λ_=>f _:Nat.beq 3 t.ctorIdx=true->motive_1 t) (zi (Nat.beq 3) h)
noncomputable def V.str.elim.{v}{motive_1:V->Sort v}(t:V)(h:t.ctorIdx=4)(f:∀s,motive_1 (.str s)):motive_1 t:=(by clear h;induction t using V.casesOn<;>first | exact fS | exact λ_=>f _:Nat.beq 4 t.ctorIdx=true->motive_1 t) (zi (Nat.beq 4) h)
noncomputable def V.tup.elim.{v}{motive_1:V->Sort v}(t:V)(h:t.ctorIdx=5)(f:∀vs,motive_1 (.tup vs)):motive_1 t:=(by clear h;induction t using V.casesOn<;>first | exact fS | exact λ_=>f _:Nat.beq 5 t.ctorIdx=true->motive_1 t) (zi (Nat.beq 5) h)
noncomputable def V.lst.elim.{v}{motive_1:V->Sort v}(t:V)(h:t.ctorIdx=6)(f:∀vs,motive_1 (.lst vs)):motive_1 t:=(by clear h;induction t using V.casesOn<;>first | exact fS | exact λ_=>f _:Nat.beq 6 t.ctorIdx=true->motive_1 t) (zi (Nat.beq 6) h)
noncomputable def V.ref.elim.{v}{motive_1:V->Sort v}(t:V)(h:t.ctorIdx=8)(f:∀n,motive_1 (.ref n)):motive_1 t:=(by clear h;induction t using V.casesOn<;>first | exact fS | exact λ_=>f _:Nat.beq 8 t.ctorIdx=true->motive_1 t) (zi (Nat.beq 8) h)
noncomputable def V.bool.elim.{v}{motive_1:V->Sort v}(t:V)(h:t.ctorIdx=2)(f:∀b,motive_1 (.bool b)):motive_1 t:=(by clear h;induction t using V.casesOn<;>first | exact fS | exact λ_=>f _:Nat.beq 2 t.ctorIdx=true->motive_1 t) (zi (Nat.beq 2) h)
noncomputable def V.dct.elim.{v}{motive_1:V->Sort v}(t:V)(h:t.ctorIdx=10)(f:∀ks vs,motive_1 (.dct ks vs)):motive_1 t:=(by clear h;induction t using V.casesOn<;>first | exact fS | exact λ_=>f _ _:Nat.beq 10 t.ctorIdx=true->motive_1 t) (zi (Nat.beq 10) h)
noncomputable def V.base.elim.{v}{motive_1:V->Sort v}(t:V)(h:t.ctorIdx=9)(f:∀a,motive_1 (.base a)):motive_1 t:=(by clear h;induction t using V.casesOn<;>first | exact fS | exact λ_=>f _:Nat.beq 9 t.ctorIdx=true->motive_1 t) (zi (Nat.beq 9) h)
noncomputable def V.none.elim.{v}{motive_1:V->Sort v}(t:V)(h:t.ctorIdx=1)(f:motive_1 .none):motive_1 t:=(by clear h;induction t using V.casesOn<;>first | exact fS | exact λ_=>f:Nat.beq 1 t.ctorIdx=true->motive_1 t) (zi (Nat.beq 1) h)
def vjr{a b:Nat}{Q:Prop}(h:V.ref a=V.ref b)(k:a=b->Q):Q:=V.noConfusion h k
def vjv{a b:Nat}{Q:Prop}(h:Value.ref a=Value.ref b)(k:a=b->Q):Q:=Value.noConfusion h k
def sjr{a b:Nat}{Q:Prop}(h:some (Value.ref a)=some (Value.ref b))(k:a=b->Q):Q:=vjv (Option.some.inj h) k
set_option genCtorIdx false in
set_option genInjectivity true in
inductive O where
 |list (vs:List V)
 |inst (c:Nat) (fs:List (Nat×V))
 |dict (ks:List (List Nat)) (vs:List V)
 |iter (vs:List V)
 |gone
gen_injective_theorems% O
noncomputable abbrev QP:=Value->Shared->Prop
noncomputable abbrev Hp:=List O
noncomputable abbrev Loc:=List (Option V)
abbrev KP:=V->Hp->Prop
abbrev XP:=Nat->List V->Hp->Prop
abbrev ba:=Nat->List V->Hp->KP->XP->Prop
set_option genCtorIdx false in
mutual
inductive PE where
 |bad
 |var (i:Nat)
 |fre (i:Nat)
 |lit (v:V)
 |glb (k:Nat)
 |not_ (e:PE)
 |bool (bv:Bool) (es:de)
 |cmp (a:PE) (op:CmpOp) (b:PE)
 |cmp2 (a:PE) (op:CmpOp) (b:PE) (eL:CmpOp) (e:PE)
 |bin (a:PE) (op:Operator) (b:PE)
 |addO (a:PE) (b:PE)
 |ite (t a b:PE)
 |attr (e:PE) (k:Nat)
 |idx (e i:PE)
 |slc (e:PE) (lo hi st:PE)
 |tup (es:de)
 |list (es:de)
 |listO (es:de)
 |dict (ks:List (List Nat)) (vs:de)
 |dictO
 |comp (nt:Nat) (elt:PE) (iter:PE) (aF:de)
 |call (f:PE) (args:de)
 |meth (k:Nat) (o:PE) (args:de)
 |frz (e:PE)
 |fstr (M:List Nat) (e:PE)
inductive de where
 |z
 |k (e:PE) (es:de)
end
gen_injective_theorems% PE
gen_injective_theorems% de
noncomputable def PE.lit.elim.{v}{motive_1:PE->Sort v}(t:PE)(h:t.ctorIdx=3)(f:∀v,motive_1 (.lit v)):motive_1 t:=(by clear h;induction t using PE.casesOn<;>first | exact fS | exact λ_=>f _:Nat.beq 3 t.ctorIdx=true->motive_1 t) (zi (Nat.beq 3) h)
noncomputable def PE.var.elim.{v}{motive_1:PE->Sort v}(t:PE)(h:t.ctorIdx=1)(f:∀i,motive_1 (.var i)):motive_1 t:=(by clear h;induction t using PE.casesOn<;>first | exact fS | exact λ_=>f _:Nat.beq 1 t.ctorIdx=true->motive_1 t) (zi (Nat.beq 1) h)
noncomputable def PE.glb.elim.{v}{motive_1:PE->Sort v}(t:PE)(h:t.ctorIdx=4)(f:∀k,motive_1 (.glb k)):motive_1 t:=(by clear h;induction t using PE.casesOn<;>first | exact fS | exact λ_=>f _:Nat.beq 4 t.ctorIdx=true->motive_1 t) (zi (Nat.beq 4) h)
noncomputable def PE.cmp2.elim.{v}{motive_1:PE->Sort v}(t:PE)(h:t.ctorIdx=8)(f:∀a op b eL e,motive_1 (.cmp2 a op b eL e)):motive_1 t:=(by clear h;induction t using PE.casesOn<;>first | exact fS | exact λ_=>f _ _ _ _ _:Nat.beq 8 t.ctorIdx=true->motive_1 t) (zi (Nat.beq 8) h)
noncomputable def PE.ite.elim.{v}{motive_1:PE->Sort v}(t:PE)(h:t.ctorIdx=11)(f:∀t a b,motive_1 (.ite t a b)):motive_1 t:=(by clear h;induction t using PE.casesOn<;>first | exact fS | exact λ_=>f _ _ _:Nat.beq 11 t.ctorIdx=true->motive_1 t) (zi (Nat.beq 11) h)
noncomputable def PE.attr.elim.{v}{motive_1:PE->Sort v}(t:PE)(h:t.ctorIdx=12)(f:∀e k,motive_1 (.attr e k)):motive_1 t:=(by clear h;induction t using PE.casesOn<;>first | exact fS | exact λ_=>f _ _:Nat.beq 12 t.ctorIdx=true->motive_1 t) (zi (Nat.beq 12) h)
noncomputable def PE.call.elim.{v}{motive_1:PE->Sort v}(t:PE)(h:t.ctorIdx=21)(f:∀f args,motive_1 (.call f args)):motive_1 t:=(by clear h;induction t using PE.casesOn<;>first | exact fS | exact λ_=>f _ _:Nat.beq 21 t.ctorIdx=true->motive_1 t) (zi (Nat.beq 21) h)
noncomputable def PE.comp.elim.{v}{motive_1:PE->Sort v}(t:PE)(h:t.ctorIdx=20)(f:∀nt elt iter aF,motive_1 (.comp nt elt iter aF)):motive_1 t:=(by clear h;induction t using PE.casesOn<;>first | exact fS | exact λ_=>f _ _ _ _:Nat.beq 20 t.ctorIdx=true->motive_1 t) (zi (Nat.beq 20) h)
set_option genCtorIdx false in
mutual
inductive PS where
 |bad
 |asg (i:Nat) (e:PE)
 |asgs (ts:List Nat) (e:PE)
 |seta (o:PE) (k:Nat) (e:PE)
 |seti (o i e:PE)
 |exp (e:PE)
 |ret (e:PE)
 |retn
 |raise (g:Nat) (args:de)
 |ite (t:PE) (a b:bh)
 |whil (t:PE) (b:bh)
 |for_ (ts:List Nat) (it:PE) (b:bh)
 |try_ (b:bh) (g:Nat) (v:Nat) (h:bh)
 |cont
 |brk
inductive bh where
 |z
 |k (s:PS) (ss:bh)
end
gen_injective_theorems% PS
gen_injective_theorems% bh
noncomputable def PS.ret.elim.{v}{motive_1:PS->Sort v}(t:PS)(h:t.ctorIdx=6)(f:∀e,motive_1 (.ret e)):motive_1 t:=(by clear h;induction t using PS.casesOn<;>first | exact fS | exact λ_=>f _:Nat.beq 6 t.ctorIdx=true->motive_1 t) (zi (Nat.beq 6) h)
set_option genCtorIdx false in
inductive Fl where
 |next | brk | cont
 |ret (v:V)
gen_injective_theorems% Fl
structure FD where
 n:Nat
 dfl:List V
 locs:List String
 body:bh
mutual
noncomputable def V.plain:Nat->V->Bool
 |_,.none=>true
 |_,.int _=>true
 |_,.str s=>s.all (· < 0x110000)
 |n,.tup vs=>match n with
  |0=>false
  |n+1=>V.plains n vs
 |n,.lst vs=>match n with
  |0=>false
  |n+1=>V.plains n vs
 |_,_=>false
noncomputable def V.plains:Nat->List V->Bool
 |_,[]=>true
 |n,v::vs=>v.plain n&&V.plains n vs
end
noncomputable def WG(w:V)(k:Int->Bool):Bool:=if h:w.ctorIdx=3 then V.int.elim (motive_1:=λ_=>Bool) w h k else false
noncomputable def WH(w:V)(k:List Nat->Bool):Bool:=if h:w.ctorIdx=4 then V.str.elim (motive_1:=λ_=>Bool) w h k else false
noncomputable def WI(w:V)(k:List V->Bool):Bool:=if h:w.ctorIdx=5 then V.tup.elim (motive_1:=λ_=>Bool) w h k else false
noncomputable def WJ(w:V)(k:List V->Bool):Bool:=if h:w.ctorIdx=6 then V.lst.elim (motive_1:=λ_=>Bool) w h k else false
mutual
noncomputable def V.eqb:V->V->Bool
 |.none,w=>w.ctorIdx==1
 |.int a,w=>WG w λb=>decide (a=b)
 |.str a,w=>WH w λb=>decide (a=b)
 |.tup a,w=>WI w λb=>V.eqbs a b
 |.lst a,w=>WJ w λb=>V.eqbs a b
 |.undef,_=>false | .bool _,_=>false | .obj _ _,_=>false | .ref _,_=>false | .base _,_=>false | .dct _ _,_=>false | .rng _ _ _,_=>false | .blt _,_=>false | .ty _,_=>false | .exn _ _,_=>false
noncomputable def V.eqbs:List V->List V->Bool
 |[],w=>match w with
  |[]=>true
  |_::_=>false
 |a::as,w=>match w with
  |[]=>false
  |b::bs=>V.eqb a b&&V.eqbs as bs
end
def V.eqbs_0:V.eqbs [] w=(match w with
  |[]=>true
  |_::_=>false):=rfl
def V.eqbs_1:V.eqbs (a::as) w=(match w with
  |[]=>false
  |b::bs=>V.eqb a b&&V.eqbs as bs):=rfl
noncomputable def uC{β:Type}(H:Hp)(n:Nat)(d:β)(f:O->β):β:=H[n]?.elim d f
noncomputable def F7(n:Nat)(o:O):V:=match o with | .list vs=>.lst vs | _=>.ref n
noncomputable def F8{α:Type}(v:V)(k:Nat->α)(d:α):α:=if h:v.ctorIdx=8 then V.ref.elim (motive_1:=λ_=>α) v h k else d
def Bx{α:Type}{k:Nat->α}{d:α}(hv:∀n,v≠.ref n):F8 v k d=d:=zX λc=>V.ref.elim (motive_1:=λv=>(∀n,v≠.ref n)->False) v c (λn hv=>hv n rfl) hv
def V.res(H:Hp)(v:V):V:=F8 v (λn=>uC H n (.ref n) (F7 n)) v
section
variable{α:Type}
noncomputable def cN(v:V)(k:Int->Option α):Option α:=if h:v.ctorIdx=3 then V.int.elim (motive_1:=λ_=>Option α) v h k else none
noncomputable def ji(v:V)(k:List Nat->Option α):Option α:=if h:v.ctorIdx=4 then V.str.elim (motive_1:=λ_=>Option α) v h k else none
noncomputable def yy(v:V)(k:List V->Option α):Option α:=if h:v.ctorIdx=5 then V.tup.elim (motive_1:=λ_=>Option α) v h k else none
noncomputable def jI(v:V)(k:List V->Option α):Option α:=if h:v.ctorIdx=6 then V.lst.elim (motive_1:=λ_=>Option α) v h k else none
noncomputable def yz(v:V)(k:Nat->Option α):Option α:=if h:v.ctorIdx=8 then V.ref.elim (motive_1:=λ_=>Option α) v h k else none
noncomputable def wx(v:V)(k:Bool->Option α):Option α:=if h:v.ctorIdx=2 then V.bool.elim (motive_1:=λ_=>Option α) v h k else none
noncomputable def q0(l:List V)(k:Option α):Option α:=match l with | []=>k | _::_=>none
noncomputable def qC(l:List V)(k:V->List V->Option α):Option α:=match l with | []=>none | a::r=>k a r
def q1(l:List V)(k:V->Option α):Option α:=qC l λa r=>q0 r (k a)
def q2(l:List V)(k:V->V->Option α):Option α:=qC l λa r=>q1 r (k a)
noncomputable def VN(l:List Nat)(k:Nat->Option α):Option α:=match l with | []=>none | c::r=>match r with | []=>k c | _::_=>none
def r0(v:V)(k:Nat->Option α):Option α:=ji v λs=>VN s k
noncomputable def qOn(n m:Nat)(a b:Option α):Option α:=cond (Nat.beq n m) a b
noncomputable def JN(o:O)(k:List V->Option α):Option α:=match o with | .iter vs=>k vs | .list _=>none | .inst _ _=>none | .dict _ _=>none | .gone=>none
noncomputable def JO(o:O)(k:List V->Option α):Option α:=match o with | .list vs=>k vs | _=>none
noncomputable def F9(o:O)(k:Nat->List (Nat×V)->Option α):Option α:=match o with | .inst c fs=>k c fs | _=>none
noncomputable def JP(o:O)(k:List (List Nat)->List V->Option α):Option α:=match o with | .dict ks vs=>k ks vs | _=>none
def hList(H:Hp)(n:Nat)(k:List V->Option α):Option α:=uC H n none λo=>JO o k
def wy(H:Hp)(n:Nat)(k:List (List Nat)->List V->Option α):Option α:=uC H n none λo=>JP o k
noncomputable def eJ(v:V)(i:Int->Option α)(s:List Nat->Option α)(t l:List V->Option α):Option α:=
 if h:v.ctorIdx=3 then V.int.elim (motive_1:=λ_=>Option α) v h i else if h:v.ctorIdx=4 then V.str.elim (motive_1:=λ_=>Option α) v h s else if h:v.ctorIdx=5 then V.tup.elim (motive_1:=λ_=>Option α) v h t else if h:v.ctorIdx=6 then V.lst.elim (motive_1:=λ_=>Option α) v h l else none
def Ga(H:Hp)(v:V)(k:List (List Nat)->List V->Option α):Option α:=
 if h:v.ctorIdx=8 then V.ref.elim (motive_1:=λ_=>Option α) v h (λn=>wy H n k) else if h:v.ctorIdx=10 then V.dct.elim (motive_1:=λ_=>Option α) v h k else none
end
def KJ(b:V):Option Bool:=jI b λm=>match m with
 |[]=>some false
 |_::_=>none
def mj(a b:V):Option Bool:=jI a λl=>match l with
 |[]=>none
 |_::_=>KJ b
def Gb(H:Hp)(a b:V):Option Bool:=
 if (a.res H).plain 60&&(b.res H).plain 60 then some (V.eqb (a.res H) (b.res H)) else mj (a.res H) (b.res H)
noncomputable def mM(v:V):Option Bool:=if v.ctorIdx=1 then some true else if v.ctorIdx=0 then none else if v.ctorIdx=12 then none else some false
noncomputable def ee(v:V)(k:Nat->Option Bool):Option Bool:=if v.ctorIdx=1 then some false else if h:v.ctorIdx=9 then V.base.elim (motive_1:=λ_=>Option Bool) v h k else none
noncomputable def uF(v:V):Option Bool:=if v.ctorIdx=1 then some false else none
noncomputable def JQ(o:O):Option Bool:=match o with | .inst _ _=>some false | _=>none
def mN(H:Hp)(a b:V):Option Bool:=match a with
 |.undef=>none
 |.blt _=>none
 |.none=>mM b
 |.base a=>ee b λb=>some (decide (a=b))
 |.ref a=>match b with
  |.none=>some false
  |.ref b=>if a=b then some true else none
  |.base _=>uC H a none JQ
  |_=>none
 |.obj c _=>ee b λb=>if c=38 || !(b==44||b==47) then none else some false
 |.str _=>ee b λ_=>some false
 |.int _=>ee b λ_=>some false
 |.bool _=>ee b λ_=>some false
 |_=>uF b
def se(a:V)(vs:List V):Option Bool:=if a.plain 60&&V.plains 60 vs then some (vs.any λy=>V.eqb y a) else none
def Gc(_H:Hp)(a b:V):Option Bool:=match b with
 |.str s=>r0 a λc=>some (decide (c∈s))
 |.lst vs=>se a vs
 |.tup vs=>se a vs
 |.dct ks _=>ji a λl=>some (ks.contains l)
 |_=>none
noncomputable def o5:Option Bool->Option Bool
 |some b=>some (!b)
 |none=>none
def ac(H:Hp)(op:CmpOp)(a b:V):Option Bool:=
 match op with
 |.Eq=>Gb H a b
 |.NotEq=>o5 (Gb H a b)
 |.Is=>mN H a b
 |.IsNot=>o5 (mN H a b)
 |.In=>Gc H a b
 |.NotIn=>o5 (Gc H a b)
 |.Lt=>cN a λx=>cN b λy=>some (decide (x<y))
 |.LtE=>cN a λx=>cN b λy=>some (decide (x<=y))
 |.Gt=>cN a λx=>cN b λy=>some (decide (y<x))
 |.GtE=>cN a λx=>cN b λy=>some (decide (y<=x))
noncomputable def qk(vs:List V):Nat->List V
 |0=>[]
 |n+1=>vs++qk vs n
noncomputable def aD(i:Int):Bool:=decide (i.natAbs<4611686018427387904)
noncomputable def most:Nat:=2 ^ 20
def aj(n:Nat):Bool:=decide (n<=most)
def aT(H:Hp)(op:Operator)(a b:V):Option V:=match op with
 |.Add=>eJ (a.res H) (λx=>cN (b.res H) λy=>if aD x&&aD y then some (.int (x+y)) else none) (λx=>ji (b.res H) λy=>if aj x.length&&aj y.length then some (.str (x++y)) else none) (λx=>yy (b.res H) λy=>if aj x.length&&aj y.length then some (.tup (x++y)) else none) λx=>jI (b.res H) λy=>if aj x.length&&aj y.length then some (.lst (x++y)) else none
 |.Sub=>cN (a.res H) λx=>cN (b.res H) λy=>if aD x&&aD y then some (.int (x-y)) else none
 |.Mult=>eJ (a.res H) (λx=>cN (b.res H) λy=>if aD x&&aD y then some (.int (x*y)) else none) (λ_=>none) (λ_=>none) λx=>cN (b.res H) λy=>if aj x.length&&decide (0<=y)&&decide (y<=1000)&&decide (x.length<=1000) then some (.lst (qk x y.toNat)) else none
 |.FloorDiv=>cN (a.res H) λx=>cN (b.res H) λy=>if aD x&&decide (0<y)&&decide (y<1073741824) then some (.int (x/y)) else none
 |.Mod=>cN (a.res H) λx=>cN (b.res H) λy=>if aD y&&decide (0<y) then some (.int (x%y)) else none
 |.Pow=>cN (a.res H) λx=>cN (b.res H) λy=>if y=0&&aD x then some (.int 1) else none
 |_=>none
noncomputable def kE(ks:List Nat)(vs:List V)(k:Nat):Option V:=
 match ks,vs with
 |[],_=>none
 |a::as,vs=>match vs with
  |[]=>none
  |v::vs=>if a=k then some v else kE as vs k
theorem By{a k:Nat}{as:List Nat}{v:V}:kE (a::as) (v::vs) k=if a=k then some v else kE as vs k:=rfl
noncomputable def mP(fs:List (Nat×V))(k:Nat):Option V:=
 match fs with
 |[]=>none
 |(a,v)::r=>if a=k then some v else mP r k
theorem Ge{k a:Nat}:mP ((a,v)::r) k=if a=k then some v else mP r k:=rfl
noncomputable def hJ(fs:List (Nat×V))(k:Nat)(v:V):List (Nat×V):=
 match fs with
 |[]=>[(k,v)]
 |(a,x)::r=>if a=k then (a,v)::r else (a,x)::hJ r k v
theorem KM{k:Nat}:hJ [] k v=[(k,v)]:=rfl
theorem Bz{k a:Nat}{x:V}:hJ ((a,x)::r) k v=if a=k then (a,v)::r else (a,x)::hJ r k v:=rfl
noncomputable def dictGet(ks:List (List Nat))(vs:List V)(k:List Nat):Option V:=
 match ks,vs with
 |[],_=>none
 |a::as,vs=>match vs with
  |[]=>none
  |v::vs=>if a=k then some v else dictGet as vs k
theorem dy{a k:List Nat}{v:V}:dictGet (a::as) (v::vs) k=if a=k then some v else dictGet as vs k:=rfl
theorem dz{k:List Nat}:dictGet [] vs k=none:=rfl
noncomputable def dictPut(ks:List (List Nat))(vs:List V)(k:List Nat)(x:V):List (List Nat)×List V:=
 match ks,vs with
 |[],_=>([k],[x])
 |a::as,vs=>match vs with
  |[]=>([k],[x])
  |v::vs=>if a=k then (a::as,x::vs) else let r:=dictPut as vs k x; (a::r.1,v::r.2)
theorem cU{a k:List Nat}{x v:V}:dictPut (a::as) (v::vs) k x=if a=k then (a::as,x::vs) else (a::(dictPut as vs k x).1,v::(dictPut as vs k x).2):=rfl
theorem pn{k:List Nat}{x:V}:dictPut [] vs k x=([k],[x]):=rfl
theorem yA{a k:List Nat}{x:V}:dictPut (a::as) [] k x=([k],[x]):=rfl
def dU(n:Nat)(i:Int):Option Nat:=if aD i then seqIndex? i n else none
def bY(H:Hp)(v i:V):Option V:=match v.res H with
 |.lst vs=>cN i λi=>(dU vs.length i).bind λj=>vs[j]?
 |.tup vs=>cN i λi=>(dU vs.length i).bind λj=>vs[j]?
 |.str s=>cN i λi=>(dU s.length i).bind λj=>(s[j]?).map λc=>.str [c]
 |.dct ks vs=>ji i λk=>dictGet ks vs k
 |_=>none
def dB:V->Option (Option Int)
 |.undef=>some none
 |.int i=>if aD i then some (some i) else none
 |_=>none
noncomputable def cut{α:Type}(l:List α)(lo hi:Option Int):List α:=(l.drop (lo.elim 0 (clipAt l.length))).take (hi.elim l.length (clipAt l.length) - lo.elim 0 (clipAt l.length))
def BA(H:Hp)(v lo hi:V):Option V:=(dB lo).bind λl=>(dB hi).bind λu=>eJ (v.res H) (λ_=>none) (λs=>if aj s.length then some (.str (cut s l u)) else none) (λ_=>none) λvs=>if aj vs.length then some (.lst (cut vs l u)) else none
def wz(H:Hp)(v lo hi:V):Option V:=(dB lo).bind λl=>(dB hi).bind λu=>jI (v.res H) λvs=>if l.isNone&&u.isNone&&aj vs.length then some (.lst vs.reverse) else none
def eg(H:Hp)(v lo hi st:V):Option V:=match st with
 |.undef=>BA H v lo hi
 |.int i=>if i=-1 then wz H v lo hi else none
 |_=>none
noncomputable def KI.id:KI->String
 |.len=> "len" | .ord=> "ord" | .abs=> "abs" | .isinstance=> "isinstance" | .min=> "min" | .max=> "max" | .all=> "all"
noncomputable def Ty.id:Ty->String
 |.bool=> "bool" | .int=> "int" | .str=> "str" | .tuple=> "tuple" | .range=> "range" | .enumerate=> "enumerate"
noncomputable def dS:List Nat:=[65,128,149,170,191,212,400,462,568,702,723,808]
noncomputable def BB(o:O):Option Value:=match o with
 |.inst c _=>if dS.contains c then some (.ref c) else none
 |_=>none
def BC(H:Hp):V->Option Value
 |.bool _=>some (.type "bool")
 |.int _=>some (.type "int")
 |.str _=>some (.type "str")
 |.none=>some (.type "NoneType")
 |.tup _=>some (.type "tuple")
 |.lst _=>some (.type "list")
 |.obj c _=>some (.ref c)
 |.ref n=>uC H n none BB
 |.base a=>if a=44\/a=47 then some (.ref 38) else none
 |_=>none
noncomputable def TJ(t:Ty):Option Value:=match t with
 |.bool=>some (.type "bool")
 |.int=>some (.type "int")
 |.str=>some (.type "str")
 |_=>none
def Gf:V->Option Value
 |.ty t=>TJ t
 |.base a=>if (323::dS).contains a then some (.ref a) else none
 |_=>none
noncomputable def BD(t c:Value):Bool:=t==c||(t==.type "bool" && c==.type "int")
def BE(H:Hp)(v c:V):Option Bool:=(BC H v).bind λt=>(Gf c).bind λc=>some (BD t c)
def Gg:List V->Option Bool
 |[]=>some true
 |v::vs=>wx v λb=>(Gg vs).map (b && ·)
def aP(H:Hp)(b:KI)(args:List V):Option V:=match b with
 |.len=>q1 args λv=>eJ (v.res H) (λ_=>none) (λs=>if aj s.length then some (.int s.length) else none) (λvs=>if aj vs.length then some (.int vs.length) else none) λvs=>if aj vs.length then some (.int vs.length) else none
 |.ord=>q1 args λa=>r0 a λc=>some (.int c)
 |.abs=>q1 args λa=>cN a λi=>some (.int i.natAbs)
 |.isinstance=>q2 args λv c=>(BE H v c).map .bool
 |.min=>q2 args λx y=>cN x λa=>cN y λb=>some (.int (if b<a then b else a))
 |.max=>q2 args λx y=>cN x λa=>cN y λb=>some (.int (if a<b then b else a))
 |.all=>q1 args λx=>jI x λvs=>(Gg vs).map .bool
noncomputable def eK:Nat->List V->List V
 |_,[]=>[]
 |n,v::vs=>.tup [.int n,v]::eK (n+1) vs
def Bq(H:Hp)(t:Ty)(args:List V):Option V:=match t with
 |.int=>q1 args λx=>wx x λb=>some (.int (if b then 1 else 0))
 |.tuple=>q1 args λv=>jI (v.res H) λvs=>if aj vs.length then some (.tup vs) else none
 |.range=>qC args λx r=>cN x λa=>match r with
  |[]=>if aD a then some (.rng 0 a 1) else none
  |y::r=>cN y λb=>q1 r λz=>cN z λs=>if aD a&&aD b&&decide (s=-1) then some (.rng a b s) else none
 |_=>none
def wA(args:List V):Option (List V):=q1 args λv=>eJ v (λ_=>none) (λs=>some (eK 0 (s.map λc=>.str [c]))) (λ_=>none) λvs=>some (eK 0 vs)
noncomputable def rX(a:Int):Nat->List V
 |0=>[]
 |n+1=>.int a::rX (a+1) n
noncomputable def gW(a:Int):Nat->List V
 |0=>[]
 |n+1=>.int a::gW (a-1) n
def dJ(v:V):Option (List V):=
 match v with
 |.lst vs=>some vs
 |.tup vs=>some vs
 |.str s=>some (s.map λc=>.str [c])
 |.rng a b s=>if aD a&&aD b then (if s=1 then some (rX a (b-a).toNat) else if s=-1 then some (gW a (a-b).toNat) else none) else none
 |.undef=>none | .none=>none | .bool _=>none | .int _=>none | .obj _ _=>none | .ref _=>none | .base _=>none | .dct _ _=>none | .blt _=>none | .ty _=>none | .exn _ _=>none
theorem Gh{a b s:Int}:dJ (.rng a b s)=if aD a&&aD b then (if s=1 then some (rX a (b-a).toNat) else if s=-1 then some (gW a (a-b).toNat) else none) else none:=rfl
def fG(nt:Nat)(H:Hp)(v:V):Option (List V×Hp):=
 F8 v (λn=>uC H n none λo=>JN o λvs=>if nt=2 then some (vs,H.set n .gone) else none) ((dJ v).map λvs=>(vs,H))
def yB{nt n:Nat}{H:Hp}(e:fG nt H (.ref n)=some (xs,H')):nt=2/\H[n]?=some (.iter xs)/\H'=H.set n .gone:=by
 have e:H[n]?.elim none (λo=>JN o λvs=>if nt=2 then some (vs,H.set n .gone) else none)=some (xs,H'):=e
 cases hH:H[n]? with
 |none=>rw[hH]at e;injection e
 |some o=>
  rw[hH]at e
  cases o with
  |iter vs=>
   have e:(if nt=2 then some (vs,H.set n .gone) else none)=some (xs,H'):=e
   by_cases c:nt=2
   .rw[if_pos c]at e;injection e;exact⟨c,rfl,rfl⟩
   .rw[if_neg c]at e;injection e
  |_=>injection e
def gu(a:V):List V->Option Nat
 |[]=>none
 |x::r=>if V.eqb x a then some 0 else (gu a r).map (· + 1)
noncomputable abbrev aH(s:List Nat):Str:=⟨s.toArray⟩
def eY:List V->Option (List (List Nat))
 |[]=>some []
 |v::vs=>ji v λs=>(eY vs).map (s::·)
noncomputable def lK(sep:List Nat):List (List Nat)->List Nat
 |[]=>[]
 |[s]=>s
 |s::r=>s++sep++lK sep r
def BF(H:Hp)(o:V)(args:List V):Option (V×Hp):=yz o λn=>q1 args λx=>hList H n λvs=>if aj vs.length then some (.none,H.set n (.list (vs++[x]))) else none
def OB(H:Hp)(o:V)(args:List V):Option (V×Hp):=yz o λn=>q0 args <| hList H n λvs=>if aj vs.length then (vs.getLast?).map λx=>(x,H.set n (.list vs.dropLast)) else none
def OC(H:Hp)(o:V)(args:List V):Option (V×Hp):=q2 args λkey d=>ji key λkey=>Ga H o λks vs=>some ((dictGet ks vs key).getD d,H)
def BG(H:Hp)(s:List Nat)(a:V):Option (V×Hp):=r0 a λc=>(Builtin.Str.occurrences (aH s) (aH [c]) 0 s.length 1).head?.map λ(i:Nat)=>(V.int (i:Int),H)
def BH(H:Hp)(vs:List V)(a:V):Option (V×Hp):=if aj vs.length&&a.plain 60&&V.plains 60 vs then (gu a vs).map λ(i:Nat)=>(V.int (i:Int),H) else none
def Gi(H:Hp)(o:V)(args:List V):Option (V×Hp):=q1 args λa=>eJ o (λ_=>none) (λs=>BG H s a) (λ_=>none) λvs=>BH H vs a
def BI(H:Hp)(o:V)(args:List V):Option (V×Hp):=ji o λs=>q1 args λa=>r0 a λc=>if aj s.length then some (.str (Txt.rstripChars (aH s) (aH [c])).cps.toList,H) else none
def KN(s:List Nat)(c:Nat):=Builtin.Str.occurrences (aH s) (aH [c]) 0 s.length (s.length+1)
def qm(s:List Nat)(c:Nat):=Builtin.Str.partsBetween (aH s) (KN s c) 1
def Gj(H:Hp)(o:V)(args:List V):Option (V×Hp):=ji o λs=>q1 args λa=>r0 a λc=>
 if aj s.length&&aj (qm s c).length && !(decide (s.length<1)||decide (Builtin.Str.strKind (aH s)<Builtin.Str.strKind (aH [c]))) && !(KN s c).isEmpty then some (.lst ((qm s c).map λp=>.str p.cps.toList),H) else none
def Gk(H:Hp)(o:V)(args:List V):Option (V×Hp):=ji o λs=>q0 args <| if aj s.length&&aj (Txt.lower (aH s)).length then some (.str (Txt.lower (aH s)).cps.toList,H) else none
def KO(H:Hp)(o:V)(args:List V):Option (V×Hp):=ji o λsep=>q1 args λv=>jI (v.res H) λvs=>(eY vs).bind λss=>
 if aj ((ss.map length).sum+ss.length*sep.length) then some (.str (lK sep ss),H) else none
def KQ(H:Hp)(o:V)(args:List V):Option (V×Hp):=ji o λs=>q1 args λa=>r0 a λc=>some (.int (Txt.find (aH s) (aH [c])),H)
def kA(H:Hp)(k:Nat)(o:V)(args:List V):Option (V×Hp):=
 qOn k 4 (BF H o args) <| qOn k 48 (OB H o args) <| qOn k 5 (OC H o args) <| qOn k 13 (Gi H o args) <| qOn k 14 (BI H o args) <| qOn k 16 (Gj H o args) <|
 qOn k 17 (Gk H o args) <| qOn k 22 (KO H o args) <| qOn k 23 (KQ H o args) none
def l9(k kd:Nat):Option String:=
 qOn kd 1 (qOn k 4 (some "list.append") <| qOn k 48 (some "list.pop") <| qOn k 13 (some "list.index") none) <|
 qOn kd 2 (qOn k 5 (some "dict.get") none) <|
 qOn kd 3 (qOn k 13 (some "str.index") <| qOn k 14 (some "str.rstrip") <| qOn k 16 (some "str.split") <| qOn k 17 (some "str.lower") <| qOn k 22 (some "str.join") <| qOn k 23 (some "str.find") none) none
section
variable{α:Type}{r:α}{Q:Prop}
def ae{a:α}{m:α->Prop}(h:some a=some r)(f:m a):m r:=Option.some.inj h▸f
def dp{m:V->Prop}{k:Int->Option α}(h:cN v k=some r)(f:∀i,k i=some r->m (.int i)):m v:=if c:v.ctorIdx=3 then V.int.elim (motive_1:=λv=>cN v k=some r->m v) v c (λi=>f i) h else nn ((zX c).symm.trans h)
def eC{m:V->Prop}{k:List Nat->Option α}(h:ji v k=some r)(f:∀i,k i=some r->m (.str i)):m v:=if c:v.ctorIdx=4 then V.str.elim (motive_1:=λv=>ji v k=some r->m v) v c (λi=>f i) h else nn ((zX c).symm.trans h)
def BJ{m:V->Prop}{k:List V->Option α}(h:yy v k=some r)(f:∀i,k i=some r->m (.tup i)):m v:=if c:v.ctorIdx=5 then V.tup.elim (motive_1:=λv=>yy v k=some r->m v) v c (λi=>f i) h else nn ((zX c).symm.trans h)
def BL{m:V->Prop}{k:List V->Option α}(h:jI v k=some r)(f:∀i,k i=some r->m (.lst i)):m v:=if c:v.ctorIdx=6 then V.lst.elim (motive_1:=λv=>jI v k=some r->m v) v c (λi=>f i) h else nn ((zX c).symm.trans h)
def qo{m:V->Prop}{k:Nat->Option α}(h:yz v k=some r)(f:∀i,k i=some r->m (.ref i)):m v:=if c:v.ctorIdx=8 then V.ref.elim (motive_1:=λv=>yz v k=some r->m v) v c (λi=>f i) h else nn ((zX c).symm.trans h)
def wB{m:V->Prop}{k:Bool->Option α}(h:wx v k=some r)(f:∀i,k i=some r->m (.bool i)):m v:=if c:v.ctorIdx=2 then V.bool.elim (motive_1:=λv=>wx v k=some r->m v) v c (λi=>f i) h else nn ((zX c).symm.trans h)
def KR{m:List V->Prop}{k:Option α}(h:q0 l k=some r)(f:k=some r->m []):m l:=by induction l using casesOn<;>first | exact f h | exact nn h
def KT{m:List V->Prop}{k:V->List V->Option α}(h:qC l k=some r)(f:∀a t,k a t=some r->m (a::t)):m l:=by induction l using casesOn<;>first | exact f _ _ h | exact nn h
def kG{m:List V->Prop}{k:V->Option α}(h:q1 l k=some r)(f:∀a,k a=some r->m [a]):m l:=KT (m:=m) h λa _ h=>KR (m:=λt=>m (a::t)) h (f a)
def uG{m:List V->Prop}{k:V->V->Option α}(h:q2 l k=some r)(f:∀a b,k a b=some r->m [a,b]):m l:=KT (m:=m) h λa _ h=>kG (m:=λt=>m (a::t)) h (f a)
def OD{m:List Nat->Prop}{l:List Nat}{k:Nat->Option α}(h:VN l k=some r)(f:∀c,k c=some r->m [c]):m l:=by
 cases l with
 |nil=>exact nn h
 |cons c t=>induction t using casesOn<;>first | exact f _ h | exact nn h
def qp{m:V->Prop}{k:Nat->Option α}(h:r0 v k=some r)(f:∀c,k c=some r->m (.str [c])):m v:=eC (m:=m) h λ_ h=>OD (m:=λs=>m (.str s)) h f
def cw{m:Nat->Prop}{n j:Nat}{a b:Option α}(h:qOn n j a b=some r)(f:a=some r->m j)(g:b=some r->m n):m n:=by
 unfold qOn at h
 cases e:Nat.beq n j
 .rw[e]at h;exact g h
 .rw[e]at h;cases eq_of_beq_eq_true e;exact f h
def Gl{m:O->Prop}{k:List V->Option α}(h:JO o k=some r)(f:∀vs,k vs=some r->m (.list vs)):m o:=by induction o using O.casesOn<;>first | exact f _ h | exact nn h
def Gm{m:O->Prop}{k:List (List Nat)->List V->Option α}(h:JP o k=some r)(f:∀ks vs,k ks vs=some r->m (.dict ks vs)):m o:=by induction o using O.casesOn<;>first | exact f _ _ h | exact nn h
def KU{m:O->Prop}{k:Nat->List (Nat×V)->Option α}(h:F9 o k=some r)(f:∀c fs,k c fs=some r->m (.inst c fs)):m o:=by induction o using O.casesOn<;>first | exact f _ _ h | exact nn h
def fH{β:Type}{H:Hp}{n:Nat}{d:β}{f:O->β}(h:H[n]?=some o):uC H n d f=f o:=zi (Option.elim · d f) h
def wC{H:Hp}{n:Nat}{f:O->Option α}(h:uC H n none f=some r)(g:∀o,H[n]?=some o->f o=some r->Q):Q:=by
 unfold uC at h
 cases e:H[n]? with
 |none=>rw[e]at h;exact nn h
 |some o=>rw[e]at h;exact g o e h
def wD{H:Hp}{n:Nat}{k:List V->Option α}(h:hList H n k=some r)(f:∀vs,H[n]?=some (.list vs)->k vs=some r->Q):Q:=
 wC h λo e h=>Gl (m:=λo=>H[n]?=some o->Q) h (λvs h e=>f vs e h) e
def Gn{H:Hp}{n:Nat}{k:List (List Nat)->List V->Option α}(h:wy H n k=some r)(f:∀ks vs,H[n]?=some (.dict ks vs)->k ks vs=some r->Q):Q:=
 wC h λo e h=>Gm (m:=λo=>H[n]?=some o->Q) h (λks vs h e=>f ks vs e h) e
def BM{H:Hp}{n:Nat}{k:Nat->List (Nat×V)->Option α}(h:(uC H n none λo=>F9 o k)=some r)(f:∀c fs,H[n]?=some (.inst c fs)->k c fs=some r->Q):Q:=
 wC h λo e h=>KU (m:=λo=>H[n]?=some o->Q) h (λc fs h e=>f c fs e h) e
def BN{p:Prop}[Decidable p]{a:Option α}(h:(if p then a else none)=some r)(f:p->a=some r->Q):Q:=by
 by_cases c:p
 .rw[if_pos c]at h;exact f c h
 .rw[if_neg c]at h;exact nn h
def bc{c:Bool}{a:Option α}(h:(if c=true then a else none)=some r)(f:c=true->a=some r->Q):Q:=by
 injection c
 .exact nn h
 .exact f rfl h
def kH{β:Type}{o:Option β}{k:β->α}{m:α->Prop}(h:o.map k=some r)(f:∀x,o=some x->m (k x)):m r:=by
 injection o
 .exact nn h
 .exact ae h (f _ rfl)
def dK{β:Type}{o:Option β}{k:β->Option α}(h:o.bind k=some r)(f:∀x,o=some x->k x=some r->Q):Q:=by
 injection o
 .exact nn h
 .exact f _ rfl h
def qq{m:V->Prop}{i:Int->Option α}{s:List Nat->Option α}{t l:List V->Option α}(h:eJ v i s t l=some r)(fi:∀x,i x=some r->m (.int x))(fs:∀x,s x=some r->m (.str x))(ft:∀x,t x=some r->m (.tup x))(fl:∀x,l x=some r->m (.lst x)):m v:=
 if c3:v.ctorIdx=3 then V.int.elim (motive_1:=λv=>eJ v i s t l=some r->m v) v c3 (λx=>fi x) h else if c4:v.ctorIdx=4 then V.str.elim (motive_1:=λv=>eJ v i s t l=some r->m v) v c4 (λx=>fs x) h else if c5:v.ctorIdx=5 then V.tup.elim (motive_1:=λv=>eJ v i s t l=some r->m v) v c5 (λx=>ft x) h else if c6:v.ctorIdx=6 then V.lst.elim (motive_1:=λv=>eJ v i s t l=some r->m v) v c6 (λx=>fl x) h else nn ((zX c6).symm.trans ((zX c5).symm.trans ((zX c4).symm.trans ((zX c3).symm.trans h))))
def mQ(H:Hp)(n:Nat):(V.ref n).res H=.ref n\/∃vs,(V.ref n).res H=.lst vs:=by
 show (H[n]?.elim (V.ref n) (F7 n))=_\/∃vs,(H[n]?.elim (V.ref n) (F7 n))=_
 cases H[n]? with
 |none=>exact .inl rfl
 |some o=>induction o using O.casesOn<;>first | exact .inr ⟨_,rfl⟩ | exact .inl rfl
def BO{H:Hp}{n:Nat}(e:(V.ref n).res H=.lst vs):H[n]?=some (.list vs):=by
 revert e;show (H[n]?.elim (V.ref n) (F7 n))=_->_
 cases H[n]? with
 |none=>exact λe=>V.noConfusion e
 |some o=>induction o using O.casesOn<;>intro e<;>first | exact zi (λvs=>some (O.list vs)) (V.lst.inj e) | exact V.noConfusion e
def kI{v u:V}(e:v.res H=u)(h8:u.ctorIdx≠8)(h6:u.ctorIdx≠6):v=u:=
 if c:v.ctorIdx=8 then V.ref.elim (motive_1:=λv=>v.res H=u->v=u) v c (λn e=>(mQ H n).elim (λq=>absurd (zi V.ctorIdx (e.symm.trans q)) h8) λ⟨_,q⟩=>absurd (zi V.ctorIdx (e.symm.trans q)) h6) e else (zX c).symm.trans e
def jJ{m:V->Prop}{v:V}{i:Int->Option α}{s:List Nat->Option α}{t l:List V->Option α}(h:eJ (v.res H) i s t l=some r)(fi:∀x,i x=some r->m (.int x))(fs:∀x,s x=some r->m (.str x))(ft:∀x,t x=some r->m (.tup x))(fl:∀x,v.res H=.lst x->l x=some r->m v):m v:=
 qq (m:=λu=>v.res H=u->m v) h (λx k e=>rwm (kI e (show 3≠8 by decide) (show 3≠6 by decide)) (fi x k)) (λx k e=>rwm (kI e (show 4≠8 by decide) (show 4≠6 by decide)) (fs x k)) (λx k e=>rwm (kI e (show 5≠8 by decide) (show 5≠6 by decide)) (ft x k)) (λx k e=>fl x e k) rfl
def eE{m:V->Prop}{v:V}{k:Int->Option α}(h:cN (v.res H) k=some r)(f:∀i,k i=some r->m (.int i)):m v:=dp (m:=λu=>v.res H=u->m v) h (λi k e=>rwm (kI e (show 3≠8 by decide) (show 3≠6 by decide)) (f i k)) rfl
def BP{m:V->Prop}{v:V}{k:List Nat->Option α}(h:ji (v.res H) k=some r)(f:∀i,k i=some r->m (.str i)):m v:=eC (m:=λu=>v.res H=u->m v) h (λi k e=>rwm (kI e (show 4≠8 by decide) (show 4≠6 by decide)) (f i k)) rfl
def BQ{m:V->Prop}{v:V}{k:List V->Option α}(h:yy (v.res H) k=some r)(f:∀i,k i=some r->m (.tup i)):m v:=BJ (m:=λu=>v.res H=u->m v) h (λi k e=>rwm (kI e (show 5≠8 by decide) (show 5≠6 by decide)) (f i k)) rfl
def mR{v:V}{k:List V->Option α}(h:jI (v.res H) k=some r)(f:∀vs,v.res H=.lst vs->k vs=some r->Q):Q:=BL (m:=λu=>(∀vs,u=.lst vs->k vs=some r->Q)->Q) h (λvs k g=>g vs rfl k) f
def KV{m:V->Prop}{k:List (List Nat)->List V->Option α}(h:Ga H v k=some r)(f:∀n,wy H n k=some r->m (.ref n))(g:∀ks vs,k ks vs=some r->m (.dct ks vs)):m v:=
 if c:v.ctorIdx=8 then V.ref.elim (motive_1:=λv=>Ga H v k=some r->m v) v c (λn=>f n) h else if d:v.ctorIdx=10 then V.dct.elim (motive_1:=λv=>Ga H v k=some r->m v) v d (λks vs=>g ks vs) h else nn ((zX d).symm.trans ((zX c).symm.trans h))
def eZ{m:V->Bool->Prop}{k:Nat->Option Bool}{r:Bool}(h:ee v k=some r)(f0:m .none false)(f:∀b,k b=some r->m (.base b) r):m v r:=
 if c:v.ctorIdx=1 then V.none.elim (motive_1:=λv=>ee v k=some r->m v r) v c (λh=>ae (m:=m _) h f0) h else if d:v.ctorIdx=9 then V.base.elim (motive_1:=λv=>ee v k=some r->m v r) v d (λb=>f b) h else nn ((zX d).symm.trans ((if_neg c).symm.trans h))
def BR{m:V->Bool->Prop}{r:Bool}(h:uF v=some r)(f0:m .none false):m v r:=
 if c:v.ctorIdx=1 then V.none.elim (motive_1:=λv=>uF v=some r->m v r) v c (λh=>ae (m:=m _) h f0) h else nn ((if_neg c).symm.trans h)
def uH{m:V->Bool->Prop}{r:Bool}(h:mM v=some r)(f0:m .none true)(f:v≠.none->(∀t,v≠.blt t)->m v false):m v r:=
 if c:v.ctorIdx=1 then V.none.elim (motive_1:=λv=>mM v=some r->m v r) v c (λh=>ae (m:=m _) h f0) h else
 if d:v.ctorIdx=0 then nn ((if_pos d).symm.trans ((if_neg c).symm.trans h)) else if e:v.ctorIdx=12 then nn ((if_pos e).symm.trans ((if_neg d).symm.trans ((if_neg c).symm.trans h))) else
 ae (m:=m _) ((if_neg e).symm.trans ((if_neg d).symm.trans ((if_neg c).symm.trans h))) (f (λq=>c (zi V.ctorIdx q)) λ_ q=>e (zi V.ctorIdx q))
def wG{H:Hp}{n:Nat}{k:List V->Option α}(h:H[n]?=some (.list vs)):hList H n k=k vs:=fH h
def Go{H:Hp}{n:Nat}{k:List (List Nat)->List V->Option α}(h:H[n]?=some (.dict ks vs)):wy H n k=k ks vs:=fH h
end
theorem OE{a:V}:gu a []=(none):=rfl
theorem sf:gu a (x::r)=(if V.eqb x a then some 0 else (gu a r).map (· + 1)):=rfl
theorem KW:qk vs 0=([]):=rfl
theorem BS{vs:List V}:qk vs (n+1)=(vs++qk vs n):=rfl
theorem Gp{a:Int}:gW a 0=([]):=rfl
theorem ml{a:Int}:gW a (n+1)=(.int a::gW (a-1) n):=rfl
theorem JR{a:Int}:rX a 0=([]):=rfl
theorem lL{a:Int}:rX a (n+1)=(.int a::rX (a+1) n):=rfl
theorem SG:eK w1 []=([]):=rfl
theorem wH:eK n (v::vs)=(.tup [.int n,v]::eK (n+1) vs):=rfl
noncomputable def VO:bh:=(.k (.seta (.var 0) 1 (.var 1)) (.k (.seta (.var 0) 0 (.var 2)) .z))
def VP:FD:={ n:=3,dfl:=[],locs:=["self", "number", "text"],body:=VO }
noncomputable def VQ:bh:=(.k (.seta (.var 0) 3 (.listO .z)) (.k (.seta (.var 0) 2 .dictO) .z))
def VR:FD:={ n:=1,dfl:=[],locs:=["self"],body:=VQ }
noncomputable def TK:bh:=(.k (.asg 2 (.meth 5 (.attr (.var 0) 2) (.k (.var 1) (.k (.lit .none) .z)))) (.k (.ite (.cmp (.var 2) .Is (.lit .none)) (.k (.asg 2 (.call (.glb 1) (.k (.call (.glb 0) (.k (.attr (.var 0) 3) .z)) (.k (.var 1) .z)))) (.k (.exp (.meth 4 (.attr (.var 0) 3) (.k (.var 2) .z))) (.k (.seti (.attr (.var 0) 2) (.var 1) (.var 2)) .z))) .z) (.k (.ret (.var 2)) .z)))
def TL:FD:={ n:=2,dfl:=[],locs:=["self", "text", "found"],body:=TK }
noncomputable def OF:bh:=(.k (.ret (.meth 5 (.attr (.var 0) 2) (.k (.var 1) (.k (.lit .none) .z)))) .z)
def OG:FD:={ n:=2,dfl:=[],locs:=["self", "text"],body:=OF }
noncomputable def OH:bh:=(.k (.seta (.var 0) 7 (.var 1)) (.k (.seta (.var 0) 6 (.var 2)) .z))
def OI:FD:={ n:=3,dfl:=[],locs:=["self", "car", "cdr"],body:=OH }
noncomputable def OJ:bh:=(.k (.seta (.var 0) 8 (.var 1)) .z)
def OK:FD:={ n:=2,dfl:=[],locs:=["self", "code"],body:=OJ }
noncomputable def OL:bh:=(.k (.seta (.var 0) 9 (.var 1)) .z)
def OM:FD:={ n:=2,dfl:=[],locs:=["self", "codes"],body:=OL }
noncomputable def ON:bh:=(.k (.seta (.var 0) 10 (.var 1)) .z)
def OO:FD:={ n:=2,dfl:=[],locs:=["self", "things"],body:=ON }
noncomputable def OP:bh:=(.k (.ret (.call (.glb 3) (.k (.comp 1 (.call (.glb 2) (.k (.var 0) .z)) (.var 0) .z) .z))) .z)
def OQ:FD:={ n:=1,dfl:=[],locs:=["told"],body:=OP }
noncomputable def OR:bh:=(.k (.asg 2 (.call (.glb 5) (.k (.idx (.var 0) (.var 3)) (.k (.var 2) .z)))) .z)
def TM:bh:=(.k (.asg 2 (.var 1)) (.k (.for_ [3] (.call (.glb 4) (.k (.bin (.call (.glb 0) (.k (.var 0) .z)) .Sub (.lit (.int 1))) (.k (.lit (.int (-1))) (.k (.lit (.int (-1))) .z)))) OR) (.k (.ret (.var 2)) .z)))
def KX:FD:={ n:=2,dfl:=[.base 44],locs:=["things", "tail", "found", "place"],body:=TM }
noncomputable def OS:bh:=(.k (.seta (.var 0) 12 (.var 1)) (.k (.seta (.var 0) 11 (.var 2)) .z))
def OT:FD:={ n:=3,dfl:=[],locs:=["self", "top", "bottom"],body:=OS }
noncomputable def KY:bh:=(.k (.asgs [0,1] (.tup (.k (.call (.glb 6) (.k (.var 0) .z)) (.k (.call (.glb 6) (.k (.var 1) .z)) .z)))) (.k (.whil (.cmp (.var 1) .NotEq (.lit (.int 0))) (.k (.asgs [0,1] (.tup (.k (.var 1) (.k (.bin (.var 0) .Mod (.var 1)) .z)))) .z)) (.k (.ret (.var 0)) .z)))
def KZ:FD:={ n:=2,dfl:=[],locs:=["one", "other"],body:=KY }
noncomputable def K0:bh:=(.k (.ret (.ite (.cmp (.var 1) .Eq (.lit (.int 1))) (.var 0) (.call (.glb 7) (.k (.var 0) (.k (.var 1) .z))))) .z)
def K2:FD:={ n:=2,dfl:=[],locs:=["top", "bottom"],body:=K0 }
noncomputable def K3:bh:=(.k (.ite (.cmp (.var 1) .Lt (.lit (.int 0))) (.k .bad .z) .z) (.k (.asg 2 (.call (.glb 9) (.k (.var 0) (.k (.var 1) .z)))) (.k (.ret (.call (.glb 8) (.k (.bin (.var 0) .FloorDiv (.var 2)) (.k (.bin (.var 1) .FloorDiv (.var 2)) .z)))) .z)))
def K4:FD:={ n:=2,dfl:=[],locs:=["top", "bottom", "common"],body:=K3 }
noncomputable def Gq:bh:=(.k (.asg 2 (.lit (.int 0))) (.k (.for_ [3] (.var 0) (.k (.asg 2 (.bin (.bin (.var 2) .Mult (.var 1)) .Add (.meth 13 (.glb 10) (.k (.var 3) .z)))) .z)) (.k (.ret (.var 2)) .z)))
def Gr:FD:={ n:=2,dfl:=[],locs:=["figures", "radix", "found", "sign"],body:=Gq }
noncomputable def Gs:bh:=(.k (.ret (.call (.glb 11) (.k (.comp 1 (.cmp (.var 0) .In (.slc (.glb 10) (.lit .undef) (.fre 1) (.lit .undef))) (.var 0) .z) .z))) .z)
def Gu:FD:={ n:=2,dfl:=[],locs:=["word", "radix"],body:=Gs }
noncomputable def OU:bh:=(.k (.asg 1 (.meth 14 (.var 0) (.k (.lit (.str [35])) .z))) (.k (.ret (.tup (.k (.var 1) (.k (.bin (.call (.glb 0) (.k (.var 0) .z)) .Sub (.call (.glb 0) (.k (.var 1) .z))) .z)))) .z))
def OV:FD:={ n:=1,dfl:=[],locs:=["word", "kept"],body:=OU }
noncomputable def OW:bh:=(.k (.seta (.var 0) 12 (.var 1)) (.k (.seta (.var 0) 11 (.var 2)) (.k (.seta (.var 0) 15 (.var 3)) .z)))
def OX:FD:={ n:=4,dfl:=[],locs:=["self", "top", "bottom", "is_exact"],body:=OW }
noncomputable def OY:bh:=(.k (.asgs [2,3] (.call (.glb 15) (.k (.var 0) .z))) (.k (.ite (.bool false (.k (.cmp (.var 2) .Eq (.lit (.str []))) (.k (.not_ (.call (.glb 14) (.k (.var 2) (.k (.var 1) .z)))) .z))) (.k .bad .z) .z) (.k (.ret (.call (.glb 13) (.k (.bin (.call (.glb 12) (.k (.var 2) (.k (.var 1) .z))) .Mult (.bin (.var 1) .Pow (.var 3))) (.k (.lit (.int 1)) (.k (.cmp (.var 3) .Eq (.lit (.int 0))) .z))))) .z)))
def OZ:FD:={ n:=2,dfl:=[],locs:=["word", "radix", "kept", "many"],body:=OY }
noncomputable def O0:bh:=(.k (.asg 2 (.meth 16 (.var 0) (.k (.lit (.str [47])) .z))) (.k (.ite (.cmp (.call (.glb 0) (.k (.var 2) .z)) .NotEq (.lit (.int 2))) (.k .bad .z) .z) (.k (.asgs [3,4] (.tup (.k (.call (.glb 16) (.k (.idx (.var 2) (.lit (.int 0))) (.k (.var 1) .z))) (.k (.call (.glb 16) (.k (.idx (.var 2) (.lit (.int 1))) (.k (.var 1) .z))) .z)))) (.k (.ite (.bool false (.k (.cmp (.var 3) .Is (.lit .none)) (.k (.cmp (.var 4) .Is (.lit .none)) (.k (.cmp (.attr (.var 4) 12) .Eq (.lit (.int 0))) .z)))) (.k .bad .z) .z) (.k (.ret (.call (.glb 13) (.k (.attr (.var 3) 12) (.k (.attr (.var 4) 12) (.k (.bool true (.k (.attr (.var 3) 15) (.k (.attr (.var 4) 15) .z))) .z))))) .z)))))
def O1:FD:={ n:=2,dfl:=[],locs:=["word", "radix", "parts", "high", "low"],body:=O0 }
noncomputable def O2:bh:=(.k (.asg 1 (.comp 2 (.var 0) (.call (.glb 17) (.k (.var 0) .z)) (.k (.cmp (.var 1) .In (.glb 18)) .z))) (.k (.ret (.ite (.cmp (.var 1) .NotEq (.list .z)) (.idx (.var 1) (.lit (.int 0))) (.call (.glb 0) (.k (.var 0) .z)))) .z))
def O3:FD:={ n:=1,dfl:=[],locs:=["word", "places"],body:=O2 }
noncomputable def K5:bh:=(.k (.ite (.cmp (.lit (.str [47])) .In (.var 0)) (.k (.ret (.call (.glb 20) (.k (.var 0) (.k (.var 1) .z)))) .z) .z) (.k (.ite (.bool true (.k (.cmp (.var 1) .Eq (.lit (.int 10))) (.k (.bool false (.k (.cmp (.lit (.str [46])) .In (.var 0)) (.k (.cmp (.call (.glb 19) (.k (.var 0) .z)) .Lt (.call (.glb 0) (.k (.var 0) .z))) .z))) .z))) (.k .bad .z) .z) (.k (.ret (.call (.glb 16) (.k (.var 0) (.k (.var 1) .z)))) .z)))
def K6:FD:={ n:=2,dfl:=[],locs:=["word", "radix"],body:=K5 }
noncomputable def O4:bh:=(.k (.asgs [2,3,4] (.tup (.k (.lit (.str [])) (.k (.lit (.bool false)) (.k (.lit (.int 0)) .z))))) (.k (.whil (.cmp (.slc (.var 0) (.var 4) (.bin (.var 4) .Add (.lit (.int 1))) (.lit .undef)) .Eq (.lit (.str [35]))) (.k .bad (.k .bad (.k .bad .z)))) (.k (.ret (.tup (.k (.slc (.var 0) (.var 4) (.lit .undef) (.lit .undef)) (.k (.var 1) (.k (.var 2) .z))))) .z)))
def O5:FD:={ n:=2,dfl:=[],locs:=["word", "radix", "exactness", "has_radix", "at", "mark"],body:=O4 }
noncomputable def K7:bh:=(.k (.ite (.var 3) (.k (.ret (.call (.glb 21) (.k (.var 1) (.k (.var 2) .z)))) .z) .z) (.k .bad .z))
def K8:FD:={ n:=4,dfl:=[],locs:=["precision", "top", "bottom", "is_exact"],body:=K7 }
noncomputable def O6:bh:=(.k (.asg 3 (.call (.glb 24) (.k (.meth 17 (.var 1) .z) (.k (.var 2) .z)))) (.k (.ite (.cmp (.var 3) .Is (.lit .none)) (.k .bad .z) .z) (.k (.asgs [4,2,5] (.var 3)) (.k (.asg 6 (.ite (.cmp (.slc (.var 4) (.lit .undef) (.lit (.int 1)) (.lit .undef)) .Eq (.lit (.str [45]))) (.lit (.int (-1))) (.lit (.int 1)))) (.k (.asg 7 (.call (.glb 23) (.k (.ite (.cmp (.slc (.var 4) (.lit .undef) (.lit (.int 1)) (.lit .undef)) .In (.tup (.k (.lit (.str [43])) (.k (.lit (.str [45])) .z)))) (.slc (.var 4) (.lit (.int 1)) (.lit .undef) (.lit .undef)) (.var 4)) (.k (.var 2) .z)))) (.k (.ite (.cmp (.var 7) .Is (.lit .none)) (.k .bad .z) .z) (.k (.asg 8 (.bool false (.k (.cmp (.var 5) .Eq (.lit (.str [101]))) (.k (.bool true (.k (.cmp (.var 5) .Eq (.lit (.str []))) (.k (.attr (.var 7) 15) .z))) .z)))) (.k (.ret (.call (.glb 22) (.k (.var 0) (.k (.bin (.var 6) .Mult (.attr (.var 7) 12)) (.k (.attr (.var 7) 11) (.k (.var 8) .z)))))) .z))))))))
def O7:FD:={ n:=3,dfl:=[.int 10],locs:=["precision", "text", "radix", "found", "word", "exactness", "sign", "reading", "is_exact"],body:=O6 }
noncomputable def O8:bh:=(.k (.seta (.var 0) 21 (.var 1)) (.k (.seta (.var 0) 20 (.var 2)) (.k (.seta (.var 0) 19 (.var 3)) (.k (.seta (.var 0) 18 (.var 4)) .z))))
def O9:FD:={ n:=5,dfl:=[],locs:=["self", "word", "value", "start", "end"],body:=O8 }
noncomputable def Pa:bh:=(.k (.asg 3 (.meth 23 (.glb 26) (.k (.var 2) .z))) (.k (.exp (.meth 4 (.var 1) (.k (.ite (.cmp (.var 3) .Lt (.lit (.int 0))) (.var 2) (.idx (.glb 25) (.var 3))) .z))) .z))
def TN:bh:=(.k (.asg 1 (.listO .z)) (.k (.for_ [2] (.var 0) Pa) (.k (.ret (.meth 22 (.lit (.str [])) (.k (.var 1) .z))) .z)))
def Pb:FD:={ n:=1,dfl:=[],locs:=["text", "letters", "letter", "at"],body:=TN }
noncomputable def K9:bh:=(.k (.ret (.bool false (.k (.cmp (.var 0) .In (.glb 25)) (.k (.cmp (.var 0) .In (.glb 27)) .z)))) .z)
def La:FD:={ n:=1,dfl:=[],locs:=["letter"],body:=K9 }
noncomputable def Lb:bh:=(.k (.ite (.cmp (.var 0) .In (.glb 29)) (.k .bad .z) .z) (.k (.ite (.bool false (.k (.cmp (.var 0) .Eq (.lit (.str []))) (.k (.not_ (.call (.glb 28) (.k (.idx (.var 0) (.lit (.int 0))) .z))) .z))) (.k (.ret (.lit (.bool false))) .z) .z) (.k (.for_ [1] (.slc (.var 0) (.lit (.int 1)) (.lit .undef) (.lit .undef)) (.k .bad .z)) (.k (.ret (.lit (.bool true))) .z))))
def Lc:FD:={ n:=1,dfl:=[],locs:=["text", "letter"],body:=Lb }
noncomputable def Pc:bh:=(.k (.ret (.bool false (.k (.cmp (.idx (.var 0) (.lit (.int 0))) .In (.glb 30)) (.k (.cmp (.idx (.var 0) (.lit (.int 0))) .In (.lit (.str [43,45,46]))) .z)))) .z)
def Pd:FD:={ n:=1,dfl:=[],locs:=["text"],body:=Pc }
noncomputable def Pe:bh:=(.k (.seta (.var 0) 0 (.var 1)) (.k (.seta (.var 0) 26 (.var 2)) (.k (.seta (.var 0) 25 (.lit (.int 0))) (.k (.seta (.var 0) 24 (.var 3)) .z))))
def Pf:FD:={ n:=4,dfl:=[.int 53,.bool true],locs:=["self", "text", "precision", "is_folded"],body:=Pe }
noncomputable def Pg:bh:=(.k (.asg 1 (.idx (.attr (.var 0) 0) (.attr (.var 0) 25))) (.k (.ite (.cmp (.var 1) .Eq (.lit (.str [59]))) (.k .bad (.k .bad .z)) (.k (.ite (.cmp (.var 1) .In (.glb 31)) (.k (.seta (.var 0) 25 (.bin (.attr (.var 0) 25) .Add (.lit (.int 1)))) .z) (.k .retn .z)) .z)) .z))
noncomputable def Ph:PE:=(.cmp (.attr (.var 0) 25) .Lt (.call (.glb 0) (.k (.attr (.var 0) 0) .z)))
def TO:bh:=(.k (.whil Ph Pg) .z)
def Pi:FD:={ n:=1,dfl:=[],locs:=["self", "letter", "end"],body:=TO }
noncomputable def uI:bh:=(.k (.ite (.cmp (.var 2) .In (.lit (.str [40,41,39,96]))) (.k (.ret (.meth 30 (.var 0) (.k (.var 2) (.k (.lit .none) (.k (.bin (.var 1) .Add (.lit (.int 1))) .z))))) .z) .z) (.k (.ite (.cmp (.var 2) .Eq (.lit (.str [44]))) (.k (.asg 3 (.ite (.cmp (.slc (.attr (.var 0) 0) (.bin (.var 1) .Add (.lit (.int 1))) (.bin (.var 1) .Add (.lit (.int 2))) (.lit .undef)) .Eq (.lit (.str [64]))) (.lit (.str [44,64])) (.lit (.str [44])))) (.k (.ret (.meth 30 (.var 0) (.k (.var 3) (.k (.lit .none) (.k (.bin (.var 1) .Add (.call (.glb 0) (.k (.var 3) .z))) .z))))) .z)) .z) (.k (.ite (.cmp (.var 2) .Eq (.lit (.str [34]))) (.k (.ret (.meth 29 (.var 0) .z)) .z) .z) (.k (.ite (.cmp (.var 2) .Eq (.lit (.str [35]))) (.k (.ret (.meth 28 (.var 0) .z)) .z) .z) (.k (.ret (.meth 27 (.var 0) .z)) .z)))))
def TP:bh:=(.k (.exp (.meth 31 (.var 0) .z)) (.k (.asg 1 (.attr (.var 0) 25)) (.k (.ite (.cmp (.var 1) .Eq (.call (.glb 0) (.k (.attr (.var 0) 0) .z))) (.k (.ret (.call (.glb 32) (.k (.lit (.str [101,110,100])) (.k (.lit .none) (.k (.var 1) (.k (.var 1) .z)))))) .z) .z) (.k (.asg 2 (.idx (.attr (.var 0) 0) (.var 1))) uI))))
def Ld:FD:={ n:=1,dfl:=[],locs:=["self", "start", "letter", "word"],body:=TP }
noncomputable def Pj:bh:=(.k (.asg 4 (.attr (.var 0) 25)) (.k (.seta (.var 0) 25 (.var 3)) (.k (.ret (.call (.glb 32) (.k (.var 1) (.k (.var 2) (.k (.var 4) (.k (.var 3) .z)))))) .z)))
def Pk:FD:={ n:=4,dfl:=[],locs:=["self", "word", "value", "end", "start"],body:=Pj }
noncomputable def Pl:bh:=(.k (.ite (.cmp (.idx (.attr (.var 0) 0) (.var 2)) .In (.glb 34)) (.k .bad .z) .z) (.k (.asg 2 (.bin (.var 2) .Add (.lit (.int 1)))) .z))
def TQ:bh:=(.k (.asg 2 (.var 1)) (.k (.whil (.bool true (.k (.cmp (.var 2) .Lt (.call (.glb 0) (.k (.attr (.var 0) 0) .z))) (.k (.cmp (.idx (.attr (.var 0) 0) (.var 2)) .NotIn (.glb 33)) .z))) Pl) (.k (.ret (.var 2)) .z)))
def Pm:FD:={ n:=2,dfl:=[],locs:=["self", "start", "at"],body:=TQ }
noncomputable def Pn:bh:=(.k (.asg 1 (.attr (.var 0) 25)) (.k (.asg 2 (.meth 33 (.var 0) (.k (.var 1) .z))) (.k (.asg 3 (.slc (.attr (.var 0) 0) (.var 1) (.var 2) (.lit .undef))) (.k (.ite (.cmp (.var 3) .Eq (.lit (.str [46]))) (.k (.ret (.meth 30 (.var 0) (.k (.lit (.str [46])) (.k (.lit .none) (.k (.var 2) .z))))) .z) .z) (.k (.asg 4 (.call (.glb 37) (.k (.var 3) .z))) (.k (.ite (.call (.glb 36) (.k (.var 4) .z)) (.k (.ret (.meth 30 (.var 0) (.k (.lit (.str [115,121,109,98,111,108])) (.k (.ite (.attr (.var 0) 24) (.var 4) (.var 3)) (.k (.var 2) .z))))) .z) .z) (.k (.ite (.not_ (.call (.glb 35) (.k (.var 3) .z))) (.k .bad .z) .z) (.k (.ret (.meth 30 (.var 0) (.k (.lit (.str [110,117,109,98,101,114])) (.k (.meth 32 (.var 0) (.k (.var 3) (.k (.var 1) .z))) (.k (.var 2) .z))))) .z))))))))
def Po:FD:={ n:=1,dfl:=[],locs:=["self", "start", "end", "own", "name"],body:=Pn }
noncomputable def Pp:bh:=(.k (.asg 3 (.call (.glb 38) (.k (.attr (.var 0) 26) (.k (.var 1) (.k (.lit (.int 10)) .z))))) (.k (.ite (.cmp (.var 3) .Is (.lit .none)) (.k .bad .z) .z) (.k (.ret (.var 3)) .z)))
def Pq:FD:={ n:=3,dfl:=[],locs:=["self", "own", "start", "number"],body:=Pp }
noncomputable def Gv:bh:=(.k (.asg 1 (.attr (.var 0) 25)) (.k (.asg 2 (.call (.glb 37) (.k (.slc (.attr (.var 0) 0) (.bin (.var 1) .Add (.lit (.int 1))) (.bin (.var 1) .Add (.lit (.int 2))) (.lit .undef)) .z))) (.k (.ite (.cmp (.var 2) .Eq (.lit (.str [40]))) (.k (.ret (.meth 30 (.var 0) (.k (.lit (.str [35,40])) (.k (.lit .none) (.k (.bin (.var 1) .Add (.lit (.int 2))) .z))))) .z) .z) (.k (.ite (.bool false (.k (.cmp (.var 2) .Eq (.lit (.str [116]))) (.k (.cmp (.var 2) .Eq (.lit (.str [102]))) .z))) (.k (.ret (.meth 30 (.var 0) (.k (.lit (.str [98,111,111,108,101,97,110])) (.k (.cmp (.var 2) .Eq (.lit (.str [116]))) (.k (.bin (.var 1) .Add (.lit (.int 2))) .z))))) .z) .z) (.k (.ite (.cmp (.var 2) .Eq (.lit (.str [92]))) (.k (.ret (.meth 34 (.var 0) .z)) .z) .z) (.k .bad (.k .bad .z)))))))
def Gw:FD:={ n:=1,dfl:=[],locs:=["self", "start", "second", "end"],body:=Gv }
noncomputable def TR:bh:=(.k (.asg 1 (.attr (.var 0) 25)) (.k (.ite (.cmp (.bin (.var 1) .Add (.lit (.int 2))) .Eq (.call (.glb 0) (.k (.attr (.var 0) 0) .z))) (.k .bad .z) .z) (.k (.asg 2 (.bin (.var 1) .Add (.lit (.int 3)))) (.k (.whil (.bool true (.k (.cmp (.var 2) .Lt (.call (.glb 0) (.k (.attr (.var 0) 0) .z))) (.k (.cmp (.idx (.attr (.var 0) 0) (.var 2)) .NotIn (.glb 33)) .z))) (.k .bad .z)) (.k (.asg 3 (.slc (.attr (.var 0) 0) (.bin (.var 1) .Add (.lit (.int 2))) (.var 2) (.lit .undef))) (.k (.asg 4 (.ite (.cmp (.call (.glb 0) (.k (.var 3) .z)) .Eq (.lit (.int 1))) (.var 3) (.call (.glb 40) (.k (.var 3) .z)))) (.k (.ite (.cmp (.var 4) .Is (.lit .none)) (.k .bad .z) .z) (.k (.ret (.meth 30 (.var 0) (.k (.lit (.str [99,104,97,114])) (.k (.call (.glb 39) (.k (.call (.glb 2) (.k (.var 4) .z)) .z)) (.k (.var 2) .z))))) .z))))))))
def Pr:FD:={ n:=1,dfl:=[],locs:=["self", "start", "end", "own", "letter"],body:=TR }
noncomputable def Ps:bh:=(.k (.ite (.cmp (.var 3) .GtE (.call (.glb 0) (.k (.attr (.var 0) 0) .z))) (.k .bad .z) .z) (.k (.asg 4 (.idx (.attr (.var 0) 0) (.var 3))) (.k (.ite (.cmp (.var 4) .Eq (.lit (.str [34]))) (.k (.ret (.meth 30 (.var 0) (.k (.lit (.str [115,116,114,105,110,103])) (.k (.call (.glb 41) (.k (.meth 22 (.lit (.str [])) (.k (.var 2) .z)) .z)) (.k (.bin (.var 3) .Add (.lit (.int 1))) .z))))) .z) .z) (.k (.ite (.cmp (.var 4) .Eq (.lit (.str [92]))) (.k .bad (.k .bad (.k .bad (.k .bad .z)))) .z) (.k (.exp (.meth 4 (.var 2) (.k (.var 4) .z))) (.k (.asg 3 (.bin (.var 3) .Add (.lit (.int 1)))) .z))))))
def TS:bh:=(.k (.asg 1 (.attr (.var 0) 25)) (.k (.asg 2 (.listO .z)) (.k (.asg 3 (.bin (.var 1) .Add (.lit (.int 1)))) (.k (.whil (.lit (.bool true)) Ps) .z))))
def Pt:FD:={ n:=1,dfl:=[],locs:=["self", "start", "letters", "at", "letter"],body:=TS }
noncomputable def Pu:bh:=(.k (.seta (.var 0) 21 (.var 1)) (.k (.seta (.var 0) 19 (.var 2)) (.k (.seta (.var 0) 10 (.var 3)) (.k (.seta (.var 0) 36 (.glb 43)) (.k (.seta (.var 0) 35 (.glb 42)) .z)))))
def Pv:FD:={ n:=4,dfl:=[],locs:=["self", "word", "start", "things"],body:=Pu }
noncomputable def Pw:bh:=(.k (.seta (.var 0) 39 (.call (.glb 44) (.k (.var 1) (.k (.var 3) (.k (.var 4) .z))))) (.k (.seta (.var 0) 38 (.var 2)) (.k (.seta (.var 0) 37 (.listO .z)) .z)))
def Px:FD:={ n:=5,dfl:=[.int 53,.bool true],locs:=["self", "text", "table", "precision", "is_folded"],body:=Pw }
noncomputable def Py:bh:=(.k (.ret (.attr (.attr (.var 0) 39) 25)) .z)
def Pz:FD:={ n:=1,dfl:=[],locs:=["self"],body:=Py }
noncomputable def Le:bh:=(.k (.ite (.meth 40 (.var 0) (.k (.var 2) (.k (.attr (.var 1) 19) .z))) (.k (.ret (.meth 41 (.var 0) (.k (.var 2) .z))) .z) .z) .z)
def TT:bh:=(.k (.seta (.var 0) 37 (.listO .z)) (.k (.whil (.lit (.bool true)) (.k (.asg 1 (.meth 46 (.attr (.var 0) 39) .z)) (.k (.ite (.cmp (.attr (.var 1) 21) .Eq (.lit (.str [101,110,100]))) (.k (.ite (.cmp (.attr (.var 0) 37) .Eq (.list .z)) (.k (.ret (.glb 46)) .z) .z) (.k (.raise 45 (.k (.fstr [101,110,100,32,105,110,32,97,32] (.attr (.idx (.attr (.var 0) 37) (.lit (.int (-1)))) 21)) (.k (.attr (.idx (.attr (.var 0) 37) (.lit (.int (-1)))) 19) .z))) .z)) .z) (.k (.ite (.meth 45 (.var 0) (.k (.var 1) .z)) (.k .cont .z) .z) (.k (.ite (.cmp (.attr (.var 1) 21) .Eq (.lit (.str [46]))) (.k (.exp (.meth 44 (.var 0) (.k (.var 1) .z))) (.k .cont .z)) .z) (.k (.asg 2 (.ite (.cmp (.attr (.var 1) 21) .Eq (.lit (.str [41]))) (.meth 42 (.var 0) (.k (.var 1) .z)) (.meth 43 (.var 0) (.k (.var 1) .z)))) Le)))))) .z))
def PA:FD:={ n:=1,dfl:=[],locs:=["self", "token", "datum"],body:=TT }
noncomputable def bL:bh:=(.k (.asg 2 (.meth 47 (.var 0) (.k (.var 2) .z))) .z)
noncomputable def tL:PE:=(.cmp (.attr (.var 0) 37) .NotEq (.list .z))
def TU:bh:=(.k (.asg 2 (.var 1)) (.k (.whil tL bL) (.k (.ret (.var 2)) .z)))
def PB:FD:={ n:=2,dfl:=[],locs:=["self", "datum", "found"],body:=TU }
noncomputable def PC:bh:=(.k (.asg 2 (.meth 48 (.attr (.var 0) 37) .z)) (.k (.ret (.call (.glb 47) (.k (.list (.k (.idx (.attr (.var 2) 10) (.lit (.int 0))) (.k (.var 1) .z))) .z))) .z))
def PD:FD:={ n:=2,dfl:=[],locs:=["self", "datum", "frame"],body:=PC }
noncomputable def Gx:bh:=(.k (.ite (.cmp (.var 2) .Eq (.attr (.var 1) 21)) (.k (.exp (.meth 4 (.attr (.var 0) 37) (.k (.call (.glb 49) (.k (.lit (.str [113,117,111,116,97,116,105,111,110])) (.k (.attr (.var 1) 19) (.k (.listO (.k (.meth 49 (.attr (.var 0) 38) (.k (.var 3) .z)) .z)) .z)))) .z))) (.k (.ret (.lit (.bool true))) .z)) .z) .z)
def Lf:bh:=(.k (.ite (.cmp (.attr (.var 1) 21) .Eq (.lit (.str [40]))) (.k (.exp (.meth 4 (.attr (.var 0) 37) (.k (.call (.glb 49) (.k (.lit (.str [108,105,115,116])) (.k (.attr (.var 1) 19) (.k (.listO .z) .z)))) .z))) (.k (.ret (.lit (.bool true))) .z)) .z) (.k (.ite (.cmp (.attr (.var 1) 21) .Eq (.lit (.str [35,40]))) (.k (.exp (.meth 4 (.attr (.var 0) 37) (.k (.call (.glb 49) (.k (.lit (.str [118,101,99,116,111,114])) (.k (.attr (.var 1) 19) (.k (.listO .z) .z)))) .z))) (.k (.ret (.lit (.bool true))) .z)) .z) (.k (.for_ [2,3] (.glb 48) Gx) (.k (.ret (.lit (.bool false))) .z))))
def BU:FD:={ n:=2,dfl:=[],locs:=["self", "token", "sign", "name"],body:=Lf }
noncomputable def Lg:bh:=(.k (.ite (.cmp (.attr (.var 0) 37) .Eq (.list .z)) (.k (.raise 45 (.k (.lit (.str [100,111,116])) (.k (.attr (.var 1) 19) .z))) .z) .z) (.k (.asg 2 (.idx (.attr (.var 0) 37) (.lit (.int (-1))))) (.k (.ite (.bool false (.k (.cmp (.attr (.var 2) 21) .NotEq (.lit (.str [108,105,115,116]))) (.k (.cmp (.attr (.var 2) 10) .Eq (.list .z)) (.k (.cmp (.attr (.var 2) 36) .NotEq (.glb 43)) .z)))) (.k (.raise 45 (.k (.lit (.str [100,111,116])) (.k (.attr (.var 1) 19) .z))) .z) .z) (.k (.seta (.var 2) 36 (.glb 50)) .z))))
def Lh:FD:={ n:=2,dfl:=[],locs:=["self", "token", "frame"],body:=Lg }
noncomputable def Li:bh:=(.k (.ite (.cmp (.attr (.var 0) 37) .Eq (.list .z)) (.k (.raise 45 (.k (.lit (.str [99,108,111,115,101,100,32,116,111,111,32,111,102,116,101,110])) (.k (.attr (.var 1) 19) .z))) .z) .z) (.k (.asg 2 (.idx (.attr (.var 0) 37) (.lit (.int (-1))))) (.k (.ite (.cmp (.attr (.var 2) 21) .Eq (.lit (.str [113,117,111,116,97,116,105,111,110]))) (.k (.raise 45 (.k (.lit (.str [110,111,116,104,105,110,103,32,98,101,104,105,110,100,32,97,32,113,117,111,116,97,116,105,111,110])) (.k (.attr (.var 1) 19) .z))) .z) .z) (.k (.ite (.cmp (.attr (.var 2) 36) .Eq (.glb 50)) (.k (.raise 45 (.k (.lit (.str [110,111,116,104,105,110,103,32,98,101,104,105,110,100,32,97,32,100,111,116])) (.k (.attr (.var 1) 19) .z))) .z) .z) (.k (.exp (.meth 48 (.attr (.var 0) 37) .z)) (.k (.ite (.cmp (.attr (.var 2) 21) .Eq (.lit (.str [118,101,99,116,111,114]))) (.k (.ret (.call (.glb 51) (.k (.frz (.attr (.var 2) 10)) .z))) .z) .z) (.k (.ret (.call (.glb 47) (.k (.attr (.var 2) 10) (.k (.attr (.var 2) 35) .z)))) .z)))))))
def Lj:FD:={ n:=2,dfl:=[],locs:=["self", "token", "frame"],body:=Li }
noncomputable def Lk:bh:=(.k (.ret (.ite (.cmp (.attr (.var 1) 21) .Eq (.lit (.str [115,121,109,98,111,108]))) (.meth 49 (.attr (.var 0) 38) (.k (.attr (.var 1) 20) .z)) (.attr (.var 1) 20))) .z)
def Ll:FD:={ n:=2,dfl:=[],locs:=["self", "token"],body:=Lk }
noncomputable def tA:PE:=(.bool true (.k (.cmp (.var 4) .Gt (.lit (.int 0))) (.k (.cmp (.attr (.idx (.attr (.var 0) 37) (.bin (.var 4) .Sub (.lit (.int 1)))) 21) .Eq (.lit (.str [113,117,111,116,97,116,105,111,110]))) .z)))
noncomputable def tB:PE:=(.cmp (.call (.glb 0) (.k (.attr (.var 0) 37) .z)) .Gt (.var 4))
noncomputable def bA:bh:=(.k (.asg 4 (.bin (.var 4) .Sub (.lit (.int 1)))) .z)
noncomputable def bB:bh:=(.k (.asg 3 (.meth 47 (.var 0) (.k (.var 3) .z))) .z)
def TV:bh:=(.k (.asg 3 (.var 1)) (.k (.asg 4 (.call (.glb 0) (.k (.attr (.var 0) 37) .z))) (.k (.whil tA bA) (.k (.ite (.cmp (.var 4) .Eq (.lit (.int 0))) (.k (.ret (.lit (.bool true))) .z) .z) (.k (.whil tB bB) (.k (.asg 5 (.idx (.attr (.var 0) 37) (.lit (.int (-1))))) (.k (.ite (.cmp (.attr (.var 5) 36) .Eq (.glb 52)) (.k (.raise 45 (.k (.lit (.str [109,111,114,101,32,98,101,104,105,110,100,32,97,32,116,97,105,108])) (.k (.var 2) .z))) .z) .z) (.k (.ite (.cmp (.attr (.var 5) 36) .Eq (.glb 50)) (.k (.seta (.var 5) 35 (.var 3)) (.k (.seta (.var 5) 36 (.glb 52)) .z)) (.k (.exp (.meth 4 (.attr (.var 5) 10) (.k (.var 3) .z))) .z)) (.k (.ret (.lit (.bool false))) .z)))))))))
def PF:FD:={ n:=3,dfl:=[],locs:=["self", "datum", "start", "found", "at", "frame"],body:=TV }
noncomputable def PG:bh:=(.k (.asg 6 (.meth 50 (.var 4) .z)) (.k (.ite (.cmp (.var 6) .Is (.glb 46)) (.k (.ret (.frz (.var 5))) .z) .z) (.k (.exp (.meth 4 (.var 5) (.k (.var 6) .z))) .z)))
def TW:bh:=(.k (.asg 4 (.call (.glb 53) (.k (.var 0) (.k (.var 1) (.k (.var 2) (.k (.var 3) .z)))))) (.k (.asg 5 (.listO .z)) (.k (.whil (.lit (.bool true)) PG) .z)))
def PH:FD:={ n:=4,dfl:=[.int 53,.bool true],locs:=["text", "table", "precision", "is_folded", "reader", "found", "datum"],body:=TW }
noncomputable def PI:bh:=(.k (.asg 4 (.call (.glb 53) (.k (.var 0) (.k (.var 1) (.k (.var 2) (.k (.var 3) .z)))))) (.k (.asg 5 (.meth 50 (.var 4) .z)) (.k (.ite (.cmp (.var 5) .Is (.glb 46)) (.k (.raise 45 (.k (.lit (.str [110,111,32,100,97,116,117,109])) (.k (.call (.glb 0) (.k (.var 0) .z)) .z))) .z) .z) (.k (.asg 6 (.meth 25 (.var 4) .z)) (.k (.ite (.cmp (.meth 50 (.var 4) .z) .IsNot (.glb 46)) (.k (.raise 45 (.k (.lit (.str [109,111,114,101,32,116,104,97,110,32,111,110,101,32,100,97,116,117,109])) (.k (.var 6) .z))) .z) .z) (.k (.ret (.var 5)) .z))))))
def PJ:FD:={ n:=4,dfl:=[.int 53,.bool true],locs:=["text", "table", "precision", "is_folded", "reader", "found", "end"],body:=PI }
noncomputable def PK:bh:=(.k (.ret (.dict [[39],[96],[44],[44,64]] (.k (.lit (.str [113,117,111,116,101])) (.k (.lit (.str [113,117,97,115,105,113,117,111,116,101])) (.k (.lit (.str [117,110,113,117,111,116,101])) (.k (.lit (.str [117,110,113,117,111,116,101,45,115,112,108,105,99,105,110,103])) .z)))))) .z)
def PL:FD:={ n:=0,dfl:=[],locs:=[],body:=PK }
noncomputable def PM:bh:=(.k (.ret (.dict [[97],[49,50],[35,116],[34,115,34]] (.k (.tup (.k (.lit (.str [115,121,109,98,111,108])) (.k (.lit (.str [97])) .z))) (.k (.tup (.k (.lit (.str [119,104,111,108,101])) (.k (.lit (.int 12)) .z))) (.k (.tup (.k (.lit (.str [98,111,111,108,101,97,110])) (.k (.lit (.int 1)) .z))) (.k (.tup (.k (.lit (.str [115,116,114,105,110,103])) (.k (.tup (.k (.lit (.int 115)) .z)) .z))) .z)))))) .z)
def PN:FD:={ n:=0,dfl:=[],locs:=[],body:=PM }
noncomputable def PO:bh:=(.k (.asg 2 (.idx (.var 0) (.lit (.int 1)))) (.k (.seti (.var 0) (.lit (.int 1)) (.bin (.var 2) .Add (.lit (.int 1)))) (.k (.asg 3 (.ite (.cmp (.var 2) .Lt (.call (.glb 0) (.k (.idx (.var 0) (.lit (.int 0))) .z))) (.idx (.idx (.var 0) (.lit (.int 0))) (.var 2)) (.bin (.idx (.var 0) (.lit (.int 2))) .FloorDiv (.lit (.int 512))))) (.k (.seti (.var 0) (.lit (.int 2)) (.bin (.bin (.bin (.bin (.bin (.idx (.var 0) (.lit (.int 2))) .Mult (.lit (.int 69069))) .Add (.bin (.var 3) .Mod (.lit (.int 1000003)))) .Add (.bin (.lit (.int 11)) .Mult (.var 2))) .Add (.lit (.int 1))) .Mod (.lit (.int 4294967296)))) (.k (.ret (.bin (.var 3) .Mod (.var 1))) .z)))))
def PP:FD:={ n:=2,dfl:=[],locs:=["deck", "many", "turn", "cell"],body:=PO }
noncomputable def PQ:bh:=(.k (.ret (.idx (.var 1) (.call (.glb 54) (.k (.var 0) (.k (.call (.glb 0) (.k (.var 1) .z)) .z))))) .z)
def PR:FD:={ n:=2,dfl:=[],locs:=["deck", "items"],body:=PQ }
noncomputable def PT:bh:=(.k (.ret (.listO (.k (.comp 1 (.call (.glb 6) (.k (.var 0) .z)) (.slc (.var 0) (.lit .undef) (.var 1) (.lit .undef)) .z) (.k (.lit (.int 0)) (.k (.bin (.lit (.int 977)) .Add (.call (.glb 0) (.k (.comp 1 (.var 0) (.slc (.var 0) (.lit .undef) (.var 1) (.lit .undef)) (.k (.cmp (.var 0) .Lt (.lit (.int 0))) .z)) .z))) .z))))) .z)
def PU:FD:={ n:=2,dfl:=[],locs:=["script", "most"],body:=PT }
noncomputable def bS:bh:=(.k (.exp (.meth 4 (.var 2) (.k (.call (.glb 56) (.k (.attr (.var 0) 7) (.k (.var 1) .z))) .z))) (.k (.asg 0 (.attr (.var 0) 6)) .z))
def Gy:bh:=(.k (.ite (.call (.glb 57) (.k (.var 0) (.k (.glb 60) .z))) (.k (.ret (.tup (.k (.lit (.str [98,111,111,108,101,97,110])) (.k (.call (.glb 59) (.k (.var 0) .z)) .z)))) .z) .z) (.k (.ite (.call (.glb 57) (.k (.var 0) (.k (.glb 59) .z))) (.k (.ret (.tup (.k (.lit (.str [119,104,111,108,101])) (.k (.var 0) .z)))) .z) .z) (.k (.ite (.cmp (.var 0) .Is (.glb 42)) (.k (.ret (.tup (.k (.lit (.str [101,109,112,116,121])) (.k (.lit (.int 0)) .z)))) .z) .z) (.k (.ite (.call (.glb 57) (.k (.var 0) (.k (.glb 7) .z))) (.k (.ret (.tup (.k (.lit (.str [114,97,116,105,111])) (.k (.tup (.k (.attr (.var 0) 12) (.k (.attr (.var 0) 11) .z))) .z)))) .z) .z) (.k (.ite (.call (.glb 57) (.k (.var 0) (.k (.glb 58) .z))) (.k .bad .z) .z) (.k (.ite (.call (.glb 57) (.k (.var 0) (.k (.glb 1) .z))) (.k (.ret (.tup (.k (.ite (.cmp (.meth 23 (.var 1) (.k (.attr (.var 0) 0) .z)) .Is (.var 0)) (.lit (.str [115,121,109,98,111,108])) (.lit (.str [115,116,114,97,110,103,101]))) (.k (.attr (.var 0) 0) .z)))) .z) .z) (.k (.ite (.call (.glb 57) (.k (.var 0) (.k (.glb 39) .z))) (.k (.ret (.tup (.k (.lit (.str [99,104,97,114])) (.k (.attr (.var 0) 8) .z)))) .z) .z) (.k (.ite (.call (.glb 57) (.k (.var 0) (.k (.glb 3) .z))) (.k (.ret (.tup (.k (.lit (.str [115,116,114,105,110,103])) (.k (.call (.glb 55) (.k (.attr (.var 0) 9) .z)) .z)))) .z) .z) (.k (.ite (.call (.glb 57) (.k (.var 0) (.k (.glb 51) .z))) (.k (.ret (.tup (.k (.lit (.str [118,101,99,116,111,114])) (.k (.call (.glb 55) (.k (.comp 1 (.call (.glb 56) (.k (.var 0) (.k (.fre 1) .z))) (.attr (.var 0) 10) .z) .z)) .z)))) .z) .z) (.k (.ite (.not_ (.call (.glb 57) (.k (.var 0) (.k (.glb 5) .z)))) (.k .bad .z) .z) (.k (.asg 2 (.listO .z)) (.k (.whil (.call (.glb 57) (.k (.var 0) (.k (.glb 5) .z))) bS) (.k (.ret (.tup (.k (.lit (.str [99,104,97,105,110])) (.k (.tup (.k (.call (.glb 55) (.k (.var 2) .z)) (.k (.call (.glb 56) (.k (.var 0) (.k (.var 1) .z))) .z))) .z)))) .z)))))))))))))
def o6:FD:={ n:=2,dfl:=[],locs:=["datum", "table", "cars"],body:=Gy }
noncomputable def Gz:bh:=(.k (.ite (.cmp (.idx (.var 1) (.lit (.int 0))) .Eq (.lit (.str [99,104,97,105,110]))) (.k (.ret (.tup (.k (.lit (.str [99,104,97,105,110])) (.k (.tup (.k (.bin (.call (.glb 55) (.k (.var 0) .z)) .Add (.idx (.idx (.var 1) (.lit (.int 1))) (.lit (.int 0)))) (.k (.idx (.idx (.var 1) (.lit (.int 1))) (.lit (.int 1))) .z))) .z)))) .z) .z) (.k (.ret (.ite (.cmp (.var 0) .NotEq (.list .z)) (.tup (.k (.lit (.str [99,104,97,105,110])) (.k (.tup (.k (.call (.glb 55) (.k (.var 0) .z)) (.k (.var 1) .z))) .z))) (.var 1))) .z))
def GA:FD:={ n:=2,dfl:=[],locs:=["cars", "tail"],body:=Gz }
noncomputable def PV:bh:=(.k (.ret (.meth 5 (.dict [[35,92,40],[49,47,50]] (.k (.tup (.k (.lit (.str [99,104,97,114])) (.k (.lit (.int 40)) .z))) (.k (.tup (.k (.lit (.str [114,97,116,105,111])) (.k (.tup (.k (.lit (.int 1)) (.k (.lit (.int 2)) .z))) .z))) .z))) (.k (.var 0) (.k (.meth 5 (.call (.glb 61) .z) (.k (.var 0) (.k (.var 0) .z))) .z)))) .z)
def PW:FD:={ n:=1,dfl:=[],locs:=["word"],body:=PV }
noncomputable def bq:bh:=(.k (.ite (.bool false (.k (.not_ (.call (.glb 57) (.k (.var 2) (.k (.glb 62) .z)))) (.k (.cmp (.var 2) .NotIn (.call (.glb 63) .z)) .z))) (.k (.asg 1 (.addO (.list (.k (.var 2) .z)) (.var 1))) .z) (.k (.ite (.bool false (.k (.cmp (.var 1) .Eq (.list .z)) (.k (.cmp (.idx (.var 1) (.lit (.int 0))) .Eq (.lit (.str [46]))) .z))) (.k (.ret (.lit .none)) .z) (.k (.seti (.var 1) (.lit (.int 0)) (.call (.glb 64) (.k (.list (.k (.tup (.k (.lit (.str [115,121,109,98,111,108])) (.k (.idx (.call (.glb 63) .z) (.var 2)) .z))) (.k (.idx (.var 1) (.lit (.int 0))) .z))) (.k (.tup (.k (.lit (.str [101,109,112,116,121])) (.k (.lit (.int 0)) .z))) .z)))) .z)) .z)) .z)
def PX:bh:=(.k (.asg 1 (.listO .z)) (.k (.for_ [2] (.slc (.var 0) (.lit .undef) (.lit .undef) (.lit (.int (-1)))) bq) (.k (.ret (.frz (.var 1))) .z)))
def PY:FD:={ n:=1,dfl:=[],locs:=["items", "found", "item"],body:=PX }
noncomputable def PZ:bh:=(.k (.asg 1 (.call (.glb 65) (.k (.var 1) .z))) (.k (.ite (.cmp (.var 1) .Is (.lit .none)) (.k (.ret (.lit .none)) .z) .z) (.k (.asg 2 (.comp 2 (.var 0) (.call (.glb 17) (.k (.var 1) .z)) (.k (.cmp (.var 1) .Eq (.lit (.str [46]))) .z))) (.k (.ite (.cmp (.var 0) .Eq (.lit (.str [35,40]))) (.k (.ret (.ite (.cmp (.var 2) .Eq (.list .z)) (.tup (.k (.lit (.str [118,101,99,116,111,114])) (.k (.call (.glb 55) (.k (.var 1) .z)) .z))) (.lit .none))) .z) .z) (.k (.ite (.cmp (.var 2) .Eq (.list .z)) (.k (.ret (.call (.glb 64) (.k (.var 1) (.k (.tup (.k (.lit (.str [101,109,112,116,121])) (.k (.lit (.int 0)) .z))) .z)))) .z) .z) (.k (.ite (.bool false (.k (.cmp (.var 2) .NotEq (.list (.k (.bin (.call (.glb 0) (.k (.var 1) .z)) .Sub (.lit (.int 2))) .z))) (.k (.cmp (.call (.glb 0) (.k (.var 1) .z)) .Lt (.lit (.int 3))) .z))) (.k (.ret (.lit .none)) .z) .z) (.k (.ret (.call (.glb 64) (.k (.slc (.var 1) (.lit .undef) (.lit (.int (-2))) (.lit .undef)) (.k (.idx (.var 1) (.lit (.int (-1)))) .z)))) .z)))))))
def P0:FD:={ n:=2,dfl:=[],locs:=["word", "items", "dots"],body:=PZ }
noncomputable def bo:de:=(.k (.cmp (.idx (.fre 1) (.var 0)) .In (.tup (.k (.lit (.str [40])) (.k (.lit (.str [35,40])) .z)))) .z)
def P1:bh:=(.k (.asg 1 (.comp 1 (.call (.glb 67) (.k (.var 0) .z)) (.var 0) .z)) (.k (.for_ [2] (.call (.glb 4) (.k (.call (.glb 0) (.k (.var 0) .z)) .z)) (.k (.ite (.cmp (.lit (.str [41])) .NotIn (.var 1)) (.k .brk .z) .z) (.k (.asg 3 (.meth 13 (.var 1) (.k (.lit (.str [41])) .z))) (.k (.asg 4 (.comp 1 (.var 0) (.call (.glb 4) (.k (.var 3) .z)) bo)) (.k (.ite (.cmp (.var 4) .Eq (.list .z)) (.k (.ret (.lit .none)) .z) .z) (.k (.asg 5 (.idx (.var 4) (.lit (.int (-1))))) (.k (.asg 6 (.call (.glb 66) (.k (.idx (.var 1) (.var 5)) (.k (.slc (.var 1) (.bin (.var 5) .Add (.lit (.int 1))) (.var 3) (.lit .undef)) .z)))) (.k (.ite (.cmp (.var 6) .Is (.lit .none)) (.k (.ret (.lit .none)) .z) .z) (.k (.asg 1 (.bin (.bin (.slc (.var 1) (.lit .undef) (.var 5) (.lit .undef)) .Add (.list (.k (.var 6) .z))) .Add (.slc (.var 1) (.bin (.var 3) .Add (.lit (.int 1))) (.lit .undef) (.lit .undef)))) .z))))))))) (.k (.ite (.bool false (.k (.cmp (.lit (.str [40])) .In (.var 1)) (.k (.cmp (.lit (.str [35,40])) .In (.var 1)) (.k (.cmp (.lit (.str [46])) .In (.var 1)) .z)))) (.k (.ret (.lit .none)) .z) .z) (.k (.ret (.call (.glb 65) (.k (.var 1) .z))) .z))))
def P2:FD:={ n:=1,dfl:=[],locs:=["words", "items", "turn", "close", "begins", "begin", "one"],body:=P1 }
noncomputable def P3:bh:=(.k (.asg 2 (.call (.glb 70) .z)) (.k (.try_ (.k (.asg 3 (.ite (.var 1) (.list (.k (.call (.glb 68) (.k (.var 0) (.k (.var 2) .z))) .z)) (.call (.glb 69) (.k (.var 0) (.k (.var 2) .z))))) .z) 45 4 (.k (.ret (.ite (.cmp2 (.lit (.int 0)) .LtE (.attr (.var 4) 25) .LtE (.call (.glb 0) (.k (.var 0) .z))) (.lit .none) (.lit (.str [110,111,32,112,108,97,99,101])))) .z)) (.k (.ret (.comp 1 (.call (.glb 56) (.k (.var 0) (.k (.fre 2) .z))) (.var 3) .z)) .z)))
def P4:FD:={ n:=2,dfl:=[],locs:=["text", "is_one", "table", "found", "error"],body:=P3 }
noncomputable def TX:bh:=(.k (.asg 5 (.call (.glb 73) (.k (.var 2) .z))) (.k (.asg 6 (.meth 22 (.lit (.str [32])) (.k (.var 2) .z))) (.k (.ite (.cmp (.call (.glb 72) (.k (.var 6) (.k (.lit (.bool false)) .z))) .NotEq (.var 5)) (.k .bad .z) .z) (.k (.asg 7 (.ite (.bool true (.k (.cmp (.var 5) .IsNot (.lit .none)) (.k (.cmp (.call (.glb 0) (.k (.var 5) .z)) .Eq (.lit (.int 1))) .z))) (.var 5) (.lit .none))) (.k (.ite (.cmp (.call (.glb 72) (.k (.var 6) (.k (.lit (.bool true)) .z))) .NotEq (.var 7)) (.k .bad .z) .z) .z)))))
def SH:bh:=(.k (.asg 2 (.comp 1 (.call (.glb 75) (.k (.fre 1) (.k (.glb 74) .z))) (.call (.glb 4) (.k (.var 4) .z)) .z)) (.k (.ite (.cmp (.var 3) .Gt (.lit (.int 1))) (.k (.asg 2 (.bin (.bin (.list (.k (.lit (.str [40])) .z)) .Add (.var 2)) .Add (.bin (.list (.k (.lit (.str [41])) .z)) .Mult (.bin (.lit (.int 1)) .Add (.call (.glb 54) (.k (.var 1) (.k (.lit (.int 2)) .z))))))) .z) .z) TX))
def bw:bh:=(.k (.asg 4 (.ite (.cmp (.var 3) .Gt (.lit (.int 0))) (.bin (.lit (.int 1)) .Add (.call (.glb 54) (.k (.var 1) (.k (.lit (.int 9)) .z)))) (.call (.glb 71) (.k (.lit (.int 9)) (.k (.call (.glb 76) (.k (.lit (.int 1)) (.k (.call (.glb 0) (.k (.var 0) .z)) .z))) .z))))) SH)
def P5:bh:=(.k (.asg 1 (.call (.glb 77) (.k (.var 0) (.k (.lit (.int 40)) .z)))) (.k (.asg 2 (.list .z)) (.k (.for_ [3] (.call (.glb 4) (.k (.bin (.lit (.int 1)) .Add (.bin (.call (.glb 71) (.k (.call (.glb 0) (.k (.var 0) .z)) (.k (.lit (.int 30)) .z))) .FloorDiv (.lit (.int 10)))) .z)) bw) (.k (.ret (.lit (.bool true))) .z))))
def P6:FD:={ n:=1,dfl:=[],locs:=["script", "deck", "words", "turn", "many", "due", "text", "one"],body:=P5 }
noncomputable def c0:List String:=["text", "number", "by_text", "rows", "append", "get", "cdr", "car", "code", "codes", "things", "bottom", "top", "index", "rstrip", "is_exact", "split", "lower", "end", "start", "value", "word", "join", "find", "is_folded", "place", "precision", "word_token", "sharp", "string", "found", "skip", "number_in", "word_end", "sign_token", "tail", "state", "frames", "table", "lexer", "delivered", "last", "closed", "atom", "dot", "opens", "token", "quoted", "pop", "symbol", "read"]
noncomputable def uJ:List String:=["len", "Symbol", "ord", "Text", "range", "Pair", "abs", "Ratio", "made", "gcd_of", "FIGURES_numtext", "all", "worth_of", "Reading", "are_figures", "parted", "read_whole", "enumerate", "MARKS", "mark_place", "read_ratio", "ratio_of", "finished", "read_unsigned", "split_prefixes", "SMALL", "CAPITALS", "FIRST_SIGNS", "is_first", "PECULIAR", "FIGURES_lexer", "BLANKS", "Token", "DELIMITERS", "RESERVED", "is_numberlike", "is_identifier", "folded", "parse_number", "Char", "sign_named", "make_text", "EMPTY", "NOT_DOTTED", "Lexer", "ReadError", "EOF", "list_of", "QUOTATIONS", "Frame", "BEHIND_DOT", "Vector", "HAS_TAIL", "Reader", "_law_draw", "tuple", "_law_shape", "isinstance", "Real", "int", "bool", "_law_data", "str", "_law_names", "_law_chain", "_law_quoted", "_law_bracket", "_law_form", "read_one", "read_all", "SymbolTable", "min", "_law_told", "_law_read", "_law_words", "_law_pick", "max", "_law_deck"]
noncomputable def P7:List V:=[ .blt .len,.base 65,.blt .ord,.base 191,.ty .range,.base 149,.blt .abs,.base 400,.base 418,.base 411,.str [48,49,50,51,52,53,54,55,56,57,97,98,99,100,101,102],.blt .all,.base 433,.base 462,.base 438,.base 445,.base 473,.ty .enumerate,.str [101,115,102,100,108],.base 499,.base 480,.base 425,.base 534,.base 520,.base 527,.str [97,98,99,100,101,102,103,104,105,106,107,108,109,110,111,112,113,114,115,116,117,118,119,120,121,122],.str [65,66,67,68,69,70,71,72,73,74,75,76,77,78,79,80,81,82,83,84,85,86,87,88,89,90],.str [33,36,37,38,42,47,58,60,61,62,63,94,95,126],.base 586,.tup [(.str [43]),(.str [45]),(.str [46,46,46])],.str [48,49,50,51,52,53,54,55,56,57],.str [32,10,9,13,12],.base 568,.str [32,10,9,13,12,40,41,34,59],.str [91,93,123,125,124],.base 607,.base 600,.base 579,.base 542,.base 170,.base 614,.base 221,.base 44,.int 0,.base 702,.base 285,.base 47,.base 229,.tup [(.tup [(.str [39]),(.str [113,117,111,116,101])]),(.tup [(.str [96]),(.str [113,117,97,115,105,113,117,111,116,101])]),(.tup [(.str [44]),(.str [117,110,113,117,111,116,101])]),(.tup [(.str [44,64]),(.str [117,110,113,117,111,116,101,45,115,112,108,105,99,105,110,103])])],.base 723,.int 1,.base 212,.int 2,.base 808,.base 850,.ty .tuple,.base 867,.blt .isinstance,.base 323,.ty .int,.ty .bool,.base 843,.ty .str,.base 836,.base 874,.base 888,.base 893,.base 881,.base 828,.base 820,.base 128,.blt .min,.base 903,.base 898,.lst [(.str [40]),(.str [41]),(.str [46]),(.str [39]),(.str [97]),(.str [49,50]),(.str [40]),(.str [41]),(.str [41]),(.str [35,40]),(.str [96]),(.str [44]),(.str [44,64]),(.str [35,116]),(.str [34,115,34]),(.str [35,92,40]),(.str [49,47,50])],.base 857,.blt .max,.base 862]
noncomputable def af(k:Nat):Option V:=P7[k]?
def WK:List (Nat×FD):=[(62,VP),(83,VR),(90,TL),(111,OG),(146,OI),(167,OK),(188,OM),(209,OO),(221,OQ),(229,KX),(397,OT),(411,KZ),(418,K2),(425,K4),(433,Gr),(438,Gu),(445,OV),(459,OX),(473,OZ),(480,O1),(499,O3),(520,K6),(527,O5),(534,K8),(542,O7),(565,O9),(579,Pb),(586,La),(600,Lc),(607,Pd),(629,Pf),(636,Pi),(650,Ld),(657,Pk),(664,Pm),(671,Po),(678,Pq),(685,Gw),(692,Pr),(699,Pt),(720,Pv),(742,Px),(749,Pz),(756,PA),(763,PB),(770,PD),(777,BU),(784,Lh),(791,Lj),(798,Ll),(805,PF),(820,PH),(828,PJ),(836,PL),(843,PN),(850,PP),(857,PR),(862,PU),(867,o6),(874,GA),(881,PW),(888,PY),(893,P0),(898,P2),(903,P4),(908,P6)]
noncomputable def fdOf(f:Nat):Option FD:=WK.lookup f
noncomputable def GB:List (Nat×Bool×Nat×List Nat):=[(65,false,62,[1,0]),(128,false,83,[3,2]),(149,true,146,[7,6]),(170,true,167,[8]),(191,true,188,[9]),(212,true,209,[10]),(400,true,397,[12,11]),(462,true,459,[12,11,15]),(568,true,565,[21,20,19,18]),(702,false,629,[0,26,25,24]),(723,false,720,[21,19,10,36,35]),(808,false,742,[39,38,37])]
noncomputable def eh(c:Nat):Option (Bool×Nat×List Nat):=(GB.find? λm=>Nat.beq m.1 c).map (·.2)
noncomputable def sg:List (Nat×Nat×Nat):=[(128,49,90),(128,23,111),(702,31,636),(702,46,650),(702,30,657),(702,33,664),(702,27,671),(702,32,678),(702,28,685),(702,34,692),(702,29,699),(808,25,749),(808,50,756),(808,41,763),(808,47,770),(808,45,777),(808,44,784),(808,42,791),(808,43,798),(808,40,805)]
noncomputable def ax(c k:Nat):Option Nat:=(sg.find? λm=>Nat.beq m.1 c&&Nat.beq m.2.1 k).map (·.2.2)
abbrev XS:=Loc->Nat->List V->Hp->Prop
abbrev KS:=Fl->Loc->Hp->Prop
noncomputable def g6:XP:=λ_ _ _=>False
noncomputable def kJ:XS:=λ_ _ _ _=>False
noncomputable def Lm(o:O):Option Nat:=match o with
 |.inst c _=>some c
 |_=>none
def sh(H:Hp)(v:V):Option Nat:=match v with
 |.ref n=>uC H n none Lm
 |_=>none
noncomputable def jK(o:O):Nat:=match o with
 |.list _=>1
 |.dict _ _=>2
 |_=>0
def V.kind(H:Hp)(v:V):Nat:=match v with
 |.ref n=>uC H n 0 jK
 |.lst _=>1
 |.dct _ _=>2
 |.str _=>3
 |_=>0
def GC(k:Nat)(o:O):Bool:=match o with
 |.inst c fs=>(ax c k).isSome&&decide (k<51)&&fs.all λf=>f.1 != k
 |o=>(l9 k (jK o)).isSome
def Ol(H:Hp)(k:Nat)(o:V):Bool:=match o with
 |.ref n=>uC H n false (GC k)
 |o=>(l9 k (o.kind H)).isSome
noncomputable def BV:List Nat:=[62,83,90,111,146,167,188,209,221,229,397,411,418,425,433,438,445,459,473,480,499,520,527,534,542,565,579,586,600,607,629,636,650,657,664,671,678,685,692,699,720,742,749,756,763,770,777,784,791,798,805,820,828,836,843,850,857,862,867,874,881,888,893,898,903,908]
def cI(c:Nat):List Nat:=(eh c).elim [] λq=>q.2.2
def aR(H:Hp)(v:V)(k:Nat):Option V:=match v with
 |.obj c fs=>(eh c).bind λq=>cond q.1 (kE q.2.2 fs k) none
 |.ref n=>uC H n none λo=>F9 o λc fs=>if (cI c).contains k then mP fs k else none
 |.exn c fs=>qOn c 285 (q2 fs λ_ p=>qOn k 25 (some p) none) none
 |_=>none
def cP(H:Hp)(v:V)(k:Nat)(x:V):Option Hp:=yz v λn=>uC H n none λo=>F9 o λc fs=>
 if (cI c).contains k&&decide (fs.length<=100) then some (H.set n (.inst c (hJ fs k x))) else none
def JS(H:Hp)(n:Nat)(i x:V)(o:O):Option Hp:=match o with
 |.list vs=>cN i λi=>if 0<=i/\i<vs.length/\aj vs.length then some (H.set n (.list (vs.set i.toNat x))) else none
 |.dict ks vs=>ji i λk=>if ks.length<=1000 then some (H.set n (.dict (dictPut ks vs k x).1 (dictPut ks vs k x).2)) else none
 |_=>none
def ek(H:Hp)(v i x:V):Option Hp:=yz v λn=>uC H n none (JS H n i x)
section
variable{H:Hp}{n k:Nat}{x:V}
def kK{c:Nat}{fs:List (Nat×V)}(h:H[n]?=some (.inst c fs)):cP H (.ref n) k x=if (cI c).contains k&&decide (fs.length<=100) then some (H.set n (.inst c (hJ fs k x))) else none:=fH h
def dq{c:Nat}(h:H[n]?=some (.inst c fs)):aR H (.ref n) k=if (cI c).contains k then mP fs k else none:=fH h
def mU(h:H[n]?=some o):Ol H k (.ref n)=GC k o:=fH h
def mV(h:H[n]?=some o):sh H (.ref n)=Lm o:=fH h
def jL(h:H[n]?=some o):V.kind H (.ref n)=jK o:=fH h
def qr(h:H[n]?=some o):ek H (.ref n) i x=JS H n i x o:=fH h
end
section
variable{H:Hp}{n:Nat}{a b v w:V}{l m vs:List V}
def hM(h:H[n]?=some (.list vs)):V.res H (.ref n)=.lst vs:=fH h
def wJ(ha:a.res H=v)(hb:b.res H=w)(h:v.plain 60=true)(k:w.plain 60=true):ac H .Eq a b=some (V.eqb v w):=by
 subst ha hb;exact if_pos (by rw[h,k];rfl)
def BW(h:v.res H=.lst l)(hf:aj l.length=true):aP H .len [v]=some (.int l.length):=by
 show eJ (v.res H) _ _ _ _=_;rw[h];exact if_pos hf
def Ln(ha:a.res H=.lst l)(hb:b.res H=.lst m)(h:aj l.length=true)(k:aj m.length=true):aT H .Add a b=some (.lst (l++m)):=by
 show eJ (a.res H) _ _ _ (λx=>jI (b.res H) _)=_;rw[ha,hb];exact if_pos (by rw[h,k];rfl)
def kM{i:Int}(ha:a.res H=.lst l):bY H a (.int i)=(dU l.length i).bind λj=>l[j]?:=by
 unfold bY;rw[ha];rfl
def BX{lo:V}{x y:Option Int}(h1:v.res H=.lst vs)(h2:dB lo=some x)(h3:dB hi=some y)(hf:aj vs.length=true):eg H v lo hi .undef=some (.lst (cut vs x y)):=by
 show (dB lo).bind (λl=>(dB hi).bind λu=>eJ (v.res H) _ _ _ _)=_;rw[h1,h2,h3];exact if_pos hf
def Lo{lo:V}{x y:Option Int}{t:List Nat}(h1:v.res H=.str t)(h2:dB lo=some x)(h3:dB hi=some y)(hf:aj t.length=true):eg H v lo hi .undef=some (.str (cut t x y)):=by
 show (dB lo).bind (λl=>(dB hi).bind λu=>eJ (v.res H) _ _ _ _)=_;rw[h1,h2,h3];exact if_pos hf
def Lq(h1:v.res H=.lst vs)(hf:aj vs.length=true):eg H v .undef .undef (.int (-1))=some (.lst vs.reverse):=by
 show jI (v.res H) _=_;rw[h1];exact if_pos hf
def BY{sep:List Nat}{ss:List (List Nat)}(h:v.res H=.lst vs)(hs:eY vs=some ss)(hf:aj ((ss.map length).sum+ss.length*sep.length)=true):kA H 22 (.str sep) [v]=some (.str (lK sep ss),H):=by
 show jI (v.res H) (λvs=>(eY vs).bind _)=_;rw[h];show (eY vs).bind _=_;rw[hs];exact if_pos hf
def wK(h:v.res H=.lst vs)(hf:aj vs.length=true):Bq H .tuple [v]=some (.tup vs):=by
 show jI (v.res H) _=_;rw[h];exact if_pos hf
def BZ{x:V}(h:H[n]?=some (.list vs))(hf:aj vs.length=true):kA H 4 (.ref n) [x]=some (.none,H.set n (.list (vs++[x]))):=(wG h).trans (if_pos hf)
def P8{x:V}(h:H[n]?=some (.list (vs++[x])))(hf:aj (vs++[x]).length=true):kA H 48 (.ref n) []=some (x,H.set n (.list vs)):=by
 refine (wG h).trans ((if_pos hf).trans ?_);rw[List.getLast?_concat,List.dropLast_concat];rfl
def P9{x:V}{k:List Nat}(h:H[n]?=some (.dict ks vs)):kA H 5 (.ref n) [.str k,x]=some ((dictGet ks vs k).getD x,H):=Go h
end
def bindC:Nat->V->Option Loc
 |0,_=>none
 |n+1,v=>match n with
  |0=>some [some v]
  |n+1=>match n with
   |0=>yy v λvs=>q2 vs λa b=>some [some a,some b]
   |_+1=>none
noncomputable def dD:List Nat->List V->Loc->Option Loc
 |[],[],l=>some l
 |t::ts,v::vs,l=>dD ts vs (l.set t (some v))
 |_,_,_=>none
def B1:List Nat->V->Loc->Option Loc
 |[],_,_=>none
 |t::ts,v,l=>match ts with
  |[]=>some (l.set t (some v))
  |u::ts=>yy v λvs=>dD (t::u::ts) vs l
theorem GD{t:Nat}{l:Loc}:B1 [t] v l=some (l.set t (some v)):=rfl
def cb(f:V->Hp->(Option V->Hp->Prop)->Prop):List V->List V->Hp->KP->Prop
 |[],acc,H,K=>K (.lst acc) H
 |x::xs,acc,H,K=>f x H λr H'=>match r with
  |some v=>cb f xs (acc++[v]) H' K
  |none=>cb f xs acc H' K
def fN(f:V->Loc->Hp->KS->Prop):List V->Loc->Hp->KS->Prop
 |[],l,H,K=>K .next l H
 |x::xs,l,H,K=>f x l H λfl l' H'=>match fl with
  |.next=>fN f xs l' H' K
  |.cont=>fN f xs l' H' K
  |.brk=>K .next l' H'
  |.ret v=>K (.ret v) l' H'
def bZ(t:Loc->Hp->(Bool->Hp->Prop)->Prop)(b:Loc->Hp->KS->Prop):Nat->Loc->Hp->KS->Prop
 |0,_,_,_=>False
 |n+1,l,H,K=>t l H λc H'=>match c with
  |true=>b l H' λfl l' H''=>match fl with
   |.next=>bZ t b n l' H'' K
   |.cont=>bZ t b n l' H'' K
   |.brk=>K .next l' H''
   |.ret v=>K (.ret v) l' H''
  |false=>K .next l H'
def kO(r:Option V)(H:Hp)(K:KP):Prop:=match r with
 |some v=>K v H
 |none=>False
def kB(r:Option Bool)(H:Hp)(K:Bool->Hp->Prop):Prop:=match r with
 |some b=>K b H
 |none=>False
def F1(r:Option (V×Hp))(K:KP):Prop:=match r with
 |some (v,H)=>K v H
 |none=>False
def dt(v:V)(H:Hp)(K:Bool->Hp->Prop):Prop:=match v with
 |.bool b=>K b H
 |_=>False
def si(args:List V)(H:Hp)(K:KP):Prop:=match wA args with
 |some vs=>K (.ref H.length) (H++[.iter vs])
 |none=>False
def mW(C:ba)(X:XP)(a:Nat)(args:List V)(H:Hp)(K:KP):Prop:=match eh a with
 |some (true,init,ks)=>C init (.ref H.length::args) (H++[.inst a []]) (λv H'=>v=.none/\∃fs,H'=H++[.inst a (ks.zip fs)]/\fs.length=ks.length/\(∀v∈fs,v∈args)/\K (.obj a fs) H) g6
 |some (false,init,_)=>C init (.ref H.length::args) (H++[.inst a []]) (λv H'=>v=.none/\K (.ref H.length) H') g6
 |none=>if BV.contains a then C a args H K X else False
def ag(C:ba)(X:XP)(f:V)(args:List V)(H:Hp)(K:KP):Prop:=match f with
 |.base a=>mW C X a args H K
 |.blt b=>kO (aP H b args) H K
 |.ty t=>(match t with
  |.enumerate=>si args H K
  |.bool=>kO (Bq H .bool args) H K | .int=>kO (Bq H .int args) H K | .str=>kO (Bq H .str args) H K | .tuple=>kO (Bq H .tuple args) H K | .range=>kO (Bq H .range args) H K)
 |.undef=>False | .none=>False | .bool _=>False | .int _=>False | .str _=>False | .tup _=>False | .lst _=>False | .obj _ _=>False | .ref _=>False | .dct _ _=>False | .rng _ _ _=>False | .exn _ _=>False
def bD(C:ba)(X:XP)(k:Nat)(o:V)(H1:Hp)(args:List V)(H:Hp)(K:KP):Prop:=
 match sh H1 o with
 |some c=>match ax c k with
  |some a=>C a (o::args) H K X
  |none=>False
 |none=>if o.kind H1=o.kind H/\o.kind H≠0 then F1 (kA H k o args) K else False
def GE(v:V)(H:Hp)(K:KP):Prop:=F8 v (λn=>∃vs,H[n]?=some (.list vs)/\K (.lst vs) (H.set n .gone)) False
def pp(M:List Nat)(v:V)(H:Hp)(K:KP):Prop:=match v with
 |.str s=>if aj s.length/\aj M.length then K (.str (M++s)) H else False
 |_=>False
noncomputable def gx:List (List Nat)->Bool
 |[]=>true
 |k::ks=>!ks.contains k&&gx ks
theorem B2:gx []=(true):=rfl
theorem B3:gx (k::ks)=(!ks.contains k&&gx ks):=rfl
def sk(ks:List (List Nat))(vs:List V)(H:Hp)(K:KP):Prop:=
 if gx ks&&decide (ks.length=vs.length)&&decide (ks.length<=15) then K (.dct ks vs) H else False
def Qc(v:V)(f:Nat->Prop):Prop:=match v with
 |.base c=>f c
 |_=>False
def B4(o:Option V)(f:Nat->Prop):Prop:=match o with
 |some v=>Qc v f
 |none=>False
def GF{f:Nat->Prop}{Q:Prop}(h:B4 o f)(k:∀c,o=some (.base c)->f c->Q):Q:=by
 cases o with
 |none=>exact h.elim
 |some v=>induction v using V.casesOn<;>first | exact k _ rfl h | exact h.elim
mutual
noncomputable def wE(C:ba)(X:XP):PE->Loc->Loc->Hp->KP->Prop
 |.bad,_,_,_,_=>False
 |.var i,l,_,H,K=>match l[i]? with
  |some (some v)=>K v H
  |_=>False
 |.fre i,_,lo,H,K=>match lo[i]? with
  |some (some v)=>K v H
  |_=>False
 |.lit v,_,_,H,K=>K v H
 |.glb k,_,_,H,K=>kO (af k) H K
 |.not_ _,_,_,_,_=>False
 |.bool bv es,l,lo,H,K=>JT C X bv es l lo H K
 |.cmp a op b,l,lo,H,K=>wE C X a l lo H λva H1=>wE C X b l lo H1 λvb H2=>kB (ac H2 op va vb) H2 λr H3=>K (.bool r) H3
 |.cmp2 a op b eL e,l,lo,H,K=>wE C X a l lo H λva H1=>wE C X b l lo H1 λvb H2=>kB (ac H2 op va vb) H2 λr H3=>match r with
  |true=>wE C X e l lo H3 λve H4=>kB (ac H4 eL vb ve) H4 λr H5=>K (.bool r) H5
  |false=>K (.bool false) H3
 |.bin a op b,l,lo,H,K=>wE C X a l lo H λva H1=>wE C X b l lo H1 λvb H2=>kO (aT H2 op va vb) H2 K
 |.addO a b,l,lo,H,K=>wE C X a l lo H λva H1=>wE C X b l lo H1 λvb H2=>kO (aT H2 .Add va vb) H2 λr H3=>match r with
  |.lst vs=>K (.ref H3.length) (H3++[.list vs])
  |_=>False
 |.ite t a b,l,lo,H,K=>wT C X t l lo H λc H1=>match c with
  |true=>wE C X a l lo H1 K
  |false=>wE C X b l lo H1 K
 |.attr e k,l,lo,H,K=>wE C X e l lo H λv H1=>kO (aR H1 v k) H1 K
 |.idx e i,l,lo,H,K=>wE C X e l lo H λv H1=>wE C X i l lo H1 λiv H2=>kO (bY H2 v iv) H2 K
 |.slc e a b st,l,lo,H,K=>wE C X e l lo H λv H1=>wE C X a l lo H1 λva H2=>wE C X b l lo H2 λvb H3=>wE C X st l lo H3 λvs H4=>kO (eg H4 v va vb vs) H4 K
 |.tup es,l,lo,H,K=>fQ C X es l lo H λvs H1=>K (.tup vs) H1
 |.list es,l,lo,H,K=>fQ C X es l lo H λvs H1=>K (.lst vs) H1
 |.listO es,l,lo,H,K=>fQ C X es l lo H λvs H1=>K (.ref H1.length) (H1++[.list vs])
 |.dict ks vs,l,lo,H,K=>fQ C X vs l lo H λW3 H2=>sk ks W3 H2 K
 |.dictO,_,_,H,K=>K (.ref H.length) (H++[.dict [] []])
 |.comp nt elt it aF,l,lo,H,K=>wE C X it l lo H λv H1=>match fG nt H1 v with
  |some (xs,H1')=>if aj xs.length then cb (λx H2 k=>match bindC nt x with
    |some li=>Br C g6 aF li l H2 λb H3=>match b with
     |true=>wE C g6 elt li l H3 λr H4=>k (some r) H4
     |false=>k none H3
    |none=>False) xs [] H1' K else False
  |none=>False
 |.call f args,l,lo,H,K=>wE C X f l lo H λfv H1=>fQ C X args l lo H1 λvs H2=>ag C X fv vs H2 K
 |.meth k o args,l,lo,H,K=>wE C X o l lo H λov H1=>if Ol H1 k ov then fQ C X args l lo H1 λvs H2=>bD C X k ov H1 vs H2 K else False
 |.frz e,l,lo,H,K=>wE C X e l lo H λv H1=>GE v H1 K
 |.fstr M e,l,lo,H,K=>wE C X e l lo H λv H1=>pp M v H1 K
noncomputable def fQ(C:ba)(X:XP):de->Loc->Loc->Hp->(List V->Hp->Prop)->Prop
 |.z,_,_,H,K=>K [] H
 |.k e es,l,lo,H,K=>wE C X e l lo H λv H1=>fQ C X es l lo H1 λvs H2=>K (v::vs) H2
noncomputable def JT(C:ba)(X:XP)(bv:Bool):de->Loc->Loc->Hp->KP->Prop
 |.z,_,_,_,_=>False
 |.k e .z,l,lo,H,K=>wE C X e l lo H K
 |.k e es,l,lo,H,K=>wE C X e l lo H λv H1=>dt v H1 λb H2=>if b=bv then JT C X bv es l lo H2 K else K v H2
noncomputable def Br(C:ba)(X:XP):de->Loc->Loc->Hp->(Bool->Hp->Prop)->Prop
 |.z,_,_,H,K=>K true H
 |.k e es,l,lo,H,K=>wT C X e l lo H λb H1=>match b with
  |true=>Br C X es l lo H1 K
  |false=>K false H1
noncomputable def wT(C:ba)(X:XP):PE->Loc->Loc->Hp->(Bool->Hp->Prop)->Prop
 |.not_ e,l,lo,H,K=>wT C X e l lo H λb H1=>K (!b) H1
 |.bool bv es,l,lo,H,K=>JU C X bv es l lo H K
 |.ite t a b,l,lo,H,K=>wT C X t l lo H λc H1=>match c with
  |true=>wT C X a l lo H1 K
  |false=>wT C X b l lo H1 K
 |.cmp a op b,l,lo,H,K=>wE C X a l lo H λva H1=>wE C X b l lo H1 λvb H2=>kB (ac H2 op va vb) H2 K
 |.cmp2 a op b eL e,l,lo,H,K=>wE C X a l lo H λva H1=>wE C X b l lo H1 λvb H2=>kB (ac H2 op va vb) H2 λr H3=>match r with
  |true=>wE C X e l lo H3 λve H4=>kB (ac H4 eL vb ve) H4 K
  |false=>K false H3
 |.bad,_,_,_,_=>False
 |.var i,l,_,H,K=>match l[i]? with
  |some (some v)=>dt v H K
  |_=>False
 |.lit v,_,_,H,K=>dt v H K
 |.call f args,l,lo,H,K=>wE C X f l lo H λfv H1=>fQ C X args l lo H1 λvs H2=>ag C X fv vs H2 λv H3=>dt v H3 K
 |.meth k o args,l,lo,H,K=>wE C X o l lo H λov H1=>if Ol H1 k ov then fQ C X args l lo H1 λvs H2=>bD C X k ov H1 vs H2 λv H3=>dt v H3 K else False
 |.attr e k,l,lo,H,K=>wE C X e l lo H λv H1=>kO (aR H1 v k) H1 λv H2=>dt v H2 K
 |_,_,_,_,_=>False
noncomputable def JU(C:ba)(X:XP)(bv:Bool):de->Loc->Loc->Hp->(Bool->Hp->Prop)->Prop
 |.z,_,_,H,K=>K bv H
 |.k e es,l,lo,H,K=>wT C X e l lo H λb H1=>if b=bv then JU C X bv es l lo H1 K else K (!bv) H1
end
mutual
noncomputable def wS(C:ba):PS->Loc->Hp->KS->XS->Prop
 |.bad,_,_,_,_=>False
 |.asg i e,l,H,K,X=>wE C (X l) e l [] H λv H1=>K .next (l.set i (some v)) H1
 |.asgs ts e,l,H,K,X=>wE C (X l) e l [] H λv H1=>match v with
  |.tup vs=>match dD ts vs l with
   |some l'=>K .next l' H1
   |none=>False
  |_=>False
 |.seta o k e,l,H,K,X=>wE C (X l) e l [] H λv H1=>wE C (X l) o l [] H1 λov H2=>match cP H2 ov k v with
  |some H3=>K .next l H3
  |none=>False
 |.seti o i e,l,H,K,X=>wE C (X l) e l [] H λv H1=>wE C (X l) o l [] H1 λov H2=>wE C (X l) i l [] H2 λiv H3=>match ek H3 ov iv v with
  |some H4=>K .next l H4
  |none=>False
 |.exp e,l,H,K,X=>wE C (X l) e l [] H λ_ H1=>K .next l H1
 |.ret e,l,H,K,X=>wE C (X l) e l [] H λv H1=>K (.ret v) l H1
 |.retn,l,H,K,_=>K (.ret .none) l H
 |.raise g args,l,H,_,X=>B4 (af g) λc=>fQ C (X l) args l [] H λvs H1=>c=285/\vs.length=2/\X l c vs H1
 |.ite t a b,l,H,K,X=>wT C (X l) t l [] H λc H1=>match c with
  |true=>dT C a l H1 K X
  |false=>dT C b l H1 K X
 |.whil t b,l,H,K,X=>∃n,bZ (λl H k=>wT C (X l) t l [] H k) (λl H k=>dT C b l H k X) n l H K
 |.for_ ts it b,l,H,K,X=>wE C (X l) it l [] H λv H1=>match dJ v with
  |some xs=>fN (λx l H k=>match B1 ts x l with
    |some l'=>dT C b l' H k kJ
    |none=>False) xs l H1 K
  |none=>False
 |.try_ b g v h,l,H,K,X=>dT C b l H K λl' c fs H'=>(af g=some (.base c)/\dT C h (l'.set v (some (.exn c fs))) H' (λfl W4 H''=>K fl (W4.set v none) H'') X)
 |.cont,l,H,K,_=>K .cont l H
 |.brk,l,H,K,_=>K .brk l H
noncomputable def dT(C:ba):bh->Loc->Hp->KS->XS->Prop
 |.z,l,H,K,_=>K .next l H
 |.k s ss,l,H,K,X=>wS C s l H (λfl l' H'=>match fl with
  |.next=>dT C ss l' H' K X
  |fl=>K fl l' H') X
end
noncomputable def Qd:Fl->Option V
 |.next=>some .none
 |.ret v=>some v
 |_=>none
def wF(C:ba)(F:FD)(args:List V)(H:Hp)(K:KP)(X:XP):Prop:=
 args.length<=F.n/\F.n<=args.length+F.dfl.length/\
 dT C F.body ((args++F.dfl.drop (F.dfl.length-(F.n-args.length))).map some++replicate (F.locs.length-F.n) none) H (λfl _ H'=>match Qd fl with | some v=>K v H' | none=>False) (λ_ c fs H'=>X c fs H')
section
variable(C:ba)(X:XP)(l lo:Loc)(H:Hp)(K:KP)(KB:Bool->Hp->Prop)
def B5(K:KP):Bool->Hp->Prop:=λr H=>K (.bool r) H
noncomputable def Om(KB:Bool->Hp->Prop):KP:=λv H=>dt v H KB
def B6(op:CmpOp)(va:V)(KB:Bool->Hp->Prop):KP:=λvb H=>kB (ac H op va vb) H KB
def B7(op:CmpOp)(b:PE)(KB:Bool->Hp->Prop):KP:=λva H=>wE C X b l lo H (B6 op va KB)
def Lr(eL:CmpOp)(vb:V)(KB:Bool->Hp->Prop):KP:=λve H=>kB (ac H eL vb ve) H KB
def GG(eL:CmpOp)(e:PE)(vb:V)(KB:Bool->Hp->Prop):Bool->Hp->Prop:=λr H=>match r with
 |true=>wE C X e l lo H (Lr eL vb KB)
 |false=>KB false H
def Ls(op:CmpOp)(eL:CmpOp)(e:PE)(va:V)(KB:Bool->Hp->Prop):KP:=λvb H=>kB (ac H op va vb) H (GG C X l lo eL e vb KB)
def Qe(op:CmpOp)(b:PE)(eL:CmpOp)(e:PE)(KB:Bool->Hp->Prop):KP:=λva H=>wE C X b l lo H (Ls C X l lo op eL e va KB)
def B8(op:Operator)(va:V)(K:KP):KP:=λvb H=>kO (aT H op va vb) H K
def B9(op:Operator)(b:PE)(K:KP):KP:=λva H=>wE C X b l lo H (B8 op va K)
noncomputable def Qf(K:KP):KP:=λr H=>match r with
 |.lst vs=>K (.ref H.length) (H++[.list vs])
 |_=>False
def Lu(a b:PE)(K:KP):Bool->Hp->Prop:=λc H=>match c with
 |true=>wE C X a l lo H K
 |false=>wE C X b l lo H K
def Ca(a b:PE)(KB:Bool->Hp->Prop):Bool->Hp->Prop:=λc H=>match c with
 |true=>wT C X a l lo H KB
 |false=>wT C X b l lo H KB
def Cb(k:Nat)(K:KP):KP:=λv H=>kO (aR H v k) H K
def Cc(v:V)(K:KP):KP:=λiv H=>kO (bY H v iv) H K
def JV(i:PE)(K:KP):KP:=λv H=>wE C X i l lo H (Cc v K)
def Cd(v a b:V)(K:KP):KP:=λs H=>kO (eg H v a b s) H K
def Ce(st:PE)(v a:V)(K:KP):KP:=λb H=>wE C X st l lo H (Cd v a b K)
def Cf(b st:PE)(v:V)(K:KP):KP:=λa H=>wE C X b l lo H (Ce C X l lo st v a K)
def JW(a b st:PE)(K:KP):KP:=λv H=>wE C X a l lo H (Cf C X l lo b st v K)
def Qh(K:KP):List V->Hp->Prop:=λvs H=>K (.tup vs) H
def JX(K:KP):List V->Hp->Prop:=λvs H=>K (.lst vs) H
def Cg(K:KP):List V->Hp->Prop:=λvs H=>K (.ref H.length) (H++[.list vs])
def Ch(ks:List (List Nat))(K:KP):List V->Hp->Prop:=λvs H=>sk ks vs H K
noncomputable def Ci(k:Option V->Hp->Prop):KP:=λr H=>k (some r) H
def pq(elt:PE)(li:Loc)(k:Option V->Hp->Prop):Bool->Hp->Prop:=λb H=>match b with
 |true=>wE C X elt li l H (Ci k)
 |false=>k none H
def aX(nt:Nat)(elt:PE)(aF:de):V->Hp->(Option V->Hp->Prop)->Prop:=λx H k=>match bindC nt x with
 |some li=>Br C g6 aF li l H (pq C g6 l elt li k)
 |none=>False
def hU(nt:Nat)(elt:PE)(aF:de)(K:KP):KP:=λv H=>match fG nt H v with
 |some (xs,H')=>if aj xs.length then cb (aX C l nt elt aF) xs [] H' K else False
 |none=>False
def qt(f:V->Hp->(Option V->Hp->Prop)->Prop)(xs acc:List V)(K:KP):Option V->Hp->Prop:=λr H=>match r with
 |some v=>cb f xs (acc++[v]) H K
 |none=>cb f xs acc H K
def uK(fv:V)(K:KP):List V->Hp->Prop:=λvs H=>ag C X fv vs H K
noncomputable def uL(args:de)(K:KP):KP:=λfv H=>fQ C X args l lo H (uK C X fv K)
def cJ(k:Nat)(ov:V)(H1:Hp)(K:KP):List V->Hp->Prop:=λvs H=>bD C X k ov H1 vs H K
def cq(k:Nat)(args:de)(K:KP):KP:=λov H=>if Ol H k ov then fQ C X args l lo H (cJ C X k ov H K) else False
noncomputable def Qi(K:KP):KP:=λv H=>GE v H K
noncomputable def JY(M:List Nat)(K:KP):KP:=λv H=>pp M v H K
def Lv(v:V)(K:List V->Hp->Prop):List V->Hp->Prop:=λvs H=>K (v::vs) H
noncomputable def Qj(es:de)(K:List V->Hp->Prop):KP:=λv H=>fQ C X es l lo H (Lv v K)
def Lw(bv:Bool)(es:de)(v:V)(K:KP):Bool->Hp->Prop:=λb H=>if b=bv then JT C X bv es l lo H K else K v H
noncomputable def VS(bv:Bool)(es:de)(K:KP):KP:=λv H=>dt v H (Lw C X l lo bv es v K)
def TY(es:de)(KB:Bool->Hp->Prop):Bool->Hp->Prop:=λb H=>match b with
 |true=>Br C X es l lo H KB
 |false=>KB false H
def Qk(KB:Bool->Hp->Prop):Bool->Hp->Prop:=λb H=>KB (!b) H
def TZ(bv:Bool)(es:de)(KB:Bool->Hp->Prop):Bool->Hp->Prop:=λb H=>if b=bv then JU C X bv es l lo H KB else KB (!bv) H
noncomputable def uM(a:Nat)(n:Nat)(K:KP):KP:=λv H'=>v=.none/\K (.ref n) H'
noncomputable def so(a:Nat)(ks:List Nat)(args:List V)(H:Hp)(K:KP):KP:=λv H'=>v=.none/\∃fs,H'=H++[.inst a (ks.zip fs)]/\fs.length=ks.length/\(∀v∈fs,v∈args)/\K (.obj a fs) H
theorem Ql(r:Bool):B5 K r H=K (.bool r) H:=rfl
theorem VT(v:V):Om KB v H=dt v H KB:=rfl
theorem SI(op va vb):B6 op va KB vb H=kB (ac H op va vb) H KB:=rfl
theorem SJ(op b va):B7 C X l lo op b KB va H=wE C X b l lo H (B6 op va KB):=rfl
theorem Lx(eL vb ve):Lr eL vb KB ve H=kB (ac H eL vb ve) H KB:=rfl
theorem T0(eL e vb):GG C X l lo eL e vb KB true H=wE C X e l lo H (Lr eL vb KB):=rfl
theorem T3(eL e vb):GG C X l lo eL e vb KB false H=KB false H:=rfl
theorem Ly(op eL e va vb):Ls C X l lo op eL e va KB vb H=kB (ac H op va vb) H (GG C X l lo eL e vb KB):=rfl
theorem Cj(op b eL e va):Qe C X l lo op b eL e KB va H=wE C X b l lo H (Ls C X l lo op eL e va KB):=rfl
theorem SK(op va vb):B8 op va K vb H=kO (aT H op va vb) H K:=rfl
theorem SL(op b va):B9 C X l lo op b K va H=wE C X b l lo H (B8 op va K):=rfl
theorem T4(vs):Qf K (.lst vs) H=K (.ref H.length) (H++[.list vs]):=rfl
theorem T5(a b):Lu C X l lo a b K true H=wE C X a l lo H K:=rfl
theorem T6(a b):Lu C X l lo a b K false H=wE C X b l lo H K:=rfl
theorem SM(a b):Ca C X l lo a b KB true H=wT C X a l lo H KB:=rfl
theorem SN(a b):Ca C X l lo a b KB false H=wT C X b l lo H KB:=rfl
theorem wL(k v):Cb k K v H=kO (aR H v k) H K:=rfl
theorem SO(v iv):Cc v K iv H=kO (bY H v iv) H K:=rfl
theorem SP(i v):JV C X l lo i K v H=wE C X i l lo H (Cc v K):=rfl
theorem SQ(v a b s):Cd v a b K s H=kO (eg H v a b s) H K:=rfl
theorem SR(st v a b):Ce C X l lo st v a K b H=wE C X st l lo H (Cd v a b K):=rfl
theorem SS(b st v a):Cf C X l lo b st v K a H=wE C X b l lo H (Ce C X l lo st v a K):=rfl
theorem ST(a b st v):JW C X l lo a b st K v H=wE C X a l lo H (Cf C X l lo b st v K):=rfl
theorem T7(vs):Qh K vs H=K (.tup vs) H:=rfl
theorem SU(vs):JX K vs H=K (.lst vs) H:=rfl
theorem Qm(vs):Cg K vs H=K (.ref H.length) (H++[.list vs]):=rfl
theorem Qn(ks vs):Ch ks K vs H=sk ks vs H K:=rfl
theorem SV(k r):Ci k r H=k (some r) H:=rfl
theorem SW(elt li k):pq C X l elt li k true H=wE C X elt li l H (Ci k):=rfl
theorem SX(elt li k):pq C X l elt li k false H=k none H:=rfl
theorem Qo(f xs acc v):qt f xs acc K (some v) H=cb f xs (acc++[v]) H K:=rfl
theorem Qp(f xs acc):qt f xs acc K none H=cb f xs acc H K:=rfl
theorem Ck(fv vs):uK C X fv K vs H=ag C X fv vs H K:=rfl
theorem Cl(args fv):uL C X l lo args K fv H=fQ C X args l lo H (uK C X fv K):=rfl
theorem Qq(k ov H1 vs):cJ C X k ov H1 K vs H=bD C X k ov H1 vs H K:=rfl
def bK{k ov}(h:Ol H k ov=true)(args):cq C X l lo k args K ov H=fQ C X args l lo H (cJ C X k ov H K):=by simp only[cq,h,if_true]
theorem T8(v):Qi K v H=GE v H K:=rfl
theorem SY(M v):JY M K v H=pp M v H K:=rfl
theorem Lz(v vs)(KL:List V->Hp->Prop):Lv v KL vs H=KL (v::vs) H:=rfl
theorem LA(es v)(KL:List V->Hp->Prop):Qj C X l lo es KL v H=fQ C X es l lo H (Lv v KL):=rfl
theorem T9(bv es v b):Lw C X l lo bv es v K b H=if b=bv then JT C X bv es l lo H K else K v H:=rfl
theorem VU(bv es v):VS C X l lo bv es K v H=dt v H (Lw C X l lo bv es v K):=rfl
theorem VV(es):TY C X l lo es KB true H=Br C X es l lo H KB:=rfl
theorem VW(es):TY C X l lo es KB false H=KB false H:=rfl
theorem Ua(b):Qk KB b H=KB (!b) H:=rfl
theorem VX(bv es b):TZ C X l lo bv es KB b H=if b=bv then JU C X bv es l lo H KB else KB (!bv) H:=rfl
theorem Ub(a n v):uM a n K v H=(v=.none/\K (.ref n) H):=rfl
theorem mX(i):wE C X (.var i) l lo H K=(match l[i]? with | some (some v)=>K v H | _=>False):=rfl
theorem LB(i):wE C X (.fre i) l lo H K=(match lo[i]? with | some (some v)=>K v H | _=>False):=rfl
theorem uN(v):wE C X (.lit v) l lo H K=K v H:=rfl
theorem Cm(k):wE C X (.glb k) l lo H K=kO (af k) H K:=rfl
theorem SZ(b es):wE C X (.bool b es) l lo H K=JT C X b es l lo H K:=rfl
theorem Uc(a op b):wE C X (.cmp a op b) l lo H K=wE C X a l lo H (B7 C X l lo op b (B5 K)):=rfl
theorem Ud(a op b):wE C X (.bin a op b) l lo H K=wE C X a l lo H (B9 C X l lo op b K):=rfl
theorem S0(a b):wE C X (.addO a b) l lo H K=wE C X a l lo H (B9 C X l lo .Add b (Qf K)):=rfl
theorem Cn(t a b):wE C X (.ite t a b) l lo H K=wT C X t l lo H (Lu C X l lo a b K):=rfl
theorem wM(e k):wE C X (.attr e k) l lo H K=wE C X e l lo H (Cb k K):=rfl
theorem Ue(e i):wE C X (.idx e i) l lo H K=wE C X e l lo H (JV C X l lo i K):=rfl
theorem Uf(e a b st):wE C X (.slc e a b st) l lo H K=wE C X e l lo H (JW C X l lo a b st K):=rfl
theorem Ug(es):wE C X (.tup es) l lo H K=fQ C X es l lo H (Qh K):=rfl
theorem S1(es):wE C X (.list es) l lo H K=fQ C X es l lo H (JX K):=rfl
theorem Qr(es):wE C X (.listO es) l lo H K=fQ C X es l lo H (Cg K):=rfl
theorem S2(ks vs):wE C X (.dict ks vs) l lo H K=fQ C X vs l lo H (Ch ks K):=rfl
theorem Co:wE C X .dictO l lo H K=K (.ref H.length) (H++[.dict [] []]):=rfl
theorem S3(nt elt it aF):wE C X (.comp nt elt it aF) l lo H K=wE C X it l lo H (hU C l nt elt aF K):=rfl
theorem GH(f args):wE C X (.call f args) l lo H K=wE C X f l lo H (uL C X l lo args K):=rfl
theorem S4(k o args):wE C X (.meth k o args) l lo H K=wE C X o l lo H (cq C X l lo k args K):=rfl
theorem Uh(e):wE C X (.frz e) l lo H K=wE C X e l lo H (Qi K):=rfl
theorem S5(M e):wE C X (.fstr M e) l lo H K=wE C X e l lo H (JY M K):=rfl
theorem GI(KL:List V->Hp->Prop):fQ C X .z l lo H KL=KL [] H:=rfl
theorem Cp(e es)(KL:List V->Hp->Prop):fQ C X (.k e es) l lo H KL=wE C X e l lo H (Qj C X l lo es KL):=rfl
theorem S6(b e):JT C X b (.k e .z) l lo H K=wE C X e l lo H K:=rfl
theorem Qs(b e e2 es):JT C X b (.k e (.k e2 es)) l lo H K=wE C X e l lo H (VS C X l lo b (.k e2 es) K):=rfl
theorem S7:Br C X .z l lo H KB=KB true H:=rfl
theorem Qt(e es):Br C X (.k e es) l lo H KB=wT C X e l lo H (TY C X l lo es KB):=rfl
theorem Ui(e):wT C X (.not_ e) l lo H KB=wT C X e l lo H (Qk KB):=rfl
theorem S8(b es):wT C X (.bool b es) l lo H KB=JU C X b es l lo H KB:=rfl
theorem Uj(t a b):wT C X (.ite t a b) l lo H KB=wT C X t l lo H (Ca C X l lo a b KB):=rfl
theorem Uk(a op b):wT C X (.cmp a op b) l lo H KB=wE C X a l lo H (B7 C X l lo op b KB):=rfl
theorem wN(a op b eL e):wT C X (.cmp2 a op b eL e) l lo H KB=wE C X a l lo H (Qe C X l lo op b eL e KB):=rfl
theorem LC(i):wT C X (.var i) l lo H KB=(match l[i]? with | some (some v)=>dt v H KB | _=>False):=rfl
theorem Cq(v):wT C X (.lit v) l lo H KB=dt v H KB:=rfl
theorem S9(f args):wT C X (.call f args) l lo H KB=wE C X f l lo H (uL C X l lo args (Om KB)):=rfl
theorem Ta(k o args):wT C X (.meth k o args) l lo H KB=wE C X o l lo H (cq C X l lo k args (Om KB)):=rfl
theorem Tc(e k):wT C X (.attr e k) l lo H KB=wE C X e l lo H (Cb k (Om KB)):=rfl
theorem Td(b):JU C X b .z l lo H KB=KB b H:=rfl
theorem Qu(b e es):JU C X b (.k e es) l lo H KB=wT C X e l lo H (TZ C X l lo b es KB):=rfl
theorem Cr(v):kO (some v) H K=K v H:=rfl
theorem WL(b):kB (some b) H KB=KB b H:=rfl
theorem VY(v):F1 (some (v,H)) K=K v H:=rfl
theorem sq(b):dt (.bool b) H KB=KB b H:=rfl
theorem pt(f acc):cb f [] acc H K=K (.lst acc) H:=rfl
theorem mY(f x xs acc):cb f (x::xs) acc H K=f x H (qt f xs acc K):=rfl
def kP{k:Nat}{o:V}{args:List V}(h:sh H1 o=none)(hk:o.kind H1=o.kind H)(hz:o.kind H≠0)(hb:kA H k o args=some (v,H2)):bD C X k o H1 args H K=K v H2:=by
 unfold bD;rw[h];show (if _ then _ else _)=_;rw[if_pos ⟨hk,hz⟩,hb];rfl
def iI{k c a:Nat}{o:V}{args:List V}(h:sh H1 o=some c)(hk:ax c k=some a):bD C X k o H1 args H K=C a (o::args) H K X:=by
 unfold bD;rw[h];show (match ax c k with | some a=>_ | none=>_)=_;rw[hk]
theorem pu(b args):ag C X (.blt b) args H K=kO (aP H b args) H K:=rfl
def hV{t:Ty}(h:(match t with | .enumerate=>False | _=>True))(args):ag C X (.ty t) args H K=kO (Bq H t args) H K:=by induction t using Ty.casesOn<;>first | rfl | exact h.elim
def jj{args vs}(h:wA args=some vs):ag C X (.ty .enumerate) args H K=K (.ref H.length) (H++[.iter vs]):=by show si args H K=_;unfold si;rw[h]
def yC{a init:Nat}{ks:List Nat}(h:eh a=some (true,init,ks))(args):ag C X (.base a) args H K=C init (.ref H.length::args) (H++[.inst a []]) (so a ks args H K) g6:=by show mW C X a args H K=_;unfold mW;rw[h];rfl
def yD{a init:Nat}{ks:List Nat}(h:eh a=some (false,init,ks))(args):ag C X (.base a) args H K=C init (.ref H.length::args) (H++[.inst a []]) (uM a H.length K) g6:=by show mW C X a args H K=_;unfold mW;rw[h];rfl
end
section
variable(C:ba)(X:XS)(l:Loc)(H:Hp)(K:KS)
def jM(ss:bh)(K:KS)(X:XS):KS:=λfl l H=>match fl with
 |.next=>dT C ss l H K X
 |fl=>K fl l H
noncomputable def Qv(i:Nat)(l:Loc)(K:KS):KP:=λv H=>K .next (l.set i (some v)) H
def lM(ts:List Nat)(l:Loc)(K:KS):KP:=λv H=>match v with
 |.tup vs=>match dD ts vs l with
  |some l'=>K .next l' H
  |none=>False
 |_=>False
def fb(k:Nat)(v:V)(l:Loc)(K:KS):KP:=λov H=>match cP H ov k v with
 |some H'=>K .next l H'
 |none=>False
def Cs(o:PE)(k:Nat)(l:Loc)(K:KS)(X:XP):KP:=λv H=>wE C X o l [] H (fb k v l K)
def jk(ov v:V)(l:Loc)(K:KS):KP:=λiv H=>match ek H ov iv v with
 |some H'=>K .next l H'
 |none=>False
def uO(i:PE)(v:V)(l:Loc)(K:KS)(X:XP):KP:=λov H=>wE C X i l [] H (jk ov v l K)
def Ct(o i:PE)(l:Loc)(K:KS)(X:XP):KP:=λv H=>wE C X o l [] H (uO C i v l K X)
noncomputable def GJ(l:Loc)(K:KS):KP:=λ_ H=>K .next l H
noncomputable def Qw(l:Loc)(K:KS):KP:=λv H=>K (.ret v) l H
def mZ(c:Nat)(l:Loc)(X:XS):List V->Hp->Prop:=λvs H=>c=285/\vs.length=2/\X l c vs H
def Qx(a b:bh)(l:Loc)(K:KS)(X:XS):Bool->Hp->Prop:=λc H=>match c with
 |true=>dT C a l H K X
 |false=>dT C b l H K X
def cr(ts:List Nat)(b:bh):V->Loc->Hp->KS->Prop:=λx l H k=>match B1 ts x l with
 |some l'=>dT C b l' H k kJ
 |none=>False
def kFor(ts:List Nat)(b:bh)(l:Loc)(K:KS):KP:=λv H=>match dJ v with
 |some xs=>fN (cr C ts b) xs l H K
 |none=>False
def m9(f:V->Loc->Hp->KS->Prop)(xs:List V)(K:KS):KS:=λfl l H=>match fl with
 |.next=>fN f xs l H K
 |.cont=>fN f xs l H K
 |.brk=>K .next l H
 |.ret v=>K (.ret v) l H
def Qy(g v:Nat)(h:bh)(K:KS)(X:XS):XS:=λl c fs H=>af g=some (.base c)/\dT C h (l.set v (some (.exn c fs))) H (λfl l' H'=>K fl (l'.set v none) H') X
def oY(t:PE)(X:XS):Loc->Hp->(Bool->Hp->Prop)->Prop:=λl H k=>wT C (X l) t l [] H k
def qu(b:bh)(X:XS):Loc->Hp->KS->Prop:=λl H k=>dT C b l H k X
def sw(t:Loc->Hp->(Bool->Hp->Prop)->Prop)(b:Loc->Hp->KS->Prop)(n:Nat)(K:KS):KS:=λfl l H=>match fl with
 |.next=>bZ t b n l H K
 |.cont=>bZ t b n l H K
 |.brk=>K .next l H
 |.ret v=>K (.ret v) l H
def yE(t:Loc->Hp->(Bool->Hp->Prop)->Prop)(b:Loc->Hp->KS->Prop)(n:Nat)(l:Loc)(K:KS):Bool->Hp->Prop:=λc H=>match c with
 |true=>b l H (sw t b n K)
 |false=>K .next l H
def eM(K:KP):KS:=λfl _ H=>match Qd fl with
 |some v=>K v H
 |none=>False
noncomputable def br(X:XP):XS:=λ_ c fs H=>X c fs H
theorem Te:dT C .z l H K X=K .next l H:=rfl
theorem sx(s ss):dT C (.k s ss) l H K X=wS C s l H (jM C ss K X) X:=rfl
theorem Ul(ss):jM C ss K X .next l H=dT C ss l H K X:=rfl
theorem hW(ss v):jM C ss K X (.ret v) l H=K (.ret v) l H:=rfl
theorem Um(ss):jM C ss K X .cont l H=K .cont l H:=rfl
theorem Un(ss):jM C ss K X .brk l H=K .brk l H:=rfl
theorem Uo(i e):wS C (.asg i e) l H K X=wE C (X l) e l [] H (Qv i l K):=rfl
theorem Up(i v):Qv i l K v H=K .next (l.set i (some v)) H:=rfl
theorem Tf(ts e):wS C (.asgs ts e) l H K X=wE C (X l) e l [] H (lM ts l K):=rfl
theorem Tg(o k e):wS C (.seta o k e) l H K X=wE C (X l) e l [] H (Cs C o k l K (X l)):=rfl
theorem Qz(o k v)(x:XP):Cs C o k l K x v H=wE C x o l [] H (fb k v l K):=rfl
def jN{k v ov H'}(h:cP H ov k v=some H'):fb k v l K ov H=K .next l H':=by simp only[fb,h]
theorem Th(o i e):wS C (.seti o i e) l H K X=wE C (X l) e l [] H (Ct C o i l K (X l)):=rfl
theorem QA(o i v)(x:XP):Ct C o i l K x v H=wE C x o l [] H (uO C i v l K x):=rfl
theorem QB(i v ov)(x:XP):uO C i v l K x ov H=wE C x i l [] H (jk ov v l K):=rfl
theorem Uq(e):wS C (.exp e) l H K X=wE C (X l) e l [] H (GJ l K):=rfl
theorem Ur(v):GJ l K v H=K .next l H:=rfl
theorem LD(e):wS C (.ret e) l H K X=wE C (X l) e l [] H (Qw l K):=rfl
theorem LE(v):Qw l K v H=K (.ret v) l H:=rfl
theorem Ti:wS C .retn l H K X=K (.ret .none) l H:=rfl
def Cu(g args){c}(h:af g=some (.base c)):wS C (.raise g args) l H K X=fQ C (X l) args l [] H (mZ c l X):=(zi (λo=>B4 o λc=>fQ C (X l) args l [] H (mZ c l X)) h).trans rfl
def cc(vs):mZ 285 l X vs H=(vs.length=2/\X l 285 vs H):=by simp[mZ]
theorem Us(t a b):wS C (.ite t a b) l H K X=wT C (X l) t l [] H (Qx C a b l K X):=rfl
theorem VZ(a b):Qx C a b l K X true H=dT C a l H K X:=rfl
theorem V0(a b):Qx C a b l K X false H=dT C b l H K X:=rfl
theorem Ut(ts it b):wS C (.for_ ts it b) l H K X=wE C (X l) it l [] H (kFor C ts b l K):=rfl
theorem QC(t b):wS C (.whil t b) l H K X=∃n,bZ (oY C t X) (qu C b X) n l H K:=rfl
theorem Uu(b g v h):wS C (.try_ b g v h) l H K X=dT C b l H K (Qy C g v h K X):=rfl
theorem Tj:wS C .cont l H K X=K .cont l H:=rfl
theorem Uv:wS C .brk l H K X=K .brk l H:=rfl
def hY{ts b v xs}(h:dJ v=some xs):kFor C ts b l K v H=fN (cr C ts b) xs l H K:=by simp only[kFor,h]
theorem sz(f):fN f [] l H K=K .next l H:=rfl
theorem aY(f x xs):fN f (x::xs) l H K=f x l H (m9 f xs K):=rfl
theorem eN(f xs):m9 f xs K .next l H=fN f xs l H K:=rfl
theorem Tl(f xs):m9 f xs K .cont l H=fN f xs l H K:=rfl
theorem Tm(f xs):m9 f xs K .brk l H=K .next l H:=rfl
theorem mm(f xs v):m9 f xs K (.ret v) l H=K (.ret v) l H:=rfl
theorem av(t b n):bZ t b (n+1) l H K=t l H (yE t b n l K):=rfl
theorem sD(t)(k):oY C t X l H k=wT C (X l) t l [] H k:=rfl
theorem sE(b):qu C b X l H K=dT C b l H K X:=rfl
theorem nc(t b n):yE t b n l K true H=b l H (sw t b n K):=rfl
theorem uP(t b n):yE t b n l K false H=K .next l H:=rfl
theorem qv(t b n):sw t b n K .next l H=bZ t b n l H K:=rfl
theorem LF(t b n):sw t b n K .cont l H=bZ t b n l H K:=rfl
theorem Uw(t b n):sw t b n K .brk l H=K .next l H:=rfl
theorem Cv(t b n v):sw t b n K (.ret v) l H=K (.ret v) l H:=rfl
theorem Ux(K:KP):eM K .next l H=K .none H:=rfl
theorem hZ(K:KP)(v):eM K (.ret v) l H=K v H:=rfl
theorem QD(F args)(K:KP)(x:XP):wF C F args H K x=(args.length<=F.n/\F.n<=args.length+F.dfl.length/\dT C F.body ((args++F.dfl.drop (F.dfl.length-(F.n-args.length))).map some++replicate (F.locs.length-F.n) none) H (eM K) (br x)):=rfl
end
noncomputable abbrev IH:=Addr->Option Obj
noncomputable abbrev cy:=List (Addr×Addr)
noncomputable abbrev bd(xs:List Value)(n:Nat):Obj:=⟨.type "list",none,.seq xs.toArray n,#[]⟩
noncomputable abbrev fc(xs:List Value)(n:Nat):Obj:=⟨.type "tuple",none,.seq xs.toArray n,#[]⟩
noncomputable abbrev aA(es:List DictEntry)(n:Nat):Obj:=⟨.type "dict",none,.dict es.toArray n,#[]⟩
def aN(P:Params):List (List Nat)->List DictEntry->Prop
 |[],es=>match es with
  |[]=>True
  |_::_=>False
 |k::ks,es=>match es with
  |[]=>False
  |e::es=>(∃t,e.key=.str (aH k) t/\e.hash=PyData.keyHash P (aH k))/\aN P ks es
theorem pw{k:List Nat}{e:DictEntry}:aN P (k::ks) (e::es)=((∃t,e.key=.str (aH k) t/\e.hash=PyData.keyHash P (aH k))/\aN P ks es):=rfl
theorem yF{P:Params}{e:DictEntry}:aN P [] (e::es)=False:=rfl
theorem yG{k:List Nat}:aN P (k::ks) []=False:=rfl
theorem yH{P:Params}:aN P [] []=True:=rfl
def jH(k:Nat):List Nat:=match c0[k]? with
 |some s=>(Str.ofString s).cps.toList
 |none=>[]
mutual
noncomputable def ay(P:Params)(g:IH)(J:cy):V->Value->Prop
 |.undef,_=>False
 |.none,x=>x=.none
 |.bool b,x=>x=.bool b
 |.int i,x=>∃t,x=.int i t
 |.str s,x=>∃t,x=.str (aH s) t
 |.tup vs,x=>∃a xs n,x=.ref a/\g a=some (fc xs n)/\ah P g J vs xs
 |.lst vs,x=>∃a xs n,x=.ref a/\g a=some (bd xs n)/\ah P g J vs xs
 |.obj c fs,x=>c∈dS/\∃a d es n,x=.ref a/\g a=some (instObj c d)/\g d=some (aA es n)/\(∃init ks,eh c=some (true,init,ks)/\aN P (ks.map jH) es)/\ah P g J fs (es.map (·.val))
 |.ref k,x=>∃p,J[k]?=some p/\x=.ref p.1
 |.base a,x=>x=.ref a/\∃o,g a=some o/\o.cls≠.type "tuple"
 |.dct ks vs,x=>∃a es n,x=.ref a/\a≠sysModules/\g a=some (aA es n)/\aN P ks es/\ah P g J vs (es.map (·.val))
 |.rng a b s,x=>∃r t1 t2 t3,x=.ref r/\g r=some ⟨.type "range",none,.fields #[.int a t1,.int b t2,.int s t3],#[]⟩
 |.blt b,x=>x=.builtin b.id
 |.ty t,x=>x=.type t.id
 |.exn c fs,x=>∃a d vs od r y,x=.ref a/\g a=some ⟨.ref c,some d,.fields vs,#[]⟩/\g d=some od/\lookIn (Str.ofString "place") od=some (some y)/\ah P g J fs [r,y]
noncomputable def ah(P:Params)(g:IH)(J:cy):List V->List Value->Prop
 |[],xs=>xs=[]
 |v::vs,xs=>∃y ys,xs=y::ys/\ay P g J v y/\ah P g J vs ys
end
theorem nh{J:cy}:ah P g J [] xs=(xs=[]):=rfl
theorem Uy:ah P g J (v::vs) xs=(∃y ys,xs=y::ys/\ay P g J v y/\ah P g J vs ys):=rfl
def aO{i:Int}{x:Value}:ay P g J (.int i) x↔∃t,x=.int i t:=Iff.rfl
def bG{i:List Nat}{x:Value}:ay P g J (.str i) x↔∃t,x=.str (aH i) t:=Iff.rfl
def dL{i:Bool}{x:Value}:ay P g J (.bool i) x↔x=.bool i:=Iff.rfl
def dg{x:Value}:ay P g J .none x↔x=.none:=Iff.rfl
def cL{x:Value}:ay P g J (.lst vs) x↔∃a xs n,x=.ref a/\g a=some (bd xs n)/\ah P g J vs xs:=Iff.rfl
def cV{x:Value}:ay P g J (.tup vs) x↔∃a xs n,x=.ref a/\g a=some (fc xs n)/\ah P g J vs xs:=Iff.rfl
def bV{J:cy}{k:Nat}{x:Value}:ay P g J (.ref k) x↔∃p,J[k]?=some p/\x=.ref p.1:=Iff.rfl
def aB{P g J xs}:ah P g J [] xs↔xs=[]:=Iff.rfl
def ad{P g J v vs xs}:ah P g J (v::vs) xs↔∃y ys,xs=y::ys/\ay P g J v y/\ah P g J vs ys:=Iff.rfl
def fJ{c:Nat}{x:Value}:ay P g J (.obj c fs) x↔c∈dS/\∃a d es n,x=.ref a/\g a=some (instObj c d)/\g d=some (aA es n)/\(∃init ks,eh c=some (true,init,ks)/\aN P (ks.map jH) es)/\ah P g J fs (es.map (·.val)):=Iff.rfl
def gy{x:Value}:ay P g J (.dct ks vs) x↔∃a es n,x=.ref a/\a≠sysModules/\g a=some (aA es n)/\aN P ks es/\ah P g J vs (es.map (·.val)):=Iff.rfl
def iJ{a:Nat}{x:Value}:ay P g J (.base a) x↔x=.ref a/\∃o,g a=some o/\o.cls≠.type "tuple" := Iff.rfl
def iK{c:Nat}{fs:List V}{x:Value}:ay P g J (.exn c fs) x↔∃a d vs od r y,x=.ref a/\g a=some ⟨.ref c,some d,.fields vs,#[]⟩/\g d=some od/\lookIn (Str.ofString "place") od=some (some y)/\ah P g J fs [r,y]:=Iff.rfl
def GK{J J':cy}(hp:J <+: J'){k:Nat}{p:Addr×Addr}(e:J[k]?=some p):J'[k]?=some p:=by
 obtain⟨r,rfl⟩:=hp;rw[zK (zu.mp e).1];exact e
section
variable{P:Params}{g g':IH}{J J':cy}(hg:∀a o,g a=some o->g' a=some o)(hp:J <+: J')
include hg hp
theorem fU{x:Value}:ay P g J v x->ay P g' J' v x:=
 V.rec (motive_1:=λv=>∀x,ay P g J v x->ay P g' J' v x) (motive_2:=λvs=>∀xs,ah P g J vs xs->ah P g' J' vs xs) (λ_ h=>h.elim) (λ_ h=>h) (λ_ _ h=>h) (λ_ _ h=>h) (λ_ _ h=>h) (λ_ ih _ h=>by obtain⟨a,xs,n,e,hk,hr⟩:=cV.mp h;exact cV.mpr ⟨a,xs,n,e,hg _ _ hk,ih _ hr⟩) (λ_ ih _ h=>by obtain⟨a,xs,n,e,hk,hr⟩:=cL.mp h;exact cL.mpr ⟨a,xs,n,e,hg _ _ hk,ih _ hr⟩) (λ_ _ ih _ h=>by
   obtain⟨hc,h⟩:=fJ.mp h;obtain⟨a,d,es,n,e,h1,h2,h3,hr⟩:=h;exact fJ.mpr ⟨hc,a,d,es,n,e,hg _ _ h1,hg _ _ h2,h3,ih _ hr⟩)
  (λ_ _ h=>by obtain⟨p,e,q⟩:=bV.mp h;exact bV.mpr ⟨p,GK hp e,q⟩)
  (λ_ _ h=>by
   obtain⟨e,h⟩:=iJ.mp h;obtain⟨o,ho,hn⟩:=h;exact iJ.mpr ⟨e,o,hg _ _ ho,hn⟩)
  (λ_ _ ih _ h=>by obtain⟨a,es,n,e,h0,h1,h2,hr⟩:=gy.mp h;exact gy.mpr ⟨a,es,n,e,h0,hg _ _ h1,h2,ih _ hr⟩)
  (λ_ _ _ x h=>by obtain⟨r,t1,t2,t3,e,q⟩:=h;exact⟨r,t1,t2,t3,e,hg _ _ q⟩)
  (λ_ _ h=>h) (λ_ _ h=>h)
  (λ_ _ ih _ h=>by obtain⟨a,d,vs,od,r,y,e,h1,h2,h3,hr⟩:=iK.mp h;exact iK.mpr ⟨a,d,vs,od,r,y,e,hg _ _ h1,hg _ _ h2,h3,ih _ hr⟩)
  (λ_ h=>h) (λ_ _ i1 i2 _ h=>by obtain⟨y,ys,e,h1,h2⟩:=ad.mp h;exact ad.mpr ⟨y,ys,e,i1 _ h1,i2 _ h2⟩) v x
theorem aZ:∀{xs:List Value},ah P g J vs xs->ah P g' J' vs xs:=by
 induction vs with
 |nil=>exact λh=>h
 |cons v vs ih=>
  intro xs h;obtain⟨y,ys,e,h1,h2⟩:=ad.mp h;exact ad.mpr ⟨y,ys,e,fU hg hp h1,ih h2⟩
end
def au{vs:List V}:∀{xs:List Value},ah P g J vs xs->xs.length=vs.length:=by
 induction vs with
 |nil=>
  intro _ h;obtain rfl:=h;rfl
 |cons v vs ih=>
  intro _ h;obtain⟨y,ys,rfl,_,h2⟩:=h;rw[zd,zd,ih h2]
def ia{vs:List V}:∀{xs:List Value} {i:Nat} {v:V},ah P g J vs xs->vs[i]?=some v->∃x,xs[i]?=some x/\ay P g J v x:=by
 induction vs with
 |nil=>
  intro _ _ _ _ hi;injection hi
 |cons w vs ih=>
  intro _ i u h hi;obtain⟨y,ys,rfl,h1,h2⟩:=h
  cases i with
  |zero=>injection hi;exact⟨y,rfl,h1⟩
  |succ i=>
   obtain⟨x,e,r⟩:=ih h2 (show vs[i]?=some u by simpa using hi);exact⟨x,by simpa using e,r⟩
def cm{vs:List V}:∀{ws:List V}  {xs ys:List Value},ah P g J vs xs->ah P g J ws ys->ah P g J (vs++ws) (xs++ys):=by
 induction vs with
 |nil=>
  intro _ _ _ h k;obtain rfl:=h;exact k
 |cons v vs ih=>
  intro ws _ ys h k;obtain⟨y,zs,rfl,h1,h2⟩:=h;exact ad.mpr ⟨y,zs++ys,rfl,h1,ih h2 k⟩
def ni{vs:List V}:∀{ws:List V}  {xs:List Value},ah P g J (vs++ws) xs->∃ys zs,xs=ys++zs/\ah P g J vs ys/\ah P g J ws zs:=by
 induction vs with
 |nil=>
  intro _ xs h;exact⟨[],xs,rfl,rfl,h⟩
 |cons v vs ih=>
  intro ws _ h;obtain⟨y,ys,rfl,h1,h2⟩:=ad.mp h;obtain⟨a,b,rfl,p,q⟩:=ih h2;exact⟨y::a,b,rfl,ad.mpr ⟨y,a,rfl,h1,p⟩,q⟩
def Cw{vs:List V}:∀{xs:List Value} {i:Nat} {v:V} {x:Value},ah P g J vs xs->ay P g J v x->ah P g J (vs.set i v) (xs.set i x):=by
 induction vs with
 |nil=>
  intro _ _ _ _ h _;obtain rfl:=h;exact rfl
 |cons u vs ih=>
  intro _ i v x h k;obtain⟨y,ys,rfl,h1,h2⟩:=h
  cases i with
  |zero=>exact ad.mpr ⟨x,ys,rfl,k,h2⟩
  |succ i=>exact ad.mpr ⟨y,_,rfl,h1,ih h2 k⟩
noncomputable def bT(p:Addr×Addr):O->List Addr
 |.list _=>[p.1]
 |.inst _ _=>[p.1,p.2]
 |.dict _ _=>[p.1]
 |.iter _=>[p.1,p.2]
 |.gone=>[]
def owned:cy->Hp->List Addr
 |[],_=>[]
 |p::J,H=>match H with
  |[]=>[]
  |o::H=>bT p o++owned J H
theorem iL{p:Addr×Addr}{o:O}:owned (p::J) (o::H)=bT p o++owned J H:=rfl
theorem qw:owned [] H=[]:=rfl
theorem GL{p:Addr×Addr}:owned (p::J) []=[]:=rfl
def ib(P:Params)(g:IH)(J:cy)(h:Heap)(p:Addr×Addr):O->Prop
 |.list vs=>∃xs n,h.get? p.1=some (bd xs n)/\ah P g J vs xs
 |.inst c fs=>∃es n,h.get? p.1=some (instObj c p.2)/\h.get? p.2=some (aA es n)/\aN P (fs.map λf=>jH f.1) es/\ah P g J (fs.map (·.2)) (es.map (·.val))
 |.dict ks vs=>p.1≠sysModules/\∃es n,h.get? p.1=some (aA es n)/\aN P ks es/\ah P g J vs (es.map (·.val))
 |.iter vs=>∃Vd,vs=eK 0 Vd/\IsEnum h p.1 p.2 0 .none/\((∃l xs n,g l=some (bd xs n)/\ah P g J Vd xs/\h.IsListIter p.2 l 0)\/(∃s t,Vd=s.map (λc=>.str [c])/\(h.IsStrIter p.2 "str_ascii_iterator" (aH s) t 0\/h.IsStrIter p.2 "str_iterator" (aH s) t 0)))
 |.gone=>True
structure Cy(P:Params)(g:IH)(J:cy)(H:Hp)(h:Heap):Prop where
 sub:∀a o,g a=some o->h.get? a=some o
 len:J.length=H.length
 own:∀a∈owned J H,g a=none
 nod:(owned J H).Nodup
 obj:∀(n:Nat) (o:O) (p:Addr×Addr),H[n]?=some o->J[n]?=some p->ib P g J h p o
def sF{h:Heap}{p:Addr×Addr}(r:ib P g J h p o){a:Addr}(m:a∈bT p o):h.get? a≠none:=by
 have key:∀{b:Addr} {y:Obj},h.get? b=some y->a=b->h.get? a≠none:=λe q z=>nn' ((e.symm.trans (q▸rfl)).trans z)
 cases o with
 |list vs=>obtain⟨_,_,e,_⟩:=r;exact key e (zp.mp m)
 |inst c fs=>
  obtain⟨_,_,e1,e2,_⟩:=r;exact (zZ.mp m).elim (key e1) λm=>key e2 (zp.mp m)
 |dict ks vs=>
  obtain⟨_,r⟩:=r;obtain⟨_,_,e,_⟩:=r;exact key e (zp.mp m)
 |iter vs=>
  obtain⟨_,_,e,r⟩:=r;refine (zZ.mp m).elim (key e) λm=>?_;have m:=zp.mp m
  rcases r with r | r
  .obtain⟨_,_,_,_,_,r⟩:=r
   obtain⟨o,e1,_⟩:=r;exact key e1 m
  .obtain⟨_,_,_,r⟩:=r
   rcases r with r | r
   .obtain⟨o,e1,_⟩:=r
    exact key e1 m
   .obtain⟨o,e1,_⟩:=r
    exact key e1 m
 |gone=>exact absurd m not_mem_nil
def cW:∀{J:cy} {H:Hp} {a:Addr},a∈owned J H↔∃(n:Nat) (p:Addr×Addr) (o:O),J[n]?=some p/\H[n]?=some o/\a∈bT p o:=by
 intro J
 induction J with
 |nil=>intro H a;simp[qw]
 |cons p J ih=>
  intro H a
  cases H with
  |nil=>simp[GL]
  |cons o H=>
   rw[iL,zH,ih]
   constructor
   .rintro (h |⟨n,q,r,h1,h2,h3⟩)
    .exact⟨0,p,o,rfl,rfl,h⟩
    .exact⟨n+1,q,r,by simpa using h1,by simpa using h2,h3⟩
   .rintro ⟨n,q,r,h1,h2,h3⟩
    cases n with
    |zero=>simp at h1 h2;subst h1 h2;exact .inl h3
    |succ n=>exact .inr ⟨n,q,r,by simpa using h1,by simpa using h2,h3⟩
def Cy.alive{h:Heap}(r:Cy P g J H h):∀a∈owned J H,h.get? a≠none:=λa m=>by
 obtain⟨n,p,o,e1,e2,e3⟩:=cW.mp m;exact sF (r.obj n o p e2 e1) e3
def Kept(o:Obj)(r:Option Obj):Prop:=r=some o\/(o.cls=.type "frame" /\ ∃sl,r=some { o with slots:=sl })
def Kept.exact{o:Obj}{r:Option Obj}(k:Kept o r)(h:o.cls≠.type "frame"):r=some o:=k.elim id λq=>absurd q.1 h
def Kept.data{o:Obj}{r:Option Obj}(k:Kept o r):∃o',r=some o'/\o'.cls=o.cls/\o'.data=o.data:=by
 rcases k with k |⟨_,sl,k⟩
 .exact⟨o,k,rfl,rfl⟩
 .exact⟨_,k,rfl,rfl⟩
def Kept.ne{r:Option Obj}(k:Kept o r):r≠none:=by
 obtain⟨o',e,_⟩:=k.data;rw[e];simp
def Kept.map{r r':Option Obj}(k:Kept o r)(f:∀o',r=some o'->r'=some o'):Kept o r':=by
 rcases k with k |⟨c,sl,k⟩
 .exact .inl (f _ k)
 .exact .inr ⟨c,sl,f _ k⟩
def Kept.next{r r':Option Obj}(k:Kept o r)(f:∀o',r=some o'->Kept o' r'):Kept o r':=by
 rcases k with k |⟨c,sl,k⟩
 .exact f _ k
 .rcases f _ k with q |⟨_,sl2,q⟩
  .exact .inr ⟨c,sl,q⟩
  .exact .inr ⟨c,sl2,q⟩
structure Step(pv:List Addr)(g:IH)(J:cy)(H:Hp)(h:Heap)(g':IH)(J':cy)(H':Hp)(h':Heap):Prop where
 gsub:∀a o,g a=some o->g' a=some o
 gnew:∀a o,g' a=some o->g a=some o\/a∈owned J H\/h.get? a=none
 onew:∀a∈owned J' H',a∈owned J H\/h.get? a=none
 keep:∀a o,h.get? a=some o->a∉owned J H->a∉pv->Kept o (h'.get? a)
 phi:J <+: J'
 live:∀a∈pv,a∉owned J H->h.get? a≠none->h'.get? a≠none
def Step.refl{pv g J H h}:Step pv g J H h g J H h:=⟨λ_ _ e=>e,λ_ _ e=>.inl e,λ_ m=>.inl m,λ_ _ e _ _=>.inl e,zO _,λ_ _ _ e=>e⟩
def Step.alive{pv g J H h g' J' H' h'}(x:Step pv g J H h g' J' H' h'){a:Addr}(n:a∉owned J H)(e:h.get? a≠none):h'.get? a≠none:=by
 by_cases m:a∈pv
 .exact x.live a m n e
 .obtain⟨o,ho⟩:=zF.mp e
  exact (x.keep a o ho n m).ne
def Step.dead{pv g J H h g' J' H' h'}(x:Step pv g J H h g' J' H' h'){a:Addr}(e:h'.get? a=none):a∈owned J H\/h.get? a=none:=by
 by_cases m:a∈owned J H
 .exact .inl m
 .refine .inr (Classical.byContradiction λq=>x.alive m q e)
def Step.trans{pv g J H h g' J' H' h' g'' J'' H'' h''}(x:Step pv g J H h g' J' H' h')(y:Step pv g' J' H' h' g'' J'' H'' h''):Step pv g J H h g'' J'' H'' h'' where
 gsub a o e:=y.gsub a o (x.gsub a o e)
 gnew a o e:=by
  rcases y.gnew a o e with q | q | q
  .exact x.gnew a o q
  .exact .inr (x.onew a q)
  .exact .inr (x.dead q)
 onew a m:=by
  rcases y.onew a m with q | q
  .exact x.onew a q
  .exact x.dead q
 keep a o e n m:=by
  refine (x.keep a o e n m).next λo1 e1=>y.keep a o1 e1 (λq=>?_) m
  rcases x.onew a q with r | r
  .exact n r
  .rw[e]at r;injection r
 phi:=x.phi.trans y.phi
 live a m n e:=by
  refine y.alive (λq=>?_) (x.live a m n e)
  rcases x.onew a q with r | r
  .exact n r
  .exact e r
def Step.weaken{pv pv' g J H h g' J' H' h'}(x:Step pv g J H h g' J' H' h')(hs:∀a∈pv,a∈pv'):Step pv' g J H h g' J' H' h':=
 ⟨x.gsub,x.gnew,x.onew,λa o e n m=>x.keep a o e n λq=>m (hs a q),x.phi,λ_ _ n e=>x.alive n e⟩
def Step.rep{pv g J H h g' J' H' h'}(x:Step pv g J H h g' J' H' h'){y:Value}(r:ay P g J v y):ay P g' J' v y:=fU x.gsub x.phi r
def Step.reps{pv g J H h g' J' H' h'}(x:Step pv g J H h g' J' H' h'){y:List Value}(r:Internal.ah P g J v y):Internal.ah P g' J' v y:=aZ x.gsub x.phi r
structure Wd where
 prog:Program
 w:World
 K:Frag
 base:Heap
noncomputable abbrev Wd.P(W:Wd):Params:=W.w.params
noncomputable abbrev Wd.M(W:Wd):Model:=model W.prog W.w
def F3(k:Nat):Option Str:=(uJ[k]?).map Str.ofString
noncomputable def uQ(K:Frag)(D:Addr):Bool:=plainGet K D "__class__" && hasDictIn K D&&findIn K (.ref D) "__class__" == some (some (.builtin "object.__class__"))&&specialIn K (.builtin "object.__class__") "__get__" == some (some (.builtin "getset_descriptor.__get__"))&&takesIn K (.builtin "object.__class__")==some true&&mroIn K D (.type "object")==some true
def QE:List Value:=[.type "bool",.type "int",.type "str",.type "NoneType",.type "tuple",.type "list"]++(38::dS).map .ref
def To:List Value:=[.type "bool",.type "int",.type "str"]++(323::dS).map .ref
def fT(k:Nat):Str:=Str.ofString (c0[k]?.getD "")
noncomputable def nj(K:Frag)(C:Addr):Bool:=plainGet K C "" && hasDictIn K C&&plainOver K C&&findIn K (.ref C) "__setattr__" == some (some (.builtin "object.__setattr__"))
def jO(K:Frag)(C:Addr)(k:Nat):Bool:=findIn K (.ref C) (fT k)==some none
noncomputable def LG(f:ClassData->Bool)(e:Data):Bool:=if h:e.ctorIdx=8 then Data.cls.elim (motive:=λ_=>Bool) e h f else false
def GM{f}{e:Data}(h:LG f e=true):∃cd,e=.cls cd/\f cd=true:=
 if c:e.ctorIdx=8 then Data.cls.elim (motive:=λe=>LG f e=true->∃cd,e=.cls cd/\f cd=true) e c (λcd h=>⟨cd,rfl,h⟩) h else ff ((zX c).symm.trans h)
noncomputable def wO(f:String->Bool)(e:Value):Bool:=if h:e.ctorIdx=8 then Value.type.elim (motive:=λ_=>Bool) e h f else false
def sG{f}(h:wO f e=true):∃i,e=.type i/\f i=true:=
 if c:e.ctorIdx=8 then Value.type.elim (motive:=λe=>wO f e=true->∃i,e=.type i/\f i=true) e c (λi h=>⟨i,rfl,h⟩) h else ff ((zX c).symm.trans h)
def excShape(C:Addr)(newId:String)(bm:List Value)(o:Obj):Bool:=
 wO (λt=>t == "type") o.cls&&LG (λcd=>cd.mro==.ref C::bm && !cd.hasDel&&o.slots.size==6&&o.slots[4]? == some (some (.builtin newId))) o.data
def lO{C:Addr}{n:String}(h:excShape C n bm o=true):∃dd cd sl,o=⟨.type "type",dd,.cls cd,sl⟩/\(cd.mro==.ref C::bm && !cd.hasDel&&sl.size==6&&sl[4]? == some (some (.builtin n)))=true:=by
 obtain⟨c,dd,d,sl⟩:=o;have h:=and_eq_true_iff.mp h;obtain⟨t,e1,h1⟩:=sG h.1;obtain⟨cd,e2,h2⟩:=GM h.2;exact⟨dd,cd,sl,by rw[show c=_ from e1,show d=_ from e2,ze.mp h1],h2⟩
noncomputable def pz:List Value:=[.ref 246,.type "Exception",.type "BaseException",.type "object"]
def nq(K:Frag):Bool:=findIn K (.ref 285) "__getattribute__" == some (some (.builtin "BaseException.__getattribute__"))&&findIn K (.ref 285) "__getattr__" == some none&&hasDictIn K 285&&findIn K (.ref 285) "__setattr__" == some (some (.builtin "object.__setattr__"))&&(K.lookup 285).any (excShape 285 "Exception.__new__" pz)&&findIn K (.ref 285) "__init__" == some (some (.ref 282))&&isFn K (.ref 282)&&keepIn K (.ref 285)&&(["word", "irritants", "reason", "place"].all λn=>findIn K (.ref 285) (Str.ofString n)==some none)
structure KF(K:Frag):Prop where
 meth:(sg.all λm=>findIn K (.ref m.1) (fT m.2.1)==some (some (.ref m.2.2))&&isFn K (.ref m.2.2))=true
 cls:(dS.all λc=>nj K c)=true
 exn:nq K=true
 fld:(dS.all λc=>(cI c).all λk=>jO K c k)=true
 plc:jO K 285 25=true
 keep:((BV++dS).all λa=>keepIn K (.ref a))=true
 make:(dS.all λc=>makesIn K c&&(match eh c with | some (_,init,_)=>findIn K (.ref c) "__init__" == some (some (.ref init))&&isFn K (.ref init) | none=>false))=true
 own:((38::dS).all λc=>uQ K c)=true
 kit:(QE.all λt=>To.all λc=>kitOne K t c==some (BD t c))=true
structure QF(W:Wd):Prop where
 kin:W.K.In W.base
 nolimit:W.base.NoLimit
 emp:∀a,a=44\/a=47->∃o od,InstAt W.base a o 38 (some od)
 facts:KF W.K
 glb:∃mg mb,W.base.Ns mainGlobals mg/\W.base.Ns builtinsNs mb/\∀k v x,af k=some v->F3 k=some x->∃y,ay W.P W.base.get? [] v y/\(mg x=some y\/(mg x=none/\mb x=some y))
structure Cx where
 env:Env
 ns:List Str
 nso:List Str
variable{W:Wd}{fr:List Env}{pa:List Addr}{g:IH}{J:cy}{H:Hp}{A:Around}{E:QP}{Q:QP}{K:KP}{X:XP}{cx:Cx}
noncomputable def Cx.pv(cx:Cx):List Addr:=cx.env.locals::cx.env.cells.map (·.2)
noncomputable def Cx.at(cx:Cx)(i:Nat):Option Str:=cx.ns[i]?
noncomputable def Cx.ato(cx:Cx)(i:Nat):Option Str:=cx.nso[i]?
structure Uz(cx:Cx):Prop where
 nd:cx.ns.Nodup
 lc:cx.env.locals∉cx.env.cells.map (·.2)
 inj:∀x y c,cx.env.cells.lookup x=some c->cx.env.cells.lookup y=some c->x=y
structure o7(P:Params)(g:IH)(J:cy)(cx:Cx)(l lo:Loc)(h:Heap):Prop where
 fk:cx.env.scope.kind=.function
 gl:cx.env.globals=mainGlobals
 bl:cx.env.builtins=builtinsNs
 len:l.length=cx.ns.length
 loc:∃m,h.Ns cx.env.locals m/\∀i x v,cx.at i=some x->cx.env.kindOf x=some .local->l[i]?=some (some v)->∃y,m x=some y/\ay P g J v y
 cel:∀i x,cx.at i=some x->cx.env.kindOf x=some .cell->∃c y,cx.env.cells.lookup x=some c/\h.IsCell c y/\∀v,l[i]?=some (some v)->∃z,y=some z/\ay P g J v z
 fre:∀i x v,cx.ato i=some x->cx.env.kindOf x=some .cell->lo[i]?=some (some v)->∃c z,cx.env.cells.lookup x=some c/\h.IsCell c (some z)/\ay P g J v z
 ok:Uz cx
def pA(base h:Heap)(pa:List Addr)(fr:List Env):Prop:=∀env∈fr,env.scope.kind≠.module/\∃L o,env.frame=some L/\L∈pa/\base.get? L=none/\h.get? L=some o/\o.cls=.type "frame" /\ ∃es ep,o.data=.dict es ep
structure BAt(W:Wd)(fr:List Env)(pa:List Addr)(g:IH)(J:cy)(H:Hp)(s:Shared):Prop where
 top:QF W
 rel:Cy W.P g J H s.heap
 bas:∀a o,W.base.get? a=some o->g a=some o
 prv:∀a∈pa,g a=none/\a∉owned J H/\s.heap.get? a≠none
 frs:pA W.base s.heap pa fr
structure At(W:Wd)(fr:List Env)(pa:List Addr)(cx:Cx)(l lo:Loc)(g:IH)(J:cy)(H:Hp)(s:Shared):Prop extends BAt W fr pa g J H s where
 loc:o7 W.P g J cx l lo s.heap
 pvs:∀a∈cx.pv,a∈pa
structure eq(d:Nat)(A:Around)(fr:List Env):Prop where
 frames:A.frames=some fr
 depth:A.depth+3*d+5<recursionLimit
 units:A.units+60*d+150<cLine
 hand:A.handled=none
structure UA(d:Nat)(A:Around)(fr:List Env):Prop where
 frames:A.frames=some fr
 depth:A.depth+3*d+3<recursionLimit
 units:A.units+60*d+100<cLine
 hand:A.handled=none
def eq.amb{d:Nat}(a:eq d A fr):UA d A fr:=⟨a.frames,by have:=a.depth;lia,by have:=a.units;lia,a.hand⟩
def bu(s s':Shared):Prop:=s'.gens=s.gens/\s'.drawn=s.drawn/\s'.os=s.os
def bu.refl(s:Shared):bu s s:=⟨rfl,rfl,rfl⟩
def bu.trans(x:bu s s')(y:bu s' Se):bu s Se:=⟨y.1.trans x.1,y.2.1.trans x.2.1,y.2.2.trans x.2.2⟩
def bu.of(s:Shared)(h:Heap)(t:Nat):bu s { s with heap:=h,toks:=t }:=⟨rfl,rfl,rfl⟩
def fe(J:cy)(H:Hp)(h:Heap)(a:Addr):Prop:=h.get? a=none\/a∈owned J H
def Step.deadO{pv g J H h g' J' H' h'}(x:Step pv g J H h g' J' H' h'){a:Addr}(d:fe J' H' h' a):fe J H h a:=by
 rcases d with d | d
 .exact (x.dead d).symm
 .exact (x.onew a d).symm
structure dh(W:Wd)(g:IH)(J:cy)(H:Hp)(h:Heap)(pa xa:List Addr)(e:Addr)(c:Nat)(fs:List V):Prop where
 new:∀a∈xa,g a=none/\a∉owned J H/\a∉pa/\h.get? a≠none
 mem:e∈xa
 obj:∃vs d od r y,h.get? e=some ⟨.ref c,some d,.fields vs,#[]⟩/\4<vs.size/\(vs[1]?=some .none\/∃T oT ts,vs[1]?=some (.ref T)/\T≠e/\T∈xa/\h.get? T=some oT/\oT.data=.fields ts/\3<ts.size)/\g d=some od/\lookIn (Str.ofString "place") od=some (some y)/\ah W.P g J fs [r,y]
abbrev QG(pv _pa:List Addr)(g:IH)(J:cy)(H:Hp)(h:Heap)(g':IH)(J':cy)(H':Hp)(h':Heap):Prop:=Step pv g J H h g' J' H' h'
def oZ(W:Wd)(fr:List Env)(pa:List Addr)(cx:Cx)(l lo:Loc)(g:IH)(J:cy)(H:Hp)(s:Shared)(K:KP)(Q:QP):Prop:=
 ∀g' J' H' v x s',K v H'->ay W.P g' J' v x->At W fr pa cx l lo g' J' H' s'->Step [] g J H s.heap g' J' H' s'.heap->bu s s'->Q x s'
def BK(W:Wd)(fr:List Env)(pa:List Addr)(g:IH)(J:cy)(H:Hp)(s:Shared)(K:KP)(Q:QP):Prop:=
 ∀g' J' H' v x s',K v H'->ay W.P g' J' v x->BAt W fr pa g' J' H' s'->Step [] g J H s.heap g' J' H' s'.heap->bu s s'->Q x s'
def rY(W:Wd)(fr:List Env)(pa pv:List Addr)(g:IH)(J:cy)(H:Hp)(s:Shared)(X:XP)(E:QP):Prop:=
 ∀g' J' H' c fs e xa s',X c fs H'->dh W g' J' H' s'.heap pa xa e c fs->(∀a∈xa,fe J H s.heap a)->BAt W fr pa g' J' H' s'->QG pv pa g J H s.heap g' J' H' s'.heap->bu s s'->E (.ref e) s'
def UB(Q E:QP)(r:Result)(s':Shared):Prop:=match r with
 |.ok (.ret v)=>Q v s'
 |.ok _=>False
 |.error e=>E e s'
structure Call(W:Wd)(d:Nat)(f:Nat)(args:List V)(H:Hp)(K:KP)(X:XP):Prop where
 run:∀(A:Around) (fr:List Env) (pa:List Addr) (g:IH) (J:cy) (s:Shared) (xs:List Value) (Q E:QP),UA d A fr->BAt W fr pa g J H s->ah W.P g J args xs->BK W fr pa g J H s K Q->rY W fr pa [] g J H s X E->codeAny W.M A (.call (.ref f) ⟨xs,[]⟩) (UB Q E) s
def Call.mono{W d f args H K K' X X'}(c:Call W d f args H K X)(hk:∀v H,K v H->K' v H)(hx:∀c fs H,X c fs H->X' c fs H):Call W d f args H K' X':=
 ⟨λA fr pa g J s xs Q E ha hb hr hK hX=>c.run A fr pa g J s xs Q E ha hb hr (λg' J' H' v x s' k=>hK g' J' H' v x s' (hk _ _ k)) (λg' J' H' c fs e xa s' k=>hX g' J' H' c fs e xa s' (hx _ _ _ k))⟩
section
variable{pv:List Addr}{l lo:Loc}{g':IH}{J':cy}{H':Hp}{s s':Shared}
def fV{h h':Heap}(hp:∀a∈pa,g a=none/\a∉owned J H/\h.get? a≠none)(st:Step pv g J H h g' J' H' h'):∀a∈pa,g' a=none/\a∉owned J' H'/\h'.get? a≠none:=λa m=>by
 obtain⟨p,q,r⟩:=hp a m;refine⟨?_,λk=>?_,st.alive q r⟩
 .cases e:g' a with
  |none=>rfl
  |some o=>
   rcases st.gnew a o e with z | z | z
   .rw[p]at z;injection z
   .exact absurd z q
   .exact absurd z r
 .rcases st.onew a k with z | z
  .exact q z
  .exact r z
def Heap.IsCell.keep{h h':Heap}{c:Addr}{y:Option Value}(x:h.IsCell c y)(k:∀o,h.get? c=some o->h'.get? c=some o):h'.IsCell c y:=let ⟨o,e,d⟩:=x;⟨o,k o e,d⟩
def IsCell.lt{h:Heap}{c:Addr}{y:Option Value}(x:h.IsCell c y):c<h.objs.size:=let ⟨_,e,_⟩:=x;lt_size e
def bM{α β:Type}[BEq α][LawfulBEq α]{l:List (α×β)}{x:α}{c:β}(e:l.lookup x=some c):c∈l.map (·.2):=by
 induction l with
 |nil=>injection e
 |cons p r ih=>
  rw[lookup_cons]at e;split at e
  .injection e;exact zw
  .exact zx _ (ih e)
def Ns.kept{h h':Heap}{a:Addr}{m:Str->Option Value}(x:h.Ns a m)(k:∀o,h.get? a=some o->∃o',h'.get? a=some o'/\o'.data=o.data):h'.Ns a m:=by
 obtain⟨o,es,ep,e,d,r⟩:=x;obtain⟨o',e',d'⟩:=k o e;exact⟨o',es,ep,e',d'.trans d,r⟩
def IsCell.kept{h h':Heap}{c:Addr}{y:Option Value}(x:h.IsCell c y)(k:∀o,h.get? c=some o->∃o',h'.get? c=some o'/\o'.data=o.data):h'.IsCell c y:=by
 obtain⟨o,e,d⟩:=x;obtain⟨o',e',d'⟩:=k o e;exact⟨o',e',d'.trans d⟩
def o7.step(x:o7 P g J cx l lo h)(hp:∀a∈cx.pv,a∉owned J H)(st:Step [] g J H h g' J' H' h'):o7 P g' J' cx l lo h':=by
 have kp:∀a∈cx.pv,∀o,h.get? a=some o->∃o',h'.get? a=some o'/\o'.data=o.data:=λa m o e=>let ⟨o',e',_,d⟩:=(st.keep a o e (hp a m) (by simp)).data;⟨o',e',d⟩;refine⟨x.fk,x.gl,x.bl,x.len,?_,λi y hi hk=>?_,λi y v hi hk hv=>?_,x.ok⟩
 .obtain⟨m,hn,hm⟩:=x.loc
  refine⟨m,Ns.kept hn (kp _ zw),λi y v hi hk hl=>?_⟩;obtain⟨z,e,r⟩:=hm i y v hi hk hl;exact⟨z,e,st.rep r⟩
 .obtain⟨c,z,e,q,r⟩:=x.cel i y hi hk
  refine⟨c,z,e,IsCell.kept q (kp _ (zx _ (bM e))),λv hv=>?_⟩;obtain⟨u,e1,r1⟩:=r v hv;exact⟨u,e1,st.rep r1⟩
 .obtain⟨c,z,e,q,r⟩:=x.fre i y v hi hk hv
  exact⟨c,z,e,IsCell.kept q (kp _ (zx _ (bM e))),st.rep r⟩
def pA.step{base:Heap}(x:pA base h pa fr)(hp:∀a∈pa,a∉owned J H)(st:Step [] g J H h g' J' H' h'):pA base h' pa fr:=λenv he=>by
 obtain⟨k,L,o,a,b,c,d,e⟩:=x env he;obtain⟨o',e',q1,q2⟩:=(st.keep L o d (hp L b) (by simp)).data;exact⟨k,L,o',a,b,c,e',q1.trans e.1,let ⟨es,ep,z⟩:=e.2;⟨es,ep,q2.trans z⟩⟩
def BAt.step(x:BAt W fr pa g J H s)(r:Cy W.P g' J' H' s'.heap)(st:Step [] g J H s.heap g' J' H' s'.heap):BAt W fr pa g' J' H' s':=
 ⟨x.top,r,λa o e=>st.gsub a o (x.bas a o e),fV x.prv st,x.frs.step (λa m=>(x.prv a m).2.1) st⟩
def At.step(x:At W fr pa cx l lo g J H s)(b:BAt W fr pa g' J' H' s')(st:Step [] g J H s.heap g' J' H' s'.heap):At W fr pa cx l lo g' J' H' s':=
 ⟨b,x.loc.step (λa m=>(x.prv a (x.pvs a m)).2.1) st,x.pvs⟩
def At.tok(x:At W fr pa cx l lo g J H s)(t:Nat):At W fr pa cx l lo g J H { s with toks:=t }:=⟨⟨x.top,x.rel,x.bas,x.prv,x.frs⟩,x.loc,x.pvs⟩
def BAt.tok(x:BAt W fr pa g J H s)(t:Nat):BAt W fr pa g J H { s with toks:=t }:=⟨x.top,x.rel,x.bas,x.prv,x.frs⟩
def oZ.here{K:KP}(k:oZ W fr pa cx l lo g J H s K Q)(a:At W fr pa cx l lo g J H s){x:Value}(hk:K v H)(hr:ay W.P g J v x):Q x s:=
 k g J H v x s hk hr a Step.refl (bu.refl s)
def oZ.tok{K:KP}(k:oZ W fr pa cx l lo g J H s K Q)(a:At W fr pa cx l lo g J H s)(t:Nat){x:Value}(hk:K v H)(hr:ay W.P g J v x):Q x { s with toks:=t }:=
 k g J H v x _ hk hr (a.tok t) Step.refl ⟨rfl,rfl,rfl⟩
def oZ.trans{K:KP}(k:oZ W fr pa cx l lo g J H s K Q)(st:Step [] g J H s.heap g' J' H' s'.heap)(sm:bu s s'):oZ W fr pa cx l lo g' J' H' s' K Q:=
 λg2 J2 H2 v x s2 hk hr ha hst hs=>k g2 J2 H2 v x s2 hk hr ha (st.trans hst) (sm.trans hs)
def oZ.toB{K:KP}(k:oZ W fr pa cx l lo g J H s K Q)(a:At W fr pa cx l lo g J H s):BK W fr pa g J H s K Q:=
 λg2 J2 H2 v x s2 hk hr ha hst hs=>k g2 J2 H2 v x s2 hk hr (a.step ha hst) hst hs
def rY.trans(k:rY W fr pa pv g J H s X E)(st:Step pv g J H s.heap g' J' H' s'.heap)(sm:bu s s'):rY W fr pa pv g' J' H' s' X E:=
 λg2 J2 H2 c fs e xa s2 hx he hd ha hst hs=>k g2 J2 H2 c fs e xa s2 hx he (λa m=>st.deadO (hd a m)) ha (st.trans hst) (sm.trans hs)
end
noncomputable def jP(g:IH)(a:Addr)(o:Obj):IH:=λb=>if b=a then some o else g b
def bN{a:Addr}:jP g a o a=some o:=by simp[jP]
def bj{a b:Addr}(h:b≠a):jP g a o b=g b:=by simp[jP,h]
def ib.mono{h h':Heap}{p:Addr×Addr}(hg:∀a o,g a=some o->g' a=some o)(hp:J <+: J'):∀{o:O},(∀a∈bT p o,∀x,h.get? a=some x->h'.get? a=some x)->ib P g J h p o->ib P g' J' h' p o:=by
 intro o k x
 cases o with
 |list vs=>
  obtain⟨xs,n,e,r⟩:=x;exact⟨xs,n,k _ (by simp[bT]) _ e,aZ hg hp r⟩
 |inst c fs=>
  obtain⟨es,n,e1,e2,ks,r⟩:=x;exact⟨es,n,k _ (by simp[bT]) _ e1,k _ (by simp[bT]) _ e2,ks,aZ hg hp r⟩
 |dict ks vs=>
  obtain⟨ns,es,n,e,q,r⟩:=x;exact⟨ns,es,n,k _ (by simp[bT]) _ e,q,aZ hg hp r⟩
 |iter vs=>
  obtain⟨v0,e,en,r⟩:=x;refine⟨v0,e,?_,?_⟩
  .exact k _ (by simp[bT]) _ en
  .rcases r with ⟨l,xs,n,h1,h2,h3⟩ |⟨s,t,h1,h2⟩
   .obtain⟨o,e1,e2,e3⟩:=h3
    exact .inl ⟨l,xs,n,hg _ _ h1,aZ hg hp h2,⟨o,k _ (by simp[bT]) _ e1,e2,e3⟩⟩
   .refine .inr ⟨s,t,h1,?_⟩
    rcases h2 with h2 | h2
    .obtain⟨o,e1,r⟩:=h2
     exact .inl ⟨o,k _ (by simp[bT]) _ e1,r⟩
    .obtain⟨o,e1,r⟩:=h2
     exact .inr ⟨o,k _ (by simp[bT]) _ e1,r⟩
 |gone=>trivial
def fW:∀{J J':cy} {H H':Hp},J.length=H.length->owned (J++J') (H++H')=owned J H++owned J' H':=by
 intro J
 induction J with
 |nil=>
  intro J' H H' e
  cases H with
  |nil=>rfl
  |cons _ _=>injection e
 |cons p J ih=>
  intro J' H H' e
  cases H with
  |nil=>injection e
  |cons o H=>
   simp only[cons_append,iL,append_assoc];rw[ih (Nat.succ.inj e)]
def iM:∀{J:cy} {H:Hp} {n:Nat} {p:Addr×Addr} {o o':O},J[n]?=some p->H[n]?=some o->(∃M B,owned J H=M++bT p o++B/\owned J (H.set n o')=M++bT p o'++B):=by
 intro J
 induction J with
 |nil=>intro H n p o o' h1 h2;injection h1
 |cons q J ih=>
  intro H n p o o' h1 h2
  cases H with
  |nil=>injection h2
  |cons x H=>cases n with
   |zero=>
    simp at h1 h2;subst h1 h2;exact Exists.intro [] (Exists.intro (owned J H) (And.intro rfl rfl))
   |succ n=>
    obtain⟨a,b,e1,e2⟩:=ih (o':=o') (show J[n]?=some p by simpa using h1) (show H[n]?=some o by simpa using h2);exact⟨bT q x++a,b,by simp only[iL,e1,append_assoc],by simp only[List.set_cons_succ,iL,e2,append_assoc]⟩
section
variable{s:Shared}
def be(h:Heap):h.get? h.objs.size=none:=by
 cases e:h.get? h.objs.size with
 |none=>rfl
 |some o=>exact absurd (lt_size e) (lt_irrefl _)
def Cy.none_at{h:Heap}(r:Cy P g J H h){a:Addr}(ha:h.get? a=none):g a=none:=by
 cases e:g a with
 |none=>rfl
 |some o=>rw[r.sub a o e]at ha;injection ha
def Cy.not_owned{h:Heap}(r:Cy P g J H h){a:Addr}(ha:h.get? a=none):a∉owned J H:=λm=>r.alive a m ha
def BAt.grow(x:BAt W fr pa g J H s){h':Heap}{t:Nat}(k:∀a o,s.heap.get? a=some o->h'.get? a=some o):BAt W fr pa g J H { s with heap:=h',toks:=t }/\Step [] g J H s.heap g J H h':=by
 have st:Step [] g J H s.heap g J H h':=⟨λ_ _ e=>e,λ_ _ e=>.inl e,λ_ m=>.inl m,λa o e _ _=>.inl (k a o e),zO _,λ_ m=>by simp at m⟩;refine⟨x.step ⟨λa o e=>k a o (x.rel.sub a o e),x.rel.len,x.rel.own,x.rel.nod,λn o p e1 e2=>?_⟩ st,st⟩;exact (x.rel.obj n o p e1 e2).mono (λ_ _ e=>e) (zO _) λa _ y e=>k a y e
def BAt.still(x:BAt W fr pa g J H s){a:Addr}(e:s.heap.get? a=some o)(ng:g a=none)(no:a∉owned J H)(np:a∉pa):BAt W fr pa (jP g a o) J H s:=by
 have up:∀b y,g b=some y->jP g a o b=some y:=λb y q=>by
  by_cases h:b=a
  .subst h;rw[ng]at q;injection q
  .rw[bj h];exact q
 refine⟨x.top,⟨λb y q=>?_,x.rel.len,λb m=>?_,x.rel.nod,λn y p e1 e2=>(x.rel.obj n y p e1 e2).mono up (zO _) λ_ _ _ e=>e⟩,λb y q=>up b y (x.bas b y q),λb m=>⟨?_,(x.prv b m).2⟩,x.frs⟩
 .by_cases h:b=a
  .subst h;rw[bN]at q;injection q;exact e
  .rw[bj h]at q;exact x.rel.sub b y q
 .by_cases h:b=a
  .subst h;exact absurd m no
  .rw[bj h];exact x.rel.own b m
 .by_cases h:b=a
  .subst h;exact absurd m np
  .rw[bj h];exact (x.prv b m).1
def BAt.fresh_not_pa(x:BAt W fr pa g J H s){a:Addr}(h:s.heap.get? a=none):a∉pa:=λm=>(x.prv a m).2.2 h
def BAt.laid(x:BAt W fr pa g J H s){h':Heap}{a:Addr}(k:∀a o,s.heap.get? a=some o->h'.get? a=some o)(n:s.heap.get? a=none)(e:h'.get? a=some o)(t:Nat):BAt W fr pa (jP g a o) J H { s with heap:=h',toks:=t }/\Step [] g J H s.heap (jP g a o) J H h':=by
 obtain⟨p,q⟩:=x.grow (h':=h') (t:=t) k;have ng:=x.rel.none_at n;refine⟨p.still e ng (x.rel.not_owned n) (x.fresh_not_pa n),⟨λc y q=>?_,λc y q=>?_,q.onew,q.keep,q.phi,q.live⟩⟩
 .by_cases h:c=a
  .subst h;rw[ng]at q;injection q
  .rw[bj h];exact q
 .by_cases h:c=a
  .exact .inr (.inr (h▸n))
  .rw[bj h]at q;exact .inl q
def BAt.push(x:BAt W fr pa g J H s){o:Obj}(hf:o.isFreed=false)(t:Nat):BAt W fr pa (jP g s.heap.objs.size o) J H { s with heap:=s.heap.push o,toks:=t }/\Step [] g J H s.heap (jP g s.heap.objs.size o) J H (s.heap.push o):=
 x.laid (λ_ _ e=>zc _ e) (be _) (zR _ hf) t
def BAt.mine(x:BAt W fr pa g J H s){p:Addr×Addr}{h':Heap}{t:Nat}(k:∀a y,s.heap.get? a=some y->h'.get? a=some y)(hn:(bT p o).Nodup)(hi:∀a∈bT p o,s.heap.get? a=none)(ho:ib W.P g J h' p o):BAt W fr pa g (J++[p]) (H++[o]) { s with heap:=h',toks:=t }/\Step [] g J H s.heap g (J++[p]) (H++[o]) h':=by
 have px:J <+: J++[p]:=List.prefix_append _ _;have eo:owned (J++[p]) (H++[o])=owned J H++bT p o:=by rw[fW x.rel.len];simp[iL,qw]
 have st:Step [] g J H s.heap g (J++[p]) (H++[o]) h':=by
  refine⟨λ_ _ e=>e,λ_ _ e=>.inl e,λa m=>?_,λa y e _ _=>.inl (k a y e),px,λ_ m=>by simp at m⟩;rw[eo,zH]at m;exact m.imp id λq=>hi a q
 refine⟨x.step ⟨λa y e=>k a y (x.rel.sub a y e),by simp[x.rel.len],λa m=>?_,?_,λn y q e1 e2=>?_⟩ st,st⟩
 .rw[eo,zH]at m
  rcases m with m | m
  .exact x.rel.own a m
  .exact x.rel.none_at (hi a m)
 .rw[eo,nodup_append]
  exact⟨x.rel.nod,hn,λa m b q e=>x.rel.alive a m (e▸hi b q)⟩
 .by_cases h:n<H.length
  .rw[zK h]at e1
   rw[zK (x.rel.len▸h)]at e2;exact (x.rel.obj n y q e1 e2).mono (λ_ _ e=>e) px λa _ z e=>k a z e
  .have hl:n<(H++[o]).length:=(zu.mp e1).1
   have:n=H.length:=by simp at hl;lia
   subst this;rw[zk (zv _)]at e1;rw[zk (by rw[x.rel.len];exact zv _),x.rel.len]at e2;simp at e1 e2;subst e1 e2;exact ho.mono (λ_ _ e=>e) px λa _ z e=>e
def BAt.turn(x:BAt W fr pa g J H s){n:Nat}{p:Addr×Addr}{a:Addr}{t:Nat}(e1:H[n]?=some o)(e2:J[n]?=some p)(Ve:(bT p o').Sublist (bT p o))(ha:a∈bT p o)(k:Heap.SameBut a s.heap h')(ho:ib W.P g J h' p o'):BAt W fr pa g J (H.set n o') { s with heap:=h',toks:=t }/\Step [] g J H s.heap g J (H.set n o') h':=by
 obtain⟨M,B,q1,q2⟩:=iM (o':=o') e2 e1;have am:a∈owned J H:=cW.mpr ⟨n,p,o,e2,e1,ha⟩;have sl:(owned J (H.set n o')).Sublist (owned J H):=by rw[q1,q2];exact (List.Sublist.refl M |>.append Ve).append (List.Sublist.refl B)
 have kp:∀b y,b≠a->s.heap.get? b=some y->h'.get? b=some y:=λb y ne e=>(k.2 b ne).trans e;have st:Step [] g J H s.heap g J (H.set n o') h':=⟨λ_ _ e=>e,λ_ _ e=>.inl e,λb m=>.inl (sl.subset m),λb y e nm _=>.inl (kp b y (λq=>nm (q▸am)) e),zO _,λ_ m=>by simp at m⟩;refine⟨x.step ⟨λb y e=>kp b y (λq=>?_) (x.rel.sub b y e),by simp[x.rel.len],λb m=>x.rel.own b (sl.subset m),x.rel.nod.sublist sl,λm y r f1 f2=>?_⟩ st,st⟩
 .subst q;rw[x.rel.own b am]at e;injection e
 .by_cases h:m=n
  .subst h
   have hl:=(zu.mp e1).1;rw[z5 hl]at f1;injection f1;rw[e2]at f2;injection f2;exact ho
  .rw[zD (z6 h)]at f1
   refine (x.rel.obj m y r f1 f2).mono (λ_ _ e=>e) (zO _) λb mb z e=>kp b z (λq=>?_) e;subst q;have nd:=x.rel.nod;have:b∈owned J (H.set n .gone):=by
    refine cW.mpr ⟨m,r,y,f2,?_,mb⟩;rw[zD (z6 h)];exact f1
   obtain⟨p1,p2,w1,w2⟩:=iM (o':=O.gone) e2 e1;rw[w1]at nd;rw[w2]at this;simp only[bT,append_nil,mem_append]at this;rw[nodup_append,nodup_append]at nd
   rcases this with q | q
   .exact nd.1.2.2 b q b ha rfl
   .exact nd.2.2 b (zU _ ha) b q rfl
end
def Gives(W:Wd)(fr:List Env)(pa:List Addr)(g:IH)(J:cy)(H:Hp)(s:Shared)(v:V)(H':Hp)(Q:QP):Prop:=
 ∀g' J' x s',ay W.P g' J' v x->BAt W fr pa g' J' H' s'->Step [] g J H s.heap g' J' H' s'.heap->bu s s'->Q x s'
section
variable{s:Shared}{d:Nat}
def Gives.tok{x:Value}{t:Nat}(k:Gives W fr pa g J H s v H Q)(b:BAt W fr pa g J H s)(r:ay W.P g J v x):Q x { s with toks:=t }:=
 k g J x _ r (b.tok t) Step.refl ⟨rfl,rfl,rfl⟩
def Gives.here{x:Value}(k:Gives W fr pa g J H s v H Q)(b:BAt W fr pa g J H s)(r:ay W.P g J v x):Q x s:=
 k g J x _ r b Step.refl (bu.refl _)
def Gives.push{o:Obj}{t:Nat}(k:Gives W fr pa g J H s v H Q)(b:BAt W fr pa g J H s)(hf:o.isFreed=false)(r:ay W.P (jP g s.heap.objs.size o) J v (.ref s.heap.objs.size)):Q (.ref s.heap.objs.size) { s with heap:=s.heap.push o,toks:=t }:=by
 obtain⟨x,y⟩:=b.push hf t;exact k _ J _ _ r x y ⟨rfl,rfl,rfl⟩
def Gives.laid{t:Nat}{a:Addr}{h':Heap}(k:Gives W fr pa g J H s v H Q)(b:BAt W fr pa g J H s)(hk:∀a o,s.heap.get? a=some o->h'.get? a=some o)(n:s.heap.get? a=none)(e:h'.get? a=some o)(r:ay W.P (jP g a o) J v (.ref a)):Q (.ref a) { s with heap:=h',toks:=t }:=by
 obtain⟨x,y⟩:=b.laid hk n e t;exact k _ J _ _ r x y ⟨rfl,rfl,rfl⟩
def Gives.grow{x:Value}{t:Nat}{h':Heap}(k:Gives W fr pa g J H s v H Q)(b:BAt W fr pa g J H s)(hk:∀a o,s.heap.get? a=some o->h'.get? a=some o)(r:ay W.P g J v x):Q x { s with heap:=h',toks:=t }:=by
 obtain⟨y,z⟩:=b.grow (t:=t) hk;exact k _ J _ _ r y z ⟨rfl,rfl,rfl⟩
def wP(b:BAt W fr pa g J H s):∀a y,g a=some y->jP g s.heap.objs.size o a=some y:=λa y e=>by
 have:a≠s.heap.objs.size:=λq=>by rw[q,b.rel.none_at (be _)]at e;injection e
 rw[bj this];exact e
def ak{i:Int}{x:Value}{m:Value->Prop}(r:ay P g J (.int i) x)(f:∀t,m (.int i t)):m x:=by obtain⟨t,rfl⟩:=r;exact f t
def az{i:List Nat}{x:Value}{m:Value->Prop}(r:ay P g J (.str i) x)(f:∀t,m (.str (aH i) t)):m x:=by obtain⟨t,rfl⟩:=r;exact f t
def fX{x:Value}{m:Value->Prop}(r:ay P g J (.lst vs) x)(f:∀a xs n,g a=some (bd xs n)->ah P g J vs xs->m (.ref a)):m x:=by
 obtain⟨a,xs,n,rfl,h1,h2⟩:=r;exact f a xs n h1 h2
def fY{x:Value}{m:Value->Prop}(r:ay P g J (.tup vs) x)(f:∀a xs n,g a=some (fc xs n)->ah P g J vs xs->m (.ref a)):m x:=by
 obtain⟨a,xs,n,rfl,h1,h2⟩:=r;exact f a xs n h1 h2
def cA{J:cy}{k:Nat}{x:Value}{m:Value->Prop}(r:ay P g J (.ref k) x)(f:∀p,J[k]?=some p->m (.ref p.1)):m x:=by
 obtain⟨p,h,rfl⟩:=r;exact f p h
def iN(b:BAt W fr pa g J H s)(r:ah W.P g J vs xs)(n:Nat):ay W.P (jP g s.heap.objs.size (bd xs n)) J (.lst vs) (.ref s.heap.objs.size):=
 cL.mpr ⟨_,xs,n,rfl,bN,aZ (wP b) (zO _) r⟩
def wQ(b:BAt W fr pa g J H s)(r:ah W.P g J vs xs)(n:Nat):ay W.P (jP g s.heap.objs.size (fc xs n)) J (.tup vs) (.ref s.heap.objs.size):=
 cV.mpr ⟨_,xs,n,rfl,bN,aZ (wP b) (zO _) r⟩
def mn{v:V}{x:Value}(b:BAt W fr pa g J H s)(e:v.res H=.lst vs)(r:ay W.P g J v x):∃a xs n,x=.ref a/\s.heap.get? a=some (bd xs n)/\ah W.P g J vs xs:=by
 cases v with
 |ref k=>
  obtain⟨p,hp,rfl⟩:=bV.mp r;obtain⟨xs,n,h1,h2⟩:=b.rel.obj k _ p (BO e) hp;exact⟨p.1,xs,n,rfl,h1,h2⟩
 |lst ws=>
  injection e;obtain⟨a,xs,n,rfl,h1,h2⟩:=cL.mp r;exact⟨a,xs,n,rfl,b.rel.sub _ _ h1,h2⟩
 |_=>injection e
def ce{v:V}{x:Value}{m:Value->Prop}(b:BAt W fr pa g J H s)(e:v.res H=.lst vs)(r:ay W.P g J v x)(f:∀a xs n,s.heap.get? a=some (bd xs n)->ah W.P g J vs xs->m (.ref a)):m x:=by
 obtain⟨a,xs,n,rfl,h1,h2⟩:=mn b e r;exact f a xs n h1 h2
def dE{i:Int}:aD i=true↔-(2 ^ 62)<i/\i<2 ^ 62:=by
 unfold aD;rw[zN]
 cases i with
 |ofNat n=>exact⟨λh=>⟨Int.lt_of_lt_of_le (by decide +kernel) (natCast_nonneg n),ofNat_lt.mpr h⟩,λh=>ofNat_lt.mp h.2⟩
 |negSucc n=>exact⟨λh=>⟨(Int.neg_lt_neg (ofNat_lt.mpr h) : -((2 ^ 62:Nat):Int) < -((n+1:Nat):Int)),Int.lt_of_lt_of_le (Int.negSucc_lt_zero n) (by decide +kernel)⟩,λh=>ofNat_lt.mp (Int.lt_of_neg_lt_neg h.1)⟩
def bW{n:Nat}(h:aj n=true):n<=2 ^ 20:=zG h
def aq{n:Nat}(h:n<=2 ^ 22):n<=sizeLine:=by unfold sizeLine;lia
def gA(x y:List Nat):aH (x++y)=aH x++aH y:=by
 show Str.mk _=Str.mk _;simp
def aE(x:List Nat):(aH x).length=x.length:=by simp[Str.length]
def jl(x y:List Value):x.toArray++y.toArray=(x++y).toArray:=by simp
noncomputable def sH(xs:List Value):Nat->List Value
 |0=>[]
 |n+1=>xs++sH xs n
theorem Cz:sH xs 0=([]):=rfl
theorem qx{xs:List Value}:sH xs (n+1)=(xs++sH xs n):=rfl
def sI:∀n,sH [] n=[]
 |0=>rfl
 |n+1=>by rw[qx,sI n];rfl
def foldl_rep(xs:List Value):∀(n:Nat) (acc:Array Value),List.foldl (λx1 x2=>x1++x2) acc (replicate n xs.toArray)=acc++(sH xs n).toArray
 |0,acc=>by simp[Cz,qx]
 |n+1,acc=>by
  rw[List.replicate_succ,List.foldl_cons,foldl_rep xs n,qx];apply Array.toList_inj.mp;simp
def sJ(r:ah P g J vs xs):∀n,ah P g J (qk vs n) (sH xs n)
 |0=>by rw[KW,Cz,nh]
 |n+1=>by rw[BS,qx];exact cm r (sJ r n)
def cO(W:Wd)(fr:List Env)(pa:List Addr)(g:IH)(J:cy)(H:Hp)(s:Shared)(A:Around)(E Q:QP)(op:Operator)(xa xb:Value)(va vb v:V):Prop:=
 ay W.P g J va xa->ay W.P g J vb xb->Gives W fr pa g J H s v H Q->wpAny W.M A (binaryOp op xa xb) Q E s
section
variable{xa xb:Value}{i j:Int}{l m:List V}{t u:List Nat}
def CA(b:BAt W fr pa g J H s):cO W fr pa g J H s A E Q .Add xa xb (.int i) (.int j) (.int (i+j)):=
 λra rb k=>by
  apply ak ra;intro _;apply ak rb;intro _;exact PyProof.Rows.add_int (k.tok b (aO.mpr ⟨_,rfl⟩))
def CB(b:BAt W fr pa g J H s):cO W fr pa g J H s A E Q .Sub xa xb (.int i) (.int j) (.int (i-j)):=
 λra rb k=>by
  apply ak ra;intro _;apply ak rb;intro _;exact PyProof.Rows.sub_int' (k.tok b (aO.mpr ⟨_,rfl⟩))
def GN(h:(aD i&&aD j)=true):IntMulOk i j:=by
 rw[zm,dE,dE]at h;exact IntMulOk.of_left (intBits_le_64 (lt_trans (by decide +kernel) h.1.1) (lt_trans h.1.2 (by decide +kernel)))
def CC(b:BAt W fr pa g J H s)(h:(aD i&&aD j)=true):cO W fr pa g J H s A E Q .Mult xa xb (.int i) (.int j) (.int (i*j)):=
 λra rb k=>by
  apply ak ra;intro _;apply ak rb;intro _;exact PyProof.Rows.mul_int (k.tok b (aO.mpr ⟨_,rfl⟩)) (GN h)
def CD(b:BAt W fr pa g J H s)(h:(aD i&&decide (0<j)&&decide (j<1073741824))=true):cO W fr pa g J H s A E Q .FloorDiv xa xb (.int i) (.int j) (.int (i/j)):=
 λra rb k=>by
  apply ak ra;intro _;apply ak rb;intro _;rw[zm,zm,zN,zN]at h;refine PyProof.Rows.floordiv_int (Int.ne_of_gt h.1.2) ?_ (.inl (PyProof.noPylong_small (ofNat_lt.mp (by rw[Int.natAbs_of_nonneg (Int.le_of_lt h.1.2)];exact h.2))));rw[Int.fdiv_eq_ediv_of_nonneg _ (Int.le_of_lt h.1.2)];exact k.tok b (aO.mpr ⟨_,rfl⟩)
def CE(b:BAt W fr pa g J H s)(h:(aD j&&decide (0<j))=true):cO W fr pa g J H s A E Q .Mod xa xb (.int i) (.int j) (.int (i%j)):=
 λra rb k=>by
  apply ak ra;intro _;apply ak rb;intro _;rw[zm,zN]at h;refine PyProof.Rows.mod_int' (Int.ne_of_gt h.2) ?_;rw[Int.fmod_eq_emod_of_nonneg _ (Int.le_of_lt h.2)];exact k.tok b (aO.mpr ⟨_,rfl⟩)
def CF(b:BAt W fr pa g J H s)(h:(decide (j=0)&&aD i)=true):cO W fr pa g J H s A E Q .Pow xa xb (.int i) (.int j) (.int 1):=
 λra rb k=>by
  apply ak ra;intro _;apply ak rb;intro _;rw[zm,zN]at h;obtain⟨rfl,_⟩:=h;exact PyProof.Rows.pow_int (Int.le_refl 0) (by simp) (k.tok b (aO.mpr ⟨s.toks,by simp⟩))
def JZ{n k:Nat}(h:(aj n&&aj k)=true):n+k<=sizeLine:=by
 rw[zm]at h;exact aq (zT (Nat.add_le_add (bW h.1) (bW h.2)) (by decide))
def CG(b:BAt W fr pa g J H s)(h:(aj t.length&&aj u.length)=true):cO W fr pa g J H s A E Q .Add xa xb (.str t) (.str u) (.str (t++u)):=
 λra rb k=>by
  apply az ra;intro _;apply az rb;intro _;exact PyProof.Rows.add_str (λt' _=>k.tok b (bG.mpr ⟨t',by rw[gA]⟩)) (by rw[aE,aE];exact JZ h)
def wR{vs:List V}(r:ah P g J vs []):vs=[]:=by
 have:=au r
 cases vs with
 |nil=>rfl
 |cons=>injection this
def uR{xs ys:List Value}(r1:ah W.P g J l xs)(r2:ah W.P g J m ys)(h:(aj l.length&&aj m.length)=true):xs.toArray.size+ys.toArray.size<=sizeLine:=by
 rw[zW,zW,au r1,au r2];exact JZ h
def CH{a1 a2:Addr}{n k:Nat}(b:BAt W fr pa g J H s)(k1:s.heap.get? a1=some (fc xs n))(k2:s.heap.get? a2=some (fc ys k))(r1:ah W.P g J l xs)(r2:ah W.P g J m ys)(ra:ay W.P g J (.tup l) (.ref a1))(rb:ay W.P g J (.tup m) (.ref a2))(h:(aj l.length&&aj m.length)=true)(q:Gives W fr pa g J H s (.tup (l++m)) H Q):wpAny W.M A (binaryOp .Add (.ref a1) (.ref a2)) Q E s:=by
 cases xs with
 |nil=>
  cases wR r1
  exact concat_meets ⟨_,k1,rfl⟩ ⟨_,k2,rfl⟩ noFill_tuple_add seq_tuple_add PySem.F.slot_tuple_add PySem.F.entry_tuple_add (PySem.F.args_tuple_add_2 _ _) (PyProof.Rows.tuple_addW0 a1 a2 _ _ n k _ _ _ _ (by rfl)) ⟨k1,k2,q.tok b rb⟩
 |cons x xs=>
  cases ys with
  |nil=>
   cases wR r2
   exact concat_meets ⟨_,k1,rfl⟩ ⟨_,k2,rfl⟩ noFill_tuple_add seq_tuple_add PySem.F.slot_tuple_add PySem.F.entry_tuple_add (PySem.F.args_tuple_add_2 _ _) (PyProof.Rows.tuple_addW1 a1 a2 (x::xs).toArray _ n k _ _ _ _ zt (by rfl)) ⟨k1,k2,q.tok b (by rw[zJ];exact ra)⟩
  |cons y ys=>
   refine concat_meets ⟨_,k1,rfl⟩ ⟨_,k2,rfl⟩ noFill_tuple_add seq_tuple_add PySem.F.slot_tuple_add PySem.F.entry_tuple_add (PySem.F.args_tuple_add_2 _ _) (PyProof.Rows.tuple_addW2 a1 a2 (x::xs).toArray (y::ys).toArray n k _ _ _ _ zt zt (uR r1 r2 h)) ⟨k1,k2,?_⟩;rw[jl];exact q.push b rfl (wQ b (cm r1 r2) 0)
def CI(b:BAt W fr pa g J H s)(h:(aj l.length&&aj m.length)=true):cO W fr pa g J H s A E Q .Add xa xb (.tup l) (.tup m) (.tup (l++m)):=
 λra rb k=>by
  revert ra rb;intro ra;have ra':=ra;revert ra';apply fY ra;intro _ _ _ h1 r1;intro ra rb;have rb':=rb;revert rb';apply fY rb;intro _ _ _ h2 r2;intro rb;exact CH b (b.rel.sub _ _ h1) (b.rel.sub _ _ h2) r1 r2 ra rb h k
def CJ{va vb:V}(b:BAt W fr pa g J H s)(ea:va.res H=.lst l)(eb:vb.res H=.lst m)(h:(aj l.length&&aj m.length)=true):cO W fr pa g J H s A E Q .Add xa xb va vb (.lst (l++m)):=
 λra rb k=>by
  apply ce b ea ra;intro a1 _ n k1 r1;apply ce b eb rb;intro a2 _ j k2 r2;refine concat_meets ⟨_,k1,rfl⟩ ⟨_,k2,rfl⟩ noFill_list_add seq_list_add PySem.F.slot_list_add PySem.F.entry_list_add (PySem.F.args_list_add_2 _ _) (PyProof.Rows.list_addW a1 a2 _ _ n j _ _ _ _ (uR r1 r2 h)) ⟨k1,k2,?_⟩;rw[jl];exact k.push b rfl (iN b (cm r1 r2) 0)
def GO{c:Nat}{y:Int}(h:(aj c&&decide (0<=y)&&decide (y<=1000)&&decide (c<=1000))=true):0<=y/\y<2 ^ 62/\c<=1000/\c*y.toNat<=2 ^ 24:=by
 rw[zm,zm,zm,zN,zN,zN]at h;obtain⟨⟨⟨_,c1⟩,c2⟩,c3⟩:=h;have:y.toNat<=1000:=by lia
 exact⟨c1,by lia,c3,zT (Nat.mul_le_mul c3 this) (by decide)⟩
def CK(xs:List Value)(n:Nat):List.foldl (λx1 x2=>x1++x2) #[] (replicate (if xs.toArray.isEmpty=true then 0 else n) xs.toArray)=(sH xs n).toArray:=by
 cases xs with
 |nil=>rw[sI];rfl
 |cons x xs=>rw[if_neg (by simp),foldl_rep];simp
def CL{va:V}{y:Int}(b:BAt W fr pa g J H s)(ea:va.res H=.lst l)(h:(aj l.length&&decide (0<=y)&&decide (y<=1000)&&decide (l.length<=1000))=true):cO W fr pa g J H s A E Q .Mult xa xb va (.int y) (.lst (qk l y.toNat)):=
 λra rb k=>by
  apply ce b ea ra;intro a1 xs n k1 r1;apply ak rb;intro u;have lim:=GO h;rw[<-au r1,<-zW]at lim;refine wpAny_binaryOp_repeat_ref (T:= "list") (U:= "int") (by decide) ⟨_,k1,rfl⟩ (λs'=>typeIs_int s' y u) noFill_list_mul F.fills_int_mul F.slot_int_rmul repeat_list F.slot_int_index.lookup (call_meets F.slot_int_rmul (typeIs_int s y u) F.entry_int_rmul (F.args_int_rmul_2 _ _) (int___rmul___int_list y u a1 xs.toArray n) ⟨k1,rfl,⟨_,k1,rfl⟩,call_meets F.slot_list_mul ⟨_,k1,rfl⟩ F.entry_list_mul (F.args_list_mul_2 _ _) (AutoListH.list___mul___list_int_3 a1 xs.toArray n y u (by simp[Builtin.List.listFitsIndex];lia) (by lia) (by simp[Builtin.List.listTooLong,sizeLine];simp at lim;lia)) ⟨k1,?_⟩⟩);rw[CK];exact k.push b rfl (iN b (sJ r1 _) 0)
def QH{op:Operator}(b:BAt W fr pa g J H s)(e:aT H op va vb=some v):cO W fr pa g J H s A E Q op xa xb va vb v:=by
 injection op
 case Add=>
  exact jJ (H:=H) (m:=λva=>cO W fr pa g J H s A E Q .Add xa xb va vb v) e (λx e=>eE (H:=H) (m:=λvb=>cO W fr pa g J H s A E Q .Add xa xb (.int x) vb v) e λy e=>bc e λh e=>ae (m:=cO W fr pa g J H s A E Q .Add xa xb (.int x) _) e (CA b)) (λx e=>BP (H:=H) (m:=λvb=>cO W fr pa g J H s A E Q .Add xa xb (.str x) vb v) e λy e=>bc e λh e=>ae (m:=cO W fr pa g J H s A E Q .Add xa xb (.str x) _) e (CG b h)) (λx e=>BQ (H:=H) (m:=λvb=>cO W fr pa g J H s A E Q .Add xa xb (.tup x) vb v) e λy e=>bc e λh e=>ae (m:=cO W fr pa g J H s A E Q .Add xa xb (.tup x) _) e (CI b h)) (λx ea e=>mR e λy eb e=>bc e λh e=>ae (m:=cO W fr pa g J H s A E Q .Add xa xb va vb) e (CJ b ea eb h))
 case Mult=>
  exact jJ (H:=H) (m:=λva=>cO W fr pa g J H s A E Q .Mult xa xb va vb v) e (λx e=>eE (H:=H) (m:=λvb=>cO W fr pa g J H s A E Q .Mult xa xb (.int x) vb v) e λy e=>bc e λh e=>ae (m:=cO W fr pa g J H s A E Q .Mult xa xb (.int x) _) e (CC b h)) (λ_ h=>nn h) (λ_ h=>nn h) (λx ea e=>eE (H:=H) (m:=λvb=>cO W fr pa g J H s A E Q .Mult xa xb va vb v) e λy e=>bc e λh e=>ae (m:=cO W fr pa g J H s A E Q .Mult xa xb va _) e (CL b ea h))
 case Sub=>exact eE (H:=H) (m:=λva=>cO W fr pa g J H s A E Q .Sub xa xb va vb v) e λx e=>eE (H:=H) (m:=λvb=>cO W fr pa g J H s A E Q .Sub xa xb (.int x) vb v) e λy e=>bc e λh e=>ae (m:=cO W fr pa g J H s A E Q .Sub xa xb (.int x) _) e (CB b)
 case FloorDiv=>exact eE (H:=H) (m:=λva=>cO W fr pa g J H s A E Q .FloorDiv xa xb va vb v) e λx e=>eE (H:=H) (m:=λvb=>cO W fr pa g J H s A E Q .FloorDiv xa xb (.int x) vb v) e λy e=>bc e λh e=>ae (m:=cO W fr pa g J H s A E Q .FloorDiv xa xb (.int x) _) e (CD b h)
 case Mod=>exact eE (H:=H) (m:=λva=>cO W fr pa g J H s A E Q .Mod xa xb va vb v) e λx e=>eE (H:=H) (m:=λvb=>cO W fr pa g J H s A E Q .Mod xa xb (.int x) vb v) e λy e=>bc e λh e=>ae (m:=cO W fr pa g J H s A E Q .Mod xa xb (.int x) _) e (CE b h)
 case Pow=>exact eE (H:=H) (m:=λva=>cO W fr pa g J H s A E Q .Pow xa xb va vb v) e λx e=>eE (H:=H) (m:=λvb=>cO W fr pa g J H s A E Q .Pow xa xb (.int x) vb v) e λy e=>bc e λh e=>ae (m:=cO W fr pa g J H s A E Q .Pow xa xb (.int x) _) e (CF b h)
 all_goals exact nn e
end
def LH{op:Operator}(b:BAt W fr pa g J H s)(e:aT H op va vb=some v)(ra:ay W.P g J va xa)(rb:ay W.P g J vb xb)(k:Gives W fr pa g J H s v H Q):wpAny W.M A (binaryOp op xa xb) Q E s:=QH b e ra rb k
end
mutual
noncomputable def mc:V->PyData
 |.int i=>.int i
 |.str s=>.str (aH s)
 |.tup vs=>.tuple (fZ vs)
 |.lst vs=>.list (fZ vs)
 |.undef=>.none | .none=>.none | .bool _=>.none | .obj _ _=>.none | .ref _=>.none | .base _=>.none | .dct _ _=>.none | .rng _ _ _=>.none | .blt _=>.none | .ty _=>.none | .exn _ _=>.none
noncomputable def fZ:List V->List PyData
 |[]=>[]
 |v::vs=>mc v::fZ vs
end
theorem LI:fZ []=([]):=rfl
theorem UC:fZ (v::vs)=(mc v::fZ vs):=rfl
def UD{a b:Bool}(h:a=true)(k:b=true):(a&&b)=true:=by rw[h,k];rfl
def eu{v:V}{n:Nat}(h:V.plains n (v::vs)=true):v.plain n=true/\V.plains n vs=true:=(zm _ _).mp h
section
variable{P:Params}{h:Heap}
def fg{n:Nat}{v:V}{vs:List V}(h:V.plains n vs=true)(m:v∈vs):v.plain n=true:=by
 induction vs with
 |nil=>injection m
 |cons a l ih=>
  rcases zZ.mp m with rfl | m
  .exact (eu h).1
  .exact ih (eu h).2 m
def qy{m:Nat->V->Prop}(hn:∀n,m n .none)(hi:∀n i,m n (.int i))(hs:∀n s,V.plain n (.str s)=true->m n (.str s))(ht:∀n vs,V.plains n vs=true->(∀v∈vs,m n v)->m (n+1) (.tup vs))(hl:∀n vs,V.plains n vs=true->(∀v∈vs,m n v)->m (n+1) (.lst vs)){n:Nat}:∀{v:V},v.plain n=true->m n v:=by
 induction n with
 |zero=>
  intro v h
  cases v with
  |none=>exact hn _
  |int i=>exact hi _ _
  |str s=>exact hs _ _ h
  |_=>exact ff h
 |succ n ih=>
  intro v h
  cases v with
  |none=>exact hn _
  |int i=>exact hi _ _
  |str s=>exact hs _ _ h
  |tup vs=>exact ht n vs h λv q=>ih (fg h q)
  |lst vs=>exact hl n vs h λv q=>ih (fg h q)
  |_=>exact ff h
def qz{vs:List V}(ih:∀v∈vs,∀x,ay P g J v x->∃as,Reads h x (mc v) as):∀{xs:List Value},ah P g J vs xs->∃as,ReadsAll h xs (fZ vs) as:=by
 induction vs with
 |nil=>
  intro xs r;obtain rfl:=r;exact⟨_,.nil⟩
 |cons v vs i2=>
  intro xs r;obtain⟨y,ys,rfl,h1,h2⟩:=r;obtain⟨as,p⟩:=ih v zw _ h1;obtain⟨bs,q⟩:=i2 (λw m=>ih w (zx _ m)) h2;exact⟨_,.cons p q⟩
def cn(hg:∀a o,g a=some o->h.get? a=some o){v:V}{x:Value}(n:Nat)(r:ay P g J v x)(hp:v.plain n=true):∃as,Reads h x (mc v) as:=by
 refine qy (m:=λn v=>∀x,ay P g J v x->∃as,Reads h x (mc v) as) (λ_ _ r=>?_) (λ_ i _ r=>?_) (λ_ s _ _ r=>?_) (λ_ vs _ ih _ r=>?_) (λ_ vs _ ih _ r=>?_) hp x r
 .obtain rfl:=r;exact⟨_,.none⟩
 .obtain⟨t,rfl⟩:=r;exact⟨_,.int i t⟩
 .obtain⟨t,rfl⟩:=r;exact⟨_,.str _ t⟩
 .obtain⟨a,xs,m,rfl,ha,hr⟩:=r
  obtain⟨as,q⟩:=qz ih hr;exact⟨as,.tuple (hg _ _ ha) rfl rfl (by simpa using q)⟩
 .obtain⟨a,xs,m,rfl,ha,hr⟩:=r
  obtain⟨as,q⟩:=qz ih hr;exact⟨_,.list (hg _ _ ha) rfl rfl (by simpa using q)⟩
def jQ(hg:∀a o,g a=some o->h.get? a=some o)(n:Nat)(r:ah P g J vs xs)(hp:V.plains n vs=true):∃as,ReadsAll h xs (fZ vs) as:=qz (λ_ m _ r=>cn hg n r (fg hp m)) r
end
def LJ{s:List Nat}(hp:(s.all (· < 0x110000))=true):(PyData.str (aH s)).canLay0=true:=by
 simp at hp;simp[PyData.canLay0,PyData.strOk];exact hp
def sK{n:Nat}{vs:List V}(ih:∀v∈vs,(mc v).canLay0=true/\(mc v).depth<=n):PyData.canLayAll0 (fZ vs)=true/\PyData.depthAll (fZ vs)<=n:=by
 induction vs with
 |nil=>simp[LI,PyData.canLayAll0,PyData.depthAll]
 |cons v vs i2=>
  have p:=ih v zw;have q:=i2 λw m=>ih w (zx _ m);exact⟨UD p.1 q.1,Nat.max_le.mpr ⟨p.2,q.2⟩⟩
def dF{v:V}{n:Nat}(h:v.plain n=true):(mc v).canLay0=true/\(mc v).depth<=n:=
 qy (m:=λn v=>(mc v).canLay0=true/\(mc v).depth<=n) (λ_=>⟨rfl,zero_le _⟩) (λ_ _=>⟨rfl,zero_le _⟩) (λ_ _ hp=>⟨LJ hp,zero_le _⟩) (λ_ _ _ ih=>⟨(sK ih).1,Nat.add_le_add_right (sK ih).2 1⟩) (λ_ _ _ ih=>⟨(sK ih).1,Nat.add_le_add_right (sK ih).2 1⟩) h
def jm{n:Nat}(h:V.plains n vs=true):PyData.canLayAll0 (fZ vs)=true/\PyData.depthAll (fZ vs)<=n:=sK λ_ m=>dF (fg h m)
def wU{a b:List Nat}:aH a=aH b↔a=b:=by
 constructor
 .intro h;have:=zi (λs=>s.cps.toList) h;simpa using this
 .rintro rfl;rfl
def wV{a b:List Nat}:(aH a==aH b)=decide (a=b):=by
 by_cases h:a=b
 .rw[h,beq_self_eq_true,zb rfl]
 .rw[za h];exact zE.mpr λq=>h (wU.mp q)
def CM{as:List V}{m:Nat}(ih:∀a∈as,∀b m,b.plain m=true->PyData.eqv (mc a) (mc b)=V.eqb a b):∀{bs:List V},V.plains m bs=true->PyData.eqvAll (fZ as) (fZ bs)=V.eqbs as bs:=by
 induction as with
 |nil=>
  intro bs _
  cases bs<;>rfl
 |cons a as i2=>
  intro bs hb
  cases bs with
  |nil=>rfl
  |cons b bs=>exact congr (zi and (ih a zw b m (eu hb).1)) (i2 (λw q=>ih w (zx _ q)) (eu hb).2)
def gb{a b:V}{n m:Nat}(ha:a.plain n=true)(hb:b.plain m=true):PyData.eqv (mc a) (mc b)=V.eqb a b:=by
 refine qy (m:=λn a=>∀b m,b.plain m=true->PyData.eqv (mc a) (mc b)=V.eqb a b) (λ_ b m hb=>?_) (λ_ i b m hb=>?_) (λ_ s _ b m hb=>?_) (λ_ vs _ ih b m hb=>?_) (λ_ vs _ ih b m hb=>?_) ha b m hb
 .cases b<;>first | rfl | exact ff hb
 .cases b<;>first | rfl | exact ff hb
 .cases b<;>first | exact wV | rfl | exact ff hb
 .cases b
  case tup ws=>cases m with
   |zero=>exact ff hb
   |succ m=>exact CM ih hb
  all_goals first | rfl | exact ff hb
 .cases b
  case lst ws=>cases m with
   |zero=>exact ff hb
   |succ m=>exact CM ih hb
  all_goals first | rfl | exact ff hb
def LK{n m:Nat}(ha:V.plains n as=true)(hb:V.plains m bs=true):PyData.eqvAll (fZ as) (fZ bs)=V.eqbs as bs:=CM (λ_ q _ _ hb=>gb (fg ha q) hb) hb
def nr{a:V}{n m:Nat}(ha:a.plain m=true):∀{vs:List V},V.plains n vs=true->((fZ vs).any λy=>PyData.eqv y (mc a))=vs.any λy=>V.eqb y a
 |[],_=>rfl
 |v::vs,h=>by
  exact congr (zi or (gb (eu h).1 ha)) (nr ha (eu h).2)
section
variable{s:Shared}{d:Nat}
def iO{v:V}{x:Value}(b:BAt W fr pa g J H s)(r:ay W.P g J v x){n:Nat}(hp:(v.res H).plain n=true):∃as,Reads s.heap x (mc (v.res H)) as:=by
 injection v
 case ref k=>
  rcases mQ H k with q |⟨vs,q⟩<;>rw[q]at hp ⊢
  .exact ff hp
  .obtain⟨a,xs,m,rfl,h1,h2⟩:=mn b q r
   cases n with
   |zero=>exact ff hp
   |succ n=>
    obtain⟨as,q⟩:=jQ b.rel.sub n h2 hp;exact⟨_,.list h1 rfl rfl (by simpa using q)⟩
 all_goals exact cn b.rel.sub n r hp
def eO{v:V}(h:v.plain 60=true):SeqAt.shaped (mc v)=true:=by
 have q:=dF h;unfold SeqAt.shaped;rw[q.1,Bool.true_and];exact zb (zT q.2 (by decide))
def GP{r:Bool}(e:mj a b=some r):∃v l,a=.lst (v::l)/\b=.lst []/\r=false:=by
 injection a
 case lst l=>cases l with
  |nil=>exact nn e
  |cons v l=>
   injection b
   case lst m=>cases m with
    |nil=>exact ae (m:=λr=>∃v' l',V.lst (v::l)=.lst (v'::l')/\V.lst []=.lst []/\r=false) e ⟨v,l,rfl,rfl,rfl⟩
    |cons _ _=>exact nn e
   all_goals exact nn e
 all_goals exact nn e
def lP{va vb:V}{r:Bool}(b:BAt W fr pa g J H s)(e:mj (va.res H) (vb.res H)=some r)(ra:ay W.P g J va xa)(rb:ay W.P g J vb xb):r=false/\∃(p q:Addr) (i j:Array Value),xa=.ref p/\xb=.ref q/\s.heap.IsList p i/\s.heap.IsList q j/\(i.size != j.size)=true:=by
 obtain⟨v,l,ea,eb,rfl⟩:=GP e;obtain⟨a,xs,m,rfl,h1,h2⟩:=mn b ea ra;obtain⟨a',XY,m',rfl,h1',W5⟩:=mn b eb rb;refine⟨rfl,a,a',_,_,rfl,rfl,⟨_,h1,rfl,_,rfl⟩,⟨_,h1',rfl,_,rfl⟩,?_⟩;rw[zW,zW,au h2,au W5]
 rfl
def QI{r:Bool}(b:BAt W fr pa g J H s)(hu:A.units+64<cLine)(e:Gb H va vb=some r)(ra:ay W.P g J va xa)(rb:ay W.P g J vb xb)(k:Q (.bool r) s):wpAny W.M A (compareOp .Eq xa xb) Q E s:=by
 unfold Gb at e;split at e
 .rename_i hc
  injection e;rw[zm]at hc;obtain⟨as,p⟩:=iO b ra hc.1;obtain⟨bs,q⟩:=iO b rb hc.2;exact eq_dataH p q (eO hc.1) (eO hc.2) hu (by rw[gb hc.1 hc.2];exact k)
 .obtain⟨rfl,_,_,_,_,rfl,rfl,l1,l2,hs⟩:=lP b e ra rb
  exact SeqAt.eq_list_lengthsAt l1 l2 hs (by lia) k
def QJ{r:Bool}(b:BAt W fr pa g J H s)(hu:A.units+64<cLine)(e:Gb H va vb=some r)(ra:ay W.P g J va xa)(rb:ay W.P g J vb xb)(k:Q (.bool !r) s):wpAny W.M A (compareOp .NotEq xa xb) Q E s:=by
 unfold Gb at e;split at e
 .rename_i hc
  injection e;rw[zm]at hc;obtain⟨as,p⟩:=iO b ra hc.1;obtain⟨bs,q⟩:=iO b rb hc.2;exact ne_dataH p q (eO hc.1) (eO hc.2) hu (by rw[gb hc.1 hc.2];exact k)
 .obtain⟨rfl,_,_,_,_,rfl,rfl,l1,l2,hs⟩:=lP b e ra rb
  exact SeqAt.RcNeAt.lists_lengths l1 l2 hs (by lia) _ _ _ _ k
def GQ{n:Nat}{c:Nat}{p:Addr×Addr}(b:BAt W fr pa g J H s)(e1:H[n]?=some (.inst c fs))(e2:J[n]?=some p):g p.1=none/\∃o,s.heap.get? p.1=some o/\o.cls=.ref c:=by
 refine⟨b.rel.own p.1 (cW.mpr ⟨n,p,_,e2,e1,by simp[bT]⟩),?_⟩;obtain⟨es,m,h1,_⟩:=b.rel.obj n _ p e1 e2;exact⟨_,h1,rfl⟩
noncomputable def xk:Value->Nat
 |.none=>0
 |.bool _=>1
 |.int _ _=>2
 |.str _ _=>3
 |.ref _=>4
 |.builtin _=>5
 |.type _=>6
 |_=>8
def vk:V->Nat
 |.none=>0
 |.bool _=>1
 |.int _=>2
 |.str _=>3
 |.blt _=>5
 |.ty _=>6
 |.undef=>7
 |_=>4
def CN{x:Value}(r:ay P g J v x):xk x=vk v:=by
 cases v with
 |undef=>exact r.elim
 |none=>exact zi xk r
 |bool _=>exact zi xk r
 |blt _=>exact zi xk r
 |ty _=>exact zi xk r
 |int _=>obtain⟨_,e⟩:=aO.mp r;exact zi xk e
 |str _=>obtain⟨_,e⟩:=bG.mp r;exact zi xk e
 |tup _=>obtain⟨_,_,_,e,_⟩:=cV.mp r;exact zi xk e
 |lst _=>obtain⟨_,_,_,e,_⟩:=cL.mp r;exact zi xk e
 |obj _ _=>obtain⟨_,_,_,_,e,_⟩:=(fJ.mp r).2;exact zi xk e
 |ref _=>obtain⟨_,_,e⟩:=bV.mp r;exact zi xk e
 |base _=>exact zi xk (iJ.mp r).1
 |dct _ _=>obtain⟨_,_,_,e,_⟩:=gy.mp r;exact zi xk e
 |rng _ _ _=>obtain⟨_,_,_,_,e,_⟩:=r;exact zi xk e
 |exn _ _=>obtain⟨_,_,_,_,_,_,e,_⟩:=iK.mp r;exact zi xk e
def jR{x:Value}(r:ay W.P g J v x)(h:v≠.none):x≠.none:=λq=>by
 have e:=(zi xk q).symm.trans (CN r)
 induction v using V.casesOn<;>first | exact h rfl | exact absurd e (Nat.ne_of_beq_eq_false rfl)
def lQ{x:Value}(r:ay W.P g J v x)(h:∀t,v≠.blt t):∀i,x≠.builtin i:=λi q=>by
 have e:=(zi xk q).symm.trans (CN r)
 induction v using V.casesOn<;>first | exact h _ rfl | exact absurd e (Nat.ne_of_beq_eq_false rfl)
def nu{x:Value}(h:∀i,x≠.builtin i):plainIs .none x=true:=by induction x using Value.casesOn<;>first | rfl | exact absurd rfl (h _)
def ny{x:Value}(h:∀i,x≠.builtin i):plainIs x .none=true:=by induction x using Value.casesOn<;>first | rfl | exact absurd rfl (h _)
def cM(W:Wd)(fr:List Env)(pa:List Addr)(g:IH)(J:cy)(H:Hp)(s:Shared)(A:Around)(E:QP)(xa xb:Value)(va vb:V)(r:Bool):Prop:=
 ay W.P g J va xa->ay W.P g J vb xb->∀R:Bool->Shared->Prop,R r s->wpAny W.M A (isSame xa xb) R E s
section
variable{xa xb:Value}{va vb:V}
def kQ{x y:Addr}{ox:Obj}{R:Bool->Shared->Prop}(h1:x≠y)(h2:s.heap.get? x=some ox)(h3:s.heap.get? y=some oy)(h4:ox.cls≠.type "tuple")(k:R false s):wpAny W.M A (isSame (.ref x) (.ref y)) R E s:=
 wpAny_isSame_ref_other h1 h2 h3 h4 k
def GR:cM W fr pa g J H s A E xa xb .none .none true:=λra rb R k=>by
 cases dg.mp ra;cases dg.mp rb;exact wpAny_isSame_plain rfl k
def GS(n1:vb≠.none)(n2:∀t,vb≠.blt t):cM W fr pa g J H s A E xa xb .none vb false:=λra rb R k=>by
 cases dg.mp ra
 refine wpAny_isSame_plain (nu (lQ rb n2)) ?_;rw[zE.mpr (jR rb n1).symm];exact k
def GT(n1:va≠.none)(n2:∀t,va≠.blt t):cM W fr pa g J H s A E xa xb va .none false:=λra rb R k=>by
 cases dg.mp rb
 refine wpAny_isSame_plain (ny (lQ ra n2)) ?_;rw[zE.mpr (jR ra n1)];exact k
def ie{a:Nat}{x:Value}(r:ay P g J (.base a) x):x=.ref a/\∃o,g a=some o/\o.cls≠.type "tuple" := r
def GU{a c:Nat}(b:BAt W fr pa g J H s):cM W fr pa g J H s A E xa xb (.base a) (.base c) (decide (a=c)):=λra rb R k=>by
 obtain⟨rfl,o,ho,hn⟩:=ie ra;obtain⟨rfl,o',KA,oU⟩:=ie rb
 by_cases h:a=c
 .rw[zb h]at k;rw[h];exact wpAny_isSame_ref_self k
 .rw[za h]at k;exact kQ h (b.rel.sub _ _ ho) (b.rel.sub _ _ KA) hn k
def qA{a:Nat}(hp:∀c,plainIs xa (.ref c)=true/\(xa==.ref c)=false):cM W fr pa g J H s A E xa xb va (.base a) false:=λra rb R k=>by
 obtain⟨rfl,_⟩:=ie rb;exact wpAny_isSame_plain (hp _).1 (by rw[(hp _).2];exact k)
def GV{a:Nat}:cM W fr pa g J H s A E xa xb (.ref a) (.ref a) true:=λra rb R k=>by
 obtain⟨p,hp,rfl⟩:=bV.mp ra;obtain⟨q,hq,rfl⟩:=bV.mp rb;rw[hp]at hq;injection hq;exact wpAny_isSame_ref_self k
def GW{n a c:Nat}(b:BAt W fr pa g J H s)(hH:H[n]?=some (.inst c fs)):cM W fr pa g J H s A E xa xb (.ref n) (.base a) false:=λra rb R k=>by
 obtain⟨p,hp,rfl⟩:=bV.mp ra;obtain⟨rfl,o',KA,oU⟩:=ie rb;obtain⟨q1,o,q2,q3⟩:=GQ b hH hp;exact kQ (λq=>by rw[q,KA]at q1;injection q1) q2 (b.rel.sub _ _ KA) (by rw[q3];exact λh=>Value.noConfusion h) k
def GX{c y:Nat}(b:BAt W fr pa g J H s)(h:¬(decide (c=38) || !(y==44||y==47))=true):cM W fr pa g J H s A E xa xb (.obj c fs) (.base y) false:=λra rb R k=>by
 simp only[or_eq_true,decide_eq_true_eq,not_eq_true',Bool.or_eq_false_iff,not_or,beq_iff_eq,beq_eq_false_iff_ne,not_and,ne_eq,Decidable.not_not]at h;obtain⟨_,a,dd,es,n,rfl,h1,_⟩:=ra;obtain⟨rfl,o',KA,oU⟩:=ie rb;obtain⟨o2,od,w⟩:=b.top.emp y (by by_cases q:y=44;exact .inl q;exact .inr (h.2 q));refine kQ (λq=>?_) (b.rel.sub _ _ h1) (b.rel.sub _ _ KA) (λh=>Value.noConfusion h) k;have w3:=(b.bas _ _ w.at_).symm.trans (q▸h1);injection w3;exact h.1 (Value.ref.inj w.cls)
def LL{r:Bool}(b:BAt W fr pa g J H s)(e:mN H va vb=some r)(ra:ay W.P g J va xa):cM W fr pa g J H s A E xa xb va vb r:=by
 have G0:=λn1 n2=>GT (W:=W) (fr:=fr) (pa:=pa) (g:=g) (J:=J) (H:=H) (s:=s) (A:=A) (E:=E) (xa:=xa) (xb:=xb) (va:=va) n1 n2;injection va
 case undef=>exact nn e
 case blt=>exact nn e
 case none=>exact uH (m:=cM W fr pa g J H s A E xa xb .none) e GR GS
 case base a=>exact eZ (m:=cM W fr pa g J H s A E xa xb (.base a)) e (G0 (λh=>V.noConfusion h) (λ_ h=>V.noConfusion h)) λc e=>ae (m:=cM W fr pa g J H s A E xa xb (.base a) (.base c)) e (GU b)
 case obj c fs=>
  refine eZ (m:=cM W fr pa g J H s A E xa xb (.obj c fs)) e (G0 (λh=>V.noConfusion h) (λ_ h=>V.noConfusion h)) λy e=>?_;split at e
  .exact nn e
  .rename_i h
   exact ae (m:=cM W fr pa g J H s A E xa xb (.obj c fs) (.base y)) e (GX b h)
 case str l=>exact eZ (m:=cM W fr pa g J H s A E xa xb (.str l)) e (G0 (λh=>V.noConfusion h) (λ_ h=>V.noConfusion h)) λc e=>ae (m:=cM W fr pa g J H s A E xa xb (.str l) (.base c)) e (qA (by obtain⟨t,rfl⟩:=bG.mp ra;exact λ_=>⟨rfl,rfl⟩))
 case int l=>exact eZ (m:=cM W fr pa g J H s A E xa xb (.int l)) e (G0 (λh=>V.noConfusion h) (λ_ h=>V.noConfusion h)) λc e=>ae (m:=cM W fr pa g J H s A E xa xb (.int l) (.base c)) e (qA (by obtain⟨t,rfl⟩:=aO.mp ra;exact λ_=>⟨rfl,rfl⟩))
 case bool l=>exact eZ (m:=cM W fr pa g J H s A E xa xb (.bool l)) e (G0 (λh=>V.noConfusion h) (λ_ h=>V.noConfusion h)) λc e=>ae (m:=cM W fr pa g J H s A E xa xb (.bool l) (.base c)) e (qA (by obtain rfl:=dL.mp ra;exact λ_=>⟨rfl,rfl⟩))
 case ref n=>
  injection vb
  case none=>exact ae (m:=cM W fr pa g J H s A E xa xb (.ref n) .none) e (G0 (λh=>V.noConfusion h) (λ_ h=>V.noConfusion h))
  case ref c=>
   by_cases h:n=c
   .injection h;exact ae (m:=cM W fr pa g J H s A E xa xb (.ref n) (.ref n)) ((if_pos rfl).symm.trans e) GV
   .exact nn ((if_neg h).symm.trans e)
  case base c=>
   revert e;show H[n]?.elim none JQ=_->_
   cases hH:H[n]? with
   |none=>exact λe=>nn e
   |some o=>induction o using O.casesOn<;>intro e<;>first | exact nn e | exact ae (m:=cM W fr pa g J H s A E xa xb (.ref n) (.base c)) e (GW b hH)
  all_goals exact nn e
 all_goals exact BR (m:=cM W fr pa g J H s A E xa xb _) e (G0 (λh=>V.noConfusion h) (λ_ h=>V.noConfusion h))
end
def wW{r:Bool}(b:BAt W fr pa g J H s)(e:mN H va vb=some r)(ra:ay W.P g J va xa)(rb:ay W.P g J vb xb){R:Bool->Shared->Prop}(k:R r s):wpAny W.M A (isSame xa xb) R E s:=
 LL b e ra ra rb R k
end
def eT{k k':List Nat}:(Value.str (aH k) t).isStr (aH k')=decide (k=k'):=wV
def GY(P:Params)(g:IH)(J:cy)(k:List Nat)(ks:List (List Nat))(es:List DictEntry):Option V->Prop
 |some v=>ks.contains k=true/\∃i e,es.findIdx? (λe=>e.key.isStr (aH k))=some i/\es[i]?=some e/\ay P g J v e.val
 |none=>ks.contains k=false/\es.findIdx? (λe=>e.key.isStr (aH k))=none
def nz{k:List Nat}:∀{vs:List V} {es:List DictEntry},aN P ks es->ah P g J vs (es.map (·.val))->GY P g J k ks es (dictGet ks vs k):=by
 induction ks with
 |nil=>
  intro vs es h r
  cases es with
  |nil=>exact⟨rfl,rfl⟩
  |cons _ _=>exact False.elim h
 |cons a ks ih=>
  intro vs es h r
  cases es with
  |nil=>exact False.elim h
  |cons e es=>
   obtain⟨h,hk⟩:=h;obtain⟨t,he,_⟩:=h
   cases vs with
   |nil=>exact nomatch aB.mp r
   |cons v vs=>
    obtain⟨y,ys,q,r1,r2⟩:=ad.mp r;have q1:e.val=y:=(List.cons.inj q).1;have q2:es.map (·.val)=ys:=(List.cons.inj q).2;subst q1 q2;have hs:e.key.isStr (aH k)=decide (a=k):=by rw[he,eT]
    by_cases c:a=k
    .have d:dictGet (a::ks) (v::vs) k=some v:=if_pos c
     rw[d];exact⟨by simp[c],0,e,by rw[findIdx?_cons,hs,zb c];rfl,rfl,r1⟩
    .have d:dictGet (a::ks) (v::vs) k=dictGet ks vs k:=if_neg c
     have hf:(e::es).findIdx? (λe=>e.key.isStr (aH k))=(es.findIdx? (λe=>e.key.isStr (aH k))).map (· + 1):=by
      rw[findIdx?_cons,hs,za c];rfl
     have c':(k==a)=false:=zE.mpr (z6 c);have hc:(a::ks).contains k=ks.contains k:=by rw[contains_cons,c',Bool.false_or]
     rw[d];have ih:=ih hk r2
     cases hd:dictGet ks vs k with
     |some w=>
      rw[hd]at ih;obtain⟨m,ih⟩:=ih;obtain⟨i,e',h1,h2,h3⟩:=ih;exact⟨hc.trans m,i+1,e',by rw[hf,h1];rfl,h2,h3⟩
     |none=>
      rw[hd]at ih;exact⟨hc.trans ih.1,by rw[hf,ih.2];rfl⟩
def du:∀{es:List DictEntry},aN P ks es->(es.all λe=>isExactStrKey e.key)=true:=by
 induction ks with
 |nil=>
  intro l2
  cases l2 with
  |nil=>
   intro _;exact rfl
  |cons _ _=>
   intro h;exact False.elim h
 |cons a ks ih=>
  intro l2
  cases l2 with
  |nil=>
   intro h;exact False.elim h
  |cons e es=>
   intro h;obtain⟨⟨t,h1,h2⟩,h3⟩:=h;rw[all_cons,ih h3,h1];rfl
section
variable{prog:Program}{w:World}{s:Shared}{a:Addr}{es:List DictEntry}{n:Nat}{k:List Nat}{tk:Tok}
def qB{Q:Option Value->Shared->Prop}(ho:s.heap.get? a=some (aA es n))(rS:(es.all λe=>isExactStrKey e.key)=true)(h:match es.findIdx? (λe=>e.key.isStr (aH k))with | some i=>Q ((es[i]?).map (·.val)) { s with toks:=s.toks+1 } | none=>Q none { s with toks:=s.toks+1 }):wpAny (model prog w) A (PySem.dictGet a (.str (aH k) tk)) Q E s:=by
 unfold PySem.dictGet
 try with_reducible refine zQ ?_
 refine zy (wpAny_pyHash_str (zy (KTD.kt_dictFind_strs (s:={ s with toks:=s.toks+1 }) ho rfl (by simpa using rS) ?_)));have ef:(es.toArray.findIdx? λe=>e.key.isStr (aH k))=es.findIdx? (λe=>e.key.isStr (aH k)):=by simp
 rw[ef]
 cases hi:es.findIdx? (λe=>e.key.isStr (aH k))with
 |none=>rw[hi]at h;exact zq h
 |some i=>rw[hi]at h;exact zy (wpAny_dictEntries (s:={ s with toks:=s.toks+1 }) ho rfl (zq (by simpa using h)))
def bE(ho:s.heap.get? a=some (aA es n)):s.TypeIs (.ref a) "dict" :=⟨_,ho,rfl⟩
def in_dict{Q:Bool->Shared->Prop}(ns:a≠sysModules)(ho:s.heap.get? a=some (aA es n))(rS:(es.all λe=>isExactStrKey e.key)=true)(h:Q (es.findIdx? (λe=>e.key.isStr (aH k))).isSome { s with toks:=s.toks+1 }):wpAny (model prog w) A (contains (.ref a) (.str (aH k) tk)) Q E s:=by
 unfold contains
 try with_reducible refine zQ ?_
 refine zy (wpAny_specialOf (bE ho) slot_dict_contains.lookup ?_);show wpAny _ _ (if (some (Value.builtin "dict.__contains__")==some Value.none)=true then _ else _) _ E s;rw[if_neg (by rw[beq_builtin_none];exact zt)];refine zy (wpAny_callSpecialUnlessNone?_slot (name:=Str.ofString "__contains__") (bE ho) slot_dict_contains (wpAny_call_entry slot_dict_contains (bE ho) entry_dict_contains ?_ (args_dict_contains _ _)));show wpAny _ _ (PySem.dictGet a (.str (aH k) tk)>>=_) _ _ s;refine zy (qB ho rS ?_)
 cases hi:es.findIdx? (λe=>e.key.isStr (aH k))with
 |some i=>
  rw[hi]at h;obtain⟨hl,_⟩:=List.findIdx?_eq_some_iff_getElem.mp hi;dsimp only;rw[zo hl];show wpAny _ _ (ret (.bool true)) _ _ _;exact zq ⟨_,rfl,z9 h⟩
 |none=>
  rw[hi]at h;show wpAny _ _ (Builtin.Dict.pendingKey? a (.str (aH k) tk)>>=_) _ _ _;exact zy (wpAny_pendingKey_other (zE.mpr ns) (zq ⟨_,rfl,z9 h⟩))
def yI{dflt:Value}(ns:a≠sysModules)(ho:s.heap.get? a=some (aA es n))(rS:(es.all λe=>isExactStrKey e.key)=true)(h:Q (match es.findIdx? (λe=>e.key.isStr (aH k))with | some i=>((es[i]?).map (·.val)).getD dflt | none=>dflt) { s with toks:=s.toks+1 }):wpAny (model prog w) A (call (.builtin "dict.get") [.ref a,.str (aH k) tk,dflt]) Q E s:=by
 have M:MeetsIn prog w (Builtin.«dict.get» ⟨[.ref a,.str (aH k) tk,dflt],[]⟩) (λ_ R s=>s.heap.get? a=some (aA es n)/\R (.ok (.ret (match es.findIdx? (λe=>e.key.isStr (aH k))with | some i=>((es[i]?).map (·.val)).getD dflt | none=>dflt))) { s with toks:=s.toks+1 }):=
  .of_wp λA R s ⟨T,h1⟩=>by
   show wpAny _ _ (PySem.dictGet a (.str (aH k) tk)>>=_) _ _ s;refine zy (qB T rS ?_)
   cases hi:es.findIdx? (λe=>e.key.isStr (aH k))with
   |some i=>
    rw[hi]at h1;obtain⟨hl,_⟩:=List.findIdx?_eq_some_iff_getElem.mp hi;dsimp only at h1 ⊢;rw[zo hl]at h1 ⊢;exact zq ⟨_,rfl,h1⟩
   |none=>
    rw[hi]at h1;show wpAny _ _ (Builtin.Dict.missed a (.str (aH k) tk)>>=_) _ _ _;exact zy (wpAny_missed_other (zE.mpr ns) (zq ⟨dflt,rfl,h1⟩))
 exact call_meetsIn PySem.F.slot_dict_get (bE ho) PySem.F.entry_dict_get (PySem.F.args_dict_get_3 _ _ _) M ⟨ho,h⟩
end
section
variable{s:Shared}{d:Nat}
def CO(W:Wd)(g:IH)(J:cy)(s:Shared)(A:Around)(E Q:QP)(xa xb:Value)(va vb:V)(r:Bool):Prop:=
 ay W.P g J va xa->ay W.P g J vb xb->(∀t,Q (.bool r) { s with toks:=t })->wpAny W.M A (compareOp .In xa xb) Q E s
section
variable{xa xb:Value}
def GZ{c:Nat}{l:List Nat}:CO W g J s A E Q xa xb (.str [c]) (.str l) (decide (c∈l)):=λra rb k=>by
 apply az ra;intro _;apply az rb;intro _;refine P.in_str ?_;rw[show aH [_]=(⟨#[_]⟩:Str)from rfl,StrLaws.found_one];simpa using k s.toks
def sL{va:V}(h1:V.plains 60 vs=true)(h2:va.plain 60=true)(hu:A.units+100<cLine):A.units+1+min (PyData.depthAll (fZ vs)) (mc va).depth<cLine:=by
 have:=zT (Nat.min_le_right (PyData.depthAll (fZ vs)) (mc va).depth) (dF h2).2
 omega
def G1{va:V}{vs:List V}(b:BAt W fr pa g J H s)(hu:A.units+100<cLine)(c1:va.plain 60=true)(c2:V.plains 60 vs=true):CO W g J s A E Q xa xb va (.lst vs) (vs.any λy=>V.eqb y va):=λra rb k=>by
 obtain⟨as,p⟩:=cn b.rel.sub 61 rb c2;obtain⟨bs,q⟩:=cn b.rel.sub 60 ra c1;exact SeqAt.in_list_reads p q (jm c2).1 (dF c1).1 (sL c2 c1 hu) (by rw[nr c1 c2];exact k s.toks)
def LM{va:V}{vs:List V}(b:BAt W fr pa g J H s)(hu:A.units+100<cLine)(c1:va.plain 60=true)(c2:V.plains 60 vs=true):CO W g J s A E Q xa xb va (.tup vs) (vs.any λy=>V.eqb y va):=λra rb k=>by
 obtain⟨as,p⟩:=cn b.rel.sub 61 rb c2;obtain⟨bs,q⟩:=cn b.rel.sub 60 ra c1;exact SeqAt.in_tuple_reads p q (jm c2).1 (dF c1).1 (sL c2 c1 hu) (by rw[nr c1 c2];exact k s.toks)
def in_tab{l:List Nat}{ks:List (List Nat)}(b:BAt W fr pa g J H s):CO W g J s A E Q xa xb (.str l) (.dct ks vs) (ks.contains l):=λra rb k=>by
 apply az ra;intro _;obtain⟨a,es,n,rfl,ns,h1,h2,h3⟩:=rb;refine zy (in_dict ns (b.rel.sub _ _ h1) (du h2) (zq ?_));have q:=nz (k:=l) h2 h3
 cases hd:dictGet ks vs l with
 |some v=>rw[hd]at q;obtain⟨q1,i,e,q2,_⟩:=q;rw[q2];rw[q1]at k;exact k _
 |none=>rw[hd]at q;rw[q.2];rw[q.1]at k;exact k _
def UE{r:Bool}(b:BAt W fr pa g J H s)(hu:A.units+100<cLine)(e:Gc H va vb=some r):CO W g J s A E Q xa xb va vb r:=by
 injection vb
 case str l=>exact qp (m:=λva=>CO W g J s A E Q xa xb va (.str l) r) e λc e=>ae (m:=CO W g J s A E Q xa xb (.str [c]) (.str l)) e GZ
 case lst vs=>exact bc e λc e=>ae (m:=CO W g J s A E Q xa xb va (.lst vs)) e (G1 b hu ((zm _ _).mp c).1 ((zm _ _).mp c).2)
 case tup vs=>exact bc e λc e=>ae (m:=CO W g J s A E Q xa xb va (.tup vs)) e (LM b hu ((zm _ _).mp c).1 ((zm _ _).mp c).2)
 case dct ks vs=>exact eC (m:=λva=>CO W g J s A E Q xa xb va (.dct ks vs) r) e λc e=>ae (m:=CO W g J s A E Q xa xb (.str c) (.dct ks vs)) e (in_tab b)
 all_goals exact nn e
end
def J6{r:Bool}(b:BAt W fr pa g J H s)(hu:A.units+100<cLine)(e:Gc H va vb=some r)(ra:ay W.P g J va xa)(rb:ay W.P g J vb xb)(k:∀t,Q (.bool r) { s with toks:=t }):wpAny W.M A (compareOp .In xa xb) Q E s:=UE b hu e ra rb k
def G2(W:Wd)(g:IH)(J:cy)(s:Shared)(A:Around)(E Q:QP)(op:CmpOp)(xa xb:Value)(va vb:V)(r:Bool):Prop:=
 ay W.P g J va xa->ay W.P g J vb xb->Q (.bool r) s->wpAny W.M A (compareOp op xa xb) Q E s
def jS{r:Bool}{op:CmpOp}{f:Int->Int->Bool}(e:(cN va λx=>cN vb λy=>some (f x y))=some r)(h:∀x y t u,Q (.bool (f x y)) s->wpAny W.M A (compareOp op (.int x t) (.int y u)) Q E s):G2 W g J s A E Q op xa xb va vb r:=
 dp (m:=λva=>G2 W g J s A E Q op xa xb va vb r) e λx e=>dp (m:=λvb=>G2 W g J s A E Q op xa xb (.int x) vb r) e λy e=>ae (m:=G2 W g J s A E Q op xa xb (.int x) (.int y)) e λra rb k=>by
  apply ak ra;intro t;apply ak rb;intro u;exact h x y t u k
def CP{o:Option Bool}{r:Bool}(h:o5 o=some r):o=some !r:=by
 cases o with
 |none=>exact nn h
 |some c=>exact ae (m:=λr=>some c=some !r) h (by rw[not_not])
def CQ{r:Bool}(b:BAt W fr pa g J H s)(hu:A.units+100<cLine)(e:o5 (Gc H va vb)=some r)(ra:ay W.P g J va xa)(rb:ay W.P g J vb xb)(k:∀t,Q (.bool r) { s with toks:=t }):wpAny W.M A (compareOp .NotIn xa xb) Q E s:=by
 have h:=J6 (Q:=λv s'=>∃c,v=.bool c/\Q (.bool !c) s') (E:=E) b hu (CP e) ra rb λt=>⟨_,rfl,by rw[not_not];exact k t⟩;intro Γ p hΓ;have h2:=h Γ p hΓ;have e1:(compareOp .In xa xb:Sem Value)=contains xb xa>>=λr=>pure (.bool r):=rfl;have e2:(compareOp .NotIn xa xb:Sem Value)=contains xb xa>>=λr=>pure (.bool !r):=rfl;rw[e1,Sem.wp_bind']at h2;rw[e2,Sem.wp_bind'];refine Sem.wp_mono _ Γ _ (λc p' s' h'=>?_) (λ_ _ _ h'=>h') _ _ h2;obtain⟨c',q1,q2⟩:=h';injection q1;exact q2
def kR{op:CmpOp}{r:Bool}(b:BAt W fr pa g J H s)(hu:A.units+100<cLine)(e:ac H op va vb=some r)(ra:ay W.P g J va xa)(rb:ay W.P g J vb xb)(k:∀t,Q (.bool r) { s with toks:=t }):wpAny W.M A (compareOp op xa xb) Q E s:=by
 have hu':A.units+64<cLine:=Nat.lt_of_le_of_lt (Nat.add_le_add_left (by decide) _) hu
 cases op with
 |Eq=>exact QI b hu' e ra rb (k s.toks)
 |NotEq=>exact QJ b hu' (CP e) ra rb (by rw[not_not];exact k s.toks)
 |Is=>exact zy (wW b e ra rb (zq (k s.toks)))
 |IsNot=>exact zy (wW b (CP e) ra rb (zq (by rw[not_not];exact k s.toks)))
 |In=>exact J6 b hu e ra rb k
 |NotIn=>exact CQ b hu e ra rb k
 |Lt=>exact jS (f:=λx y=>decide (x<y)) e (λ_ _ _ _ k=>lt_int k) ra rb (k s.toks)
 |LtE=>exact jS (f:=λx y=>decide (x<=y)) e (λ_ _ _ _ k=>P.le_int k) ra rb (k s.toks)
 |Gt=>exact jS (f:=λx y=>decide (y<x)) e (λ_ _ _ _ k=>gt_int k) ra rb (k s.toks)
 |GtE=>exact jS (f:=λx y=>decide (y<=x)) e (λ_ _ _ _ k=>ge_int k) ra rb (k s.toks)
end
section
variable{s:Shared}{d:Nat}
def cu{value slice:Expr}{T id:String}(hT:s.TypeIs o T)(hl:typeLookup (.type T) "__getitem__" = pure (some (.builtin id)))(h:wpAny W.M A (getItem o i) Q E s):wpAny W.M A (subscriptTail value slice o i) Q E s:=by
 unfold subscriptTail;refine zy ?_;rw[getitemInPython_of_ne hT.not_modules];refine zy (wpAny_specialOf hT hl ?_);have fin:∀l,wpAny W.M A (operate l (getItem o i)) (λr s₃=>wpAny W.M A (letTemporaryGo value o r>>=λ_=>pure r) Q E s₃) E s:=λl=>
  wpAny_operating (zY h (λr s₃ h₃=>zy (wpAny_letTemporaryGo (zq h₃))) λ_ _ x=>x)
 refine zq (zy ?_)
 cases slice with
 |Slice l u st p=>cases st<;>exact fin _
 |_=>exact fin _
def bx{a:Addr}{xs:List Value}{n:Nat}(h:s.heap.get? a=some (bd xs n)):s.heap.IsList a xs.toArray:=⟨_,h,rfl,n,rfl⟩
def eU{a:Addr}{xs:List Value}{n:Nat}(h:s.heap.get? a=some (fc xs n)):IsTup s.heap a xs.toArray:=⟨_,h,rfl,n,rfl⟩
def nA(W:Wd)(fr:List Env)(pa:List Addr)(g:IH)(J:cy)(H:Hp)(s:Shared)(A:Around)(E Q:QP)(value slice:Expr)(xo xi:Value)(v i r:V):Prop:=
 ay W.P g J v xo->ay W.P g J i xi->Gives W fr pa g J H s r H Q->wpAny W.M A (subscriptTail value slice xo xi) Q E s
section
variable{value slice:Expr}{xo xi:Value}{j:Int}{m:Nat}
def qD{n:Nat}{m:Nat}(h:dU n j=some m):seqIndex? j n=some m/\-(2 ^ 62)<j/\j<2 ^ 62:=bc h λc h=>⟨h,dE.mp c⟩
def seqIndex_neg{n:Nat}(h:seqIndex? j n=some m)(hj:j<0):0<=j+n/\(j+n).toNat=m:=by
 unfold seqIndex? at h;simp only[hj,if_true]at h;split at h
 .rename_i hb
  simp only[and_eq_true,decide_eq_true_eq]at hb;exact⟨hb.1,Option.some.inj h⟩
 .exact nn h
def qE{n:Nat}(h:seqIndex? j n=some m)(hj:¬j<0):j.toNat=m:=by
 unfold seqIndex? at h;simp only[hj,if_false]at h;split at h
 .exact Option.some.inj h
 .exact nn h
def G3{v:V}{vs:List V}(b:BAt W fr pa g J H s)(eo:v.res H=.lst vs)(h1:dU vs.length j=some m)(h2:vs[m]?=some r):nA W fr pa g J H s A E Q value slice xo xi v (.int j) r:=λro ri k=>by
 apply ce b eo ro;intro a xs n k1 r1;apply ak ri;intro t;obtain⟨h1,hs1,hs2⟩:=qD h1;obtain⟨x,hx,rx⟩:=ia r1 h2;refine cu (bx k1).typeIs list_getitem_lookup ?_;rw[<-au r1,<-zW]at h1
 by_cases hj:j<0
 .obtain⟨q1,q2⟩:=seqIndex_neg h1 hj
  exact wpAny_getItem_list_neg (bx k1) hj (by lia) (by lia) (by rw[q2];simpa using hx) (k.here b rx)
 .exact wpAny_getItem_list (bx k1) (Int.not_lt.mp hj) (by lia) (by rw[qE h1 hj];simpa using hx) (k.here b rx)
def G4{vs:List V}(b:BAt W fr pa g J H s)(h1:dU vs.length j=some m)(h2:vs[m]?=some r):nA W fr pa g J H s A E Q value slice xo xi (.tup vs) (.int j) r:=λro ri k=>by
 apply fY ro;intro a xs n k1 r1;apply ak ri;intro t;obtain⟨h1,hs1,hs2⟩:=qD h1;obtain⟨x,hx,rx⟩:=ia r1 h2;rw[<-au r1,<-zW]at h1;have k2:=b.rel.sub _ _ k1;exact cu (eU k2).typeIs PyProof.Rows.slot_tuple_getitem.lookup (getItem_tuple (eU k2) (by lia) (by lia) h1 (by simpa using hx) (k.here b rx))
def CR{c:Nat}{l:List Nat}(b:BAt W fr pa g J H s)(h1:dU l.length j=some m)(hc:l[m]?=some c):nA W fr pa g J H s A E Q value slice xo xi (.str l) (.int j) (.str [c]):=λro ri k=>by
 apply az ro;intro u;apply ak ri;intro t;obtain⟨h1,hs1,hs2⟩:=qD h1;refine cu (typeIs_str _ _ _) F.slot_str_getitem.lookup (P.getItem_str (c:=c) (by simp;lia) ?_ (k.tok b (bG.mpr ⟨_,rfl⟩)));rw[aE,h1];simpa using hc
def G5{l:List Nat}(b:BAt W fr pa g J H s)(e:dictGet ks vs l=some r):nA W fr pa g J H s A E Q value slice xo xi (.dct ks vs) (.str l) r:=λro ri k=>by
 obtain⟨a,es,n,rfl,ns,h1,h2,h3⟩:=ro;apply az ri;intro t;have k1:=b.rel.sub _ _ h1;have q:=nz (k:=l) h2 h3;rw[e]at q;obtain⟨q1,j,en,q2,q3,q4⟩:=q;refine cu (bE k1) slot_dict_getitem.lookup ?_;unfold getItem
 try with_reducible refine zQ ?_
 refine zy (wpAny_sequenceKey (bE k1) (by decide) ?_);refine zy (wpAny_callSpecial?_slot (name:=Str.ofString "__getitem__") (bE k1) slot_dict_getitem (wpAny_call_entry slot_dict_getitem (bE k1) entry_dict_getitem ?_ (args_dict_getitem _ _)));show wpAny _ _ (PySem.dictGet a (.str (aH l) t)>>=_) _ _ s;refine zy (qB k1 (du h2) ?_);rw[q2];dsimp only;rw[q3];exact zq ⟨_,rfl,zq (k.tok b q4)⟩
end
def LN{value slice:Expr}(b:BAt W fr pa g J H s)(e:bY H v i=some r)(ro:ay W.P g J v xo)(ri:ay W.P g J i xi)(k:Gives W fr pa g J H s r H Q):wpAny W.M A (subscriptTail value slice xo xi) Q E s:=by
 refine (?_:nA W fr pa g J H s A E Q value slice xo xi v i r) ro ri k;have L:∀vs,v.res H=.lst vs->bY H v i=some r->nA W fr pa g J H s A E Q value slice xo xi v i r:=λvs q e=>by
  unfold bY at e;rw[q]at e;exact dp (m:=λi=>nA W fr pa g J H s A E Q value slice xo xi v i r) e λj e=>dK e λm h1 h2=>G3 b q h1 h2
 injection v
 case ref n=>
  rcases mQ H n with q |⟨vs,q⟩
  .unfold bY at e
   rw[q]at e;exact nn e
  .exact L vs q e
 case lst vs=>exact L vs rfl e
 case tup vs=>exact dp (m:=λi=>nA W fr pa g J H s A E Q value slice xo xi (.tup vs) i r) e λj e=>dK e λm h1 h2=>G4 b h1 h2
 case str l=>exact dp (m:=λi=>nA W fr pa g J H s A E Q value slice xo xi (.str l) i r) e λj e=>dK e λm h1 h2=>kH (m:=nA W fr pa g J H s A E Q value slice xo xi (.str l) (.int j)) h2 λc hc=>CR b h1 hc
 case dct ks vs=>exact eC (m:=λi=>nA W fr pa g J H s A E Q value slice xo xi (.dct ks vs) i r) e λl e=>G5 b e
 all_goals exact nn e
def gc(P:Params)(g:IH)(J:cy)(v:V)(x:Value):Prop:=(v=.undef/\x=.none)\/ay P g J v x
def gc.isPart{x:Value}{l:Option Int}(h:gc P g J v x)(e:dB v=some l):∃p:Option (Int×Tok),x=partValue p/\IsPart x l/\p.map (·.1)=l:=by
 rcases h with ⟨rfl,rfl⟩ | h
 .exact ae (m:=λl=>∃p:Option (Int×Tok),Value.none=partValue p/\IsPart Value.none l/\p.map (·.1)=l) e ⟨none,rfl,.none,rfl⟩
 .injection v
  case int i=>
   obtain⟨t,rfl⟩:=aO.mp h;exact bc e λ_ e=>ae (m:=λl=>∃p:Option (Int×Tok),Value.int i t=partValue p/\IsPart (Value.int i t) l/\p.map (·.1)=l) e ⟨some (i,t),rfl,.int i t,rfl⟩
  case undef=>exact h.elim
  all_goals exact nn e
def gc.left{x:Value}(h:gc P g J .undef x):x=.none:=h.elim (·.2) λh=>h.elim
def CS(r:ah P g J vs xs)(l u:Option Int):ah P g J (cut vs l u) (cut xs l u):=by
 have drop:∀{vs:List V} {xs:List Value} (n:Nat),ah P g J vs xs->ah P g J (vs.drop n) (xs.drop n):=by
  intro vs xs n
  induction n generalizing vs xs with
  |zero=>exact λh=>h
  |succ n ih=>
   intro h
   cases vs with
   |nil=>obtain rfl:=h;simp[nh]
   |cons v vs=>obtain⟨y,ys,rfl,_,h2⟩:=h;exact ih h2
 have take:∀{vs:List V} {xs:List Value} (n:Nat),ah P g J vs xs->ah P g J (vs.take n) (xs.take n):=by
  intro vs xs n
  induction n generalizing vs xs with
  |zero=>intro _;simp[nh]
  |succ n ih=>
   intro h
   cases vs with
   |nil=>obtain rfl:=h;simp[nh]
   |cons v vs=>obtain⟨y,ys,rfl,h1,h2⟩:=h;exact ad.mpr ⟨_,_,rfl,h1,ih h2⟩
 unfold cut;rw[au r];exact take _ (drop _ r)
def sM{vs:List V}:∀{xs:List Value},ah P g J vs xs->ah P g J vs.reverse xs.reverse:=by
 induction vs with
 |nil=>
  intro _ h;obtain rfl:=h;simp[nh]
 |cons v vs ih=>
  intro _ h;obtain⟨y,ys,rfl,h1,h2⟩:=h;rw[zB,zB];exact cm (ih h2) (ad.mpr ⟨_,_,rfl,h1,aB.mpr rfl⟩)
def nB(l u:Option Int)(n:Nat):Builtin.Str.strSliceIndices l u 1 n=sliceRange (sliceBounds l u none n).1 (sliceBounds l u none n).2.1 1:=by
 injection l<;>injection u<;>rfl
def uS(x:List Nat)(l u:Option Int):(Builtin.Str.strSliceIndices l u 1 x.length).filterMap (λi=>x.toArray[i]?)=cut x l u:=by
 rw[nB,sliceBounds_plain];simp only[sliceRange_one,pick_run]
 rfl
def sN(x:List Nat)(l u:Option Int)(h:(Builtin.Str.strSliceIndices l u 1 x.length).length=x.length):cut x l u=x:=by
 rw[nB,sliceBounds_plain]at h;simp only[sliceRange_one,length_map,List.length_range]at h;have c1:∀i,clipAt x.length i<=x.length:=λi=>by
  exact OA (clipAt_cast x.length i)
 unfold cut;generalize hA:l.elim 0 (clipAt x.length)=a at h ⊢;generalize hB:u.elim x.length (clipAt x.length)=c at h ⊢;have hb:c<=x.length:=by cases u with | none=>simp at hB;lia | some i=>simp at hB;subst hB;exact c1 _
 by_cases hx:x.length=0
 .have:x=[]:=List.eq_nil_of_length_eq_zero hx
  subst this;simp
 .have hc:c=x.length:=Nat.le_antisymm hb (h▸sub_le c a)
  have ha:a=0:=Nat.eq_zero_of_not_pos λp=>absurd (h.trans hc.symm) (ne_of_lt (Nat.sub_lt (hc▸Nat.pos_of_ne_zero hx) p));subst ha hc;simp
noncomputable abbrev yJ(s:Shared)(xl xu xs:Value):Shared:={ s with heap:=s.heap.push { cls:=.type "slice",data:=.fields #[xl,xu,xs] } }
def sO(W:Wd)(fr:List Env)(pa:List Addr)(g:IH)(J:cy)(H:Hp)(s:Shared)(A:Around)(E Q:QP)(value slice:Expr)(xo xl xu xs:Value)(v r:V):Prop:=
 ay W.P g J v xo->Gives W fr pa g J H (yJ s xl xu xs) r H Q->BAt W fr pa g J H (yJ s xl xu xs)->wpAny W.M A (subscriptTail value slice xo (.ref s.heap.objs.size)) Q E (yJ s xl xu xs)
section
variable{value slice:Expr}{xo xl xu xs:Value}{l u:Option Int}
def G6{v:V}{vs:List V}(b:BAt W fr pa g J H s)(p1:IsPart xl l)(p2:IsPart xu u)(p3:IsPart xs none)(e:v.res H=.lst vs)(hf:aj vs.length=true):sO W fr pa g J H s A E Q value slice xo xl xu xs v (.lst (cut vs l u)):=λro k1 b1=>by
 apply ce b e ro;intro a ys n q1 q2;have q3:=bx (s:=yJ s xl xu xs) (zc _ q1);refine cu q3.typeIs list_getitem_lookup (wpAny_getItem_list_slice q3 (Heap.IsSliceOf.new s.heap xl xu xs) p1 p2 p3 (by simp) ?_ (by rw[zW,au q2];exact aq (zT (bW hf) (by decide))));rw[slicePick_plain,zW];exact k1.push b1 rfl (iN b1 (CS q2 l u) 0)
def G7{v:V}{vs:List V}(b:BAt W fr pa g J H s)(p1:IsPart xl none)(p2:IsPart xu none)(p3:IsPart xs (some (-1)))(e:v.res H=.lst vs)(hf:aj vs.length=true):sO W fr pa g J H s A E Q value slice xo xl xu xs v (.lst vs.reverse):=λro k1 b1=>by
 apply ce b e ro;intro a ys n q1 q2;have q3:=bx (s:=yJ s xl xu xs) (zc _ q1);refine cu q3.typeIs list_getitem_lookup (wpAny_getItem_list_slice q3 (Heap.IsSliceOf.new s.heap xl xu xs) p1 p2 p3 (by simp) ?_ (by rw[zW,au q2];exact aq (zT (bW hf) (by decide))));rw[krv_pick];exact k1.push b1 rfl (iN b1 (sM q2) 0)
def LO{α:Type}(x:List α)(l u:Option Int):(cut x l u).length<=x.length:=zT (List.length_take_le' ..) (by rw[length_drop];exact sub_le ..)
def CT{x:List Nat}{p1 p2:Option (Int×Tok)}(f1:p1.map (·.1)=l)(f2:p2.map (·.1)=u)(hf:aj x.length=true):sO W fr pa g J H s A E Q value slice xo (partValue p1) (partValue p2) .none (.str x) (.str (cut x l u)):=λro k1 b1=>by
 apply az ro;intro t;refine cu (typeIs_str _ _ _) F.slot_str_getitem.lookup (wpAny_getItem_str_slice (l:=p1) (u:=p2) (st:=none) ⟨_,zR _ rfl,rfl,rfl⟩ rfl ?_);unfold sliceMade slicePicked;simp only[Option.map_none,Option.getD_none,f1,f2,aE,uS];split
 .rename_i hc
  simp only[beq_self_eq_true,Bool.true_and,beq_iff_eq]at hc;rw[sN x l u hc]at k1;exact k1.here b1 (bG.mpr ⟨_,rfl⟩)
 .refine⟨?_,k1.tok b1 (bG.mpr ⟨_,rfl⟩)⟩
  show (cut x l u).toArray.size<=sizeLine;rw[zW];exact zT (LO ..) (aq (zT (bW hf) (by decide)))
def QK{lo st:V}(b:BAt W fr pa g J H s)(e:eg H v lo hi st=some r)(rl:gc W.P g J lo xl)(ru:gc W.P g J hi xu)(rs:gc W.P g J st xs):sO W fr pa g J H s A E Q value slice xo xl xu xs v r:=by
 injection st
 case undef=>
  refine dK e λl e2 e=>dK e λu e3 e=>?_;obtain⟨p1,rfl,i1,f1⟩:=rl.isPart e2;obtain⟨p2,rfl,i2,f2⟩:=ru.isPart e3;have hx:=rs.left;exact jJ (H:=H) (m:=λv=>sO W fr pa g J H s A E Q value slice xo (partValue p1) (partValue p2) xs v r) e (λ_ h=>nn h) (λx e=>bc e λhf e=>ae (m:=sO W fr pa g J H s A E Q value slice xo (partValue p1) (partValue p2) xs (.str x)) e (hx▸CT f1 f2 hf)) (λ_ h=>nn h) (λvs e1 e=>bc e λhf e=>ae (m:=sO W fr pa g J H s A E Q value slice xo (partValue p1) (partValue p2) xs v) e (G6 b i1 i2 (hx▸.none) e1 hf))
 case int i=>
  revert e;show (if i=-1 then wz H v lo hi else none)=_->_
  by_cases h:i=-1
  .rw[if_pos h]
   intro e;refine dK e λl e2 e=>dK e λu e3 e=>mR e λvs e1 e=>bc e λhf e5=>?_;obtain⟨_,_,p1,_⟩:=rl.isPart e2;obtain⟨_,_,p2,_⟩:=ru.isPart e3;obtain⟨_,_,p3,_⟩:=rs.isPart (l:=some (-1)) (by rw[h];rfl);rw[zm,zm]at hf
   cases l with
   |some _=>exact ff hf.1.1
   |none=>cases u with
    |some _=>exact ff hf.1.2
    |none=>exact ae (m:=sO W fr pa g J H s A E Q value slice xo xl xu xs v) e5 (G7 b p1 p2 p3 e1 hf.2)
  .rw[if_neg h];exact λe=>nn e
 all_goals exact nn e
end
def LP{lo st:V}(b:BAt W fr pa g J H s)(e:eg H v lo hi st=some r)(ro:ay W.P g J v xo)(rl:gc W.P g J lo xl)(ru:gc W.P g J hi xu)(rs:gc W.P g J st xs)(k:Gives W fr pa g J H s r H Q){value slice:Expr}:wpAny W.M A (subscriptTail value slice xo (.ref s.heap.objs.size)) Q E { s with heap:=s.heap.push { cls:=.type "slice",data:=.fields #[xl,xu,xs] } }:=by
 obtain⟨b1,st1⟩:=b.grow (h':=(yJ s xl xu xs).heap) (t:=s.toks) (λa y h=>zc _ h);exact QK b e rl ru rs ro (λg' J' x s' hr hb hst hs=>k g' J' x s' hr hb (st1.trans hst) hs) b1
end
section
variable{s:Shared}{d:Nat}
def sP{h h':Heap}{x C:Addr}{od:Option Obj}(I:InstAt h x ox C od)(k:∀a o,h.get? a=some o->h'.get? a=some o):InstAt h' x ox C od:=by
 obtain⟨h1,h2,h3,h4⟩:=I;refine⟨k _ _ h1,h2,h3,?_⟩;revert h4
 cases ox.dict<;>injection od<;>intro h4<;>first | trivial | exact h4.elim | exact k _ _ h4
def BAt.kin(b:BAt W fr pa g J H s):W.K.In s.heap:=λa o e=>b.rel.sub _ _ (b.bas _ _ (b.top.kin a o e))
def ev:ah P g J [v] xs↔∃x,xs=[x]/\ay P g J v x:=by
 rw[ad]
 constructor
 .rintro ⟨y,ys,rfl,h1,h2⟩;rw[aB]at h2;subst h2;exact⟨y,rfl,h1⟩
 .rintro ⟨x,rfl,h⟩;exact⟨x,[],rfl,h,aB.mpr rfl⟩
def jT:ah P g J [v,u] xs↔∃x y,xs=[x,y]/\ay P g J v x/\ay P g J u y:=by
 rw[ad]
 constructor
 .rintro ⟨y,ys,rfl,h1,h2⟩;obtain⟨z,rfl,h3⟩:=ev.mp h2;exact⟨y,z,rfl,h1,h3⟩
 .rintro ⟨x,y,rfl,h1,h2⟩;exact⟨x,[y],rfl,h1,ev.mpr ⟨_,rfl,h2⟩⟩
def uT:ah P g J [v,u,w] xs↔∃x y z,xs=[x,y,z]/\ay P g J v x/\ay P g J u y/\ay P g J w z:=by
 rw[ad]
 constructor
 .rintro ⟨y,ys,rfl,h1,h2⟩;obtain⟨z,z',rfl,h3,h4⟩:=jT.mp h2;exact⟨y,z,z',rfl,h1,h3,h4⟩
 .rintro ⟨x,y,z,rfl,h1,h2,h3⟩;exact⟨x,[y,z],rfl,h1,jT.mpr ⟨_,_,rfl,h2,h3⟩⟩
def uU(b:BAt W fr pa g J H s){c:Nat}(h:c∈38::dS){x:Addr}:KitX W.K (.ref x) (.ref c) (λh=>InstAt h x ox c (some od)):=by
 have q:=zP.mp b.top.facts.own c h;unfold uQ at q;simp only[and_eq_true,beq_iff_eq]at q;obtain⟨⟨⟨⟨⟨q1,q2⟩,q3⟩,q4⟩,q5⟩,q6⟩:=q;exact kitx_own q1 q2 q3 q4 q5 q6
def UF(P:Params)(g:IH)(J:cy)(xc:Value)(c:V)(c':Value):Prop:=ay P g J c xc->xc=c'/\c'∈To
def QL(ec:Gf c=some c'):UF P g J xc c c':=by
 injection c
 case ty t=>injection t<;>first | exact nn ec | exact ae (m:=UF P g J xc _) ec λr=>⟨r,by decide⟩
 case base a=>exact bc ec λh e=>ae (m:=UF P g J xc (.base a)) e λr=>⟨r.1,by unfold To;exact zU _ (mem_map_of_mem (zA.mp h))⟩
 all_goals exact nn ec
def yK(W:Wd)(s:Shared)(xv t:Value):Prop:=t∈QE/\∃Hh:Heap->Prop,KitX W.K xv t Hh/\Hh s.heap/\xv≠.builtin "__main__.__loader__#opaque"
def nE{c:Nat}(h:c∈38::dS):Value.ref c∈QE:=by unfold QE;exact zU _ (mem_map_of_mem h)
def nF{a:Addr}{i:String}:Value.ref a≠.builtin i:=λh=>Value.noConfusion h
def G8{n c:Nat}(b:BAt W fr pa g J H s)(hH:H[n]?=some (.inst c fs))(hc:dS.contains c=true)(rv:ay W.P g J (.ref n) xv):yK W s xv (.ref c):=by
 have hcl:=zx 38 (zA.mp hc);apply cA rv;intro p hp;obtain⟨es,m,h1,h2,_⟩:=b.rel.obj n _ p hH hp;exact⟨nE hcl,_,uU b hcl,⟨h1,rfl,rfl,h2⟩,nF⟩
def LQ{c:Nat}(b:BAt W fr pa g J H s)(rv:ay W.P g J (.obj c fs) xv):yK W s xv (.ref c):=by
 obtain⟨hcl,a,dd,es,n,rfl,h1,h2,_⟩:=rv;exact⟨nE (zx _ hcl),_,uU b (zx _ hcl),⟨b.rel.sub _ _ h1,rfl,rfl,b.rel.sub _ _ h2⟩,nF⟩
def G9{a:Nat}(b:BAt W fr pa g J H s)(ha:a=44\/a=47)(rv:ay W.P g J (.base a) xv):yK W s xv (.ref 38):=by
 obtain⟨rfl,_⟩:=rv;obtain⟨o,od,I⟩:=b.top.emp a ha;exact⟨nE (zw ..),_,uU b (zw ..),sP I λ_ _ e=>b.rel.sub _ _ (b.bas _ _ e),nF⟩
def Ha(b:BAt W fr pa g J H s)(et:BC H v=some t)(rv:ay W.P g J v xv):yK W s xv t:=by
 injection v
 case bool=>obtain rfl:=dL.mp rv;exact ae (m:=yK W s _) et ⟨by decide,_,kitx_bool,trivial,λh=>Value.noConfusion h⟩
 case int=>apply ak rv;intro t;exact ae (m:=yK W s _) et ⟨by decide,_,kitx_int,trivial,λh=>Value.noConfusion h⟩
 case str=>apply az rv;intro t;exact ae (m:=yK W s _) et ⟨by decide,_,kitx_str,trivial,λh=>Value.noConfusion h⟩
 case none=>obtain rfl:=dg.mp rv;exact ae (m:=yK W s _) et ⟨by decide,_,kitx_none,trivial,λh=>Value.noConfusion h⟩
 case tup=>apply fY rv;intro a xs n h1 _;exact ae (m:=yK W s _) et ⟨by decide,_,kitx_tuple,⟨_,b.rel.sub _ _ h1,rfl⟩,nF⟩
 case lst=>apply fX rv;intro a xs n h1 _;exact ae (m:=yK W s _) et ⟨by decide,_,kitx_list,⟨_,b.rel.sub _ _ h1,rfl⟩,nF⟩
 case obj=>exact ae (m:=yK W s _) et (LQ b rv)
 case ref n=>
  revert et;show H[n]?.elim none BB=_->_
  cases hH:H[n]? with
  |none=>exact λe=>nn e
  |some o=>
   injection o
   case inst c fs=>exact λe=>bc (a:=some (Value.ref c)) e λhc e=>ae (m:=yK W s _) e (G8 b hH hc rv)
   all_goals exact λe=>nn e
 case base a=>
  revert et;show (if a=44\/a=47 then some (Value.ref 38) else none)=_->_
  by_cases h:a=44\/a=47
  .rw[if_pos h];exact λe=>ae (m:=yK W s _) e (G9 b h rv)
  .rw[if_neg h];exact λe=>nn e
 all_goals exact nn et
def Hb{r:Bool}(b:BAt W fr pa g J H s)(e:BE H v c=some r)(rv:ay W.P g J v xv)(rc:ay W.P g J c xc)(k:∀t,Q (.bool r) { s with toks:=t }):wpAny W.M A (call (.builtin "isinstance") [xv,xc]) Q E s:=by
 refine dK e λt et e=>dK e λc' ec e=>?_;obtain⟨ht,Hh,Z,p,hx⟩:=Ha b et rv;obtain⟨rfl,hc⟩:=QL ec rc;exact kia_one Z b.kin p (ze.mp (zP.mp (zP.mp b.top.facts.kit t ht) xc hc)) hx (ae (m:=λr=>∀t,Q (.bool r) { s with toks:=t }->Q (.bool (BD _ xc)) { s with toks:=t }) e (λ_ h=>h) · (k _))
def yL:∀{ys:List Value} {q:Bool},Gg ws=some q->ah P g J ws ys->∃bs:List Bool,ys=bs.map .bool/\bs.all id=q:=by
 induction ws with
 |nil=>
  intro ys q h r;rw[aB]at r;subst r;injection h;exact⟨[],rfl,rfl⟩
 |cons w ws ih=>
  intro ys q h r;obtain⟨y,zs,rfl,r1,r2⟩:=ad.mp r;revert r1;apply wB h;intro c h r1;obtain rfl:=r1;obtain⟨q',h1,rfl⟩:=z7.mp h;obtain⟨bs,rfl,h3⟩:=ih h1 r2;exact⟨c::bs,rfl,zi (c && ·) h3⟩
def all_range(bs:List Bool):(List.range bs.length).all (λi=>(bs[i]?).getD true)=bs.all id:=by
 rw[Bool.eq_iff_iff,zP,zP]
 constructor
 .intro h x hx
  obtain⟨i,hi,rfl⟩:=List.getElem_of_mem hx;have:=h i (mem_range.mpr hi);rw[zo hi]at this;exact this
 .intro h i hi
  have hi:=mem_range.mp hi;rw[zo hi];exact h _ (List.getElem_mem hi)
theorem mq{n:Nat}(h:aj n=true):(n:Int)<2 ^ 63:=by have:=bW h;lia
def cQ(W:Wd)(fr:List Env)(pa:List Addr)(g:IH)(J:cy)(H:Hp)(s:Shared)(A:Around)(E Q:QP)(id:String)(xs:List Value)(vs:List V)(r:V):Prop:=
 ah W.P g J vs xs->Gives W fr pa g J H s r H Q->wpAny W.M A (call (.builtin id) xs) Q E s
section
variable{xs:List Value}
def aM{m:List Value->Prop}(r:ah P g J [v] xs)(f:∀x,ay P g J v x->m [x]):m xs:=by obtain⟨x,rfl,h⟩:=ev.mp r;exact f x h
def gB{m:List Value->Prop}(r:ah P g J [v,u] xs)(f:∀x y,ay P g J v x->ay P g J u y->m [x,y]):m xs:=by obtain⟨x,y,rfl,h1,h2⟩:=jT.mp r;exact f x y h1 h2
def QM{l:List Nat}(b:BAt W fr pa g J H s)(hf:aj l.length=true):cQ W fr pa g J H s A E Q "len" xs [.str l] (.int l.length):=λrv k=>by
 apply aM rv;intro x rx;apply az rx;intro t;refine P.len_str (by rw[aE];exact Int.not_le.mpr (mq hf)) ?_;rw[aE];exact k.tok b (aO.mpr ⟨_,rfl⟩)
def QN{l:List V}(b:BAt W fr pa g J H s)(hf:aj l.length=true):cQ W fr pa g J H s A E Q "len" xs [.tup l] (.int l.length):=λrv k=>by
 apply aM rv;intro x rx;apply fY rx;intro a ys n h1 h2;refine len_tuple (eU (b.rel.sub _ _ h1)) (by rw[zW,au h2];exact mq hf) ?_;rw[zW,au h2];exact k.tok b (aO.mpr ⟨_,rfl⟩)
def QO{v:V}{l:List V}(b:BAt W fr pa g J H s)(e:v.res H=.lst l)(hf:aj l.length=true):cQ W fr pa g J H s A E Q "len" xs [v] (.int l.length):=λrv k=>by
 apply aM rv;intro x rx;apply ce b e rx;intro a ys n h1 h2;refine len_list (bx h1) (by rw[zW,au h2];exact mq hf) ?_;rw[zW,au h2];exact k.tok b (aO.mpr ⟨_,rfl⟩)
def QQ{c:Nat}(b:BAt W fr pa g J H s):cQ W fr pa g J H s A E Q "ord" xs [.str [c]] (.int c):=λrv k=>by
 apply aM rv;intro x rx;apply az rx;intro t;exact P.ord_of_char (k.tok b (aO.mpr ⟨_,rfl⟩))
def QR{i:Int}(b:BAt W fr pa g J H s):cQ W fr pa g J H s A E Q "abs" xs [.int i] (.int i.natAbs):=λrv k=>by
 apply aM rv;intro x rx;apply ak rx;intro t;refine call_abs_int λu tk=>?_;rw[show (if i<0 then -i else i)=(i.natAbs:Int) by
  split
  .rename_i q;exact (Int.ofNat_natAbs_of_nonpos (Int.le_of_lt q)).symm
  .rename_i q;exact (Int.natAbs_of_nonneg (Int.not_lt.mp q)).symm]
 exact k.tok b (aO.mpr ⟨_,rfl⟩)
def QS{i j:Int}(b:BAt W fr pa g J H s)(hh:A.handled=none):cQ W fr pa g J H s A E Q "min" xs [.int i,.int j] (.int (if j<i then j else i)):=λrv k=>by
 apply gB rv;intro x y rx ry;apply ak rx;intro t;apply ak ry;intro u;refine min_two_ints hh λh' tk hk=>k.grow b hk ?_;split<;>exact aO.mpr ⟨_,rfl⟩
def QT{i j:Int}(b:BAt W fr pa g J H s)(hh:A.handled=none):cQ W fr pa g J H s A E Q "max" xs [.int i,.int j] (.int (if i<j then j else i)):=λrv k=>by
 apply gB rv;intro x y rx ry;apply ak rx;intro t;apply ak ry;intro u;refine max_two_ints hh λh' tk hk=>k.grow b hk ?_;have:(i<j)↔(j>i):=Iff.rfl;split<;>exact aO.mpr ⟨_,rfl⟩
def QU{q:Bool}(b:BAt W fr pa g J H s)(hh:A.handled=none)(hq:Gg l=some q):cQ W fr pa g J H s A E Q "all" xs [.lst l] (.bool q):=λrv k=>by
 apply aM rv;intro x rx;apply fX rx;intro a ys n h1 h2;obtain⟨bs,rfl,hb⟩:=yL hq h2;have k2:=bx (b.rel.sub _ _ h1);refine call_all_walk (wpAny_pyIter_list k2 ?_);refine⟨_,_,_,_,_,_,λi=>(bs[i]?).getD true,rfl,Walks.list (A:=A.in1) hh _ a (ne_of_lt (lt_size (b.rel.sub _ _ h1))) _,⟨⟨_,zR _ rfl,rfl,rfl⟩,k2.push _⟩,?_,λh' tk hk=>?_⟩
 .intro i v s' Q' E' hP hQ
  simp only[List.getElem?_toArray,getElem?_map]at hP
  cases hi:bs[i]? with
  |none=>rw[hi]at hP;injection hP
  |some c=>rw[hi]at hP;simp only[hi,getD_some]at hQ;injection hP;exact z9 hQ
 .rw[zW,zM,all_range bs,hb]
  refine k.grow b (λc o e=>hk c o (λm=>?_) (zc _ e)) (dL.mpr rfl)
  cases zp.mp m
  exact absurd (lt_size e) (lt_irrefl _)
def CU{r:Bool}(b:BAt W fr pa g J H s)(e:BE H v c=some r):cQ W fr pa g J H s A E Q "isinstance" xs [v,c] (.bool r):=λrv k=>by
 apply gB rv;intro x y rx ry;exact Hb b e rx ry λt=>k.tok b (dL.mpr rfl)
def J8(b:BAt W fr pa g J H s)(e:aP H .len vs=some r):cQ W fr pa g J H s A E Q "len" xs vs r:=
 kG (m:=λvs=>cQ W fr pa g J H s A E Q "len" xs vs r) e λv e=>jJ (H:=H) (m:=λv=>cQ W fr pa g J H s A E Q "len" xs [v] r) e (λ_ h=>nn h) (λl e=>bc e λhf e=>ae (m:=cQ W fr pa g J H s A E Q "len" xs [.str l]) e (QM b hf)) (λl e=>bc e λhf e=>ae (m:=cQ W fr pa g J H s A E Q "len" xs [.tup l]) e (QN b hf)) (λl e1 e=>bc e λhf e=>ae (m:=cQ W fr pa g J H s A E Q "len" xs [v]) e (QO b e1 hf))
def QV{f:KI}(b:BAt W fr pa g J H s)(hh:A.handled=none)(e:aP H f vs=some r):cQ W fr pa g J H s A E Q f.id xs vs r:=by
 injection f
 case len=>exact J8 b e
 case ord=>exact kG (m:=λvs=>cQ W fr pa g J H s A E Q "ord" xs vs r) e λv e=>qp (m:=λv=>cQ W fr pa g J H s A E Q "ord" xs [v] r) e λc e=>ae (m:=cQ W fr pa g J H s A E Q "ord" xs [.str [c]]) e (QQ b)
 case abs=>exact kG (m:=λvs=>cQ W fr pa g J H s A E Q "abs" xs vs r) e λv e=>dp (m:=λv=>cQ W fr pa g J H s A E Q "abs" xs [v] r) e λc e=>ae (m:=cQ W fr pa g J H s A E Q "abs" xs [.int c]) e (QR b)
 case isinstance=>exact uG (m:=λvs=>cQ W fr pa g J H s A E Q "isinstance" xs vs r) e λv c e=>kH (m:=cQ W fr pa g J H s A E Q "isinstance" xs [v,c]) e λq e=>CU b e
 case min=>exact uG (m:=λvs=>cQ W fr pa g J H s A E Q "min" xs vs r) e λv c e=>dp (m:=λv=>cQ W fr pa g J H s A E Q "min" xs [v,c] r) e λi e=>dp (m:=λc=>cQ W fr pa g J H s A E Q "min" xs [.int i,c] r) e λj e=>ae (m:=cQ W fr pa g J H s A E Q "min" xs [.int i,.int j]) e (QS b hh)
 case max=>exact uG (m:=λvs=>cQ W fr pa g J H s A E Q "max" xs vs r) e λv c e=>dp (m:=λv=>cQ W fr pa g J H s A E Q "max" xs [v,c] r) e λi e=>dp (m:=λc=>cQ W fr pa g J H s A E Q "max" xs [.int i,c] r) e λj e=>ae (m:=cQ W fr pa g J H s A E Q "max" xs [.int i,.int j]) e (QT b hh)
 case all=>exact kG (m:=λvs=>cQ W fr pa g J H s A E Q "all" xs vs r) e λv e=>BL (m:=λv=>cQ W fr pa g J H s A E Q "all" xs [v] r) e λl e=>kH (m:=cQ W fr pa g J H s A E Q "all" xs [.lst l]) e λq e=>QU b hh e
end
def LR{f:KI}(b:BAt W fr pa g J H s)(hh:A.handled=none)(e:aP H f vs=some r)(rv:ah W.P g J vs xs)(k:Gives W fr pa g J H s r H Q):wpAny W.M A (call (.builtin f.id) xs) Q E s:=QV b hh e rv k
end
section
variable{s:Shared}{d:Nat}
def gY(W:Wd)(fr:List Env)(pa:List Addr)(g:IH)(J:cy)(H:Hp)(s:Shared)(A:Around)(E Q:QP)(id:String)(xs:List Value)(vs:List V)(r:V):Prop:=
 ah W.P g J vs xs->Gives W fr pa g J H s r H Q->wpAny W.M A (call (.type id) xs) Q E s
section
variable{xs:List Value}
def Hc{c:Bool}(b:BAt W fr pa g J H s):gY W fr pa g J H s A E Q "int" xs [.bool c] (.int (if c then 1 else 0)):=λrv k=>by
 apply aM rv;intro x rx;obtain rfl:=dL.mp rx;exact call_int_bool (k.tok b (aO.mpr ⟨_,rfl⟩))
def qF{h h':Heap}(hk:∀a o,h.get? a=some o->h'.get? a=some o):h.get? h'.objs.size=none:=by
 cases q:h.get? h'.objs.size with
 |none=>rfl
 |some o=>exact absurd (lt_size (hk _ _ q)) (lt_irrefl _)
def CV{a:Addr}(b:BAt W fr pa g J H s)(n:s.heap.get? a=none):∀c y,g c=some y->jP g a o c=some y:=λc y e=>by
 rw[bj λq=>by rw[q,b.rel.none_at n]at e;cases e];exact e
def CW{v:V}{ws:List V}(b:BAt W fr pa g J H s)(e:v.res H=.lst ws)(hf:aj ws.length=true):gY W fr pa g J H s A E Q "tuple" xs [v] (.tup ws):=λrv k=>by
 apply aM rv;intro x rx;apply ce b e rx;intro a ys n h1 h2;refine call_tuple_list (bx h1) (λh' hk=>?_) (by rw[zW,au h2];exact aq (zT (bW hf) (by decide)));have nn:=qF hk;exact k.laid (o:=fc ys 0) b (λa o e=>zc _ (hk a o e)) nn (zR _ rfl) (cV.mpr ⟨_,ys,0,rfl,bN,aZ (CV b nn) (zO _) h2⟩)
def wX{i j l:Int}{x:Value}:ay P g J (.rng i j l) x↔∃r t1 t2 t3,x=.ref r/\g r=some ⟨.type "range",none,.fields #[.int i t1,.int j t2,.int l t3],#[]⟩:=Iff.rfl
def Hd{i:Int}(b:BAt W fr pa g J H s):gY W fr pa g J H s A E Q "range" xs [.int i] (.rng 0 i 1):=λrv k=>by
 apply aM rv;intro x rx;apply ak rx;intro t;exact call_range_1 (k.push b rfl (wX.mpr ⟨_,_,_,_,rfl,bN⟩))
def He{i j:Int}(b:BAt W fr pa g J H s):gY W fr pa g J H s A E Q "range" xs [.int i,.int j,.int (-1)] (.rng i j (-1)):=λrv k=>by
 obtain⟨x,y,z,rfl,rx,ry,rz⟩:=uT.mp rv;apply ak rx;intro t;apply ak ry;intro u;apply ak rz;intro w;exact call_range_3 (by decide) (k.push b rfl (wX.mpr ⟨_,_,_,_,rfl,bN⟩)) (.inl (PyProof.noPylong_small (by lia)))
def Hf(b:BAt W fr pa g J H s)(e:Bq H .range vs=some r):gY W fr pa g J H s A E Q "range" xs vs r:=by
 refine KT (m:=λvs=>gY W fr pa g J H s A E Q "range" xs vs r) e λv t e=>dp (m:=λv=>gY W fr pa g J H s A E Q "range" xs (v::t) r) e λi e=>?_
 cases t with
 |nil=>exact bc e λhf e=>ae (m:=gY W fr pa g J H s A E Q "range" xs [.int i]) e (Hd b)
 |cons y t=>
  exact dp (m:=λy=>gY W fr pa g J H s A E Q "range" xs (.int i::y::t) r) e λj e=>kG (m:=λt=>gY W fr pa g J H s A E Q "range" xs (.int i::.int j::t) r) e λz e=>dp (m:=λz=>gY W fr pa g J H s A E Q "range" xs [.int i,.int j,z] r) e λl e=>bc e λhf e=>by
   have q:=((zm _ _).mp hf).2;rw[zN]at q;subst q;exact ae (m:=gY W fr pa g J H s A E Q "range" xs [.int i,.int j,.int (-1)]) e (He b)
def UG{f:Ty}(b:BAt W fr pa g J H s)(e:Bq H f vs=some r):gY W fr pa g J H s A E Q f.id xs vs r:=by
 injection f
 case int=>exact kG (m:=λvs=>gY W fr pa g J H s A E Q "int" xs vs r) e λv e=>wB (m:=λv=>gY W fr pa g J H s A E Q "int" xs [v] r) e λc e=>ae (m:=gY W fr pa g J H s A E Q "int" xs [.bool c]) e (Hc b)
 case tuple=>exact kG (m:=λvs=>gY W fr pa g J H s A E Q "tuple" xs vs r) e λv e=>mR e λws e1 e=>bc e λhf e=>ae (m:=gY W fr pa g J H s A E Q "tuple" xs [v]) e (CW b e1 hf)
 case range=>exact Hf b e
 all_goals exact nn e
end
def QW{f:Ty}(b:BAt W fr pa g J H s)(e:Bq H f vs=some r)(rv:ah W.P g J vs xs)(k:Gives W fr pa g J H s r H Q):wpAny W.M A (call (.type f.id) xs) Q E s:=UG b e rv k
def Hg(b:BAt W fr pa g J H s)(e:wA vs=some ws)(rv:ah W.P g J vs xs)(k:Gives W fr pa g J H s (.ref H.length) (H++[.iter ws]) Q):wpAny W.M A (call (.type Ty.enumerate.id) xs) Q E s:=by
 have fin:∀{h':Heap},(∀a o,s.heap.get? a=some o->h'.get? a=some o)->ib W.P g J h' (s.heap.objs.size+1,s.heap.objs.size) (.iter ws)->Q (.ref (s.heap.objs.size+1)) { s with heap:=h' }:=λ{h'} hk ho=>by
  have n1:s.heap.get? (s.heap.objs.size+1)=none:=by
   cases q:s.heap.get? (s.heap.objs.size+1)with
   |none=>rfl
   |some o=>exact absurd (Nat.lt_of_succ_lt (lt_size q)) (lt_irrefl _)
  obtain⟨x,y⟩:=b.mine (t:=s.toks) (o:=.iter ws) (p:=(s.heap.objs.size+1,s.heap.objs.size)) hk (by simp[bT]) (λa m=>by
   simp[bT]at m
   rcases m with rfl | rfl
   .exact n1
   .exact be _) ho
  exact k _ _ _ _ (bV.mpr ⟨(s.heap.objs.size+1,s.heap.objs.size),by rw[zk (by rw[b.rel.len];exact zv _),b.rel.len];simp,rfl⟩) x y ⟨rfl,rfl,rfl⟩
 refine kG (m:=λvs=>ah W.P g J vs xs->wpAny W.M A (call (.type Ty.enumerate.id) xs) Q E s) e (λv e rv=>?_) rv;apply aM rv;intro x rx;refine qq (m:=λv=>ay W.P g J v x->wpAny W.M A (call (.type Ty.enumerate.id) [x]) Q E s) e (λ_ h=>nn h) (λl e rx=>?_) (λ_ h=>nn h) (λW6 e rx=>?_) rx
 .injection e
  apply az rx;intro t;refine call_enumerate_str λh' q1 q2 q3 q4=>fin q4 ⟨_,rfl,q1,.inr ⟨l,t,rfl,?_⟩⟩;unfold strIterType at q2;split at q2
  .exact .inl q2
  .exact .inr q2
 .injection e
  apply fX rx;intro a ys n h1 h2;exact call_enumerate_list (bx (b.rel.sub _ _ h1)) λh' q1 q2 q3 q4=>fin q4 ⟨W6,rfl,q1,.inl ⟨a,ys,n,h1,h2,q2⟩⟩
end
noncomputable def pB:Nat->String
 |1=> "list" | 2=> "dict" | _=> "str"
def pC(sep:List Nat):∀ss:List (List Nat),Str.join (aH sep) (ss.map aH)=aH (lK sep ss)
 |[]=>rfl
 |[s]=>rfl
 |s::t::r=>by
  show aH s++aH sep++Str.join (aH sep) ((t::r).map aH)=_;rw[pC sep (t::r),<-gA,<-gA]
  rfl
def yM:∀{ss:List (List Nat)} {xs:List Value},eY vs=some ss->ah P g J vs xs->∃l:List (Str×Tok),xs=strValues l/\l.map (·.1)=ss.map aH:=by
 induction vs with
 |nil=>
  intro ss xs h r;rw[aB]at r;subst r;injection h;exact⟨[],rfl,rfl⟩
 |cons v vs ih=>
  intro ss xs h r;obtain⟨y,ys,rfl,r1,r2⟩:=ad.mp r;revert r1;apply eC h;intro s h r1;obtain⟨t,rfl⟩:=bG.mp r1;obtain⟨XZ,h1,rfl⟩:=z7.mp h;obtain⟨l,rfl,h3⟩:=ih h1 r2;exact⟨(aH s,t)::l,rfl,zi (aH s::·) h3⟩
def jc:∀(tk:Nat) (ps:List Str),ah P g J (ps.map λp=>.str p.cps.toList) (strsFrom tk ps)
 |_,[]=>by rw[strsFrom];exact aB.mpr rfl
 |tk,p::ps=>by
  rw[strsFrom,z0];exact ad.mpr ⟨_,_,rfl,bG.mpr ⟨tk,by show Value.str p tk=Value.str ⟨p.cps.toList.toArray⟩ tk;simp⟩,jc (tk+1) ps⟩
def sQ{vs:List V}:∀{i:Nat},gu a vs=some i->∃(h:i<vs.length),V.eqb vs[i] a=true/\∀j (hj:j<vs.length),j<i->V.eqb vs[j] a=false:=by
 induction vs with
 |nil=>
  intro i h;injection h
 |cons x vs ih=>
  intro i h;rw[sf]at h;split at h
  .rename_i e
   injection h;exact⟨by simp,e,λj _ hj=>absurd hj (by lia)⟩
  .rename_i e
   obtain⟨k,hk,rfl⟩:=z7.mp h;obtain⟨h1,h2,h3⟩:=ih hk;refine⟨by simp;lia,by simpa using h2,λj hj hlt=>?_⟩
   cases j with
   |zero=>simpa using e
   |succ j=>simpa using h3 j (by simpa using hj) (by lia)
def nG:∀{vs:List V} {n:Nat},V.plains n vs=true->∀{j:Nat} (h:j<vs.length),vs[j].plain n=true
 |_::_,_,hp,0,_=>(eu hp).1
 |_::_,_,hp,_+1,h=>nG (eu hp).2 (Nat.lt_of_succ_lt_succ h)
section
variable{s:Shared}{d:Nat}
def CX(s:Shared)(x:Value)(k:Nat):Prop:=s.TypeIs x (pB k)/\∀a,x=.ref a->∃o,s.heap.get? a=some o/\o.dict=none
def mr{a:Addr}{o:Obj}{k:Nat}(h:s.heap.get? a=some o)(hc:o.cls=.type (pB k))(hd:o.dict=none):CX s (.ref a) k:=⟨⟨_,h,hc⟩,λ_ e=>by injection e;exact⟨_,h,hd⟩⟩
def yN{v:V}{x:Value}(b:BAt W fr pa g J H s)(h:v.kind H≠0)(r:ay W.P g J v x):s.TypeIs x (pB (v.kind H))/\∀a,x=.ref a->∃o,s.heap.get? a=some o/\o.dict=none:=by
 change CX s x (v.kind H)
 injection v
 case ref n=>
  apply cA r;intro p hp;revert h;show H[n]?.elim 0 jK≠0->CX s (.ref p.1) (H[n]?.elim 0 jK)
  cases hH:H[n]? with
  |none=>exact λh=>absurd rfl h
  |some o=>
   have q:=b.rel.obj n o p hH hp;injection o
   case list=>obtain⟨xs,m,h1,h2⟩:=q;exact λ_=>mr h1 rfl rfl
   case dict=>obtain⟨_,es,m,h1,h2⟩:=q;exact λ_=>mr h1 rfl rfl
   all_goals exact λh=>absurd rfl h
 case lst vs=>apply fX r;intro a xs n h1 h2;exact mr (b.rel.sub _ _ h1) rfl rfl
 case dct ks vs=>obtain⟨a,es,n,rfl,ns,h1,h2⟩:=r;exact mr (b.rel.sub _ _ h1) rfl rfl
 case str l=>apply az r;intro t;exact⟨typeIs_str _ _ _,λa e=>Value.noConfusion e⟩
 all_goals exact absurd rfl h
def uV:∀k,PlainAttrs (pB k)
 |0=>F.plainAttrs_str
 |1=>F.plainAttrs_list
 |2=>F.plainAttrs_dict
 |_+3=>F.plainAttrs_str
def mu(k kd:Nat)(id:String):Prop:=∃nm,c0[k]?=some nm/\Slot (pB kd) (Str.ofString nm) id/\typeOf (.builtin id)=pure (.type "method_descriptor")
def Hi{k kd:Nat}{id:String}(h:l9 k kd=some id):∃nm,c0[k]?=some nm/\Slot (pB kd) (Str.ofString nm) id/\typeOf (.builtin id)=pure (.type "method_descriptor"):=by
 change mu k kd id
 refine cw (m:=λkd=>mu k kd id) h (λh=>?_) λh=>cw (m:=λkd=>mu k kd id) h (λh=>?_) λh=>cw (m:=λkd=>mu k kd id) h (λh=>?_) λh=>nn h
 .exact cw (m:=λk=>mu k 1 id) h (λh=>ae (m:=mu 4 1) h ⟨_,rfl,F.slot_list_append,F.type_list_append⟩) λh=>cw (m:=λk=>mu k 1 id) h (λh=>ae (m:=mu 48 1) h ⟨_,rfl,F.slot_list_pop,F.type_list_pop⟩) λh=>cw (m:=λk=>mu k 1 id) h (λh=>ae (m:=mu 13 1) h ⟨_,rfl,F.slot_list_index,F.type_list_index⟩) λh=>nn h
 .exact cw (m:=λk=>mu k 2 id) h (λh=>ae (m:=mu 5 2) h ⟨_,rfl,F.slot_dict_get,F.type_dict_get⟩) λh=>nn h
 .exact cw (m:=λk=>mu k 3 id) h (λh=>ae (m:=mu 13 3) h ⟨_,rfl,F.slot_str_index,F.type_str_index⟩) λh=>cw (m:=λk=>mu k 3 id) h (λh=>ae (m:=mu 14 3) h ⟨_,rfl,F.slot_str_rstrip,F.type_str_rstrip⟩) λh=>cw (m:=λk=>mu k 3 id) h (λh=>ae (m:=mu 16 3) h ⟨_,rfl,F.slot_str_split,F.type_str_split⟩) λh=>cw (m:=λk=>mu k 3 id) h (λh=>ae (m:=mu 17 3) h ⟨_,rfl,F.slot_str_lower,F.type_str_lower⟩) λh=>cw (m:=λk=>mu k 3 id) h (λh=>ae (m:=mu 22 3) h ⟨_,rfl,F.slot_str_join,F.type_str_join⟩) λh=>cw (m:=λk=>mu k 3 id) h (λh=>ae (m:=mu 23 3) h ⟨_,rfl,F.slot_str_find,F.type_str_find⟩) λh=>nn h
def ew(W:Wd)(fr:List Env)(pa:List Addr)(g:IH)(J:cy)(H:Hp)(s:Shared)(A:Around)(E Q:QP)(k:Nat)(xo:Value)(xs:List Value)(o:V)(vs:List V)(r:V×Hp):Prop:=
 ay W.P g J o xo->ah W.P g J vs xs->Gives W fr pa g J H s r.1 r.2 Q->∃id,l9 k (o.kind H)=some id/\wpAny W.M A (call (.builtin id) (xo::xs)) Q E s
section
variable{xo:Value}{xs:List Value}
def LS{n:Nat}(hH:H[n]?=some o):V.kind H (.ref n)=jK o:=by show H[n]?.elim 0 jK=_;rw[hH];rfl
def qG{n:Nat}{k:Nat}{id:String}(hH:H[n]?=some o)(h:l9 k (jK o)=some id):l9 k (V.kind H (.ref n))=some id:=by rw[LS hH];exact h
def yO{n:Nat}{ws:List V}(b:BAt W fr pa g J H s)(hH:H[n]?=some (.list ws))(hf:aj ws.length=true):ew W fr pa g J H s A E Q 4 xo xs (.ref n) [v] (.none,H.set n (.list (ws++[v]))):=λro rv q=>by
 apply aM rv;intro x rx;apply cA ro;intro p hp;obtain⟨ys,m,h1,h2⟩:=b.rel.obj n _ p hH hp;refine⟨"list.append",qG hH rfl,append_at h1 (λh' hs ho=>?_) (by rw[zW,au h2];exact aq (zT (bW hf) (by decide)))⟩;obtain⟨y,z⟩:=b.turn (t:=s.toks) (o':=.list (ws++[v])) hH hp (List.Sublist.refl _) (a:=p.1) (zp.mpr rfl) hs ⟨ys++[x],m+1,by rw[ho];simp,cm h2 (ev.mpr ⟨_,rfl,rx⟩)⟩;exact q _ _ _ _ (dg.mpr rfl) y z ⟨rfl,rfl,rfl⟩
def LT{n:Nat}{l:List V}(b:BAt W fr pa g J H s)(hH:H[n]?=some (.list (l++[v])))(hf:aj (l++[v]).length=true):ew W fr pa g J H s A E Q 48 xo xs (.ref n) [] (v,H.set n (.list l)):=λro rv q=>by
 cases aB.mp rv
 apply cA ro;intro p hp;obtain⟨ys,m,h1,h2⟩:=b.rel.obj n _ p hH hp;have hl:=au h2;obtain⟨zs,us,rfl,r1,r2⟩:=ni h2;obtain⟨x,rfl,rx⟩:=ev.mp r2;refine⟨"list.pop",qG hH rfl,Copied.pop_at (y:=x) h1 (by simp) (λh' hs ho=>?_) (by
  rw[zW,hl];exact aq (zT (bW hf) (by decide)))⟩
 obtain⟨y,z⟩:=b.turn (t:=s.toks) (o':=.list l) hH hp (List.Sublist.refl _) (a:=p.1) (zp.mpr rfl) hs ⟨zs,m+1,by rw[ho];simp,r1⟩;exact q _ _ _ _ (z.rep rx) y z ⟨rfl,rfl,rfl⟩
def CY{a:Addr}{es:List DictEntry}{n:Nat}{key:List Nat}(b:BAt W fr pa g J H s)(ns:a≠sysModules)(h1:s.heap.get? a=some (aA es n))(h2:aN W.P ks es)(h3:ah W.P g J ws (es.map (·.val)))(rv:ah W.P g J [.str key,dv] xs)(q:Gives W fr pa g J H s ((dictGet ks ws key).getD dv) H Q):wpAny W.M A (call (.builtin "dict.get") (.ref a::xs)) Q E s:=by
 apply gB rv;intro x y rx ry;apply az rx;intro t;refine yI ns h1 (du h2) ?_;have z:=nz (k:=key) h2 h3
 cases hd:dictGet ks ws key with
 |some w=>rw[hd]at z q;obtain⟨_,i,en,z2,z3,z4⟩:=z;rw[z2];dsimp only;rw[z3];exact q.tok b z4
 |none=>rw[hd]at z q;rw[z.2];exact q.tok b ry
def Hj{n:Nat}{key:List Nat}(b:BAt W fr pa g J H s)(hH:H[n]?=some (.dict ks ws)):ew W fr pa g J H s A E Q 5 xo xs (.ref n) [.str key,dv] ((dictGet ks ws key).getD dv,H):=λro rv q=>by
 apply cA ro;intro p hp;obtain⟨ns,es,m,h1,h2,h3⟩:=b.rel.obj n _ p hH hp;exact⟨"dict.get",qG hH rfl,CY b ns h1 h2 h3 rv q⟩
def Hk{key:List Nat}(b:BAt W fr pa g J H s):ew W fr pa g J H s A E Q 5 xo xs (.dct ks ws) [.str key,dv] ((dictGet ks ws key).getD dv,H):=λro rv q=>by
 obtain⟨a,es,m,rfl,ns,h1,h2,h3⟩:=ro;exact⟨"dict.get",rfl,CY b ns (b.rel.sub _ _ h1) h2 h3 rv q⟩
def yP{l:List Nat}{c i:Nat}(b:BAt W fr pa g J H s)(ho:(Builtin.Str.occurrences (aH l) (aH [c]) 0 l.length 1).head?=some i):ew W fr pa g J H s A E Q 13 xo xs (.str l) [.str [c]] (.int (i:Int),H):=λro rv q=>by
 apply aM rv;intro x rx;apply az ro;intro t;apply az rx;intro u;obtain⟨rest,ho⟩:=List.head?_eq_some_iff.mp ho;exact⟨"str.index",rfl,SC.index (i:=i) (rest:=rest) (by rw[aE];exact ho) (q.tok b (aO.mpr ⟨_,rfl⟩))⟩
def yQ{ws:List V}{v:V}{i:Nat}(b:BAt W fr pa g J H s)(hu:A.units+100<cLine)(hc:(aj ws.length&&v.plain 60&&V.plains 60 ws)=true)(hi:gu v ws=some i):ew W fr pa g J H s A E Q 13 xo xs (.lst ws) [v] (.int (i:Int),H):=λro rv q=>by
 rw[zm,zm]at hc;obtain⟨⟨hf,c1⟩,c2⟩:=hc;apply aM rv;intro x rx;apply fX ro;intro a ys n h1 h2;have k1:=b.rel.sub _ _ h1;obtain⟨i1,i2,i3⟩:=sQ hi;have el:=au h2;obtain⟨as,pr⟩:=jQ b.rel.sub 60 h2 c2;obtain⟨bs,px⟩:=cn b.rel.sub 60 rx c1;have each:∀j (hj:j<ys.length) (hw:j<ws.length),PyData.eqv (SeqAt.readOf s.heap ys[j]) (mc v)=V.eqb ws[j] v:=λj hj hw=>by
  obtain⟨y,hy,ry⟩:=ia h2 (zo hw);rw[zo hj]at hy;injection hy;have pj:=nG c2 hw;obtain⟨cs,pc⟩:=cn b.rel.sub 60 ry pj;rw[SeqAt.readOf_eq (dF pj).1 pc];exact gb pj c1
 refine⟨"list.index",rfl,?_⟩;refine call_meets F.slot_list_index ⟨_,k1,rfl⟩ F.entry_list_index (F.args_list_index_2 _ _) (SeqAt.list_indexAt a ys.toArray n none #[] x (λy=>PyData.eqv (SeqAt.readOf s.heap y) (mc v)) i (by rw[zW,el];exact i1) (by have:=bW hf;lia) (by simpa using (each i (by rw[el];exact i1) i1).trans i2) (λj hj hlt=>by simpa using (each j (by simpa using hj) (by lia)).trans (i3 j (by lia) hlt))) ⟨k1,SeqAt.items_eqAt (by simpa using pr) px (jm c2).1 (dF c1).1 ?_,q.tok b (aO.mpr ⟨_,rfl⟩)⟩;have:=zT (Nat.min_le_right (PyData.depthAll (fZ ws)) (mc v).depth) (dF c1).2
 lia
theorem CZ{v:Str}:Value.str v t=Value.str (aH v.cps.toList) t:=rfl
def yR{l:List Nat}{c:Nat}(b:BAt W fr pa g J H s)(hf:aj l.length=true):ew W fr pa g J H s A E Q 14 xo xs (.str l) [.str [c]] (.str (Txt.rstripChars (aH l) (aH [c])).cps.toList,H):=λro rv q=>by
 apply aM rv;intro x rx;apply az ro;intro t;apply az rx;intro u;exact⟨"str.rstrip",rfl,SC.rstripChars (λt' k=>q.tok b (bG.mpr ⟨t',CZ⟩)) (by rw[aE];exact aq (zT (bW hf) (by decide)))⟩
def C0{l:List Nat}{c:Nat}(b:BAt W fr pa g J H s)(hc:(aj l.length&&aj (qm l c).length && !(decide (l.length<1)||decide (Builtin.Str.strKind (aH l)<Builtin.Str.strKind (aH [c]))) && !(KN l c).isEmpty)=true):ew W fr pa g J H s A E Q 16 xo xs (.str l) [.str [c]] (.lst ((qm l c).map λp=>.str p.cps.toList),H):=λro rv q=>by
 rw[zm,zm,zm,not_eq_true',not_eq_true']at hc;obtain⟨⟨⟨f1,f2⟩,h1⟩,h2⟩:=hc;apply aM rv;intro x rx;apply az ro;intro t;apply az rx;intro u;refine⟨"str.split",rfl,?_⟩;refine call_meets F.slot_str_split (typeIs_str _ _ _) F.entry_str_split (F.args_str_split_2 _ _) (meets_str_split_sep (aH l) (aH [c]) t u (by rw[aE,aE];exact h1) rfl (by rw[aE];exact h2) (by rw[aE];exact aq (zT (bW f1) (by decide))) (by rw[aE];exact aq (zT (bW f2) (by decide)))) ?_;rw[aE];exact q.push (o:=bd _ 0) b rfl (iN b (jc _ _) 0)
def C1{l:List Nat}(b:BAt W fr pa g J H s)(hc:(aj l.length&&aj (Txt.lower (aH l)).length)=true):ew W fr pa g J H s A E Q 17 xo xs (.str l) [] (.str (Txt.lower (aH l)).cps.toList,H):=λro rv q=>by
 rw[zm]at hc
 cases aB.mp rv
 apply az ro;intro t;refine⟨"str.lower",rfl,SC.lower ?_ (q.tok b (bG.mpr ⟨s.toks,CZ⟩))⟩;exact za (Nat.not_lt.mpr (aq (zT (bW hc.2) (by decide))))
def C2{sep:List Nat}{v:V}{ss:List (List Nat)}(b:BAt W fr pa g J H s)(e1:v.res H=.lst ws)(e2:eY ws=some ss)(hf:aj ((ss.map length).sum+ss.length*sep.length)=true):ew W fr pa g J H s A E Q 22 xo xs (.str sep) [v] (.str (lK sep ss),H):=λro rv q=>by
 apply aM rv;intro x rx;apply az ro;intro t;apply ce b e1 rx;intro a ys n h1 h2;obtain⟨l,rfl,hl⟩:=yM e2 h2;refine⟨"str.join",rfl,SC.join (l:=l) (texts:=ss.map aH) (bx h1) hl ?_ (λt' k=>q.tok b (bG.mpr ⟨t',?_⟩))⟩
 .unfold JoinOk
  rw[StrLaws.joinTotal,List.map_map,zM,aE];have e3:((λx:Str=>x.length) ∘ aH)=length:=by funext x;exact aE x
  rw[e3];show (!decide (_>sizeLine))=true;rw[za (Nat.not_lt.mpr (aq (zT (bW hf) (by decide))))];rfl
 .show Value.str (Builtin.Str.glued (aH sep) (ss.map aH)) t'=_
  rw[StrLaws.glued_eq_join,pC]
def Hl{l:List Nat}{c:Nat}(b:BAt W fr pa g J H s):ew W fr pa g J H s A E Q 23 xo xs (.str l) [.str [c]] (.int (Txt.find (aH l) (aH [c])),H):=λro rv q=>by
 apply aM rv;intro x rx;apply az ro;intro t;apply az rx;intro u;exact⟨"str.find",rfl,SC.find (q.tok b (aO.mpr ⟨_,rfl⟩))⟩
def uW{l:List Nat}{k:Nat}{r:V×Hp}{f:Nat->Option (V×Hp)}(e:(q1 vs λa=>r0 a f)=some r)(h:∀c,f c=some r->ew W fr pa g J H s A E Q k xo xs (.str l) [.str [c]] r):ew W fr pa g J H s A E Q k xo xs (.str l) vs r:=
 kG (m:=λvs=>ew W fr pa g J H s A E Q k xo xs (.str l) vs r) e λv e=>qp (m:=λv=>ew W fr pa g J H s A E Q k xo xs (.str l) [v] r) e h
def UH{k:Nat}{r:V×Hp}(b:BAt W fr pa g J H s)(hu:A.units+100<cLine)(e:kA H k o vs=some r):ew W fr pa g J H s A E Q k xo xs o vs r:=by
 refine cw (m:=λk=>ew W fr pa g J H s A E Q k xo xs o vs r) e (λe=>?_) λe=>cw (m:=λk=>ew W fr pa g J H s A E Q k xo xs o vs r) e (λe=>?_) λe=>cw (m:=λk=>ew W fr pa g J H s A E Q k xo xs o vs r) e (λe=>?_) λe=>cw (m:=λk=>ew W fr pa g J H s A E Q k xo xs o vs r) e (λe=>?_) λe=>cw (m:=λk=>ew W fr pa g J H s A E Q k xo xs o vs r) e (λe=>?_) λe=>cw (m:=λk=>ew W fr pa g J H s A E Q k xo xs o vs r) e (λe=>?_) λe=>cw (m:=λk=>ew W fr pa g J H s A E Q k xo xs o vs r) e (λe=>?_) λe=>cw (m:=λk=>ew W fr pa g J H s A E Q k xo xs o vs r) e (λe=>?_) λe=>cw (m:=λk=>ew W fr pa g J H s A E Q k xo xs o vs r) e (λe=>?_) λe=>nn e
 .exact qo (m:=λo=>ew W fr pa g J H s A E Q 4 xo xs o vs r) e λn e=>kG (m:=λvs=>ew W fr pa g J H s A E Q 4 xo xs (.ref n) vs r) e λx e=>wD e λws hH e=>bc e λhf e=>ae (m:=ew W fr pa g J H s A E Q 4 xo xs (.ref n) [x]) e (yO b hH hf)
 .refine qo (m:=λo=>ew W fr pa g J H s A E Q 48 xo xs o vs r) e λn e=>KR (m:=λvs=>ew W fr pa g J H s A E Q 48 xo xs (.ref n) vs r) e λe=>wD e λws hH e=>bc e λhf e=>kH (m:=ew W fr pa g J H s A E Q 48 xo xs (.ref n) []) e λx hv=>?_
  obtain⟨l,rfl⟩:=List.getLast?_eq_some_iff.mp hv;rw[List.dropLast_concat];exact LT b hH hf
 .refine uG (m:=λvs=>ew W fr pa g J H s A E Q 5 xo xs o vs r) e λkey dv e=>eC (m:=λkey=>ew W fr pa g J H s A E Q 5 xo xs o [key,dv] r) e λkey e=>?_
  exact KV (m:=λo=>ew W fr pa g J H s A E Q 5 xo xs o [.str key,dv] r) e (λn e=>Gn e λks ws hH e=>ae (m:=ew W fr pa g J H s A E Q 5 xo xs (.ref n) [.str key,dv]) e (Hj b hH)) λks ws e=>ae (m:=ew W fr pa g J H s A E Q 5 xo xs (.dct ks ws) [.str key,dv]) e (Hk b)
 .exact kG (m:=λvs=>ew W fr pa g J H s A E Q 13 xo xs o vs r) e λv e=>qq (m:=λo=>ew W fr pa g J H s A E Q 13 xo xs o [v] r) e (λ_ h=>nn h) (λl e=>qp (m:=λv=>ew W fr pa g J H s A E Q 13 xo xs (.str l) [v] r) e λc e=>kH (m:=ew W fr pa g J H s A E Q 13 xo xs (.str l) [.str [c]]) e λi ho=>yP b ho) (λ_ h=>nn h) (λl e=>bc e λhc e=>kH (m:=ew W fr pa g J H s A E Q 13 xo xs (.lst l) [v]) e λi hi=>yQ b hu hc hi)
 .exact eC (m:=λo=>ew W fr pa g J H s A E Q 14 xo xs o vs r) e λl e=>uW e λc e=>bc e λhf e=>ae (m:=ew W fr pa g J H s A E Q 14 xo xs (.str l) [.str [c]]) e (yR b hf)
 .exact eC (m:=λo=>ew W fr pa g J H s A E Q 16 xo xs o vs r) e λl e=>uW e λc e=>bc e λhf e=>ae (m:=ew W fr pa g J H s A E Q 16 xo xs (.str l) [.str [c]]) e (C0 b hf)
 .exact eC (m:=λo=>ew W fr pa g J H s A E Q 17 xo xs o vs r) e λl e=>KR (m:=λvs=>ew W fr pa g J H s A E Q 17 xo xs (.str l) vs r) e λe=>bc e λhf e=>ae (m:=ew W fr pa g J H s A E Q 17 xo xs (.str l) []) e (C1 b hf)
 .exact eC (m:=λo=>ew W fr pa g J H s A E Q 22 xo xs o vs r) e λl e=>kG (m:=λvs=>ew W fr pa g J H s A E Q 22 xo xs (.str l) vs r) e λv e=>mR e λws e1 e=>dK e λss e2 e=>bc e λhf e=>
   ae (m:=ew W fr pa g J H s A E Q 22 xo xs (.str l) [v]) e (C2 b e1 e2 hf)
 .exact eC (m:=λo=>ew W fr pa g J H s A E Q 23 xo xs o vs r) e λl e=>uW e λc e=>ae (m:=ew W fr pa g J H s A E Q 23 xo xs (.str l) [.str [c]]) e (Hl b)
end
def QX{k:Nat}{o:V}{xo:Value}(b:BAt W fr pa g J H s)(hu:A.units+100<cLine)(e:kA H k o vs=some (r,H'))(ro:ay W.P g J o xo)(rv:ah W.P g J vs xs)(q:Gives W fr pa g J H s r H' Q):∃id,l9 k (o.kind H)=some id/\wpAny W.M A (call (.builtin id) (xo::xs)) Q E s:=UH b hu e ro rv q
end
def Hm{k:Nat}:jH k=(fT k).cps.toList:=by
 unfold jH fT
 cases h:c0[k]? with
 |none=>rfl
 |some x=>rfl
def iP{k:Nat}:aH (jH k)=fT k:=by
 rw[Hm]
def C3:((List.range c0.length).all λk=>(jH k).length != 0&&(List.range c0.length).all λj=>jH j != jH k||j==k)=true:=by decide +kernel
def mv{a k:Nat}(hk:k<c0.length)(e:jH a=jH k):a=k:=by
 have h:=zP.mp C3 k (mem_range.mpr hk);rw[zm]at h
 by_cases ha:a<c0.length
 .have h2:=zP.mp h.2 a (mem_range.mpr ha)
  rw[e]at h2;simpa using h2
 .have:jH a=[]:=by unfold jH;rw[getElem?_eq_none (by lia)]
  rw[<-e,this]at h;simp at h
def sS{c:Nat}{x:Bool×Nat×List Nat}(h:eh c=some x):(c,x)∈GB:=by
 obtain⟨m,h1,rfl⟩:=z7.mp h;have e0:=List.find?_some h1;have e:=eq_of_beq_eq_true e0;subst e;exact List.mem_of_find?_eq_some h1
def qH{a:Nat}{x}(h:eh a=some x):a∈dS:=zA.mp (zP.mp (show (GB.all λm=>dS.contains m.1)=true by decide) _ (sS h))
def C4{c k:Nat}{m:Prop}(h:k∈cI c)(f:∀q,eh c=some q->k∈q.2.2->m):m:=by
 unfold cI at h
 cases e:eh c with
 |none=>rw[e]at h;injection h
 |some q=>rw[e]at h;exact f q e h
def qI{c k:Nat}(h:k∈cI c):k<c0.length:=
 C4 h λ_ e h=>zG (zP.mp (zP.mp (show (GB.all λm=>m.2.2.2.all λk=>decide (k<c0.length))=true by decide +kernel) _ (sS e)) _ h)
def nH{c k:Nat}(h:k∈cI c):c∈dS:=C4 h λ_ e _=>qH e
def sT{k:Nat}(hk:k<c0.length):∀{fs:List (Nat×V)} {es:List DictEntry} {v:V},aN P (fs.map λf=>jH f.1) es->ah P g J (fs.map (·.2)) (es.map (·.val))->mP fs k=some v->∃y,getL (fT k) es=some (some y)/\ay P g J v y:=by
 intro fs
 induction fs with
 |nil=>intro es v h1 h2 h3;injection h3
 |cons p fs ih=>
  intro es v h1 h2 h3;obtain⟨a,w⟩:=p
  cases es with
  |nil=>exact False.elim h1
  |cons e es=>
   obtain⟨⟨t,he,_⟩,h1'⟩:=h1;simp only[map_cons]at h2;obtain⟨y,ys,q,r1,r2⟩:=ad.mp h2;injection q;have hs:e.key.isStr (fT k)=decide (jH a=jH k):=by rw[he,<-iP,eT]
   rw[Ge]at h3;unfold getL;rw[find?_cons,hs]
   by_cases c:a=k
   .subst c
    rw[if_pos rfl]at h3;injection h3;rw[zb rfl];exact⟨_,rfl,r1⟩
   .rw[if_neg c]at h3
    rw[za λq=>c (mv hk q)];obtain⟨y,q1,q2⟩:=ih h1' r2 h3;refine⟨y,?_,q2⟩;unfold getL at q1
    cases hf:es.find? (λx=>x.key.isStr (fT k))with
    |some en=>rw[hf]at q1;exact q1
    |none=>rw[hf]at q1;dsimp only at q1;split at q1<;>injection q1
def QY(P:Params)(g:IH)(J:cy)(fs:List (Nat×V))(es:List DictEntry):Prop:=aN P (fs.map λf=>jH f.1) es/\ah P g J (fs.map (·.2)) (es.map (·.val))
def uX{k:Nat}(hk:k<c0.length){x:Value}(rx:ay P g J v x)(t:Tok){fs:List (Nat×V)}:∀{es:List DictEntry},aN P (fs.map λf=>jH f.1) es->ah P g J (fs.map (·.2)) (es.map (·.val))->QY P g J (hJ fs k v) (putL (fT k) (PyData.keyHash P (fT k)) (.str (fT k) t) x es):=by
 induction fs with
 |nil=>
  intro es h1 h2
  cases es with
  |nil=>exact⟨⟨⟨t,by rw[iP],by rw[iP]⟩,trivial⟩,ev.mpr ⟨_,rfl,rx⟩⟩
  |cons _ _=>exact False.elim h1
 |cons f fs ih=>
  obtain⟨a,w⟩:=f;intro es h1 h2
  cases es with
  |nil=>exact False.elim h1
  |cons e es=>
   obtain⟨h0,h1⟩:=h1;obtain⟨u,he,hh⟩:=h0;obtain⟨y,ys,q,r1,r2⟩:=ad.mp h2;have q1:e.val=y:=(List.cons.inj q).1;have q2:es.map (·.val)=ys:=(List.cons.inj q).2;subst q1 q2;have hs:e.key.isStr (fT k)=decide (jH a=jH k):=by rw[he,<-iP,eT]
   by_cases c:a=k
   .subst c
    have d1:hJ ((a,w)::fs) a v=(a,v)::fs:=if_pos rfl;rw[d1,putL,if_pos (hs.trans (zb rfl))];exact⟨⟨⟨u,he,hh⟩,h1⟩,ad.mpr ⟨_,_,rfl,rx,r2⟩⟩
   .have d1:hJ ((a,w)::fs) k v=(a,w)::hJ fs k v:=if_neg c
    rw[d1,putL,if_neg (λz=>c (mv hk (zG (hs.symm.trans z))))];obtain⟨z1,z2⟩:=ih h1 r2;exact⟨⟨⟨u,he,hh⟩,z1⟩,ad.mpr ⟨_,_,rfl,r1,z2⟩⟩
def jU:∀{ks:List (List Nat)} {es:List DictEntry},aN P ks es->es.length=ks.length
 |[],[],_=>rfl
 |[],_::_,h=>False.elim h
 |_::_,[],h=>False.elim h
 |_::ks,_::es,h=>by rw[zd,zd,jU h.2]
def ig{es:List DictEntry}:(es.all λe=>isExactStrKey e.key)=true->es.any (·.refKey)=false:=by
 induction es with
 |nil=>
  intro _;exact rfl
 |cons e es ih=>
  intro h;rw[all_cons,zm]at h;rw[any_cons,ih h.2,Bool.or_false];obtain⟨h1,_⟩:=h;unfold isExactStrKey at h1;unfold DictEntry.refKey;split at h1<;>first | (injection h1;done) | skip
  rename_i hk;rw[hk]
def jn{x:Value}(r:ay P g J v x):handedIn x=true:=by
 cases x<;>try rfl
 rename_i i;have e:=CN r
 cases v<;>first | exact absurd e (Nat.ne_of_beq_eq_false rfl) | skip
 rename_i b;have r:Value.builtin i=.builtin b.id:=r;rw[r]
 cases b<;>decide +kernel
def C5{k:Nat}:∀{ks:List Nat} {fs:List V} {es:List DictEntry} {v:V},(∀a∈ks,a<c0.length)->aN P (ks.map jH) es->ah P g J fs (es.map (·.val))->kE ks fs k=some v->k∈ks/\∃y,getL (fT k) es=some (some y)/\ay P g J v y:=by
 intro ks
 induction ks with
 |nil=>intro fs es v hl h1 h2 h3;injection h3
 |cons a ks ih=>
  intro fs es v hl h1 h2 h3
  cases fs with
  |nil=>injection h3
  |cons w fs=>cases es with
   |nil=>exact False.elim h1
   |cons e es=>
    obtain⟨⟨t,he,_⟩,h1'⟩:=h1;simp only[map_cons]at h2;obtain⟨y,ys,q,r1,r2⟩:=ad.mp h2;injection q;have hs:e.key.isStr (fT k)=decide (jH a=jH k):=by rw[he,<-iP,eT]
    rw[By]at h3;unfold getL;rw[find?_cons,hs]
    by_cases c:a=k
    .subst c
     rw[if_pos rfl]at h3;injection h3;rw[zb rfl];exact⟨zw ..,_,rfl,r1⟩
    .rw[if_neg c]at h3
     have ne:jH a≠jH k:=λq=>c (mv (hl a (zw ..)) q.symm).symm;rw[za ne];obtain⟨m,y,q1,q2⟩:=ih (λb hb=>hl b (zx _ hb)) h1' r2 h3;refine⟨zx _ m,y,?_,q2⟩;unfold getL at q1
     cases hf:es.find? (λx=>x.key.isStr (fT k))with
     |some en=>rw[hf]at q1;exact q1
     |none=>rw[hf]at q1;dsimp only at q1;split at q1<;>injection q1
def Hn{prog:Program}{s:Shared}{K:Frag}{x C:Addr}{od:Option Obj}{name:Str}{expr:Bool}(X:K.In s.heap)(I:InstAt s.heap x ox C od)(Vf:findIn K (.ref C) "__getattribute__" = some (some (.builtin "BaseException.__getattribute__")))(W7:findIn K (.ref C) "__getattr__" = some none)(hm:mroIn K C (.type "BaseException")=some true)(hf:findObj K C od name=some (.value v))(hh:handedIn v=true)(h:Q v { s with toks:=s.toks+1 }):wpAny (model prog w) A (getAttr (.ref x) name expr) Q E s:=by
 have L0:=I.type (M:=model prog w);have L1:=looks_findIn (M:=model prog w) X Vf;have L2:=looks_findIn (M:=model prog w) X W7;have L3:=looks_find (M:=model prog w) X I hf;have L4:=looks_mroIn (M:=model prog w) X hm;have hx0:(expr&&onTheHeap (Value.builtin "BaseException.__getattribute__"))=false:=by injection expr<;>rfl
 have hx2:(Value.builtin "BaseException.__getattribute__" == Value.builtin "object.__getattribute__")=false:=by decide +kernel
 unfold getAttr getAttrBy;refine zy (wpAny_mkText (zQ (zy (L0.at (zy (L1.at ?_))))));simp only[hx2,Bool.and_false,false_eq_true,if_false];unfold getAttrByItsOwn hookBefore;rw[show onTheHeap (Value.ref C)=true from rfl,if_pos rfl];refine zy (L2.at ?_);refine zy (wpAny_attempt (zQ ?_));unfold callGetattribute boundAndCalled;simp only[hx0,false_eq_true,if_false];rw[PySem.F.attr_Exception.ga.bind];refine zy (zq (wpAny_call (codeAny_call_builtin PySem.F.attr_Exception.ga.plain PySem.F.entry_bexc_ga ?_)));have hk:builtinKind "BaseException.__getattribute__" = some .slot:=by decide +kernel
 have hsplit:splitId "BaseException.__getattribute__" = some ("BaseException", "__getattribute__"):=by decide +kernel
 have ha:=PySem.F.args_bexc_ga (.ref x) (.str name s.toks);have sub:Looks (model prog w) s.heap (isInstance (.ref x) (.type "BaseException")) true:=L0.andThen L4;refine @check_slot (model prog w) _ _ { s with toks:=s.toks+1 } "BaseException.__getattribute__" "BaseException" "__getattribute__" (.ref x) [.str name s.toks] [] _ hk hsplit sub ha ?_;unfold Builtin.«object.__getattribute__»;refine zy (zq (zy (zq (zy (L0.at (zy (L3.at (zq ?_))))))));show wpAny _ _ (handedOut v) _ _ _;rw[handedOut_of hh];exact zq h
def findObj_own{K:Frag}{C:Addr}{od:Option Obj}{name:Str}{cd:ClassData}(h1:clsIn K C=some cd)(h2:findIn K (.ref C) name=some none)(h3:ownOf cd od name=some (some v)):findObj K C od name=some (.value v):=by
 unfold findObj;rw[h1,h2];show (ownOf cd od name).bind _=_;rw[h3]
 rfl
section
variable{s:Shared}{d:Nat}
def pD(b:BAt W fr pa g J H s):nq W.K=true:=b.top.facts.exn
def kS(b:BAt W fr pa g J H s){c:Nat}(h:c∈dS):(findIn W.K (.ref c) "__getattribute__" = some (some (.builtin "object.__getattribute__"))/\findIn W.K (.ref c) "__getattr__" = some none)/\hasDictIn W.K c=true/\plainOver W.K c=true/\findIn W.K (.ref c) "__setattr__" = some (some (.builtin "object.__setattr__")):=by
 have q:=zP.mp b.top.facts.cls c h;unfold nj at q;simp only[and_eq_true,beq_iff_eq]at q;obtain⟨⟨⟨q1,q2⟩,q3⟩,q4⟩:=q;exact⟨plainGet_of q1,q2,q3,q4⟩
def kU(b:BAt W fr pa g J H s){c k:Nat}(h:k∈cI c):findIn W.K (.ref c) (fT k)=some none:=by
 have q:=zP.mp (zP.mp b.top.facts.fld c (nH h)) k h;exact ze.mp q
def pE{c:Addr}{name:Str}{x:Addr}{y:Value}{expr:Bool}(b:BAt W fr pa g J H s)(hc:c∈dS)(hn:findIn W.K (.ref c) name=some none)(I:InstAt s.heap x ox c (some od))(hl:lookIn name od=some (some y))(hh:handedIn y=true)(k:Q y { s with toks:=s.toks+1 }):wpAny W.M A (getAttr (.ref x) name expr) Q E s:=by
 obtain⟨⟨q1,_⟩,q2,_⟩:=kS b hc;obtain⟨cd,TC,hd⟩:=any_some q2;exact get_value b.kin I q1 (v:=y) (findObj_own TC hn (by unfold PySem.W.ownOf;rw[if_pos hd];exact hl)) hh k
def sU(W:Wd)(fr:List Env)(pa:List Addr)(g:IH)(J:cy)(H:Hp)(s:Shared)(A:Around)(E Q:QP)(expr:Bool)(x:Value)(k:Nat)(v r:V):Prop:=
 ay W.P g J v x->Gives W fr pa g J H s r H Q->wpAny W.M A (getAttr x (fT k) expr) Q E s
section
variable{x:Value}{expr:Bool}{k:Nat}{r:V}
def C6{c:Nat}{i:Nat}{ks:List Nat}(b:BAt W fr pa g J H s)(hc:eh c=some (true,i,ks))(e:kE ks fs k=some r):sU W fr pa g J H s A E Q expr x k (.obj c fs) r:=λrx q=>by
 obtain⟨hcl,a,dd,es,n,rfl,h1,h2,⟨Wg,bQ,hc',hk⟩,h3⟩:=rx;rw[hc]at hc';injection hc';have hf:cI c=ks:=by unfold cI;rw[hc];rfl
 obtain⟨m,y,hy,ry⟩:=C5 (λa ha=>qI (c:=c) (by rw[hf];exact ha)) hk h3 e;exact pE b hcl (kU b (by rw[hf];exact m)) (⟨b.rel.sub _ _ h1,rfl,rfl,b.rel.sub _ _ h2⟩) hy (jn ry) (q.tok b ry)
def yS{n c:Nat}(b:BAt W fr pa g J H s)(hH:H[n]?=some (.inst c fs))(hm:(cI c).contains k=true)(e:mP fs k=some r):sU W fr pa g J H s A E Q expr x k (.ref n) r:=λrx q=>by
 have hm:=zA.mp hm;apply cA rx;intro p hp;obtain⟨es,m,h1,h2,h3,h4⟩:=b.rel.obj n _ p hH hp;obtain⟨y,hy,ry⟩:=sT (qI hm) h3 h4 e;exact pE b (nH hm) (kU b hm) (⟨h1,rfl,rfl,h2⟩) hy (jn ry) (q.tok b ry)
def Ho(b:BAt W fr pa g J H s):mroIn W.K 285 (.type "BaseException")=some true:=by
 have ex:=pD b;unfold nq at ex;simp only[and_eq_true,beq_iff_eq]at ex;obtain⟨o,ho,hs⟩:=any_some ex.1.1.1.1.2;obtain⟨dd,cd,sl,rfl,h5⟩:=lO hs;simp only[and_eq_true,beq_iff_eq]at h5;unfold mroIn clsIn;rw[ho,bind_some,h5.1.1.1]
 rfl
def uY(b:BAt W fr pa g J H s):sU W fr pa g J H s A E Q expr x 25 (.exn 285 [a,r]) r:=λrx q=>by
 obtain⟨a,dd,vs,od,r',y,rfl,h1,h2,h3,h4⟩:=rx;obtain⟨x1,x2,q1,r1,r2⟩:=jT.mp h4;injection q1;have ex:=pD b;unfold nq at ex;simp only[and_eq_true,beq_iff_eq]at ex;have ex:=ex.1.1.1.1.1.1;obtain⟨cd,TC,hd⟩:=any_some ex.2;refine Hn b.kin (⟨b.rel.sub _ _ h1,rfl,rfl,b.rel.sub _ _ h2⟩:InstAt s.heap _ _ 285 (some od)) ex.1.1 ex.1.2 (Ho b) (v:=y) (findObj_own TC (ze.mp b.top.facts.plc) (by unfold PySem.W.ownOf;rw[if_pos hd];exact h3)) (jn r2) (q.tok b r2)
def LU(b:BAt W fr pa g J H s)(e:aR H v k=some r):sU W fr pa g J H s A E Q expr x k v r:=by
 injection v
 case obj c fs=>
  exact dK e λq hc e=>by
   obtain⟨t,i,ks⟩:=q;injection t
   .exact nn e
   .exact C6 b hc e
 case ref n=>exact BM e λc fs hH e=>bc e λhm e=>yS b hH hm e
 case exn c fs=>exact cw (m:=λc=>sU W fr pa g J H s A E Q expr x k (.exn c fs) r) e (λe=>uG (m:=λfs=>sU W fr pa g J H s A E Q expr x k (.exn 285 fs) r) e λa p e=>cw (m:=λk=>sU W fr pa g J H s A E Q expr x k (.exn 285 [a,p]) r) e (λe=>ae (m:=λr=>sU W fr pa g J H s A E Q expr x 25 (.exn 285 [a,p]) r) e (uY b)) λe=>nn e) λe=>nn e
 all_goals exact nn e
end
def qJ{k:Nat}{x:Value}{expr:Bool}(b:BAt W fr pa g J H s)(e:aR H v k=some r)(rx:ay W.P g J v x)(q:Gives W fr pa g J H s r H Q):wpAny W.M A (getAttr x (fT k) expr) Q E s:=LU b e rx q
def C7{K:Frag}{x C dx:Addr}{ox:Obj}{es:List DictEntry}{n:Nat}{name:Str}{R:Result->Shared->Prop}(X:K.In s.heap)(I:InstAt s.heap x ox C (some (aA es n)))(hd:ox.dict=some dx)(hp:plainOver K C=true)(ht:findIn K (.ref C) name=some none)(hh:hasDictIn K C=true)(D:s.heap.get? dx=some (aA es n))(hr:es.any (·.refKey)=false)(hz:(putL name (PyData.keyHash W.P name) (.str name s.toks) v es).length<=1000)(h:∀h',Heap.SameBut dx s.heap h'->h'.get? dx=some (aA (putL name (PyData.keyHash W.P name) (.str name s.toks) v es) (putN name es n))->R (.ok (.ret .none)) { s with heap:=h',toks:=s.toks+1 }):codeAny W.M A (.call (.builtin "object.__setattr__") ⟨[.ref x,.str name tk,v],[]⟩) R s:=by
 refine osa_open X I hp (r:=none) (by unfold takerIn;rw[ht];rfl) λb=>?_;obtain⟨cd,hc,Oq⟩:=any_some hh;have up:=zC (f:=Obj.putName name (PyData.keyHash W.P name) (.str name s.toks) v) (h:=s.heap) D (by rw[putName_dict];rfl);rw[putName_dict]at up;obtain⟨hx,hcl,hn,-⟩:=I;obtain⟨oc,W8,Vg,Vh⟩:=ox;dsimp only at hcl hd;subst hcl hd;refine zy (zq (zy (zy (wpAny_loadPart hx (zy ((looks_clsIn X hc).here ?_))))));rw[Oq];refine zq (a:=some dx) (zy (zq (zy ?_)));unfold nsSet;refine zy (zy (wpAny_askSetting (zq (zy (wpAny_mkText (zy (wpAny_loadPart D ?_)))))));dsimp only;have c:(!es.toArray.any (·.key.isStr name)&&es.toArray.any (·.refKey))=false:=by
  rw[<-any_toList,<-any_toList];simp only[hr,Bool.and_false]
 rw[aRefKeyMayBeTheName_at,c];refine wpAny_updatePart D ?_;refine zy (wpAny_lookBehind up (pastItsLine_dict (by rw[zW,sizeLine_eq];lia)) ?_);exact zq (h _ (Heap.SameBut.update ..) up)
def uZ(W:Wd)(fr:List Env)(pa:List Addr)(g:IH)(J:cy)(H:Hp)(s:Shared)(H':Hp)(Q:Unit->Shared->Prop):Prop:=
 ∀g' J' s',BAt W fr pa g' J' H' s'->Step [] g J H s.heap g' J' H' s'.heap->bu s s'->Q () s'
def C8(fs:List (Nat×V))(k:Nat)(v:V):(hJ fs k v).length<=fs.length+1:=by
 induction fs with
 |nil=>simp[KM,Bz]
 |cons p r ih=>
  obtain⟨a,x⟩:=p;rw[Bz];split<;>simp
  lia
def yT{n c:Nat}{fs:List (Nat×V)}{x:V}{k:Nat}{R:Unit->Shared->Prop}(b:BAt W fr pa g J H s)(hH:H[n]?=some (.inst c fs))(hc:((cI c).contains k&&decide (fs.length<=100))=true)(ro:ay W.P g J (.ref n) xo)(rv:ay W.P g J x xv)(q:uZ W fr pa g J H s (H.set n (.inst c (hJ fs k x))) R):wpAny W.M A (setAttr xo (fT k) xv) R E s:=by
 rw[zm,zN]at hc;have hm:=zA.mp hc.1;apply cA ro;intro p hp;obtain⟨es,m,h1,h2,h3,h4⟩:=b.rel.obj n _ p hH hp;obtain⟨_,q2,q3,q4⟩:=kS b (nH hm);have I:InstAt s.heap p.1 (instObj c p.2) c (some (aA es m)):=⟨h1,rfl,rfl,h2⟩;obtain⟨w1,w2⟩:=uX (qI hm) rv (s.toks+1) h3 h4;refine set_plain b.kin I q4 (C7 (s:={ s with toks:=s.toks+1 }) b.kin I rfl q3 (kU b hm) q2 h2 (ig (du h3)) ?_ λh' hs ho=>?_)
 .rw[jU w1,zM]
  exact zT (C8 fs k x) (zT (Nat.add_le_add_right hc.2 1) (by decide))
 .obtain⟨y,z⟩:=b.turn (t:=s.toks+1+1) (o':=.inst c (hJ fs k x)) hH hp (List.Sublist.refl _) (a:=p.2) (zx _ (zp.mpr rfl)) hs ⟨_,_,(hs.2 _ λq=>by rw[q,h2]at h1;injection h1).trans h1,ho,w1,w2⟩
  exact q _ _ _ y z ⟨rfl,rfl,rfl⟩
def Hq{x:V}{k:Nat}{R:Unit->Shared->Prop}(b:BAt W fr pa g J H s)(e:cP H v k x=some H')(ro:ay W.P g J v xo)(rv:ay W.P g J x xv)(q:uZ W fr pa g J H s H' R):wpAny W.M A (setAttr xo (fT k) xv) R E s:=
 qo (m:=λv=>ay W.P g J v xo->wpAny W.M A (setAttr xo (fT k) xv) R E s) e (λn e ro=>BM e λc fs hH e=>bc e λhc e=>ae (m:=λH'=>uZ W fr pa g J H s H' R->wpAny W.M A (setAttr xo (fT k) xv) R E s) e (λq=>yT b hH hc ro rv q) q) ro
end
def QZ(P:Params)(g:IH)(J:cy)(p:List (List Nat)×List V)(es:List DictEntry):Prop:=aN P p.1 es/\ah P g J p.2 (es.map (·.val))
def nI{k:List Nat}{x:Value}(rx:ay P g J v x)(t:Tok):∀{vs:List V} {es:List DictEntry},aN P ks es->ah P g J vs (es.map (·.val))->QZ P g J (dictPut ks vs k v) (putL (aH k) (PyData.keyHash P (aH k)) (.str (aH k) t) x es):=by
 induction ks with
 |nil=>
  intro vs es h1 h2
  cases es with
  |nil=>exact⟨⟨⟨t,rfl,rfl⟩,trivial⟩,ev.mpr ⟨_,rfl,rx⟩⟩
  |cons _ _=>exact False.elim h1
 |cons a ks ih=>
  intro vs es h1 h2
  cases es with
  |nil=>exact False.elim h1
  |cons e es=>cases vs with
   |nil=>exact nomatch aB.mp h2
   |cons w vs=>
    obtain⟨h0,h1⟩:=h1;obtain⟨u,he,hh⟩:=h0;obtain⟨y,ys,q,r1,r2⟩:=ad.mp h2;have q1:e.val=y:=(List.cons.inj q).1;have q2:es.map (·.val)=ys:=(List.cons.inj q).2;subst q1 q2;have hs:e.key.isStr (aH k)=decide (a=k):=by rw[he,eT]
    by_cases c:a=k
    .subst c
     have d1:dictPut (a::ks) (w::vs) a v=(a::ks,v::vs):=if_pos rfl;rw[d1,putL,if_pos (hs.trans (zb rfl))];exact⟨⟨⟨u,he,hh⟩,h1⟩,ad.mpr ⟨_,_,rfl,rx,r2⟩⟩
    .have d1:dictPut (a::ks) (w::vs) k v=(a::(dictPut ks vs k v).1,w::(dictPut ks vs k v).2):=if_neg c
     rw[d1,putL,if_neg (λz=>c (zG (hs.symm.trans z)))];obtain⟨z1,z2⟩:=ih h1 r2;exact⟨⟨⟨u,he,hh⟩,z1⟩,ad.mpr ⟨_,_,rfl,r1,z2⟩⟩
section
variable{prog:Program}{w:World}{s:Shared}{a:Addr}{es:List DictEntry}{n:Nat}{k:List Nat}{tk:Tok}{v:Value}
def sV{Q:Unit->Shared->Prop}(ho:s.heap.get? a=some (aA es n))(rS:(es.all λe=>isExactStrKey e.key)=true)(hz:es.length<=1000)(h:∀h' n',Heap.SameBut a s.heap h'->h'.get? a=some (aA (putL (aH k) (PyData.keyHash w.params (aH k)) (.str (aH k) tk) v es) n')->Q () { s with heap:=h',toks:=s.toks+1 }):wpAny (model prog w) A (dictSet a (.str (aH k) tk) v) Q E s:=by
 unfold dictSet
 try with_reducible refine zQ ?_
 refine zy (wpAny_pyHash_str ?_);unfold dictSetHashed
 try with_reducible refine zQ ?_
 refine zy (KTD.kt_dictFind_strs (s:={ s with toks:=s.toks+1 }) ho rfl (by simpa using rS) ?_);have ef:(es.toArray.findIdx? λe=>e.key.isStr (aH k))=es.findIdx? (λe=>e.key.isStr (aH k)):=by simp
 rw[ef];have pl:=putL_find (aH k) (PyData.keyHash w.params (aH k)) (.str (aH k) tk) v es
 cases hi:es.findIdx? λe=>e.key.isStr (aH k)with
 |some i=>
  rw[hi]at pl;refine zy (wpAny_rule (zy (wpAny_updateDict (s:={ s with toks:=s.toks+1 }) ho rfl (wpAny_point (h _ n (Heap.SameBut.update ..) ?_)))));rw[zC _ ho rfl,<-pl];unfold Obj.mapDict;dsimp only;simp
 |none=>
  rw[hi]at pl;refine zy (wpAny_rule (wpAny_updateDictKeys (hz:=by rw[zW,sizeLine_eq];lia) (s:={ s with toks:=s.toks+1 }) ho rfl (h _ (n+1) (Heap.SameBut.update ..) ?_)));rw[zC _ ho rfl,<-pl];unfold Obj.mapDictKeys;dsimp only;simp
  rfl
def sW{xs:List Value}{k:Int}{Q:Unit->Shared->Prop}(ho:s.heap.get? a=some (bd xs n))(h0:0<=k)(Sf:k<2 ^ 63)(hn:k<xs.length)(hQ:∀h' n',Heap.SameBut a s.heap h'->h'.get? a=some (bd (xs.set k.toNat v) n')->Q () { s with heap:=h' }):wpAny (model prog w) A (setItem (.ref a) (.int k t) v) Q E s:=by
 have hl:=bx ho;unfold setItem
 try with_reducible refine zQ ?_
 refine zy (wpAny_sequenceKey hl.typeIs (by decide) ?_);refine zy (wpAny_callSpecial?_slot (name:=Str.ofString "__setitem__") hl.typeIs slot_list_setitem (wpAny_call_entry slot_list_setitem hl.typeIs entry_list_setitem ?_ (args_list_setitem _ _ _)));show wpAny _ _ (Builtin.List.listSubscript? (.int k t)>>=_) _ _ s;refine zy (wpAny_listSubscript_int (fitsIndex_of h0 Sf) ?_);clear Sf;obtain⟨j,rfl⟩:=Int.eq_ofNat_of_zero_le h0;have hj:j<xs.toArray.size:=by rw[zW];lia
 have hx':xs.toArray[j]?=some xs.toArray[j]:=Array.getElem?_eq_getElem hj;show wpAny _ _ ((seqItemAt a j>>=λr=>pure (r.map (j,·)))>>=_) _ _ s;refine zy (zy (wpAny_seqItemAt ho rfl (zq ?_)));rw[hx'];show wpAny _ _ (setSeqItemAt a j v>>=_) _ _ s;have up:∃n',(s.heap.update a (Obj.mapSeq (·.setIfInBounds j v))).get? a=some (bd (xs.set j v) n'):=by
  obtain⟨n',Oq⟩:=Obj.data_mapSeq (o:=bd xs n) (xs:=xs.toArray) (n:=n) rfl (·.setIfInBounds j v);refine⟨n',?_⟩;rw[zC _ ho (Obj.isFreed_of_seq Oq)];have e1:(Obj.mapSeq (·.setIfInBounds j v) (bd xs n))={ bd xs n with data:=(Obj.mapSeq (·.setIfInBounds j v) (bd xs n)).data }:=rfl;rw[e1,Oq];simp
 obtain⟨n',up⟩:=up;refine zy (wpAny_setSeqItemAt ho rfl ?_);exact zq ⟨.none,rfl,zq (hQ _ n' (Heap.SameBut.update ..) up)⟩
def sX{Q:Unit->Shared->Prop}(ho:s.heap.get? a=some (aA es n))(rS:(es.all λe=>isExactStrKey e.key)=true)(hz:es.length<=1000)(h:∀h' n',Heap.SameBut a s.heap h'->h'.get? a=some (aA (putL (aH k) (PyData.keyHash w.params (aH k)) (.str (aH k) tk) v es) n')->Q () { s with heap:=h',toks:=s.toks+1 }):wpAny (model prog w) A (setItem (.ref a) (.str (aH k) tk) v) Q E s:=by
 unfold setItem
 try with_reducible refine zQ ?_
 refine zy (wpAny_sequenceKey (bE ho) (by decide) ?_);refine zy (wpAny_callSpecial?_slot (name:=Str.ofString "__setitem__") (bE ho) slot_dict_setitem (wpAny_call_entry slot_dict_setitem (bE ho) entry_dict_setitem ?_ (args_dict_setitem _ _ _)));show wpAny _ _ (Builtin.Dict.notOrdered "__setitem__" ⟨[.ref a,.str (aH k) tk,v],[]⟩>>=_) _ _ s;refine zy (wpAny_notOrdered_dict (bE ho) ?_);show wpAny _ _ (dictSet a (.str (aH k) tk) v>>=_) _ _ s;exact zy (sV ho rS hz λh' n' hs' KA=>zq ⟨.none,rfl,zq (h h' n' hs' KA)⟩)
def u0:∀{ks:List (List Nat)} {xs:List Value} {es:List DictEntry},ks.length=xs.length->(∀e∈es,∃k,(strKind prog w).is k e.key=true/\e.hash=(strKind prog w).hash k)->Pairs (strKind prog w) es ((ks.map aH).zip xs)->aN w.params ks es/\es.map (·.val)=xs:=by
 intro ks
 induction ks with
 |nil=>
  intro xs es hl hk h
  cases xs with
  |cons _ _=>injection hl
  |nil=>cases es with
   |nil=>exact⟨trivial,rfl⟩
   |cons _ _=>injection h
 |cons k ks ih=>
  intro xs es hl hk h
  cases xs with
  |nil=>injection hl
  |cons x xs=>cases es with
   |nil=>injection h
   |cons e es=>
    cases h with
    |cons h1 h2 h3=>
     obtain⟨q1,q2⟩:=ih (by simpa using hl) (λe he=>hk e (zx _ he)) h3;obtain⟨t,ht⟩:=Value.isStrOf_shape h1;obtain⟨k',W9,hh⟩:=hk e (zw ..);have:k'=aH k:=(strKind prog w).inj e.key k' (aH k) W9 h1;subst this;refine⟨?_,by rw[z0,q2,h2]⟩;exact And.intro ⟨t,ht,hh⟩ q1
end
section
variable{s:Shared}{d:Nat}
section
variable{n:Nat}{x:V}{xo xi xv:Value}{R:Unit->Shared->Prop}
def C9{vs:List V}{j:Int}(b:BAt W fr pa g J H s)(hH:H[n]?=some (.list vs))(hc:0<=j/\j<vs.length/\aj vs.length)(ro:ay W.P g J (.ref n) xo)(ri:ay W.P g J (.int j) xi)(rv:ay W.P g J x xv)(q:uZ W fr pa g J H s (H.set n (.list (vs.set j.toNat x))) R):wpAny W.M A (setItem xo xi xv) R E s:=by
 apply cA ro;intro p hp;apply ak ri;intro t;obtain⟨xs,m,q1,q2⟩:=b.rel.obj n _ p hH hp;have hl:=hc.2.1;rw[<-au q2]at hl;refine sW q1 hc.1 (lt_trans hc.2.1 (mq hc.2.2)) hl λh' m' hs ho=>?_;obtain⟨y,z⟩:=b.turn (t:=s.toks) (o':=.list (vs.set j.toNat x)) hH hp (List.Sublist.refl _) (a:=p.1) (zp.mpr rfl) hs ⟨_,m',ho,Cw q2 rv⟩;exact q _ _ _ y z ⟨rfl,rfl,rfl⟩
def Da{ks:List (List Nat)}{l:List Nat}(b:BAt W fr pa g J H s)(hH:H[n]?=some (.dict ks vs))(hc:ks.length<=1000)(ro:ay W.P g J (.ref n) xo)(ri:ay W.P g J (.str l) xi)(rv:ay W.P g J x xv)(q:uZ W fr pa g J H s (H.set n (.dict (dictPut ks vs l x).1 (dictPut ks vs l x).2)) R):wpAny W.M A (setItem xo xi xv) R E s:=by
 apply cA ro;intro p hp;apply az ri;intro t;obtain⟨ns,es,m,q1,q2,q3⟩:=b.rel.obj n _ p hH hp;refine sX q1 (du q2) (by rw[jU q2];exact hc) λh' n' hs ho=>?_;obtain⟨w1,w2⟩:=nI (k:=l) rv t q2 q3;obtain⟨y,z⟩:=b.turn (t:=s.toks+1) (o':=.dict (dictPut ks vs l x).1 (dictPut ks vs l x).2) hH hp (List.Sublist.refl _) (a:=p.1) (zp.mpr rfl) hs ⟨ns,_,n',ho,w1,w2⟩;exact q _ _ _ y z ⟨rfl,rfl,rfl⟩
end
def pF(W:Wd)(fr:List Env)(pa:List Addr)(g:IH)(J:cy)(H:Hp)(s:Shared)(A:Around)(E:QP)(R:Unit->Shared->Prop)(x:V)(xo xi xv:Value)(o i:V)(H':Hp):Prop:=
 ay W.P g J o xo->ay W.P g J i xi->ay W.P g J x xv->uZ W fr pa g J H s H' R->wpAny W.M A (setItem xo xi xv) R E s
def Hr{x:V}{R:Unit->Shared->Prop}(b:BAt W fr pa g J H s)(e:ek H o i x=some H')(ro:ay W.P g J o xo)(ri:ay W.P g J i xi)(rv:ay W.P g J x xv)(q:uZ W fr pa g J H s H' R):wpAny W.M A (setItem xo xi xv) R E s:=by
 refine (?_:pF W fr pa g J H s A E R x xo xi xv o i H') ro ri rv q;refine qo (m:=λo=>pF W fr pa g J H s A E R x xo xi xv o i H') e λn e=>wC e λob hH e=>?_
 cases ob with
 |list vs=>exact dp (m:=λi=>pF W fr pa g J H s A E R x xo xi xv (.ref n) i H') e λj e=>BN e λhc e=>ae (m:=pF W fr pa g J H s A E R x xo xi xv (.ref n) (.int j)) e (C9 b hH hc)
 |dict ks vs=>exact eC (m:=λi=>pF W fr pa g J H s A E R x xo xi xv (.ref n) i H') e λl e=>BN e λhc e=>ae (m:=pF W fr pa g J H s A E R x xo xi xv (.ref n) (.str l)) e (Da b hH hc)
 |_=>exact nn e
end
noncomputable abbrev Kd:=Str->Option NameKind
noncomputable def nJ(e:Expr):Bool:=e.ctorIdx != 7
section
variable{α:Type}{d r:α}{e:Expr}
noncomputable def qK(d:α)(f:BoolOp->List Expr->Pos->α)(e:Expr):α:=if h:e.ctorIdx=0 then Expr.BoolOp.elim (motive_1:=λ_=>α) e h f else d
def yU{m:Expr->Prop}{f}(h:qK d f e=r)(hd:d≠r)(k:∀op vs q,f op vs q=r->m (.BoolOp op vs q)):m e:=
 if c:e.ctorIdx=0 then Expr.BoolOp.elim (motive_1:=λe=>qK d f e=r->m e) e c (λop vs q=>k op vs q) h else absurd ((zX c).symm.trans h) hd
noncomputable def u1(d:α)(f:Expr->Operator->Expr->Pos->α)(e:Expr):α:=if h:e.ctorIdx=2 then Expr.BinOp.elim (motive_1:=λ_=>α) e h f else d
def Db{m:Expr->Prop}{f}(h:u1 d f e=r)(hd:d≠r)(k:∀l o z q,f l o z q=r->m (.BinOp l o z q)):m e:=
 if c:e.ctorIdx=2 then Expr.BinOp.elim (motive_1:=λe=>u1 d f e=r->m e) e c (λl o z q=>k l o z q) h else absurd ((zX c).symm.trans h) hd
noncomputable def nK(d:α)(f:UnaryOp->Expr->Pos->α)(e:Expr):α:=if h:e.ctorIdx=3 then Expr.UnaryOp.elim (motive_1:=λ_=>α) e h f else d
def u2{m:Expr->Prop}{f}(h:nK d f e=r)(hd:d≠r)(k:∀o x q,f o x q=r->m (.UnaryOp o x q)):m e:=
 if c:e.ctorIdx=3 then Expr.UnaryOp.elim (motive_1:=λe=>nK d f e=r->m e) e c (λo x q=>k o x q) h else absurd ((zX c).symm.trans h) hd
noncomputable def u3(d:α)(f:Expr->Expr->Expr->Pos->α)(e:Expr):α:=if h:e.ctorIdx=5 then Expr.IfExp.elim (motive_1:=λ_=>α) e h f else d
def Dd{m:Expr->Prop}{f}(h:u3 d f e=r)(hd:d≠r)(k:∀t a b q,f t a b q=r->m (.IfExp t a b q)):m e:=
 if c:e.ctorIdx=5 then Expr.IfExp.elim (motive_1:=λe=>u3 d f e=r->m e) e c (λt a b q=>k t a b q) h else absurd ((zX c).symm.trans h) hd
noncomputable def De(d:α)(f:List (Option Expr)->List Expr->Pos->α)(e:Expr):α:=if h:e.ctorIdx=6 then Expr.Dict.elim (motive_1:=λ_=>α) e h f else d
def Hs{m:Expr->Prop}{f}(h:De d f e=r)(hd:d≠r)(k:∀ks vs q,f ks vs q=r->m (.Dict ks vs q)):m e:=
 if c:e.ctorIdx=6 then Expr.Dict.elim (motive_1:=λe=>De d f e=r->m e) e c (λks vs q=>k ks vs q) h else absurd ((zX c).symm.trans h) hd
noncomputable def kX(d:α)(f:Expr->List Comprehension->Scope->Pos->α)(e:Expr):α:=if h:e.ctorIdx=8 then Expr.ListComp.elim (motive_1:=λ_=>α) e h f else d
def sY{m:Expr->Prop}{f}(h:kX d f e=r)(hd:d≠r)(k:∀e gs sc q,f e gs sc q=r->m (.ListComp e gs sc q)):m e:=
 if c:e.ctorIdx=8 then Expr.ListComp.elim (motive_1:=λe=>kX d f e=r->m e) e c (λe gs sc q=>k e gs sc q) h else absurd ((zX c).symm.trans h) hd
noncomputable def nM(d:α)(f:Expr->List CmpOp->List Expr->Pos->α)(e:Expr):α:=if h:e.ctorIdx=15 then Expr.Compare.elim (motive_1:=λ_=>α) e h f else d
def u4{m:Expr->Prop}{f}(h:nM d f e=r)(hd:d≠r)(k:∀l os rs q,f l os rs q=r->m (.Compare l os rs q)):m e:=
 if c:e.ctorIdx=15 then Expr.Compare.elim (motive_1:=λe=>nM d f e=r->m e) e c (λl os rs q=>k l os rs q) h else absurd ((zX c).symm.trans h) hd
noncomputable def wY(d:α)(f:Expr->List Expr->List Keyword->Pos->α)(e:Expr):α:=if h:e.ctorIdx=16 then Expr.Call.elim (motive_1:=λ_=>α) e h f else d
def Ht{m:Expr->Prop}{f}(h:wY d f e=r)(hd:d≠r)(k:∀g as ks q,f g as ks q=r->m (.Call g as ks q)):m e:=
 if c:e.ctorIdx=16 then Expr.Call.elim (motive_1:=λe=>wY d f e=r->m e) e c (λg as ks q=>k g as ks q) h else absurd ((zX c).symm.trans h) hd
noncomputable def eF(d:α)(f:Expr->Int->Option Expr->Pos->α)(e:Expr):α:=if h:e.ctorIdx=17 then Expr.FormattedValue.elim (motive_1:=λ_=>α) e h f else d
def jV{m:Expr->Prop}{f}(h:eF d f e=r)(hd:d≠r)(k:∀v c s q,f v c s q=r->m (.FormattedValue v c s q)):m e:=
 if c:e.ctorIdx=17 then Expr.FormattedValue.elim (motive_1:=λe=>eF d f e=r->m e) e c (λv c s q=>k v c s q) h else absurd ((zX c).symm.trans h) hd
noncomputable def jo(d:α)(f:List Expr->Pos->α)(e:Expr):α:=if h:e.ctorIdx=18 then Expr.JoinedStr.elim (motive_1:=λ_=>α) e h f else d
def qL{m:Expr->Prop}{f}(h:jo d f e=r)(hd:d≠r)(k:∀vs q,f vs q=r->m (.JoinedStr vs q)):m e:=
 if c:e.ctorIdx=18 then Expr.JoinedStr.elim (motive_1:=λe=>jo d f e=r->m e) e c (λvs q=>k vs q) h else absurd ((zX c).symm.trans h) hd
noncomputable def kY(d:α)(f:Const->Nat->Pos->α)(e:Expr):α:=if h:e.ctorIdx=19 then Expr.Constant.elim (motive_1:=λ_=>α) e h f else d
def sZ{m:Expr->Prop}{f}(h:kY d f e=r)(hd:d≠r)(k:∀c n q,f c n q=r->m (.Constant c n q)):m e:=
 if c:e.ctorIdx=19 then Expr.Constant.elim (motive_1:=λe=>kY d f e=r->m e) e c (λc n q=>k c n q) h else absurd ((zX c).symm.trans h) hd
noncomputable def jp(d:α)(f:Expr->Str->Pos->α)(e:Expr):α:=if h:e.ctorIdx=20 then Expr.Attribute.elim (motive_1:=λ_=>α) e h f else d
def qM{m:Expr->Prop}{f}(h:jp d f e=r)(hd:d≠r)(k:∀v n q,f v n q=r->m (.Attribute v n q)):m e:=
 if c:e.ctorIdx=20 then Expr.Attribute.elim (motive_1:=λe=>jp d f e=r->m e) e c (λv n q=>k v n q) h else absurd ((zX c).symm.trans h) hd
noncomputable def jq(d:α)(f:Expr->Expr->Pos->α)(e:Expr):α:=if h:e.ctorIdx=21 then Expr.Subscript.elim (motive_1:=λ_=>α) e h f else d
def qN{m:Expr->Prop}{f}(h:jq d f e=r)(hd:d≠r)(k:∀v s q,f v s q=r->m (.Subscript v s q)):m e:=
 if c:e.ctorIdx=21 then Expr.Subscript.elim (motive_1:=λe=>jq d f e=r->m e) e c (λv s q=>k v s q) h else absurd ((zX c).symm.trans h) hd
noncomputable def lS(d:α)(f:Str->Pos->α)(e:Expr):α:=if h:e.ctorIdx=23 then Expr.Name.elim (motive_1:=λ_=>α) e h f else d
def jW{m:Expr->Prop}{f}(h:lS d f e=r)(hd:d≠r)(k:∀x q,f x q=r->m (.Name x q)):m e:=
 if c:e.ctorIdx=23 then Expr.Name.elim (motive_1:=λe=>lS d f e=r->m e) e c (λx q=>k x q) h else absurd ((zX c).symm.trans h) hd
def gC(e:Expr):Bool:=wY true (λf _ _ _=>lS true (λid _=>id != "super") f) e
noncomputable def Df(d:α)(f:List Expr->Pos->α)(e:Expr):α:=if h:e.ctorIdx=24 then Expr.List.elim (motive_1:=λ_=>α) e h f else d
def Hu{m:Expr->Prop}{f}(h:Df d f e=r)(hd:d≠r)(k:∀vs q,f vs q=r->m (.List vs q)):m e:=
 if c:e.ctorIdx=24 then Expr.List.elim (motive_1:=λe=>Df d f e=r->m e) e c (λvs q=>k vs q) h else absurd ((zX c).symm.trans h) hd
noncomputable def kZ(d:α)(f:List Expr->Nat->Pos->α)(e:Expr):α:=if h:e.ctorIdx=25 then Expr.Tuple.elim (motive_1:=λ_=>α) e h f else d
def nO{m:Expr->Prop}{f}(h:kZ d f e=r)(hd:d≠r)(k:∀vs n q,f vs n q=r->m (.Tuple vs n q)):m e:=
 if c:e.ctorIdx=25 then Expr.Tuple.elim (motive_1:=λe=>kZ d f e=r->m e) e c (λvs n q=>k vs n q) h else absurd ((zX c).symm.trans h) hd
noncomputable def u5(d:α)(f:Option Expr->Option Expr->Option Expr->Pos->α)(e:Expr):α:=if h:e.ctorIdx=26 then Expr.Slice.elim (motive_1:=λ_=>α) e h f else d
def Dg{m:Expr->Prop}{f}(h:u5 d f e=r)(hd:d≠r)(k:∀lo hi st q,f lo hi st q=r->m (.Slice lo hi st q)):m e:=
 if c:e.ctorIdx=26 then Expr.Slice.elim (motive_1:=λe=>u5 d f e=r->m e) e c (λlo hi st q=>k lo hi st q) h else absurd ((zX c).symm.trans h) hd
end
noncomputable def c1{α:Type}(f:α->Bool):List α->Bool
 |x::r=>r.isEmpty&&f x
 |[]=>false
def c2{α:Type}(f:α->α->Bool):List α->Bool
 |x::r=>c1 (f x) r
 |[]=>false
def nP(p:Str->Bool):Expr->Bool:=lS false λx _=>p x
def qO(o:BoolOp)(m:List Expr->Bool):Expr->Bool:=qK false λop vs _=>op==o&&m vs
def wZ(f:Expr->List CmpOp->List Expr->Bool):Expr->Bool:=nM false λl os rs _=>f l os rs
def LV(o:Operator)(a b:Expr->Bool):Expr->Bool:=u1 false λl o' r _=>o'==o&&(a l&&b r)
def LW(t a b:Expr->Bool):Expr->Bool:=u3 false λt' a' b' _=>t t'&&(a a'&&b b')
def lT(f:Expr->Str->Pos->Bool):Expr->Bool:=jp false f
def Hv(a b:Expr->Bool):Expr->Bool:=jq false λv s _=>a v&&b s
def V1(a b c:Option Expr->Bool):Expr->Bool:=u5 false λlo hi st _=>a lo&&(b hi&&c st)
def LX(m:List Expr->Bool):Expr->Bool:=kZ false λvs _ _=>m vs
def w7(m:List Expr->Bool):Expr->Bool:=Df false λvs _=>decide (vs.length<=1000)&&m vs
def Dh(m:List (Option Expr)->List Expr->Bool):Expr->Bool:=De false λks vs _=>m ks vs
def V2(f:Expr->List Comprehension->Scope->Bool):Expr->Bool:=kX false λe gs sc _=>f e gs sc
def nQ(f:Expr->List Expr->Pos->Bool):Expr->Bool:=wY false λg as ks p=>ks.isEmpty&&f g as p
def Ka(f:Expr->Expr->Bool):Expr->Bool:=jo false λvs _=>c2 f vs
def Q0(m:Expr->Bool):Expr->Bool:=eF false λv c s _=>c == -1&&(s.isNone&&m v)
def o8(p:Const->Bool):Expr->Bool:=kY false λc _ _=>p c
def cUn(o:UnaryOp)(m:Expr->Bool):Expr->Bool:=nK false λo' x _=>o'==o&&m x
noncomputable def Kb:Const->Bool
 |.none=>true
 |_=>false
noncomputable def kBool(b:Bool):Const->Bool
 |.bool c=>b==c
 |_=>false
noncomputable def LY(i:Int):Const->Bool
 |.int j=>i==j
 |_=>false
def Di(s:List Nat):Const->Bool
 |.str x=>x==aH s
 |_=>false
def an{a b:Bool}(h:(a&&b)=true):a=true/\b=true:=and_eq_true_iff.mp h
section
variable{e:Expr}
variable{m:Expr->Prop}
def u6{a b:Bool}{Q:Prop}(h:(a&&b)=true)(k:a=true->b=true->Q):Q:=k (an h).1 (an h).2
def ge{α:Type}[BEq α][LawfulBEq α]{a b:α}{m:α->Prop}(h:(a==b)=true)(k:m b):m a:=ze.mp h▸k
def Dj{α:Type}[BEq α][LawfulBEq α]{a b:α}{m:α->Prop}(h:(a==b)=true)(k:m a):m b:=ze.mp h▸k
def lU{α:Type}{l:List α}{m:List α->Prop}(h:l.isEmpty=true)(k:m []):m l:=isEmpty_iff.mp h▸k
def Dk{α:Type}{l:Option α}{m:Option α->Prop}(h:l.isNone=true)(k:m none):m l:=Option.isNone_iff_eq_none.mp h▸k
def u7{α:Type}{f:α->Bool}{l:List α}{m:List α->Prop}(h:c1 f l=true)(k:∀x,f x=true->m [x]):m l:=by
 cases l with
 |nil=>exact ff h
 |cons x r=>exact lU (m:=λr=>m (x::r)) (an h).1 (k x (an h).2)
def yV{α:Type}{f:α->α->Bool}{l:List α}{m:List α->Prop}(h:c2 f l=true)(k:∀x y,f x y=true->m [x,y]):m l:=by
 cases l with
 |nil=>exact ff h
 |cons x r=>exact u7 (m:=λr=>m (x::r)) h (k x)
def fK{p}(h:nP p e=true)(k:∀x q,p x=true->m (.Name x q)):m e:=jW h zt k
def pG{o f}(h:qO o f e=true)(k:∀vs q,f vs=true->m (.BoolOp o vs q)):m e:=yU h zt λ_ vs q h=>ge (m:=λo=>m (.BoolOp o vs q)) (an h).1 (k vs q (an h).2)
def qP{f}(h:wZ f e=true)(k:∀l os rs q,f l os rs=true->m (.Compare l os rs q)):m e:=u4 h zt k
def Dl{o a b}(h:LV o a b e=true)(k:∀l r q,a l=true->b r=true->m (.BinOp l o r q)):m e:=Db h zt λl _ r q h=>ge (m:=λo=>m (.BinOp l o r q)) (an h).1 (u6 (an h).2 (k l r q))
def Dm{t a b}(h:LW t a b e=true)(k:∀t' a' b' q,t t'=true->a a'=true->b b'=true->m (.IfExp t' a' b' q)):m e:=Dd h zt λx y z q h=>u6 (an h).2 (k x y z q (an h).1)
def jX{f}(h:lT f e=true)(k:∀v n q,f v n q=true->m (.Attribute v n q)):m e:=qM h zt k
def u8{a b}(h:Hv a b e=true)(k:∀v s q,a v=true->b s=true->m (.Subscript v s q)):m e:=qN h zt λv s q h=>u6 h (k v s q)
def Q1{a b c}(h:V1 a b c e=true)(k:∀lo hi st q,a lo=true->b hi=true->c st=true->m (.Slice lo hi st q)):m e:=Dg h zt λx y z q h=>u6 (an h).2 (k x y z q (an h).1)
def Dn{f}(h:LX f e=true)(k:∀vs n q,f vs=true->m (.Tuple vs n q)):m e:=nO h zt k
def qQ{f}(h:w7 f e=true)(k:∀vs q,vs.length<=1000->f vs=true->m (.List vs q)):m e:=Hu h zt λvs q h=>k vs q (zG (an h).1) (an h).2
def w8{f}(h:Dh f e=true)(k:∀ks vs q,f ks vs=true->m (.Dict ks vs q)):m e:=Hs h zt k
def Q2{f}(h:V2 f e=true)(k:∀x gs sc q,f x gs sc=true->m (.ListComp x gs sc q)):m e:=sY h zt k
def mw{f}(h:nQ f e=true)(k:∀g as p,f g as p=true->m (.Call g as [] p)):m e:=Ht h zt λg as _ p h=>lU (m:=λks=>m (.Call g as ks p)) (an h).1 (k g as p (an h).2)
def Hw{f}(h:Ka f e=true)(k:∀x y q,f x y=true->m (.JoinedStr [x,y] q)):m e:=qL h zt λvs q h=>yV (m:=λvs=>m (.JoinedStr vs q)) h λx y=>k x y q
def LZ{f}(h:Q0 f e=true)(k:∀v q,f v=true->m (.FormattedValue v (-1) none q)):m e:=jV h zt λv c s q h=>ge (m:=λc=>m (.FormattedValue v c s q)) (an h).1 (Dk (m:=λs=>m (.FormattedValue v (-1) s q)) (an (an h).2).1 (k v q (an (an h).2).2))
def gD{p}(h:o8 p e=true)(k:∀c n q,p c=true->m (.Constant c n q)):m e:=sZ h zt k
def Kc{o f}(h:cUn o f e=true)(k:∀x q,f x=true->m (.UnaryOp o x q)):m e:=u2 h zt λ_ x q h=>ge (m:=λo=>m (.UnaryOp o x q)) (an h).1 (k x q (an h).2)
def Do{c:Const}(h:Kb c=true):c=.none:=by induction c using Const.casesOn<;>first | injection h;done | rfl
def ta{b:Bool}{c:Const}(h:kBool b c=true):c=.bool b:=by induction c using Const.casesOn<;>first | injection h;done | rw[ze.mp h]
def w9{i:Int}{c:Const}(h:LY i c=true):c=.int i:=by induction c using Const.casesOn<;>first | injection h;done | rw[ze.mp h]
def my{s:List Nat}{c:Const}(h:Di s c=true):c=.str (aH s):=by induction c using Const.casesOn<;>first | injection h;done | rw[ze.mp h]
end
def Q3:V->Expr->Bool
 |.none,e=>o8 Kb e
 |.bool b,e=>o8 (kBool b) e
 |.int i,e=>o8 (LY i) e||cUn .USub (o8 (LY (-i))) e
 |.str s,e=>o8 (Di s) e
 |_,_=>false
def UI(k:List Nat)(o:Option Expr):Bool:=o.any (o8 (Di k))
def tc:List (List Nat)->List (Option Expr)->Bool
 |[],es=>es.isEmpty
 |k::ks,e::es=>UI k e&&tc ks es
 |_::_,[]=>false
noncomputable def tw{α β:Type}(d:β)(f:α->α->β)(l:List α):β:=match l with
 |[]=>d
 |x::r=>match r with
  |[]=>d
  |y::r=>match r with
   |[]=>f x y
   |_::_=>d
def UJ{α β:Type}{d r:β}{f:α->α->β}{l:List α}{m:List α->Prop}(h:tw d f l=r)(hd:d≠r)(k:∀x y,f x y=r->m [x,y]):m l:=by
 cases l with
 |nil=>exact absurd h hd
 |cons x l=>cases l with
  |nil=>exact absurd h hd
  |cons y l=>cases l with
   |nil=>exact k x y h
   |cons _ _=>exact absurd h hd
def u9:Nat->Expr->Option (List Str)
 |0,_=>none
 |n+1,e=>match n with
  |0=>lS none (λx _=>some [x]) e
  |n+1=>match n with
   |0=>kZ none (λes _ _=>tw none (λa b=>lS none (λx _=>lS none (λy _=>if x != y then some [x,y] else none) b) a) es) e
   |_+1=>none
def Dp{m:Nat->Expr->List Str->Prop}{nt:Nat}(h:u9 nt tg=some ts)(f1:∀x p,m 1 (.Name x p) [x])(f2:∀x px y py k q,x≠y->m 2 (.Tuple [.Name x px,.Name y py] k q) [x,y]):m nt tg ts:=by
 cases nt with
 |zero=>exact nn h
 |succ nt=>cases nt with
  |zero=>exact jW (m:=λtg=>m 1 tg ts) h nn λx p h=>ae (m:=m 1 (.Name x p)) h (f1 x p)
  |succ nt=>cases nt with
   |zero=>
    exact nO (m:=λtg=>m 2 tg ts) h nn λes k q h=>UJ (m:=λes=>m 2 (.Tuple es k q) ts) h nn λa b h=>
     jW (m:=λa=>m 2 (.Tuple [a,b] k q) ts) h nn λx px h=>jW (m:=λb=>m 2 (.Tuple [.Name x px,b] k q) ts) h nn λy py h=>
      bc h λc h=>ae (m:=m 2 (.Tuple [.Name x px,.Name y py] k q)) h (f2 x px y py k q (bne_iff_ne.mp c))
   |succ _=>exact nn h
def Hx{m:V->Loc->Prop}(h:bindC 2 u=some li)(f:∀a b,m (.tup [a,b]) [some a,some b]):m u li:=
 BJ (m:=λu=>m u li) h λvs h=>uG (m:=λvs=>m (.tup vs) li) h λa b h=>ae (m:=m (.tup [a,b])) h (f a b)
noncomputable def jY(kd:Kd)(names:List (Str×NameKind)):List (Str×NameKind):=names.map λ(n,k)=>if (k==.free&&kd n==some .cell) then (n,.cell) else (n,k)
noncomputable def Hy(kd:Kd)(ns ts:List Str)(scope:Scope):Bool:=
 scope.kind==.function&&scope.names.all (λx=>x.2 != .cell&&(x.2 != .local||scope.names.lookup x.1==some .local)&&(x.2 != .free||(kd x.1==some .cell&&ns.contains x.1)))&&ts.all λx=>scope.names.lookup x==some .local
noncomputable def Tp(p:PE):Bool:=if h:p.ctorIdx=3 then PE.lit.elim (motive_1:=λ_=>Bool) p h λv=>Nat.beq v.ctorIdx 0 else false
noncomputable def Tq(u:Bool)(m:Expr->Bool):Option Expr->Bool
 |none=>u
 |some x=>m x
noncomputable def uB(b:Bool):V->Bool
 |.bool c=>b==c
 |_=>false
def Dq(e:Expr):Bool:=nP (λ_=>true) e
mutual
noncomputable def mE(kd:Kd)(ns nso:List Str):PE->Expr->Bool
 |.var i,e=>nP (λx=>ns[i]? == some x&&(kd x==some .local||kd x==some .cell)&&x != ("__debug__" : Str)) e
 |.fre i,e=>nP (λx=>nso[i]? == some x&&kd x==some .cell&&x != ("__debug__" : Str)) e
 |.glb k,e=>nP (λx=>F3 k==some x&&kd x==some .globalImplicit&&x != ("__debug__" : Str)) e
 |.lit v,e=>Q3 v e
 |.bool bv es,e=>qO (if bv then .And else .Or) (λvs=>kC kd ns nso es vs) e
 |.cmp a op b,e=>wZ (λl os rs=>c1 (λo=>op==o&&c1 (λr=>!behindInMarks op r&&mE kd ns nso a l&&mE kd ns nso b r) rs) os) e
 |.bin a op b,e=>LV op (λl=>mE kd ns nso a l) (λr=>mE kd ns nso b r) e
 |.addO a b,e=>LV .Add (λl=>mE kd ns nso a l) (λr=>mE kd ns nso b r) e
 |.ite t a b,e=>LW (λt'=>mT kd ns nso t t') (λa'=>mE kd ns nso a a') (λb'=>mE kd ns nso b b') e
 |.attr p k,e=>lT (λv n _=>n==fT k&&gC v&&mE kd ns nso p v) e
 |.idx p i,e=>Hv (λv=>mE kd ns nso p v) (λs=>mE kd ns nso i s) e
 |.slc p a b st,e=>Hv (λv=>mE kd ns nso p v) (V1 (Tq (Tp a) λx=>mE kd ns nso a x) (Tq (Tp b) λx=>mE kd ns nso b x) (Tq (Tp st) λx=>mE kd ns nso st x)) e
 |.tup es,e=>LX (λvs=>decide (vs.length<=1000)&&kC kd ns nso es vs) e
 |.list es,e=>w7 (λvs=>kC kd ns nso es vs) e
 |.listO es,e=>w7 (λvs=>kC kd ns nso es vs) e
 |.dict ks vs,e=>Dh (λkeys vals=>decide (0<ks.length/\ks.length<=15/\keys.length=vals.length)&&gx ks&&tc ks keys&&kC kd ns nso vs vals) e
 |.dictO,e=>Dh (λks vs=>ks.isEmpty&&vs.isEmpty) e
 |.comp nt elt it aF,e=>V2 (λmi gs scope=>c1 (λg=>g.is_async==0&&nJ g.iter&&mE kd ns nso it g.iter&&(u9 nt g.target).any λts=>
   Hy kd ns ts scope&&mE (λx=>(jY kd scope.names).lookup x) ts ns elt mi&&Bt (λx=>(jY kd scope.names).lookup x) ts ns aF g.ifs) gs) e
 |.call f args,e=>nQ (λg as _=>Dq g&&mE kd ns nso f g&&kC kd ns nso args as) e
 |.meth k o args,e=>nQ (λg as p=>lT (λv n ap=>n==fT k&&gC v&&(ap.endLine==p.line)&&decide (as.length<29)&&mE kd ns nso o v&&kC kd ns nso args as) g) e
 |.frz p,e=>mE kd ns nso p e
 |.fstr M p,e=>Ka (λx y=>o8 (Di M) x&&decide (M.length<=1000)&&Q0 (λv=>mE kd ns nso p v) y) e
 |.bad,_=>false
 |.not_ _,_=>false
 |.cmp2 _ _ _ _ _,_=>false
noncomputable def kC(kd:Kd)(ns nso:List Str):de->List Expr->Bool
 |.z,xs=>xs.isEmpty
 |.k e es,xs=>match xs with
  |x::r=>mE kd ns nso e x&&kC kd ns nso es r
  |[]=>false
noncomputable def mT(kd:Kd)(ns nso:List Str):PE->Expr->Bool
 |.not_ p,e=>cUn .Not (λx=>mT kd ns nso p x) e
 |.bool bv es,e=>qO (if bv then .And else .Or) (λvs=>Bt kd ns nso es vs) e
 |.ite t a b,e=>LW (λt'=>mT kd ns nso t t') (λa'=>mT kd ns nso a a') (λb'=>mT kd ns nso b b') e
 |.cmp a op b,e=>wZ (λl os rs=>c1 (λo=>op==o&&c1 (λr=>!behindInMarks op r&&mE kd ns nso a l&&mE kd ns nso b r) rs) os) e
 |.cmp2 a op b eL p,e=>wZ (λl os rs=>c2 (λo o2=>op==o&&eL==o2&&c2 (λr r2=>!behindInMarks eL r2&&mE kd ns nso a l&&mE kd ns nso b r&&mE kd ns nso p r2) rs) os) e
 |.var i,e=>nP (λx=>ns[i]? == some x&&(kd x==some .local||kd x==some .cell)&&x != ("__debug__" : Str)) e
 |.lit v,e=>o8 (λc=>kBool true c&&uB true v||kBool false c&&uB false v) e
 |.call f args,e=>nQ (λg as _=>Dq g&&mE kd ns nso f g&&kC kd ns nso args as) e
 |.meth k o args,e=>nQ (λg as p=>lT (λv n ap=>n==fT k&&gC v&&(ap.endLine==p.line)&&decide (as.length<29)&&mE kd ns nso o v&&kC kd ns nso args as) g) e
 |.attr p k,e=>lT (λv n _=>n==fT k&&gC v&&mE kd ns nso p v) e
 |.bad,_=>false
 |.fre _,_=>false
 |.glb _,_=>false
 |.bin _ _ _,_=>false
 |.addO _ _,_=>false
 |.idx _ _,_=>false
 |.slc _ _ _ _,_=>false
 |.tup _,_=>false
 |.list _,_=>false
 |.listO _,_=>false
 |.dict _ _,_=>false
 |.dictO,_=>false
 |.comp _ _ _ _,_=>false
 |.frz _,_=>false
 |.fstr _ _,_=>false
noncomputable def Bt(kd:Kd)(ns nso:List Str):de->List Expr->Bool
 |.z,xs=>xs.isEmpty
 |.k e es,xs=>match xs with
  |x::r=>mT kd ns nso e x&&Bt kd ns nso es r
  |[]=>false
end
def mO(kd:Kd)(ns nso:List Str)(p:PE)(o:Option Expr):Bool:=Tq (Tp p) (λx=>mE kd ns nso p x) o
noncomputable abbrev kdOf(cx:Cx):Kd:=λx=>cx.env.kindOf x
section
variable{l lo:Loc}{H':Hp}{s:Shared}{d:Nat}
def oZ.gives(k:oZ W fr pa cx l lo g J H s K Q)(a:At W fr pa cx l lo g J H s)(hk:K v H'):Gives W fr pa g J H s v H' Q:=
 λg' J' x s' hr hb hst hs=>k g' J' H' v x s' hk hr (a.step hb hst) hst hs
def oZ.bool{b:Bool}(k:oZ W fr pa cx l lo g J H s K Q)(a:At W fr pa cx l lo g J H s)(hk:K (.bool b) H)(t:Nat):Q (.bool b) { s with toks:=t }:=
 k.tok a t hk (dL.mpr rfl)
def nR(W:Wd)(fr:List Env)(pa:List Addr)(cx:Cx)(l lo:Loc)(g:IH)(J:cy)(H:Hp)(s:Shared)(K:Bool->Hp->Prop)(Q:Bool->Shared->Prop):Prop:=
 ∀g' J' H' b s',K b H'->At W fr pa cx l lo g' J' H' s'->Step [] g J H s.heap g' J' H' s'.heap->bu s s'->Q b s'
def Hz(W:Wd)(fr:List Env)(pa:List Addr)(cx:Cx)(l lo:Loc)(g:IH)(J:cy)(H:Hp)(s:Shared)(K:List V->Hp->Prop)(Q:List Value->Shared->Prop):Prop:=
 ∀g' J' H' vs xs s',K vs H'->ah W.P g' J' vs xs->At W fr pa cx l lo g' J' H' s'->Step [] g J H s.heap g' J' H' s'.heap->bu s s'->Q xs s'
def nR.trans{K:Bool->Hp->Prop}{Q:Bool->Shared->Prop}{g' J' H' s'}(k:nR W fr pa cx l lo g J H s K Q)(st:Step [] g J H s.heap g' J' H' s'.heap)(sm:bu s s'):nR W fr pa cx l lo g' J' H' s' K Q:=
 λg2 J2 H2 b s2 hk ha hst hs=>k g2 J2 H2 b s2 hk ha (st.trans hst) (sm.trans hs)
def Hz.trans{K:List V->Hp->Prop}{Q:List Value->Shared->Prop}{g' J' H' s'}(k:Hz W fr pa cx l lo g J H s K Q)(st:Step [] g J H s.heap g' J' H' s'.heap)(sm:bu s s'):Hz W fr pa cx l lo g' J' H' s' K Q:=
 λg2 J2 H2 b xs s2 hk hr ha hst hs=>k g2 J2 H2 b xs s2 hk hr ha (st.trans hst) (sm.trans hs)
def nR.tok{K:Bool->Hp->Prop}{Q:Bool->Shared->Prop}{b:Bool}(k:nR W fr pa cx l lo g J H s K Q)(a:At W fr pa cx l lo g J H s)(hk:K b H)(t:Nat):Q b { s with toks:=t }:=k g J H b _ hk (a.tok t) Step.refl ⟨rfl,rfl,rfl⟩
def nR.here{K:Bool->Hp->Prop}{Q:Bool->Shared->Prop}{b:Bool}(k:nR W fr pa cx l lo g J H s K Q)(a:At W fr pa cx l lo g J H s)(hk:K b H):Q b s:=k g J H b _ hk a Step.refl (bu.refl _)
def dm(h:kO r H K):∃v,r=some v/\K v H:=by cases r with | none=>exact h.elim | some v=>exact⟨v,rfl,h⟩
def iQ{r:Option Bool}{K:Bool->Hp->Prop}(h:kB r H K):∃v,r=some v/\K v H:=by cases r with | none=>exact h.elim | some v=>exact⟨v,rfl,h⟩
def td{K:Bool->Hp->Prop}(h:dt v H K):∃b,v=.bool b/\K b H:=by induction v using V.casesOn<;>first | exact h.elim | exact⟨_,rfl,h⟩
def ij{x:Value}{K:Bool->Hp->Prop}{Q:Bool->Shared->Prop}(r:ay P g J v x)(h:dt v H K)(k:∀b,K b H->Q b s):wpAny W.M A (truthy x) Q E s:=by
 obtain⟨b,rfl,hb⟩:=td h;obtain rfl:=r;exact z9 (k b hb)
def iR{x:Str}{i:Nat}(a:At W fr pa cx l lo g J H s)(hx:cx.ns[i]?=some x)(hk:cx.env.kindOf x=some .local\/cx.env.kindOf x=some .cell)(hd:(x==("__debug__" : Str))=false)(hl:l[i]?=some (some v))(k:∀y,ay W.P g J v y->Q y s):wpAny W.M A (eval (.Name x p) cx.env) Q E s:=by
 refine wpAny_Name ?_ hd
 rcases hk with hk | hk
 .obtain⟨m,hn,hm⟩:=a.loc.loc
  obtain⟨y,e,r⟩:=hm i x v hx hk hl;exact wpAny_loadName_local a.loc.fk hk hn e (k y r)
 .obtain⟨c,y,e,q,r⟩:=a.loc.cel i x hx hk
  obtain⟨z,rfl,rz⟩:=r v hl;exact wpAny_loadName_cell a.loc.fk hk e q (k z rz)
def HA{x:Str}{i:Nat}(a:At W fr pa cx l lo g J H s)(hx:cx.nso[i]?=some x)(hk:cx.env.kindOf x=some .cell)(hd:(x==("__debug__" : Str))=false)(hl:lo[i]?=some (some v))(k:∀y,ay W.P g J v y->Q y s):wpAny W.M A (eval (.Name x p) cx.env) Q E s:=by
 refine wpAny_Name ?_ hd;obtain⟨c,z,e,q,r⟩:=a.loc.fre i x v hx hk hl;exact wpAny_loadName_cell a.loc.fk hk e q (k z r)
def dW(b:BAt W fr pa g J H s):∀a o,W.base.get? a=some o->s.heap.get? a=some o:=λa o e=>b.rel.sub _ _ (b.bas _ _ e)
def qR{x:Str}{i:Nat}(a:At W fr pa cx l lo g J H s)(hx:F3 i=some x)(hk:cx.env.kindOf x=some .globalImplicit)(hd:(x==("__debug__" : Str))=false)(hv:af i=some v)(k:∀y,ay W.P g J v y->Q y s):wpAny W.M A (eval (.Name x p) cx.env) Q E s:=by
 obtain⟨mg,mb,hg,hb,h⟩:=a.top.glb;obtain⟨y,ry,h⟩:=h i v x hv hx;have ry':ay W.P g J v y:=fU a.bas (List.nil_prefix) ry;refine Name_function_global a.loc.fk hk ?_ hd;have hg':s.heap.Ns cx.env.globals mg:=by rw[a.loc.gl];exact hg.at' λo e=>dW a.toBAt _ _ e
 have hb':s.heap.Ns cx.env.builtins mb:=by rw[a.loc.bl];exact hb.at' λo e=>dW a.toBAt _ _ e
 rcases h with h |⟨h1,h2⟩
 .exact loadGlobal_global hg' h (k y ry')
 .exact loadGlobal_builtin hg' h1 hb' h2 (k y ry')
def vf{v:V}(h:Q3 v e=true)(k:∀y t,ay W.P g J v y->Q y { s with toks:=t }):wpAny W.M A (eval e cx.env) Q E s:=by
 cases v with
 |none=>
  apply gD h;intro c n q h;rw[Do h,eval_Constant];exact zq (k _ s.toks (dg.mpr rfl))
 |bool b=>
  apply gD h;intro c n q h;rw[ta h,eval_Constant];exact zq (k _ s.toks (dL.mpr rfl))
 |int i=>
  rcases or_eq_true_iff.mp h with h | h
  .apply gD h;intro c n q h
   rw[w9 h];exact wpAny_Constant_int (k _ _ (aO.mpr ⟨_,rfl⟩))
  .apply Kc h;intro x q h
   apply gD h;intro c n q h;rw[w9 h];refine wpAny_UnaryOp (wpAny_Constant_int (neg_int ?_));rw[Int.neg_neg];exact k _ _ (aO.mpr ⟨_,rfl⟩)
 |str x=>
  apply gD h;intro c n q h;rw[my h];exact wpAny_Constant_str (k _ _ (bG.mpr ⟨_,rfl⟩))
 |_=>injection h
end
section
variable{kd:Kd}{ns nso:List Str}{e:Expr}{m:Expr->Prop}
def bn{b:Bool}(h:(!b)=true):b=false:=(not_eq_true' _).mp h
def qS{i:Nat}(hm:mE kd ns nso (.var i) e=true)(k:∀x q,ns[i]?=some x->(kd x=some .local\/kd x=some .cell)->(x==("__debug__" : Str))=false->m (.Name x q)):m e:=
 fK hm λx q h=>k x q (ze.mp (an (an h).1).1) ((or_eq_true_iff.mp (an (an h).1).2).imp ze.mp ze.mp) (bn (an h).2)
def HB{i:Nat}(hm:mE kd ns nso (.fre i) e=true)(k:∀x q,nso[i]?=some x->kd x=some .cell->(x==("__debug__" : Str))=false->m (.Name x q)):m e:=
 fK hm λx q h=>k x q (ze.mp (an (an h).1).1) (ze.mp (an (an h).1).2) (bn (an h).2)
def xg{i:Nat}(hm:mE kd ns nso (.glb i) e=true)(k:∀x q,F3 i=some x->kd x=some .globalImplicit->(x==("__debug__" : Str))=false->m (.Name x q)):m e:=
 fK hm λx q h=>k x q (ze.mp (an (an h).1).1) (ze.mp (an (an h).1).2) (bn (an h).2)
def Dr{i:Nat}{x:Str}(h:mE kd ns nso (.glb i) (.Name x q)=true):F3 i=some x/\kd x=some .globalImplicit/\(x==("__debug__" : Str))=false:=
 let h:(F3 i==some x&&kd x==some .globalImplicit&&x != ("__debug__" : Str))=true:=h;⟨ze.mp (an (an h).1).1,ze.mp (an (an h).1).2,bn (an h).2⟩
def Ds{b:Bool}(hm:mE kd ns nso (.bool b es) e=true)(k:∀vs pos,kC kd ns nso es vs=true->m (.BoolOp (if b then .And else .Or) vs pos)):m e:=pG hm k
def Ke{op:CmpOp}{l:Expr}{os:List CmpOp}(h:c1 (λo=>op==o&&c1 (λr=>!behindInMarks op r&&mE kd ns nso a l&&mE kd ns nso b r) rs) os=true)(k:∀r,behindInMarks op r=false->mE kd ns nso a l=true->mE kd ns nso b r=true->m (.Compare l [op] [r] q)):m (.Compare l os rs q):=
 u7 (m:=λos=>m (.Compare l os rs q)) h λ_ h=>Dj (m:=λo=>m (.Compare l [o] rs q)) (an h).1 (u7 (m:=λrs=>m (.Compare l [op] rs q)) (an h).2 λr h=>k r (bn (an (an h).1).1) (an (an h).1).2 (an h).2)
def HC{op:CmpOp}(hm:mE kd ns nso (.cmp a op b) e=true)(k:∀l r pos,behindInMarks op r=false->mE kd ns nso a l=true->mE kd ns nso b r=true->m (.Compare l [op] [r] pos)):m e:=
 qP hm λl _ _ q h=>Ke h λr=>k l r q
def HD{op:Operator}(hm:mE kd ns nso (.bin a op b) e=true)(k:∀l r pos,mE kd ns nso a l=true->mE kd ns nso b r=true->m (.BinOp l op r pos)):m e:=Dl hm k
def Dt(hm:mE kd ns nso (.addO a b) e=true)(k:∀l r pos,mE kd ns nso a l=true->mE kd ns nso b r=true->m (.BinOp l .Add r pos)):m e:=Dl hm k
def xh(hm:mE kd ns nso (.ite t a b) e=true)(k:∀t' a' b' pos,mT kd ns nso t t'=true->mE kd ns nso a a'=true->mE kd ns nso b b'=true->m (.IfExp t' a' b' pos)):m e:=Dm hm k
def nS{n:Nat}(hm:mE kd ns nso (.attr p n) e=true)(k:∀v pos,gC v=true->mE kd ns nso p v=true->m (.Attribute v (fT n) pos)):m e:=
 jX hm λv _ q h=>ge (m:=λn=>m (.Attribute v n q)) (an (an h).1).1 (k v q (an (an h).1).2 (an h).2)
def HE(hm:mE kd ns nso (.idx p i) e=true)(k:∀v sl pos,mE kd ns nso p v=true->mE kd ns nso i sl=true->m (.Subscript v sl pos)):m e:=u8 hm k
def HF{st:PE}(hm:mE kd ns nso (.slc p a b st) e=true)(k:∀v lo hi s sp pos,mE kd ns nso p v=true->mO kd ns nso a lo=true->mO kd ns nso b hi=true->mO kd ns nso st s=true->m (.Subscript v (.Slice lo hi s sp) pos)):m e:=
 u8 hm λv _ q h1 h2=>Q1 (m:=λs=>m (.Subscript v s q)) h2 λlo hi s sp=>k v lo hi s sp q h1
def HG(hm:mE kd ns nso (.tup es) e=true)(k:∀vs n pos,vs.length<=1000->kC kd ns nso es vs=true->m (.Tuple vs n pos)):m e:=Dn hm λvs n q h=>k vs n q (zG (an h).1) (an h).2
def Du(hm:mE kd ns nso (.list es) e=true)(k:∀vs pos,vs.length<=1000->kC kd ns nso es vs=true->m (.List vs pos)):m e:=qQ hm k
def yW(hm:mE kd ns nso (.listO es) e=true)(k:∀vs pos,vs.length<=1000->kC kd ns nso es vs=true->m (.List vs pos)):m e:=qQ hm k
def Dw{ks:List (List Nat)}(hm:mE kd ns nso (.dict ks vs) e=true)(k:∀keys vals pos,(0<ks.length/\ks.length<=15/\keys.length=vals.length)->gx ks=true->tc ks keys=true->kC kd ns nso vs vals=true->m (.Dict keys vals pos)):m e:=
 w8 hm λa b q h=>k a b q (zG (an (an (an h).1).1).1) (an (an (an h).1).1).2 (an (an h).1).2 (an h).2
def yX(hm:mE kd ns nso .dictO e=true)(k:∀pos,m (.Dict [] [] pos)):m e:=
 w8 hm λ_ b q h=>lU (m:=λa=>m (.Dict a b q)) (an h).1 (lU (m:=λb=>m (.Dict [] b q)) (an h).2 (k q))
def te{nt:Nat}{aF:de}(hm:mE kd ns nso (.comp nt elt it aF) e=true)(k:∀mi tg rT ifs scope pos ts,nJ rT=true->mE kd ns nso it rT=true->u9 nt tg=some ts->Hy kd ns ts scope=true->mE (λx=>(jY kd scope.names).lookup x) ts ns elt mi=true->Bt (λx=>(jY kd scope.names).lookup x) ts ns aF ifs=true->m (.ListComp mi [⟨tg,rT,ifs,0⟩] scope pos)):m e:=
 Q2 hm λx _ sc q h=>u7 (m:=λgs=>m (.ListComp x gs sc q)) h λ⟨tg,it,ifs,z⟩ h=>ge (m:=λz=>m (.ListComp x [⟨tg,it,ifs,z⟩] sc q)) (an (an (an h).1).1).1 (let ⟨ts,ht,h4⟩:=(Option.any_eq_true _ _).mp (an h).2;k x tg it ifs sc q ts (an (an (an h).1).1).2 (an (an h).1).2 ht (an (an h4).1).1 (an (an h4).1).2 (an h4).2)
def nT{args:de}(hm:mE kd ns nso (.call f args) e=true)(k:∀x p as pos,mE kd ns nso f (.Name x p)=true->kC kd ns nso args as=true->m (.Call (.Name x p) as [] pos)):m e:=
 mw hm λg as p h=>fK (m:=λg=>mE kd ns nso f g=true->m (.Call g as [] p)) (an (an h).1).1 (λx q _ h1=>k x q as p h1 (an h).2) (an (an h).1).2
def tf{n:Nat}{args:de}(hm:mE kd ns nso (.meth n o args) e=true)(k:∀v ap as pos,gC v=true->(ap.endLine==pos.line)=true->as.length<29->mE kd ns nso o v=true->kC kd ns nso args as=true->m (.Call (.Attribute v (fT n) ap) as [] pos)):m e:=
 mw hm λ_ as p h=>jX (m:=λg=>m (.Call g as [] p)) h λv _ ap h=>let h4:=an (an (an h).1).1;let h5:=an h4.1;ge (m:=λn=>m (.Call (.Attribute v n ap) as [] p)) (an h5.1).1 (k v ap as p (an h5.1).2 h5.2 (zG h4.2) (an (an h).1).2 (an h).2)
def Dx{M:List Nat}(hm:mE kd ns nso (.fstr M p) e=true)(k:∀c1 c2 v c3 pos,M.length<=1000->mE kd ns nso p v=true->m (.JoinedStr [.Constant (.str (aH M)) c1 c2,.FormattedValue v (-1) none c3] pos)):m e:=
 Hw hm λ_ y q h=>gD (m:=λx=>m (.JoinedStr [x,y] q)) (an (an h).1).1 λc n q1 h3=>LZ (m:=λy=>m (.JoinedStr [.Constant c n q1,y] q)) (an h).2 λv q2 h4=>by rw[my h3];exact k n q1 v q2 q (zG (an (an h).1).2) h4
end
mutual
noncomputable def Kf(n:Nat):V->Prop
 |.tup vs=>eG n vs
 |.lst vs=>eG n vs
 |.obj _ fs=>eG n fs
 |.ref k=>k<n
 |.dct _ vs=>eG n vs
 |.exn _ fs=>eG n fs
 |.undef=>True | .none=>True | .bool _=>True | .int _=>True | .str _=>True | .base _=>True | .rng _ _ _=>True | .blt _=>True | .ty _=>True
noncomputable def eG(n:Nat):List V->Prop
 |[]=>True
 |v::vs=>Kf n v/\eG n vs
end
theorem L5{n:Nat}:eG n []=(True):=rfl
theorem L6{n:Nat}:eG n (v::vs)=(Kf n v/\eG n vs):=rfl
section
variable{P:Params}{ψ:cy}
def HH{x:Value}:ay P g J v x->Kf J.length v:=
 V.rec (motive_1:=λv=>∀x,ay P g J v x->Kf J.length v) (motive_2:=λvs=>∀xs,ah P g J vs xs->eG J.length vs) (λ_ _=>trivial) (λ_ _=>trivial) (λ_ _ _=>trivial) (λ_ _ _=>trivial) (λ_ _ _=>trivial) (λ_ ih _ r=>by obtain⟨_,_,_,_,_,h⟩:=cV.mp r;exact ih _ h) (λ_ ih _ r=>by obtain⟨_,_,_,_,_,h⟩:=cL.mp r;exact ih _ h) (λ_ _ ih _ r=>by obtain⟨_,_,_,_,_,_,_,_,h⟩:=(fJ.mp r).2;exact ih _ h) (λ_ _ r=>by obtain⟨_,hp,_⟩:=bV.mp r;exact (zu.mp hp).1) (λ_ _ _=>trivial) (λ_ _ ih _ r=>by obtain⟨_,_,_,_,_,_,_,h⟩:=gy.mp r;exact ih _ h) (λ_ _ _ _ _=>trivial) (λ_ _ _=>trivial) (λ_ _ _=>trivial) (λ_ _ ih _ r=>by obtain⟨_,_,_,_,_,_,_,_,_,_,h⟩:=iK.mp r;exact ih _ h) (λ_ _=>trivial) (λ_ _ i1 i2 _ r=>by obtain⟨_,_,_,h1,h2⟩:=ad.mp r;exact⟨i1 _ h1,i2 _ h2⟩) v x
def ik:∀{xs:List Value},ah P g J vs xs->eG J.length vs:=by
 induction vs with
 |nil=>exact λ_=>trivial
 |cons v vs ih=>
  intro xs r;obtain⟨_,_,_,h1,h2⟩:=ad.mp r;exact⟨HH h1,ih h2⟩
def Dy{x:Value}:Kf J.length v->ay P g (J++ψ) v x->ay P g J v x:=
 V.rec (motive_1:=λv=>∀x,Kf J.length v->ay P g (J++ψ) v x->ay P g J v x) (motive_2:=λvs=>∀xs,eG J.length vs->ah P g (J++ψ) vs xs->ah P g J vs xs) (λ_ _ r=>r) (λ_ _ r=>r) (λ_ _ _ r=>r) (λ_ _ _ r=>r) (λ_ _ _ r=>r) (λ_ ih _ o r=>by obtain⟨a,xs,n,e,h1,h2⟩:=cV.mp r;exact cV.mpr ⟨a,xs,n,e,h1,ih _ o h2⟩) (λ_ ih _ o r=>by obtain⟨a,xs,n,e,h1,h2⟩:=cL.mp r;exact cL.mpr ⟨a,xs,n,e,h1,ih _ o h2⟩) (λ_ _ ih _ o r=>by obtain⟨a,d,es,n,e,h1,h2,h3,h4⟩:=(fJ.mp r).2;exact fJ.mpr ⟨(fJ.mp r).1,a,d,es,n,e,h1,h2,h3,ih _ o h4⟩) (λ_ _ o r=>by obtain⟨p,hp,e⟩:=bV.mp r;exact bV.mpr ⟨p,(zK o).symm.trans hp,e⟩) (λ_ _ _ r=>r) (λ_ _ ih _ o r=>by obtain⟨a,es,n,e,h0,h1,h2,h3⟩:=gy.mp r;exact gy.mpr ⟨a,es,n,e,h0,h1,h2,ih _ o h3⟩) (λ_ _ _ _ _ r=>r) (λ_ _ _ r=>r) (λ_ _ _ r=>r) (λ_ _ ih _ o r=>by obtain⟨a,d,vs,od,r,y,e,h1,h2,h3,h4⟩:=iK.mp r;exact iK.mpr ⟨a,d,vs,od,r,y,e,h1,h2,h3,ih _ o h4⟩) (λ_ _ r=>r) (λ_ _ i1 i2 _ o r=>by obtain⟨y,ys,e,h1,h2⟩:=ad.mp r;exact ad.mpr ⟨y,ys,e,i1 _ o.1 h1,i2 _ o.2 h2⟩) v x
def gf:∀{xs:List Value},eG J.length vs->ah P g (J++ψ) vs xs->ah P g J vs xs:=by
 induction vs with
 |nil=>exact λ_ r=>r
 |cons v vs ih=>
  intro xs o r;obtain⟨y,ys,e,h1,h2⟩:=ad.mp r;exact ad.mpr ⟨y,ys,e,Dy o.1 h1,ih o.2 h2⟩
def nU{n:Nat}:∀{vs:List V},eG n vs↔∀v∈vs,Kf n v
 |[]=>by simp[L5,L6]
 |v::vs=>by rw[show eG n (v::vs)=(Kf n v/\eG n vs)from rfl,nU];simp
def Tr(n:Nat):O->Prop
 |.list vs=>eG n vs
 |.inst _ fs=>eG n (fs.map (·.2))
 |.dict _ vs=>eG n vs
 |.iter vs=>eG n vs
 |.gone=>True
def yY{n:Nat}(s:List Nat):eG n (s.map λc=>.str [c]):=by
 induction s with
 |nil=>
  exact trivial
 |cons _ s ih=>
  exact⟨trivial,ih⟩
def k6{n:Nat}:∀{vs:List V} {i:Nat},eG n (eK i vs)↔eG n vs
 |[],_=>⟨id,id⟩
 |v::vs,i=>and_congr ⟨λh=>h.2.1,λh=>⟨trivial,h,trivial⟩⟩ k6
def HI{p:Addr×Addr}(r:ib P g J h p o):Tr J.length o:=by
 cases o with
 |list vs=>obtain⟨_,_,_,r⟩:=r;exact ik r
 |inst c fs=>obtain⟨_,_,_,_,_,r⟩:=r;exact ik r
 |dict ks vs=>obtain⟨_,_,_,_,r⟩:=r.2;exact ik r
 |iter vs=>
  obtain⟨v0,e,_,r⟩:=r;subst e;rw[Tr,k6]
  rcases r with r | r
  .obtain⟨_,_,_,_,r,_⟩:=r
   exact ik r
  .obtain⟨s,_,e,_⟩:=r
   subst e;exact yY s
 |gone=>trivial
def HJ{p:Addr×Addr}(k:Tr J.length o)(r:ib P g (J++ψ) h p o):ib P g J h p o:=by
 cases o with
 |list vs=>obtain⟨xs,n,e,r⟩:=r;exact⟨xs,n,e,gf k r⟩
 |inst c fs=>obtain⟨es,n,e1,e2,e3,r⟩:=r;exact⟨es,n,e1,e2,e3,gf k r⟩
 |dict ks vs=>obtain⟨es,n,e,e1,q⟩:=r.2;exact⟨r.1,es,n,e,e1,gf k q⟩
 |iter vs=>
  obtain⟨v0,e,en,r⟩:=r;refine⟨v0,e,en,?_⟩;subst e;rw[Tr,k6]at k
  rcases r with r | r
  .obtain⟨l,xs,n,h1,r,h2⟩:=r
   exact .inl ⟨l,xs,n,h1,gf k r,h2⟩
  .exact .inr r
 |gone=>trivial
end
section
variable{s:Shared}
def BAt.settle{s0:Shared}{p:Addr×Addr}{c:Nat}{fs:List (Nat×V)}(b0:BAt W fr pa g0 J H s0)(b:BAt W fr pa g (J++[p]) (H++[.inst c fs]) s)(hv:eG J.length (fs.map (·.2))):∃g',BAt W fr pa g' J H s/\(∀a o,g a=some o->g' a=some o)/\(∀a o,g' a=some o->g a=some o\/a=p.1\/a=p.2)/\∃es n,g' p.1=some (instObj c p.2)/\g' p.2=some (aA es n)/\aN W.P (fs.map λf=>jH f.1) es/\ah W.P g' J (fs.map (·.2)) (es.map (·.val)):=by
 have hl:J.length=H.length:=b0.rel.len;have hH:(H++[O.inst c fs])[H.length]?=some (O.inst c fs):=by rw[zk (zv _)];simp
 have hp:(J++[p])[H.length]?=some p:=by rw[<-hl,zk (zv _)];simp
 obtain⟨es,n,e1,e2,e3,e4⟩:=b.rel.obj _ _ _ hH hp;have eo:owned (J++[p]) (H++[O.inst c fs])=owned J H++[p.1,p.2]:=by rw[fW hl];simp[iL,qw,bT]
 have nod:=b.rel.nod;rw[eo,nodup_append]at nod;obtain⟨Vi,Sg,Sh⟩:=nod;have np:p.1≠p.2:=by simp at Sg;exact Sg
 have n1:g p.1=none:=b.rel.own _ (by rw[eo];simp);have n2:g p.2=none:=b.rel.own _ (by rw[eo];simp);have m1:p.1∉owned J H:=λm=>Sh _ m p.1 (by simp) rfl;have m2:p.2∉owned J H:=λm=>Sh _ m p.2 (by simp) rfl;have q1:p.1∉pa:=λm=>(b.prv _ m).2.1 (by rw[eo];simp);have q2:p.2∉pa:=λm=>(b.prv _ m).2.1 (by rw[eo];simp);have k:BAt W fr pa g J H s:=by
  refine⟨b.top,⟨b.rel.sub,hl,λa m=>b.rel.own a (by rw[eo];exact zh _ m),Vi,λi o r h1 h2=>?_⟩,b.bas,λa m=>⟨(b.prv a m).1,λz=>(b.prv a m).2.1 (by rw[eo];exact zh _ z),(b.prv a m).2.2⟩,b.frs⟩;have hi:i<H.length:=(zu.mp h1).1;have o1:=b.rel.obj i o r (by rw[zK hi];exact h1) (by rw[zK (hl▸hi)];exact h2);exact HJ (HI (b0.rel.obj i o r h1 h2)) o1
 have k1:=k.still e1 n1 m1 q1;have k2:=k1.still (a:=p.2) e2 (by rw[bj (z6 np)];exact n2) m2 q2;have up:∀a o,g a=some o->jP (jP g p.1 (instObj c p.2)) p.2 (aA es n) a=some o:=λa o e=>by
  have a1:a≠p.1:=λq=>by rw[q,n1]at e;injection e
  have a2:a≠p.2:=λq=>by rw[q,n2]at e;injection e
  rw[bj a2,bj a1];exact e
 refine⟨_,k2,up,λa o e=>?_,es,n,?_,bN,e3,aZ up (zO _) (gf hv e4)⟩
 .by_cases a2:a=p.2
  .exact .inr (.inr a2)
  .rw[bj a2]at e
   by_cases a1:a=p.1
   .exact .inr (.inl a1)
   .rw[bj a1]at e;exact .inl e
 .rw[bj np];exact bN
def BAt.freeze{n:Nat}{x:Value}(b:BAt W fr pa g J H s)(hH:H[n]?=some (.list vs))(rx:ay W.P g J (.ref n) x):∃g',BAt W fr pa g' J (H.set n .gone) s/\Step [] g J H s.heap g' J (H.set n .gone) s.heap/\ay W.P g' J (.lst vs) x:=by
 obtain⟨p,hp,rfl⟩:=bV.mp rx;obtain⟨xs,m,h1,h2⟩:=b.rel.obj n _ p hH hp;obtain⟨M,B,q1,q2⟩:=iM (o':=O.gone) hp hH;obtain⟨y,z⟩:=b.turn (t:=s.toks) (o':=.gone) (h':=s.heap) hH hp (by simp[bT]) (a:=p.1) (by simp[bT]) (Heap.SameBut.refl ..) trivial;have am:p.1∈owned J H:=cW.mpr ⟨n,p,_,hp,hH,by simp[bT]⟩;have no:p.1∉owned J (H.set n .gone):=by
  have nd:=b.rel.nod;rw[q1,nodup_append,nodup_append]at nd;rw[q2];simp only[bT,append_nil,mem_append]
  rintro (h | h)
  .exact nd.1.2.2 _ h p.1 (by simp[bT]) rfl
  .exact nd.2.2 p.1 (zU _ (by simp[bT])) _ h rfl
 have ng:=b.rel.own _ am;have up:∀a o,g a=some o->jP g p.1 (bd xs m) a=some o:=λa o e=>by
  have a1:a≠p.1:=λq=>by rw[q,ng]at e;injection e
  rw[bj a1];exact e
 refine⟨jP g p.1 (bd xs m),y.still h1 ng no (λm=>(b.prv _ m).2.1 am),⟨up,λa o e=>?_,z.onew,z.keep,z.phi,z.live⟩,cL.mpr ⟨_,xs,m,rfl,bN,aZ up (zO _) h2⟩⟩
 by_cases a1:a=p.1
 .exact .inr (.inl (a1▸am))
 .rw[bj a1]at e;exact .inl e
end
def eq.under{d:Nat}{A:Around}(a:eq d A fr)(C:Addr)(vals:List Value):UA d (A.under (.builtin "type.__call__" ⟨.ref C::vals,[]⟩)) fr:=by
 have e1:(A.under (.builtin "type.__call__" ⟨.ref C::vals,[]⟩)).depth=A.depth+1:=rfl;have e2:(A.under (.builtin "type.__call__" ⟨.ref C::vals,[]⟩)).frames=A.frames:=rfl;have e3:(A.under (.builtin "type.__call__" ⟨.ref C::vals,[]⟩)).units=A.units+1:=rfl;exact⟨e2.trans a.frames,by rw[e1];have:=a.depth;lia,by rw[e3];have:=a.units;lia,a.hand⟩
noncomputable def Q4(K:Frag):Value->Bool
 |.ref a=>keepIn K (.ref a)
 |.builtin _=>true
 |.type _=>true
 |_=>false
section
variable{s:Shared}{d:Nat}
def cR{first:List Value}{args:List (Bool×Sem Value)}(rU:args.any (·.1)=false)(h:wpAny W.M A (spliced args) (λvs s₁=>(W.K.In s₁.heap/\Q4 W.K f=true)/\wpAny W.M A (call f (first++vs)) Q E s₁) E s):wpAny W.M A (callWith pos f first args []) Q E s:=by
 refine callWith_of (P:=λh=>W.K.In h/\Q4 W.K f=true) (by rw[rU];rfl) (λhp x=>?_) (by
  cases args with
  |nil=>
   unfold evalArgs;show wpAny _ A (spliced []>>=_) _ E s;refine zy (zY h (λvs s₁ h₁=>zy (zq ?_)) λ_ _ e=>e);refine zQ ?_;exact zy (zq (zy (zq (zq h₁))))
  |cons a r=>
   obtain⟨st,t⟩:=a
   cases st with
   |false=>exact evalArgs_plain h
   |true=>simp at rU)
 cases f with
 |ref a=>exact keeps_K (K:=W.K) (f:=.ref a) (show keepIn W.K (.ref a)=true from x.2) hp x.1
 |builtin i=>exact⟨.machine,.inr (.inl rfl),Looks.of_pure rfl⟩
 |type i=>exact⟨.machine,.inr (.inl rfl),Looks.of_pure rfl⟩
 |_=>cases x.2
def k7(b:BAt W fr pa g J H s){a:Nat}(h:a∈BV\/a∈dS):keepIn W.K (.ref a)=true:=zP.mp b.top.facts.keep a (zH.mpr h)
def vg(b:BAt W fr pa g J H s){a init:Nat}{r:Bool}{ks:List Nat}(h:eh a=some (r,init,ks)):makesIn W.K a=true/\findIn W.K (.ref a) "__init__" = some (some (.ref init))/\typeIn W.K (.ref init)=some (.type "function"):=by
 have q:=zP.mp b.top.facts.make a (qH h);rw[h,zm,zm]at q;exact⟨q.1,ze.mp q.2.1,ze.mp q.2.2⟩
def xj(aG:eq d A fr)(b:BAt W fr pa g J H s){c init:Nat}{r:Bool}{ks:List Nat}(hc:eh c=some (r,init,ks))(rv:ah W.P g J vs xs)(h:Call W d init (.ref H.length::vs) (H++[.inst c []]) K1 g6)(k:∀p g' J' H' v s',K1 v H'->BAt W fr pa g' J' H' s'->Step [] g (J++[p]) (H++[.inst c []]) s.heap g' J' H' s'.heap->Step [] g J H s.heap g' J' H' s'.heap->bu s s'->s.heap.get? p.1=none->s.heap.get? p.2=none->v=.none/\Q (.ref p.1) s'):wpAny W.M A (call (.ref c) xs) Q E s:=by
 obtain⟨f1,f2,f3⟩:=vg b hc;refine wpAny_call (make_core (makes_of b.kin f1) (looks_findIn b.kin f2) (λself=>bind_fn b.kin self f3) (.inl rfl) ?_);have k1:∀a o,s.heap.get? a=some o->((s.heap.push emptyDict).push (instObj c s.heap.objs.size)).get? a=some o:=λa o e=>zc _ (zc _ e);have e1:((s.heap.push emptyDict).push (instObj c s.heap.objs.size)).get? (s.heap.objs.size+1)=some (instObj c s.heap.objs.size):=by
  have:=zR (s.heap.push emptyDict) (o:=instObj c s.heap.objs.size) rfl
  rwa [size_push]at this
 have e2:((s.heap.push emptyDict).push (instObj c s.heap.objs.size)).get? s.heap.objs.size=some emptyDict:=zc _ (zR _ rfl);have n1:s.heap.get? (s.heap.objs.size+1)=none:=by
  cases q:s.heap.get? (s.heap.objs.size+1)with
  |none=>rfl
  |some o=>exact absurd (Nat.lt_of_succ_lt (lt_size q)) (lt_irrefl _)
 have n2:s.heap.get? s.heap.objs.size=none:=be _;obtain⟨b1,st1⟩:=b.mine (t:=s.toks) (o:=.inst c []) (p:=(s.heap.objs.size+1,s.heap.objs.size)) k1 (by simp[bT]) (λa m=>by
  simp[bT]at m
  rcases m with rfl | rfl
  .exact n1
  .exact n2) ⟨[],0,e1,e2,trivial,aB.mpr rfl⟩
 refine codeAny_mono (h.run _ fr pa g _ _ (.ref (s.heap.objs.size+1)::xs) (λv s'=>v=.none/\Q (.ref (s.heap.objs.size+1)) s') E (aG.under c xs) b1 (ad.mpr ⟨_,_,rfl,bV.mpr ⟨(s.heap.objs.size+1,s.heap.objs.size),by rw[zk (by rw[b.rel.len];exact zv _),b.rel.len];simp,rfl⟩,st1.reps rv⟩) (λg' J' H' v x s' hk hr hb hst hs=>?_) λg' J' H' c' fs e xa s' hx=>hx.elim) λr s' z=>?_
 .have st:Step [] g J H s.heap g' J' H' s'.heap:=st1.trans hst
  have st0:Step [] g (J++[(s.heap.objs.size+1,s.heap.objs.size)]) (H++[.inst c []]) s.heap g' J' H' s'.heap:=
   ⟨hst.gsub,λa o e=>by
    rcases st.gnew a o e with z | z | z
    .exact .inl z
    .exact .inr (.inl (by rw[fW b.rel.len];exact zh _ z))
    .exact .inr (.inr z),λa m=>by
    rcases st.onew a m with z | z
    .exact .inl (by rw[fW b.rel.len];exact zh _ z)
    .exact .inr z,λa o e n m=>st.keep a o e (λq=>n (by rw[fW b.rel.len];exact zh _ q)) m,hst.phi,λa m=>by simp at m⟩
  obtain⟨rfl,q⟩:=k (s.heap.objs.size+1,s.heap.objs.size) g' J' H' v s' hk hb st0 st hs n1 n2;exact⟨hr,q⟩
 .rcases r with e | (v | _ | _ | _)
  .exact z
  .exact z
  .exact z
  .exact z
  .exact z
end
def xm{α β:Type}{ks:List α}:∀{fs:List β},fs.length=ks.length->(ks.zip fs).map (·.2)=fs:=by
 induction ks with
 |nil=>
  intro l2
  cases l2 with
  |nil=>
   intro _;exact rfl
  |cons _ _=>
   intro h;simp at h
 |cons _ ks ih=>
  intro l2
  cases l2 with
  |cons _ fs=>
   intro h;rw[zip_cons_cons,z0,ih (by simpa using h)]
  |nil=>
   intro h;simp at h
def HK{α β γ:Type}(f:α->γ){ks:List α}:∀{fs:List β},fs.length=ks.length->(ks.zip fs).map (λp=>f p.1)=ks.map f:=by
 induction ks with
 |nil=>
  intro l2
  cases l2 with
  |nil=>
   intro _;exact rfl
  |cons _ _=>
   intro h;simp at h
 |cons _ ks ih=>
  intro l2
  cases l2 with
  |cons _ fs=>
   intro h;rw[zip_cons_cons,z0,z0,ih (by simpa using h)]
  |nil=>
   intro h;simp at h
def ti{α:Type}{l l':List α}{p:α}(h:l++[p] <+: l')(e:l'.length=l.length+1):l'=l++[p]:=by
 obtain⟨r,rfl⟩:=h;have:r=[]:=by simpa using e
 subst this;simp
section
variable{l lo:Loc}{s:Shared}{d:Nat}
def xn(aG:eq d A fr)(a:At W fr pa cx l lo g J H s)(h:ag (Call W d) X fv vs H K)(rf:ay W.P g J fv xf)(rv:ah W.P g J vs xs)(k:oZ W fr pa cx l lo g J H s K Q)(hx:rY W fr pa [] g J H s X E):Q4 W.K xf=true/\wpAny W.M A (call xf xs) Q E s:=by
 have b:=a.toBAt
 cases fv with
 |base c=>
  obtain⟨rfl,_⟩:=rf
  cases hc:eh c with
  |none=>
   have h:(if BV.contains c then Call W d c vs H K X else False):=by
    have h:mW (Call W d) X c vs H K:=h;unfold mW at h;rw[hc]at h;exact h
   split at h
   .rename_i hf
    exact⟨k7 b (.inl (zA.mp hf)),wpAny_call (h.run A fr pa g J s xs Q E aG.amb b rv (k.toB a) hx)⟩
   .exact h.elim
  |some q=>
   obtain⟨r,init,ks⟩:=q;refine⟨k7 b (.inr (qH hc)),?_⟩
   cases r with
   |true=>
    rw[yC (h:=hc)]at h;refine xj aG b hc rv h λp g' J' H' v s' hk hb st0 st hs n1 n2=>?_;obtain⟨rfl,fs,rfl,hl,hm,hK⟩:=hk;have ep:J'=J++[p]:=ti st0.phi (by rw[hb.rel.len,b.rel.len];simp);subst ep;have hv:eG J.length ((ks.zip fs).map (·.2)):=by
     rw[xm hl];have q:=nU.mp (ik rv);exact nU.mpr λv m=>q v (hm v m)
    obtain⟨g2,b2,up,dn,es,n,q1,q2,q3,q4⟩:=BAt.settle b hb hv;rw[xm hl]at q4;rw[HK jH hl]at q3;refine⟨rfl,k.gives a hK g2 J _ s' ?_ b2 ⟨λa o e=>up a o (st.gsub a o e),λa o e=>?_,λa m=>.inl m,λa o e n m=>st.keep a o e n m,zO _,λa m=>by simp at m⟩ hs⟩
    .exact fJ.mpr ⟨qH hc,p.1,p.2,es,n,rfl,q1,q2,⟨init,ks,hc,q3⟩,q4⟩
    .rcases dn a o e with z | rfl | rfl
     .exact st.gnew a o z
     .exact .inr (.inr n1)
     .exact .inr (.inr n2)
   |false=>
    rw[yD (h:=hc)]at h;refine xj aG b hc rv h λp g' J' H' v s' hk hb st0 st hs n1 n2=>?_;obtain⟨rfl,hK⟩:=hk;refine⟨rfl,k.gives a hK g' J' _ s' (bV.mpr ⟨p,?_,rfl⟩) hb st hs⟩;obtain⟨r,e⟩:=st0.phi;rw[<-e,zj,zk (by rw[b.rel.len];exact zv _),b.rel.len];simp
 |blt f=>
  obtain rfl:=rf;rw[pu]at h;obtain⟨v,hv,hk⟩:=dm h;exact⟨rfl,LR b aG.hand hv rv (k.gives a hk)⟩
 |ty t=>
  obtain rfl:=rf;refine⟨rfl,?_⟩
  cases t with
  |enumerate=>
   cases he:wA vs with
   |none=>
    have h:si vs H K:=h;unfold si at h;rw[he]at h;exact h.elim
   |some ws=>rw[jj (h:=he)]at h;exact Hg b he rv (k.gives a h)
  |_=>
   rw[hV (h:=trivial)]at h;obtain⟨v,hv,hk⟩:=dm h;exact QW b hv rv (k.gives a hk)
 |_=>exact h.elim
end
section
variable{M:Model}{s:Shared}{env:Env}
def HL{name:Str}{whole:Sem Value}(hb:gC o=true):attributeBase o name env whole=whole:=by
 cases o with
 |Call f as ks p=>
  cases f with
  |Name id q=>cases as with
   |cons=>rfl
   |nil=>cases ks with
    |cons=>rfl
    |nil=>
     have e:(id != "super")=true:=hb;show (ite _ _ _)=_;rw[if_pos (by rw[e];rfl)]
  |_=>rfl
 |_=>rfl
def mz{name:Str}{whole:Sem Value}(hb:gC o=true)(h:wpAny M A whole Q E s):wpAny M A (attributeBase o name env whole) Q E s:=by
 rw[HL hb];exact h
def la{name:Str}{apos pos:Pos}{args:List Expr}(hb:gC o=true)(FT:(apos.endLine==pos.line)=true)(hlen:args.length<29)(rU:(backTo pos (starEach args env)).all (λx=>!x.1)=true)(h:wpAny M A (eval o env) (λov s₁=>∀pl,wpAny M A (getMethod ov name pl) (λfx s₂=>wpAny M A (callWith pos fx.1 fx.2 (backTo pos (starEach args env)) []) Q E s₂) E s₁) E s):wpAny M A (eval (.Call (.Attribute o name apos) args [] pos) env) Q E s:=by
 rw[arm_eval_Call];refine zy (zY (mz hb h) (λov s₁ h₁=>zy (zL ?_)) λ_ _ e=>e);have hform:methodCallForm (args.length+([]:List Keyword).length) (backTo pos (starEach args env)) (backToKw pos (keywordEach [] env))=true:=by
  unfold methodCallForm;rw[rU];simp[arm_keywordEach_nil,backToKw]
  lia
 have hpos:methodCallPos true o env apos pos=pure pos:=by unfold methodCallPos;simp[FT]
 unfold methodCall;rw[hform];refine zy (zQ (zY (h₁ _) (λfx s₂ h₂=>?_) λ_ _ e=>e));exact zy (wpAny_of_eq hpos h₂)
end
def pH{c k f:Nat}(h:ax c k=some f):(c,k,f)∈sg/\f∈BV/\c∈dS:=by
 obtain⟨⟨c',k',f'⟩,h1,rfl⟩:=z7.mp h;have e0:=List.find?_some h1;have e:=(zm _ _).mp e0
 cases eq_of_beq_eq_true e.1
 cases eq_of_beq_eq_true e.2
 have m:=List.mem_of_find?_eq_some h1;have q:=(zm _ _).mp (zP.mp (show (sg.all λm=>BV.contains m.2.2&&dS.contains m.1)=true by decide +kernel) _ m);exact⟨m,zA.mp q.1,zA.mp q.2⟩
def Dz{k:Nat}(hk:k<c0.length){fs:List (Nat×V)}:∀{es:List DictEntry},(fs.all λf=>f.1 != k)=true->aN P (fs.map λf=>jH f.1) es->es.find? (λe=>e.key.isStr (fT k))=none:=by
 induction fs with
 |nil=>
  intro l2
  cases l2 with
  |nil=>
   intro _ _;exact rfl
  |cons _ _=>
   intro _ h;exact False.elim h
 |cons hd0 fs ih=>
  obtain⟨a,w⟩:=hd0;intro l2
  cases l2 with
  |nil=>
   intro _ h;exact False.elim h
  |cons e es=>
   intro hf h;obtain⟨⟨t,he,_⟩,h'⟩:=h;rw[all_cons,zm]at hf;have ne:a≠k:=by simpa using hf.1
   have hs:e.key.isStr (fT k)=decide (jH a=jH k):=by rw[he,<-iP,eT]
   rw[find?_cons,hs,za λq=>ne (mv hk q)];exact ih hf.2 h'
section
variable{l lo:Loc}{s:Shared}{d:Nat}
def Kg(H:Hp)(k:Nat)(o:V)(f:Value):Prop:=match sh H o with | some c=>∃n,ax c k=some n/\f=.ref n | none=>∃id,l9 k (o.kind H)=some id/\f=.builtin id
def xp(b:BAt W fr pa g J H s){k:Nat}{o:V}(ro:ay W.P g J o xo){pl:Sem Bool}{R:Value×List Value->Shared->Prop}(h1:(l9 k (o.kind H)).isSome=true)(h2:∀id,l9 k (o.kind H)=some id->R (.builtin id,[xo]) s):wpAny W.M A (getMethod xo (fT k) pl) R E s:=by
 obtain⟨id,FU⟩:=isSome_iff_exists.mp h1;obtain⟨t1,t2⟩:=yN b (λq=>by rw[q]at FU;exact nn FU) ro;obtain⟨nm,e1,e2,e3⟩:=Hi FU;rw[show fT k=Str.ofString nm by unfold fT;rw[e1];rfl];exact getMethod_builtin t1 (uV _) e2 e3 t2 (h2 id FU)
def get_own(b:BAt W fr pa g J H s){k n c:Nat}{fs:List (Nat×V)}(hH:H[n]?=some (.inst c fs))(hm:((ax c k).isSome&&decide (k<51)&&fs.all λf=>f.1 != k)=true)(ro:ay W.P g J (.ref n) xo){pl:Sem Bool}{R:Value×List Value->Shared->Prop}(h:∀f,ax c k=some f->R (.ref f,[xo]) s):wpAny W.M A (getMethod xo (fT k) pl) R E s:=by
 rw[zm,zm,zN]at hm;obtain⟨f,hf⟩:=isSome_iff_exists.mp hm.1.1;obtain⟨m1,m2,m3⟩:=pH hf;have q:=zP.mp b.top.facts.meth _ m1;rw[zm]at q;revert h;apply cA ro;intro p hp h;obtain⟨es,m,w1,w2,w3,w4⟩:=b.rel.obj n _ p hH hp;obtain⟨⟨q1,q2⟩,_⟩:=kS b m3;refine method_fn b.kin (od:=some (aA es m)) ⟨w1,rfl,rfl,w2⟩ q1 q2 (ze.mp q.1) (ze.mp q.2) ?_ (h f hf);unfold shadowIn;show (getL (fT k) es).map _=_;unfold getL;rw[Dz (show k<c0.length from hm.1.2) hm.2 w3];simp[ig (du w3)]
def nV(b:BAt W fr pa g J H s){k:Nat}{o:V}(hm:Ol H k o=true)(ro:ay W.P g J o xo){pl:Sem Bool}{R:Value×List Value->Shared->Prop}(h:∀f,(match sh H o with | some c=>∃n,ax c k=some n/\f=.ref n | none=>∃id,l9 k (o.kind H)=some id/\f=.builtin id)->R (f,[xo]) s):wpAny W.M A (getMethod xo (fT k) pl) R E s:=by
 change ∀f,Kg H k o f->R (f,[xo]) s at h
 injection o
 case ref n=>
  cases hH:H[n]? with
  |none=>exact ff ((zi (Option.elim · false (GC k)) hH).symm.trans hm)
  |some ob=>
   have hc:sh H (.ref n)=Lm ob:=fH hH;have hm:GC k ob=true:=(fH hH).symm.trans hm;have hk:V.kind H (.ref n)=jK ob:=fH hH;unfold Kg at h;rw[hc,hk]at h;injection ob
   case inst c fs=>exact get_own b hH hm ro λf hf=>h _ ⟨f,hf,rfl⟩
   all_goals exact xp b ro (by rw[hk];exact hm) λid FU=>h _ ⟨id,hk▸FU,rfl⟩
 all_goals exact xp b ro hm λid FU=>h _ ⟨id,FU,rfl⟩
def xq(aG:eq d A fr)(a:At W fr pa cx l lo g J H s){k:Nat}{ov:V}{xs:List Value}(h:bD (Call W d) X k ov H1 vs H K)(hf:match sh H1 ov with | some c=>∃n,ax c k=some n/\f=.ref n | none=>∃id,l9 k (ov.kind H1)=some id/\f=.builtin id)(ro:ay W.P g J ov xo)(rv:ah W.P g J vs xs)(q:oZ W fr pa cx l lo g J H s K Q)(hx:rY W fr pa [] g J H s X E):Q4 W.K f=true/\wpAny W.M A (call f ([xo]++xs)) Q E s:=by
 have b:=a.toBAt;unfold bD at h;split at h
 .rename_i c hc
  rw[hc]at hf;obtain⟨n,hn,rfl⟩:=hf;rw[hn]at h;exact⟨k7 b (.inl (pH hn).2.1),wpAny_call (h.run A fr pa g J s (xo::xs) Q E aG.amb b (ad.mpr ⟨_,_,rfl,ro,rv⟩) (q.toB a) hx)⟩
 .rename_i hc
  rw[hc]at hf;obtain⟨id,FU,rfl⟩:=hf;split at h
  .rename_i hk
   refine⟨rfl,?_⟩
   cases hb:kA H k ov vs with
   |none=>rw[hb]at h;exact h.elim
   |some r=>
    obtain⟨r,H'⟩:=r;rw[hb]at h;obtain⟨X0,e1,e2⟩:=QX (A:=A) (E:=E) b (by have:=aG.units;lia) hb ro rv (q.gives a h);rw[hk.1,e1]at FU;injection FU;exact e2
  .exact h.elim
end
section
variable{kd:Kd}{ns nso:List Str}{e:Expr}
def fh(h:kC kd ns nso .z xs=true):xs=[]:=isEmpty_iff.mp h
def cS{m:List Expr->Prop}(h:kC kd ns nso (.k p ps) xs=true)(k:∀x r,mE kd ns nso p x=true->kC kd ns nso ps r=true->m (x::r)):m xs:=by
 cases xs with
 |nil=>exact ff h
 |cons x r=>exact u6 h (k x r)
def nW(h:Bt kd ns nso .z xs=true):xs=[]:=isEmpty_iff.mp h
def lV{m:List Expr->Prop}(h:Bt kd ns nso (.k p ps) xs=true)(k:∀x r,mT kd ns nso p x=true->Bt kd ns nso ps r=true->m (x::r)):m xs:=by
 cases xs with
 |nil=>exact ff h
 |cons x r=>exact u6 h (k x r)
variable{m:Expr->Prop}
def DA(hm:mT kd ns nso (.not_ p) e=true)(k:∀x pos,mT kd ns nso p x=true->m (.UnaryOp .Not x pos)):m e:=Kc hm k
def yZ{b:Bool}(hm:mT kd ns nso (.bool b es) e=true)(k:∀vs pos,Bt kd ns nso es vs=true->m (.BoolOp (if b then .And else .Or) vs pos)):m e:=pG hm k
def DB(hm:mT kd ns nso (.ite t a b) e=true)(k:∀t' a' b' pos,mT kd ns nso t t'=true->mT kd ns nso a a'=true->mT kd ns nso b b'=true->m (.IfExp t' a' b' pos)):m e:=Dm hm k
def DC{op:CmpOp}(hm:mT kd ns nso (.cmp a op b) e=true)(k:∀l r pos,behindInMarks op r=false->mE kd ns nso a l=true->mE kd ns nso b r=true->m (.Compare l [op] [r] pos)):m e:=
 qP hm λl _ _ q h=>Ke h λr=>k l r q
def pI{op eL:CmpOp}(hm:mT kd ns nso (.cmp2 a op b eL c) e=true)(k:∀l r r2 pos,behindInMarks eL r2=false->mE kd ns nso a l=true->mE kd ns nso b r=true->mE kd ns nso c r2=true->m (.Compare l [op,eL] [r,r2] pos)):m e:=
 qP hm λl _ rs q h=>yV (m:=λos=>m (.Compare l os rs q)) h λ_ o2 h=>Dj (m:=λo=>m (.Compare l [o,o2] rs q)) (an (an h).1).1 (Dj (m:=λo=>m (.Compare l [op,o] rs q)) (an (an h).1).2 (yV (m:=λrs=>m (.Compare l [op,eL] rs q)) (an h).2 λr r2 h=>k l r r2 q (bn (an (an (an h).1).1).1) (an (an (an h).1).1).2 (an (an h).1).2 (an h).2))
def HM(v:Expr)(pos:Pos)(p:PE):mE kd ns nso p (.Starred v pos)=false:=by
 refine PE.rec (motive_1:=λp=>mE kd ns nso p (.Starred v pos)=false) (motive_2:=λ_=>True) ?_ ?_ ?_ ?_ ?_ ?_ ?_ ?_ ?_ ?_ ?_ ?_ ?_ ?_ ?_ ?_ ?_ ?_ ?_ ?_ ?_ ?_ ?_ ?_ ?_ ?_ ?_ p
 all_goals first
  |exact λ_ h=>h
  |(intros;first | rfl | exact trivial)
  |(intro v;induction v using V.casesOn<;>rfl)
def qT{x:Expr}(h:mE kd ns nso p x=true):starEach (x::r) env=(false,eval x env)::starEach r env:=by
 induction x using Expr.casesOn<;>first | rfl | (rw[HM]at h;injection h)
def bf:∀{ps:de} {xs:List Expr},kC kd ns nso ps xs=true->(backTo pos (starEach xs env)).any (·.1)=false/\(backTo pos (starEach xs env)).all (λx=>!x.1)=true
 |.z,xs,h=>by rw[fh h];exact⟨rfl,rfl⟩
 |.k p ps,xs,h=>by
  apply cS h;intro x r h1 h2;rw[qT h1];have q:=bf (pos:=pos) (env:=env) h2;exact⟨by show (false||_)=_;rw[Bool.false_or];exact q.1,by show (true&&_)=_;rw[Bool.true_and];exact q.2⟩
end
def fj{e:Expr}{Q:Bool->Shared->Prop}(he:isTrue e env (eval e env)=(do let v <-eval e env;standAt e.pos;holding [v] (truthy v)))(h:wpAny M A (eval e env) (λv s₁=>wpAny M A (truthy v) Q E s₁) E s):wpAny M A (isTrue e env (eval e env)) Q E s:=wpAny_isTrue_value h he
def jd{scope:Scope}{env:Env}(hk:env.scope.kind=.function):(relabel scope env).names=jY (λx=>env.kindOf x) scope.names:=by
 unfold relabel jY;rw[hk];simp
def vh{env:Env}(names:List (Str×NameKind)):∀(acc:List (Str×Addr)),(∀x∈names,x.2=.free->∃c,env.cells.lookup x.1=some c)->(∀p∈acc,env.cells.lookup p.1=some p.2)->∃cl,(forIn names acc λ(x:Str×NameKind) (cs:List (Str×Addr))=>(if (x.2==.free)=true then do let a <-cellOf env x.1;pure (ForInStep.yield ((x.1,a)::cs)) else pure (ForInStep.yield cs):Sem (ForInStep (List (Str×Addr)))))=pure cl/\(∀p∈cl,env.cells.lookup p.1=some p.2)/\(∀x,(acc.lookup x).isSome=true->(cl.lookup x).isSome=true)/\∀x∈names,x.2=.free->(cl.lookup x.1).isSome=true:=by
 induction names with
 |nil=>
  intro acc _ h;exact⟨acc,by rw[forIn_nil],h,λ_ q=>q,λ_ m=>by simp at m⟩
 |cons hd0 names ih=>
  obtain⟨n,k⟩:=hd0;intro acc hn h
  by_cases hk:k=.free
  .subst hk
   obtain⟨c,hc⟩:=hn (n,.free) (zw ..) rfl;have hc:env.cells.lookup n=some c:=hc;have h2:∀p∈(n,c)::acc,env.cells.lookup p.1=some p.2:=λp m=>by
    rcases zZ.mp m with rfl | m
    .exact hc
    .exact h p m
   obtain⟨cl,q1,q2,q3,q4⟩:=ih ((n,c)::acc) (λx m=>hn x (zx _ m)) h2;refine⟨cl,?_,q2,λx q=>q3 x ?_,λx m e=>?_⟩
   .rw[forIn_cons]
    have e1:cellOf env n=pure c:=by unfold cellOf;rw[hc]
    simp only[beq_self_eq_true,if_true,e1,pure_bind];exact q1
   .rw[lookup_cons];split
    .rfl
    .exact q
   .rcases zZ.mp m with rfl | m
    .exact q3 n (by simp[lookup_cons])
    .exact q4 x m e
  .obtain⟨cl,q1,q2,q3,q4⟩:=ih acc (λx m=>hn x (zx _ m)) h
   refine⟨cl,?_,q2,q3,λx m e=>?_⟩
   .rw[forIn_cons]
    have:(k==NameKind.free)=false:=by simpa using hk
    simp only[this,false_eq_true,if_false,pure_bind];exact q1
   .rcases zZ.mp m with rfl | m
    .exact absurd e hk
    .exact q4 x m e
def vj{scope:Scope}{env:Env}(hn:∀x∈scope.names,x.2=.free->∃c,env.cells.lookup x.1=some c):∃cl,closureFor scope env=pure cl/\(∀p∈cl,env.cells.lookup p.1=some p.2)/\∀x∈scope.names,x.2=.free->(cl.lookup x.1).isSome=true:=by
 obtain⟨cl,q1,q2,_,q4⟩:=vh scope.names [] hn (λp m=>by simp at m);refine⟨cl,?_,q2,q4⟩;unfold closureFor;simp only[];rw[bind_pure];exact q1
def Walks.weak{prog:Program}{I:Addr}{n:Nat}{P P':Nat->Value->Prop}{St:Nat->Heap->Prop}(W:Walks prog w A I fp wr n P St)(h:∀i v,P i v->P' i v):Walks prog w A I fp wr n P' St where
 sub:=W.sub
 frame:=W.frame
 item:=λi s Q E hi st hQ=>W.item i s Q E hi st λv h' tk hp=>hQ v h' tk (h i v hp)
 done:=W.done
 self:=W.self
def xr:∀(n:Nat) (a:Int) (i:Nat),i<n->(rX a n)[i]?=some (.int (a+i))
 |0,_,_,h=>absurd h (by lia)
 |n+1,a,0,_=>by simp[JR,lL]
 |n+1,a,i+1,h=>by
  rw[lL,getElem?_cons_succ,xr n (a+1) i (by lia)]
  congr 2;push_cast;lia
def pJ:∀(n:Nat) (a:Int) (i:Nat),i<n->(gW a n)[i]?=some (.int (a-i))
 |0,_,_,h=>absurd h (by lia)
 |n+1,a,0,_=>by simp[Gp,ml]
 |n+1,a,i+1,h=>by
  rw[ml,getElem?_cons_succ,pJ n (a-1) i (by lia)]
  congr 2;push_cast;lia
def HN(n:Nat):∀(a:Int),(rX a n).length=n:=by
 induction n with
 |zero=>
  intro _;exact rfl
 |succ n ih=>
  intro a;rw[lL,zd,ih]
def y5(n:Nat):∀(a:Int),(gW a n).length=n:=by
 induction n with
 |zero=>
  intro _;exact rfl
 |succ n ih=>
  intro a;rw[ml,zd,ih]
noncomputable def mA:List String:=["enumerate", "zip", "dict_itemiterator", "dict_reverseitemiterator", "odict_iterator", "itertools.zip_longest", "itertools.pairwise"]
def HO{s:Shared}{Q:Unit->Shared->Prop}{I:Addr}{o:Obj}{nm:String}{y:Value}(ho:s.heap.get? I=some o)(hc:o.cls=.type nm)(hn:mA.contains nm=false)(h:Q () s):wpAny M A (letOwnedTupleGo tg (.ref I) y) Q E s:=by
 have key:∀(a:Addr),wpAny M A (do
   let o <-load I
   match o.cls,o.data with
   |.type n,.fields vs=>
    if ["enumerate", "zip", "dict_itemiterator", "dict_reverseitemiterator", "odict_iterator", "itertools.zip_longest", "itertools.pairwise"].contains n&&vs[0]? == some (rawInt a) then
     rule "for.unpacks-the-owned-tuple"
     updateField I 0 .none
   |_,_=>pure ()) Q E s:=λa=>by
  refine zy (wpAny_load ho ?_);obtain⟨c,dd,da,sl⟩:=o;have hc:c=.type nm:=hc;subst hc
  cases da with
  |fields vs=>
   dsimp only;rw[show (["enumerate", "zip", "dict_itemiterator", "dict_reverseitemiterator", "odict_iterator", "itertools.zip_longest", "itertools.pairwise"]:List String)=mA from rfl,hn];exact zq h
  |_=>exact zq h
 injection tg<;>first | exact zq h | skip
 all_goals (injection y<;>first | exact zq h | exact key _)
section
variable{s:Shared}
def HP(b:BAt W fr pa g J H s)(hh:A.handled=none){xs:List V}{x:Value}(e:dJ v=some xs)(r:ay W.P g J v x)(h:∀(o:Obj) (fp:List Addr) (St:Nat->Heap->Prop),o.isFreed=false->(∀c∈fp,c=s.heap.objs.size\/(g c).isSome=true)->Walks W.prog W.w A s.heap.objs.size fp [s.heap.objs.size] xs.length (λi y=>∃u,xs[i]?=some u/\ay W.P g J u y) St->(∀i h',St i h'->∃o nm,h'.get? s.heap.objs.size=some o/\o.cls=.type nm/\mA.contains nm=false/\nm ≠ "frame")->St 0 (s.heap.push o)->Q (.ref s.heap.objs.size) { s with heap:=s.heap.push o }):wpAny W.M A (pyIter x) Q E s:=by
 have lt:∀{a:Addr} {o:Obj},g a=some o->a≠s.heap.objs.size:=λe q=>by
  rw[q,b.rel.none_at (be _)]at e;injection e
 have items:∀{vs:List V} {ys:List Value},ah W.P g J vs ys->∀(i:Nat) (y:Value),ys.toArray[i]?=some y->∃u,vs[i]?=some u/\ay W.P g J u y:=λ{vs ys} rs i y hy=>by
  have hy:ys[i]?=some y:=by simpa using hy
  have hi:i<vs.length:=by rw[<-au rs];exact (zu.mp hy).1
  obtain⟨z,q1,q2⟩:=ia rs (zo hi);rw[hy]at q1;injection q1;exact⟨_,zo hi,q2⟩
 cases v with
 |lst vs=>
  have e:vs=xs:=Option.some.inj e;subst e;obtain⟨a,ys,n,rfl,h1,h2⟩:=cL.mp r;have k1:=bx (b.rel.sub _ _ h1);have el:ys.toArray.size=vs.length:=by rw[zW,au h2]
  refine wpAny_pyIter_list k1 (h _ [s.heap.objs.size,a] (λi h=>h.IsListIter s.heap.objs.size a i/\h.IsList a ys.toArray) rfl (λc m=>?_) ?_ (λ_ _ st=>let ⟨⟨o,e,c,_⟩,_⟩:=st;⟨o,_,e,c,by decide⟩) ⟨⟨_,zR _ rfl,rfl,rfl⟩,k1.push _⟩)
  .rcases zZ.mp m with rfl | m
   .exact .inl rfl
   .rw[zp.mp m];exact .inr (by rw[h1];rfl)
  .rw[<-el]
   exact Walks.weak (PySem.Walks.list hh _ a (lt h1) _) (items h2)
 |tup vs=>
  have e:vs=xs:=Option.some.inj e;subst e;obtain⟨a,ys,n,rfl,h1,h2⟩:=cV.mp r;have k1:s.heap.IsTuple a ys.toArray:=eU (b.rel.sub _ _ h1);have el:ys.toArray.size=vs.length:=by rw[zW,au h2]
  refine wpAny_pyIter_tuple k1 (h _ [s.heap.objs.size,a] (λi h=>h.IsTupleIter s.heap.objs.size a i/\h.IsTuple a ys.toArray) rfl (λc m=>?_) ?_ (λ_ _ st=>let ⟨⟨o,e,c,_⟩,_⟩:=st;⟨o,_,e,c,by decide⟩) ⟨⟨_,zR _ rfl,rfl,rfl⟩,k1.push _⟩)
  .rcases zZ.mp m with rfl | m
   .exact .inl rfl
   .rw[zp.mp m];exact .inr (by rw[h1];rfl)
  .rw[<-el]
   exact Walks.weak (PySem.Walks.tuple hh _ a (lt h1) _) (items h2)
 |str l=>
  injection e;obtain⟨t,rfl⟩:=bG.mp r;have el:(aH l).cps.size=(l.map λc=>V.str [c]).length:=by simp
  have conv:∀i y,SignAt (aH l) i y->∃u,(l.map λc=>V.str [c])[i]?=some u/\ay W.P g J u y:=λi y hy=>by
   obtain⟨c,u,hc,rfl⟩:=hy;exact⟨.str [c],by simpa using hc,bG.mpr ⟨u,rfl⟩⟩
  cases ha:(aH l).cps.all (· < 128)with
  |false=>
   refine wpAny_pyIter_wide ha (h _ [s.heap.objs.size] (λi h=>h.IsStrIter s.heap.objs.size "str_iterator" (aH l) t i) rfl (λc m=>.inl (zp.mp m)) ?_ (λ_ _ st=>let ⟨o,e,c,_⟩:=st;⟨o,_,e,c,by decide⟩) ⟨_,zR _ rfl,rfl,rfl⟩);rw[<-el];exact Walks.weak (PySem.Walks.strWide hh _ _ t) conv
  |true=>
   refine wpAny_pyIter_ascii ha (h _ [s.heap.objs.size] (λi h=>h.IsStrIter s.heap.objs.size "str_ascii_iterator" (aH l) t i) rfl (λc m=>.inl (zp.mp m)) ?_ (λ_ _ st=>let ⟨o,e,c,_⟩:=st;⟨o,_,e,c,by decide⟩) ⟨_,zR _ rfl,rfl,rfl⟩);rw[<-el];exact Walks.weak (PySem.Walks.strAscii hh _ _ t) conv
 |rng i j st=>
  obtain⟨a,t1,t2,t3,rfl,h1⟩:=r;have hr:=b.rel.sub _ _ h1;have e':(if (aD i&&aD j)=true then (if st=1 then some (rX i (j-i).toNat) else if st=-1 then some (gW i (i-j).toNat) else none) else none)=some xs:=e;split at e'
  .rename_i hs
   rw[zm,dE,dE]at hs;obtain⟨⟨s1,s2⟩,s3,s4⟩:=hs;split at e'
   .rename_i q
    subst q;injection e';have hz:Builtin.Range.rangeSize i j 1=((j-i).toNat:Int):=by rw[PySem.rangeSize_one];split<;>lia
    refine wpAny_pyIter_range hr (small_one (by lia) s2 (by lia) s4) (h _ [s.heap.objs.size] (λk h=>IsRangeIter h s.heap.objs.size (i+(k:Nat)*1) (((j-i).toNat:Int) - (k:Nat)) 1) rfl (λc m=>.inl (zp.mp m)) ?_ (λ_ _ st=>⟨_,_,st,rfl,by decide⟩) ?_)
    .rw[HN]
     refine Walks.weak (PySem.Walks.range hh _ i 1 (j-i).toNat).bound λk y hy=>?_;obtain⟨hk,t,rfl⟩:=hy;exact⟨_,xr _ _ _ hk,aO.mpr ⟨t,by rw[Int.mul_one]⟩⟩
    .rw[hz];simpa[IsRangeIter]using zR _ rfl
   .split at e'
    .rename_i q
     subst q;injection e';have hz:Builtin.Range.rangeSize i j (-1)=((i-j).toNat:Int):=rangeSize_downNat i j;refine wpAny_pyIter_range hr (small_down (by lia) s2 (by lia) s4) (h _ [s.heap.objs.size] (λk h=>IsRangeIter h s.heap.objs.size (i+(k:Nat)*(-1)) (((i-j).toNat:Int) - (k:Nat)) (-1)) rfl (λc m=>.inl (zp.mp m)) ?_ (λ_ _ st=>⟨_,_,st,rfl,by decide⟩) ?_)
     .rw[y5]
      refine Walks.weak (PySem.Walks.range hh _ i (-1) (i-j).toNat).bound λk y hy=>?_;obtain⟨hk,t,rfl⟩:=hy;refine⟨_,pJ _ _ _ hk,aO.mpr ⟨t,?_⟩⟩
      congr 1;lia
     .rw[hz];simpa[IsRangeIter]using zR _ rfl
    .injection e'
  .injection e'
 |_=>injection e
end
def tj(name:Str)(h:Int)(k v:Value)(o:Obj):(Obj.putName name h k v o).cls=o.cls:=by
 rw[Obj.putName_eq];obtain⟨c,d,da,sl⟩:=o
 cases da with
 |dict es ep=>
  unfold Obj.putNameByArray;dsimp only;split<;>rfl
 |_=>rfl
def qU{name:Str}{h:Int}{o:Obj}(e:o.isFreed=false):(Obj.putName name h k v o).isFreed=false:=by
 rw[Obj.putName_eq];obtain⟨c,d,da,sl⟩:=o
 cases da with
 |dict es ep=>
  unfold Obj.putNameByArray;dsimp only;split<;>rfl
 |_=>exact e
def y6{s:Shared}{a:Addr}{m:Str->Option Value}{name:Str}{Q:Unit->Shared->Prop}(hn:s.heap.Ns a m)(hQ:∀h',h'.Ns a (λx=>if x=name then some v else m x)->Heap.SameBut a s.heap h'->(∀o,s.heap.get? a=some o->∃o',h'.get? a=some o'/\o'.cls=o.cls)->Q () { s with heap:=h',toks:=s.toks+1 }):wpAny M A (nsSet a name v) Q E s:=λΓ p hΓ=>by
 have lib:=Sem.wp_nsSet M Γ (λ_ _ _=>True) p s hn name v (λ_ _ s'=>s'.heap.Ns a (λx=>if x=name then some v else m x)/\Heap.SameBut a s.heap s'.heap) (λh' x y=>⟨x,y⟩);have key:∃(c:Prop) (h':Heap),(∀o,s.heap.get? a=some o->∃o',h'.get? a=some o'/\o'.cls=o.cls)/\∀(E:Value->Pos->Shared->Prop) (R:Unit->Pos->Shared->Prop),Sem.wp M Γ (nsSet a name v) R E p s=(c/\R () p { s with heap:=h',toks:=s.toks+1 }):=by
  obtain⟨o,es,ep,ho,hd,hk,hm⟩:=hn;have hany:es.any (·.refKey)=false:=by
   rw[Array.any_eq_false'];intro e he;obtain⟨n,t,h⟩:=hk e he;simp[DictEntry.refKey,h]
  apply Exists.intro;apply Exists.intro;refine (And.intro (λo' e=>?b) (λE R=>?a))
  case a=>
   simp only[nsSet,strHash,Sem.wp_bind',Sem.wp_cmd_ask,Sem.wp_pure',Sem.wp_cmd_mkText];rewrite[Sem.wp_loadPart_of M Γ _ p { s with toks:=s.toks+1 } (o:=o) _ ho];simp only[hd,aRefKeyMayBeTheName_eq,aRefKeyMayBeTheNameByArray,hany,Bool.and_false,false_eq_true,if_false,Sem.wp_cmd_updatePart]
   rfl
  case b=>
   rw[ho]at e;injection e;exact (Exists.intro _ (And.intro (zC _ ho (qU (Heap.get?_some_iff.mp ho).2)) (tj ..)))
 obtain⟨c,h',h1,h2⟩:=key;rewrite[h2]at lib ⊢;exact⟨lib.1,hQ _ lib.2.1 lib.2.2 h1⟩
def Step.turned{wr:List Addr}{g J H h}{h':Heap}(k:∀b o,b∉wr->h.get? b=some o->h'.get? b=some o)(lv:∀b∈wr,h.get? b≠none->h'.get? b≠none):Step wr g J H h g J H h':=
 ⟨λ_ _ e=>e,λ_ _ e=>.inl e,λ_ m=>.inl m,λa o e _ m=>.inl (k a o m e),zO _,λa m _ e=>lv a m e⟩
noncomputable def qV(cx:Cx)(loc:Bool):List Addr:=if loc then [cx.env.locals] else cx.pv
def DD{cx:Cx}{loc:Bool}:cx.env.locals∈qV cx loc:=by injection loc<;>simp[qV,Cx.pv]
def xt{cx:Cx}{loc:Bool}{a:Addr}(m:a∈qV cx loc):a∈cx.pv:=by injection loc<;>simp_all [qV,Cx.pv]
section
variable{l lo:Loc}{s:Shared}
def gX(h:Heap)(L:Addr)(z:Str)(w:Value):Prop:=∃m,h.Ns L m/\m z=some w
def Ns.same{h:Heap}{L:Addr}{m m':Str->Option Value}(x:h.Ns L m)(y:h.Ns L m')(z:Str):m z=m' z:=by
 obtain⟨o,es,ep,e,d,_,q⟩:=x;obtain⟨o',X1,X2,e',d',_,q'⟩:=y;rw[e]at e';injection e';rw[d]at d';injection d';rw[<-q z,<-q' z]
def gX.kept{h h':Heap}{L:Addr}{z:Str}(x:gX h L z w)(k:∀o,h.get? L=some o->Kept o (h'.get? L)):gX h' L z w:=by
 obtain⟨m,n,e⟩:=x;exact⟨m,Ns.kept n λo e=>let ⟨o',e',_,d⟩:=(k o e).data;⟨o',e',d⟩,e⟩
def BAt.priv(b:BAt W fr pa g J H s){wr:List Addr}{h':Heap}{t:Nat}(k:∀a o,a∉wr->s.heap.get? a=some o->h'.get? a=some o)(hp:∀a∈wr,g a=none/\a∉owned J H)(hl:∀a∈wr,a∈pa->∀o,s.heap.get? a=some o->o.cls=.type "frame" ->(∃es ep,o.data=.dict es ep)->∃o',h'.get? a=some o'/\o'.cls=.type "frame" /\ ∃es ep,o'.data=.dict es ep)(lv:∀a∈wr,a∈pa->h'.get? a≠none):BAt W fr pa g J H { s with heap:=h',toks:=t }:=by
 refine⟨b.top,⟨λa o e=>k a o (λq=>by rw[(hp a q).1]at e;injection e) (b.rel.sub a o e),b.rel.len,b.rel.own,b.rel.nod,λn o p e1 e2=>?_⟩,b.bas,λa m=>⟨(b.prv a m).1,(b.prv a m).2.1,?_⟩,λenv he=>?_⟩
 .exact (b.rel.obj n o p e1 e2).mono (λ_ _ e=>e) (zO _) λa ma y e=>k a y (λq=>(hp a q).2 (cW.mpr ⟨n,p,o,e2,e1,ma⟩)) e
 .show h'.get? a≠none
  by_cases q:a∈wr
  .exact lv a q m
  .obtain⟨o,ho⟩:=zF.mp (b.prv a m).2.2
   rw[k a o q ho];simp
 .obtain⟨q0,L,o,q1,q2,q3,q4,q5⟩:=b.frs env he
  by_cases q:L∈wr
  .obtain⟨o',e,f⟩:=hl L q q2 o q4 q5.1 q5.2
   exact⟨q0,L,o',q1,q2,q3,e,f⟩
  .exact⟨q0,L,o,q1,q2,q3,k L o q q4,q5⟩
def Uz.cell_ne(k:Uz cx){x:Str}{c:Addr}(e:cx.env.cells.lookup x=some c):c≠cx.env.locals:=λq=>k.lc (q▸bM e)
def gF{l:Loc}{i j:Nat}(h:j≠i):(l.set i v)[j]?=l[j]?:=zD (z6 h)
def DE{ns:List Str}(nd:ns.Nodup){i j:Nat}{x z:Str}(h1:ns[i]?=some x)(h2:ns[j]?=some z)(h:j≠i):z≠x:=λq=>by
 subst q;exact h ((List.getElem?_inj (zu.mp h2).1 nd).mp (h2.trans h1.symm))
def iS{i:Nat}{x:Str}{y:Value}{loc:Bool}{Q:Unit->Shared->Prop}(a:At W fr pa cx l lo g J H s)(hx:cx.ns[i]?=some x)(hk:cx.env.kindOf x=some .local\/(loc=false/\cx.env.kindOf x=some .cell/\lo=[]))(r:∀u,v=some u->ay W.P g J u y)(h:∀h' t,At W fr pa cx (l.set i v) lo g J H { s with heap:=h',toks:=t }->((cx.env.kindOf x=some .local->gX h' cx.env.locals x y)/\∀z w,z≠x->gX s.heap cx.env.locals z w->gX h' cx.env.locals z w)->Step (qV cx loc) g J H s.heap g J H h'->Q () { s with heap:=h',toks:=t }):wpAny W.M A (storeName cx.env x y) Q E s:=by
 have hp:(cx.env.scope.kind==.class||(cx.env.scope.kind==.module&&cx.env.locals != cx.env.globals))=false:=by rw[a.loc.fk];rfl
 have pl:cx.env.locals∈cx.pv:=zw
 rcases hk with hk |⟨rfl,hk,rfl⟩
 .obtain⟨m,hn,hm⟩:=a.loc.loc
  rw[storeName_local hk hp];refine y6 hn λh' oU hs hcls=>?_;have kp:∀b o,b∉[cx.env.locals]->s.heap.get? b=some o->h'.get? b=some o:=λb o q e=>(hs.2 b (by simpa using q)).trans e;have b1:=a.toBAt.priv (t:=s.toks+1) kp (λb q=>by rw[zp.mp q];exact⟨(a.prv _ (a.pvs _ pl)).1,(a.prv _ (a.pvs _ pl)).2.1⟩) (λb q _ o e c _=>by
   rw[zp.mp q]at e ⊢;obtain⟨o1,es,ep,e1,f,_⟩:=oU;obtain⟨o2,e2,c2⟩:=hcls o e;rw[e1]at e2;injection e2;exact⟨o1,e1,c2.trans c,es,ep,f⟩) (λb q _=>by
   rw[zp.mp q];obtain⟨o,es,ep,e,f,_⟩:=oU;rw[e];simp)
  have kc:∀b,b≠cx.env.locals->∀o,s.heap.get? b=some o->h'.get? b=some o:=λb q o e=>(hs.2 b q).trans e;refine h h' _ ⟨b1,⟨a.loc.fk,a.loc.gl,a.loc.bl,by rw[length_set];exact a.loc.len,⟨_,oU,λj z u hj rV hl=>?_⟩,λj z hj rV=>?_,λj z u hj rV hl=>?_,a.loc.ok⟩,a.pvs⟩ ⟨λ_=>⟨_,oU,if_pos rfl⟩,λz w hz ⟨m0,n0,e0⟩=>⟨_,oU,by rw[if_neg hz,<-Ns.same n0 hn z];exact e0⟩⟩ ((Step.turned (wr:=[cx.env.locals]) kp (λb q _=>?_)).weaken λb q=>?_)
  .by_cases q:j=i
   .subst q
    rw[show cx.at j=some x from hx]at hj;injection hj;have hlt:j<l.length:=by rw[a.loc.len];exact (zu.mp hx).1
    rw[z5 hlt]at hl;injection hl;exact⟨y,if_pos rfl,r u rfl⟩
   .rw[gF q]at hl
    obtain⟨w,e,Si⟩:=hm j z u hj rV hl;exact⟨w,by rw[if_neg (DE a.loc.ok.nd hx hj q)];exact e,Si⟩
  .have q:j≠i:=λq=>by
    subst q;rw[show cx.at j=some x from hx]at hj;injection hj;rw[hk]at rV;injection rV
   obtain⟨c,w,e1,e2,e3⟩:=a.loc.cel j z hj rV;exact⟨c,w,e1,Heap.IsCell.keep e2 (kc c (a.loc.ok.cell_ne e1)),λu hu=>e3 u (by rwa [gF q]at hu)⟩
  .obtain⟨c,w,e1,e2,e3⟩:=a.loc.fre j z u hj rV hl
   exact⟨c,w,e1,Heap.IsCell.keep e2 (kc c (a.loc.ok.cell_ne e1)),e3⟩
  .rw[zp.mp q]
   obtain⟨o,es,ep,e,f,_⟩:=oU;rw[e];simp
  .rw[zp.mp q];exact DD
 .obtain⟨c,w,e1,e2,e3⟩:=a.loc.cel i x hx hk
  refine wpAny_storeName_cell a.loc.fk hk e1 e2 λh' hc' hs=>?_;have pc:c∈cx.pv:=zx _ (bM e1);have kp:∀b o,b∉[c]->s.heap.get? b=some o->h'.get? b=some o:=λb o q e=>(hs.2 b (by simpa using q)).trans e;have kc:∀b,b≠c->∀o,s.heap.get? b=some o->h'.get? b=some o:=λb q o e=>(hs.2 b q).trans e;have b1:=a.toBAt.priv (t:=s.toks) kp (λb q=>by rw[zp.mp q];exact⟨(a.prv _ (a.pvs _ pc)).1,(a.prv _ (a.pvs _ pc)).2.1⟩) (λb q _ o e _ d=>by
   rw[zp.mp q]at e;obtain⟨o1,e1,f⟩:=e2;rw[e1]at e;injection e;obtain⟨es,ep,d⟩:=d;rw[f]at d;injection d) (λb q _=>by
   rw[zp.mp q];obtain⟨o,e,f⟩:=hc';rw[e];simp)
  refine h h' s.toks ⟨b1,⟨a.loc.fk,a.loc.gl,a.loc.bl,by rw[length_set];exact a.loc.len,?_,λj z hj rV=>?_,λj z u hj rV hl=>by simp at hl,a.loc.ok⟩,a.pvs⟩ ⟨λq=>(by rw[hk]at q;injection q),λz w hz ⟨m0,n0,e0⟩=>⟨m0,n0.sameBut hs (z6 (a.loc.ok.cell_ne e1)),e0⟩⟩ ((Step.turned (wr:=[c]) kp (λb q _=>?_)).weaken λb q=>?_)
  .obtain⟨m,hn,hm⟩:=a.loc.loc
   refine⟨m,hn.sameBut hs (z6 (a.loc.ok.cell_ne e1)),λj z u hj rV hl=>hm j z u hj rV ?_⟩;have q:j≠i:=λq=>by
    subst q;rw[show cx.at j=some x from hx]at hj;injection hj;rw[hk]at rV;injection rV
   rwa [gF q]at hl
  .by_cases q:j=i
   .subst q
    rw[show cx.at j=some x from hx]at hj;injection hj;refine⟨c,some y,e1,hc',λu hu=>⟨y,rfl,?_⟩⟩;have hlt:j<l.length:=by rw[a.loc.len];exact (zu.mp hx).1
    rw[z5 hlt]at hu;injection hu;exact r u rfl
   .obtain⟨c',w',f1,f2,f3⟩:=a.loc.cel j z hj rV
    refine⟨c',w',f1,Heap.IsCell.keep f2 (kc c' λz'=>?_),λu hu=>f3 u (by rwa [gF q]at hu)⟩;subst z';exact DE a.loc.ok.nd hx hj q (a.loc.ok.inj _ _ _ f1 e1)
  .rw[zp.mp q]
   obtain⟨o,e,f⟩:=hc';rw[e];simp
  .rw[zp.mp q];exact pc
def jZ{i:Nat}{x:Str}{y:Value}{loc:Bool}{Q:Unit->Shared->Prop}(a:At W fr pa cx l lo g J H s)(hx:cx.ns[i]?=some x)(hk:cx.env.kindOf x=some .local\/(loc=false/\cx.env.kindOf x=some .cell/\lo=[]))(r:ay W.P g J v y)(h:∀h' t,At W fr pa cx (l.set i (some v)) lo g J H { s with heap:=h',toks:=t }->Step (qV cx loc) g J H s.heap g J H h'->Q () { s with heap:=h',toks:=t }):wpAny W.M A (storeName cx.env x y) Q E s:=
 iS a hx hk (λu e=>by injection e;exact r) λh' t a' _ st=>h h' t a' st
def nX(kd:Kd)(ns:List Str)(loc:Bool)(t:Nat)(e:Expr):Bool:=lS false (λx _=>ns[t]? == some x&&(kd x==some .local||(!loc&&kd x==some .cell))) e
theorem qW{ns:List Str}{loc:Bool}{t:Nat}{x:Str}:nX kd ns loc t (.Name x p)=(ns[t]? == some x&&(kd x==some .local||(!loc&&kd x==some .cell))):=rfl
def vl{loc:Bool}{t:Nat}{m:Expr->Prop}(h:nX kd ns loc t e=true)(k:∀x p,nX kd ns loc t (.Name x p)=true->m (.Name x p)):m e:=jW h zt λx p q=>k x p q
def gh(kd:Kd)(ns:List Str)(loc:Bool):List Nat->List Expr->Bool
 |[],es=>es.isEmpty
 |t::ts,es=>match es with
  |[]=>false
  |e::es=>nX kd ns loc t e&&gh kd ns loc ts es
theorem HQ{loc:Bool}:gh kd ns loc [] []=true:=rfl
theorem qX{loc:Bool}{t:Nat}{ts:List Nat}{e:Expr}:gh kd ns loc (t::ts) (e::es)=(nX kd ns loc t e&&gh kd ns loc ts es):=rfl
def iT{t:Nat}{y:Value}{loc:Bool}{Q:Unit->Shared->Prop}(a:At W fr pa cx l lo g J H s)(ht:nX (kdOf cx) cx.ns loc t e=true)(hlo:loc=true\/lo=[])(r:ay W.P g J v y)(h:∀h' t',At W fr pa cx (l.set t (some v)) lo g J H { s with heap:=h',toks:=t' }->Step (qV cx loc) g J H s.heap g J H h'->Q () { s with heap:=h',toks:=t' }):wpAny W.M A (assign e cx.env y) Q E s:=by
 apply vl ht;clear ht;intro x p ht;simp only[qW,and_eq_true,beq_iff_eq,or_eq_true,not_eq_true']at ht;exact wpAny_assign_Name (jZ a ht.1 (ht.2.imp id λq=>⟨q.1,q.2,hlo.resolve_left λz=>by rw[z]at q;exact Bool.noConfusion q.1⟩) r h)
def qY{loc:Bool}{ts:List Nat}:∀{es:List Expr},gh kd ns loc ts es=true->(assignEach es env).length=ts.length/\(assignEach es env).findIdx? (·.1)=none/\(assignEach es env).map (·.2)=es.map λe=>assign e env:=by
 induction ts with
 |nil=>
  intro l2
  cases l2 with
  |nil=>
   intro _;exact⟨rfl,rfl,rfl⟩
  |cons _ _=>
   intro h;injection h
 |cons t ts ih=>
  intro l2
  cases l2 with
  |nil=>
   intro h;injection h
  |cons e es=>
   intro h;simp only[qX,and_eq_true]at h;obtain⟨q1,q2,q3⟩:=ih h.2;have h1:=h.1;apply vl h1;intro x p h1;have e1:assignEach (.Name x p::es) env=(false,assign (.Name x p) env)::assignEach es env:=by rfl
   rw[e1];refine⟨by rw[zd,zd,q1],?_,by rw[z0,z0,q3]⟩;rw[findIdx?_cons,q2]
   rfl
def vm{loc:Bool}(hlo:loc=true\/lo=[]):∀{ts:List Nat} {es:List Expr} {vs:List V} {ys:List Value} {l l':Loc} {s:Shared} {Q:Unit->Shared->Prop},At W fr pa cx l lo g J H s->gh (kdOf cx) cx.ns loc ts es=true->dD ts vs l=some l'->ah W.P g J vs ys->(∀h' t',At W fr pa cx l' lo g J H { s with heap:=h',toks:=t' }->Step (qV cx loc) g J H s.heap g J H h'->Q () { s with heap:=h',toks:=t' })->wpAny W.M A (assignInOrder (es.map λe=>assign e cx.env) ys) Q E s:=by
 intro ts
 induction ts with
 |nil=>
  intro es vs ys l l' s Q a ht hb r h
  cases es with
  |cons _ _=>injection ht
  |nil=>cases vs with
   |cons _ _=>injection hb
   |nil=>
    rw[aB]at r;subst r;injection hb;exact wpAny_assignInOrder_none (h s.heap s.toks a Step.refl)
 |cons t ts ih=>
  intro es vs ys l l' s Q a ht hb r h
  cases es with
  |nil=>injection ht
  |cons e es=>cases vs with
   |nil=>injection hb
   |cons v vs=>
    obtain⟨y,ys,rfl,r1,r2⟩:=ad.mp r;simp only[qX,and_eq_true]at ht;refine wpAny_assignInOrder_more (iT a ht.1 hlo r1 λh1 t1 a1 st1=>?_);refine ih a1 ht.2 hb r2 λh2 t2 a2 st2=>h h2 t2 a2 (st1.trans st2)
def lb{loc:Bool}(hh:A.handled=none)(hlo:loc=true\/lo=[]){ts:List Nat}{k:Nat}{y:Value}{l':Loc}{Q:Unit->Shared->Prop}(a:At W fr pa cx l lo g J H s)(ht:gh (kdOf cx) cx.ns loc ts es=true)(hb:dD ts vs l=some l')(r:ay W.P g J (.tup vs) y)(h:∀h' t',At W fr pa cx l' lo g J H { s with heap:=h',toks:=t' }->Step (qV cx loc) g J H s.heap g J H h'->Q () { s with heap:=h',toks:=t' }):wpAny W.M A (assign (.Tuple es k pos) cx.env y) Q E s:=by
 obtain⟨T,ys,n,rfl,h1,h2⟩:=cV.mp r;obtain⟨q1,q2,q3⟩:=qY (env:=cx.env) ht;have hl:∀{ts:List Nat} {vs:List V} {l:Loc},dD ts vs l=some l'->ts.length=vs.length:=by
  intro ts
  induction ts with
  |nil=>intro vs l e;injection vs<;>first | rfl | injection e
  |cons t ts ih=>intro vs l e;cases vs with
   |nil=>injection e
   |cons v vs=>rw[zd,zd,ih (show dD ts vs _=some l' from e)]
 refine PySem.wpAny_assign_Tuple hh (eU (a.rel.sub _ _ h1)) (by rw[q1,zW,au h2];exact hl hb) q2 λh' he=>?_;rw[q3];have kp:∀b o,s.heap.get? b=some o->h'.get? b=some o:=λb o e=>he b o (ne_of_lt (lt_size e)) e;obtain⟨b1,st1⟩:=a.toBAt.grow (t:=s.toks) kp;exact vm hlo (a.step b1 st1) ht hb h2 λh2 t2 a2 st2=>h h2 t2 a2 ((st1.weaken (λ_ m=>by simp at m)).trans st2)
end
structure Wk(W:Wd)(A:Around)(g:IH)(J:cy)(I:Addr)(fp wr:List Addr)(tok:Expr->Bool)(xs:List V)(St:Nat->Heap->Prop):Prop where
 frame:∀i h h',St i h->(∀b∈fp,∀o,h.get? b=some o->h'.get? b=some o)->St i h'
 item:∀(tg:Expr) (i:Nat) (u:V) (s:Shared) (Qg:QP) (E E':QP),tok tg=true->xs[i]?=some u->St i s.heap->(∀y h' tk,St (i+1) h'->(∀b o,b∉wr->s.heap.get? b=some o->h'.get? b=some o)->(ay W.P g J u y\/∃T us ys n,u=.tup us/\y=.ref T/\s.heap.get? T=none/\h'.get? T=some (fc ys n)/\ah W.P g J us ys)->Qg y { s with heap:=h',toks:=tk })->wpAny W.M A (pyNext (.ref I)) (λr s1=>∃y,r=some y/\wpAny W.M A (letOwnedTupleGo tg (.ref I) y) (λ_ s2=>Qg y s2) E' s1) E s
 done:∀(s:Shared) (Q:Option Value->Shared->Prop) (E:QP),St xs.length s.heap->(∀h' tk,(∀b o,b∉wr->s.heap.get? b=some o->h'.get? b=some o)->Q none { s with heap:=h',toks:=tk })->wpAny W.M A (pyNext (.ref I)) Q E s
 self:∀i (s:Shared) (Q:QP) (E:QP),St i s.heap->Q (.ref I) s->wpAny W.M A (pyIter (.ref I)) Q E s
noncomputable def lf(e:Expr):Bool:=e.ctorIdx==25
def Wk.of_walks{W:Wd}{I:Addr}{xs:List V}{St:Nat->Heap->Prop}(k:Walks W.prog W.w A I fp wr xs.length (λi y=>∃u,xs[i]?=some u/\ay W.P g J u y) St)(hc:∀i h',St i h'->∃o nm,h'.get? I=some o/\o.cls=.type nm/\mA.contains nm=false/\nm ≠ "frame"):Wk W A g J I fp wr (λ_=>true) xs St where
 frame:=k.frame
 item:=λtg i u s Qg E E' _ hu st h=>k.item i s _ E (zu.mp hu).1 st λy h' tk hp st' hk=>by
  obtain⟨u',e,r⟩:=hp;rw[hu]at e;injection e;obtain⟨o,nm,e1,e2,e3⟩:=hc _ _ st';exact⟨y,rfl,HO e1 e2 e3.1 (h y h' tk st' hk (.inl r))⟩
 done:=k.done
 self:=k.self
def iU:∀(n:Nat) (vs:List V),(eK n vs).length=vs.length
 |_,[]=>rfl
 |n,v::vs=>by rw[wH,zd,zd,iU]
def y7:∀{n:Nat} {vs:List V} {i:Nat} {u:V},(eK n vs)[i]?=some u->∃v,vs[i]?=some v/\u=.tup [.int ((n+i:Nat):Int),v]:=by
 intro n vs
 induction vs generalizing n with
 |nil=>intro i u h;injection h
 |cons v vs ih=>
  intro i u h
  cases i with
  |zero=>
   injection h;exact Exists.intro v (And.intro rfl rfl)
  |succ i=>
   rw[wH,getElem?_cons_succ]at h;obtain⟨w,e,q⟩:=ih h;refine⟨w,by simpa using e,?_⟩;rw[q,show n+1+i=n+(i+1) by lia]
def Wk.enum{W:Wd}{A:Around}{e it:Addr}{fp:List Addr}{vs:List V}{P:Nat->Value->Prop}{St:Nat->Heap->Prop}(D:Draws W.prog W.w A.in1 it fp vs.length P St)(cv:∀i y,P i y->∃u,vs[i]?=some u/\ay W.P g J u y)(Xa:e≠it)(Wh:e∉fp):Wk W A g J e (e::fp) [e,it] lf (eK 0 vs) (λi h=>(∃old,IsEnum h e it i old)/\St i h) where
 frame:=λi h h' hst hk=>by
  obtain⟨⟨old,he⟩,hs⟩:=hst;exact⟨⟨old,hk e (by simp) _ he⟩,D.frame _ _ _ hs λb hb o x=>hk b (zx _ hb) o x⟩
 item:=λtg i u s Qg E E' ht hu hst h=>by
  obtain⟨⟨old,he⟩,hs⟩:=hst;have hi:i<vs.length:=by rw[<-iU 0 vs];exact (zu.mp hu).1
  obtain⟨v,hv,rfl⟩:=y7 hu;refine wpAny_pyNext_enum_itemD D he hs hi Xa Wh λx h' tk hP ho hs' hT hsz hk=>⟨_,rfl,?_⟩;obtain⟨v',jh,r⟩:=cv _ _ hP;rw[hv]at jh;injection jh
  induction tg using Expr.casesOn<;>try exact ff ht
  refine wpAny_letOwnedTupleGo_enum ho λh2 Vj hs2=>?_;have ne:s.heap.objs.size≠e:=Nat.ne_of_gt (lt_size he);refine h (.ref s.heap.objs.size) h2 (tk+1) ⟨⟨_,by simpa using Vj⟩,D.frame _ _ _ hs' λb hb o y=>(hs2.2 b λq=>Wh (q▸hb)).trans y⟩ (λb o hb y=>?_) (.inr ⟨_,_,[.int i tk,x],0,rfl,rfl,be _,(hs2.2 _ ne).trans hT,?_⟩)
  .exact (hs2.2 b λq=>hb (by simp[q])).trans (hk b o (λq=>hb (by simp[q])) (λq=>hb (by simp[q])) y)
  .exact ad.mpr ⟨_,_,rfl,aO.mpr ⟨tk,by simp⟩,ad.mpr ⟨_,_,rfl,r,aB.mpr rfl⟩⟩
 done:=λs Q E hst hQ=>by
  obtain⟨⟨old,he⟩,hs⟩:=hst;rw[iU]at hs;exact wpAny_pyNext_enum_endD D he hs λh' hx=>hQ h' s.toks λb o hb y=>hx b o (λq=>hb (by simp[q])) y
 self:=λi s Q E hst hQ=>by
  obtain⟨⟨old,he⟩,_⟩:=hst;exact wpAny_pyIter_enum he hQ
section
variable{l lo:Loc}{s:Shared}
structure Lp(W:Wd)(fr:List Env)(pa wr:List Addr)(g0:IH)(J0:cy)(H0:Hp)(s0:Shared)(pv:List Addr)(g:IH)(J:cy)(H:Hp)(s:Shared):Prop where
 bat:BAt W fr pa g J H s
 st:Step pv g0 J0 H0 s0.heap g J H s.heap
 sm:bu s0 s
 nob:∀a∈wr,g a=none/\a∉owned J H/\s.heap.get? a≠none
 apart:∀a∈wr,a∉pa
 dead:∀a∈wr,s0.heap.get? a=none\/a∈owned J0 H0
def Lp.run{g0 J0 H0 s0 pv pv' g J H s g' J' H' s'}(x:Lp W fr pa wr g0 J0 H0 s0 pv g J H s)(b:BAt W fr pa g' J' H' s')(st:Step pv' g J H s.heap g' J' H' s'.heap)(sm:bu s s')(hp:∀a∈pv',a∈pv):Lp W fr pa wr g0 J0 H0 s0 pv g' J' H' s' where
 bat:=b
 st:=x.st.trans (st.weaken hp)
 sm:=x.sm.trans sm
 nob:=fV x.nob st
 apart:=x.apart
 dead:=x.dead
def Lp.own{wr:List Addr}{g0 J0 H0 s0 pv g J H s}(x:Lp W fr pa wr g0 J0 H0 s0 pv g J H s){h':Heap}{t:Nat}(k:∀b o,b∉wr->s.heap.get? b=some o->h'.get? b=some o)(lv:∀b∈wr,h'.get? b≠none):Lp W fr pa wr g0 J0 H0 s0 pv g J H { s with heap:=h',toks:=t }/\Step wr g J H s.heap g J H h' where
 left:=by
  have st:Step wr g J H s.heap g J H h':=Step.turned k λb m _=>lv b m;refine⟨x.bat.priv k (λa m=>⟨(x.nob a m).1,(x.nob a m).2.1⟩) (λa m q=>absurd q (x.apart a m)) (λa m q=>absurd q (x.apart a m)),?_,x.sm.trans ⟨rfl,rfl,rfl⟩,λa m=>⟨(x.nob a m).1,(x.nob a m).2.1,lv a m⟩,x.apart,x.dead⟩;have st2:=(x.st.weaken (pv':=pv++wr) λa m=>zh _ m).trans (st.weaken λa m=>zU _ m);refine⟨st2.gsub,st2.gnew,st2.onew,λa o e n m=>st2.keep a o e n λq=>?_,st2.phi,λa m n e=>st2.live a (zh _ m) n e⟩
  rcases zH.mp q with q | q
  .exact m q
  .rcases x.dead a q with z | z
   .rw[z]at e;injection e
   .exact n z
 right:=Step.turned k λb m _=>lv b m
def Lp.still{wr:List Addr}{g0 J0 H0 s0 pv g J H s}(x:Lp W fr pa wr g0 J0 H0 s0 pv g J H s){a:Addr}(e:s.heap.get? a=some o)(ng:g a=none)(no:a∉owned J H)(np:a∉pa)(nw:a∉wr)(n0:a∈owned J0 H0\/s0.heap.get? a=none):Lp W fr pa wr g0 J0 H0 s0 pv (jP g a o) J H s where
 bat:=x.bat.still e ng no np
 st:=⟨λc y q=>by
   have:=x.st.gsub c y q
   by_cases h:c=a
   .subst h;rw[ng]at this;injection this
   .rw[bj h];exact this,λc y q=>by
   by_cases h:c=a
   .exact .inr (h▸n0)
   .rw[bj h]at q;exact x.st.gnew c y q,x.st.onew,x.st.keep,x.st.phi,x.st.live⟩
 sm:=x.sm
 nob:=λb m=>⟨by rw[bj (λq=>nw (by rw[<-q];exact m))];exact (x.nob b m).1,(x.nob b m).2⟩
 apart:=x.apart
 dead:=x.dead
def tm{a:Addr}(ng:g a=none):∀b y,g b=some y->jP g a o b=some y:=λb y q=>by
 by_cases h:b=a
 .subst h;rw[ng]at q;injection q
 .rw[bj h];exact q
def Wk.take{g0 J0 H0 s0 pv}{I:Addr}{wr wr':List Addr}{tok:Expr->Bool}{xs:List V}{St:Nat->Heap->Prop}(k:Wk W A g0 J0 I fp wr tok xs St)(hw:∀b∈wr,b∈wr')(wn:∀i h,St i h->∀b∈wr,∃o,h.get? b=some o/\o.cls≠.type "frame")(x:Lp W fr pa wr' g0 J0 H0 s0 pv g J H s){i:Nat}{u:V}(ht:tok tg=true)(hu:xs[i]?=some u)(st:St i s.heap){Qg:QP}(h:∀g' y h' tk,ay W.P g' J u y->Lp W fr pa wr' g0 J0 H0 s0 pv g' J H { s with heap:=h',toks:=tk }->St (i+1) h'->(∀a o,g a=some o->g' a=some o)->(∀b o,b∉wr->s.heap.get? b=some o->h'.get? b=some o)->Step wr g J H s.heap g' J H h'->Qg y { s with heap:=h',toks:=tk }):wpAny W.M A (pyNext (.ref I)) (λr s1=>∃y,r=some y/\wpAny W.M A (letOwnedTupleGo tg (.ref I) y) (λ_ s2=>Qg y s2) E' s1) E s:=by
 refine k.item tg i u s Qg E E' ht hu st λy h' tk st' hk hr=>?_;have lv:∀b∈wr',h'.get? b≠none:=λb m=>by
  by_cases q:b∈wr
  .obtain⟨o,e,_⟩:=wn _ _ st' b q
   rw[e];simp
  .obtain⟨o,ho⟩:=zF.mp (x.nob b m).2.2
   rw[hk b o q ho];simp
 obtain⟨x1,_⟩:=x.own (t:=tk) (λb o m e=>hk b o (λq=>m (hw b q)) e) lv;have st1:Step wr g J H s.heap g J H h':=Step.turned hk λb m _=>by
  obtain⟨o,e,_⟩:=wn _ _ st' b m;rw[e];simp
 rcases hr with r |⟨T,us,ys,n,rfl,rfl,t0,t1,r⟩
 .exact h g y h' tk (x.st.rep r) x1 st' (λ_ _ e=>e) hk st1
 .have ng:=x.bat.rel.none_at t0
  have no:=x.bat.rel.not_owned t0;have nw:T∉wr':=λm=>(x.nob T m).2.2 t0;have x2:=x1.still (a:=T) t1 ng no (x.bat.fresh_not_pa t0) nw (x.st.dead t0);have up:=tm (o:=fc ys n) ng;refine h _ (.ref T) h' tk (cV.mpr ⟨T,ys,n,rfl,bN,aZ (λa o e=>up a o (x.st.gsub a o e)) x.st.phi r⟩) x2 st' up hk ⟨up,λc y q=>?_,st1.onew,st1.keep,st1.phi,st1.live⟩
  by_cases z:c=T
  .exact .inr (.inr (z▸t0))
  .rw[bj z]at q;exact .inl q
def Wk.take'{g0 J0 H0 s0 pv}{I:Addr}{wr wr':List Addr}{tok:Expr->Bool}{xs:List V}{St:Nat->Heap->Prop}(k:Wk W A g0 J0 I fp wr tok xs St)(hw:∀b∈wr,b∈wr')(wn:∀i h,St i h->∀b∈wr,∃o,h.get? b=some o/\o.cls≠.type "frame")(x:Lp W fr pa wr' g0 J0 H0 s0 pv g J H s){i:Nat}{u:V}(ht:tok tg=true)(hu:xs[i]?=some u)(st:St i s.heap){Rn:Shared->Prop}{Qg:QP}(h:∀g' y h' tk,ay W.P g' J u y->Lp W fr pa wr' g0 J0 H0 s0 pv g' J H { s with heap:=h',toks:=tk }->St (i+1) h'->(∀a o,g a=some o->g' a=some o)->(∀b o,b∉wr->s.heap.get? b=some o->h'.get? b=some o)->Step wr g J H s.heap g' J H h'->Qg y { s with heap:=h',toks:=tk }):wpAny W.M A (pyNext (.ref I)) (λr s1=>match r with
   |none=>Rn s1
   |some v=>wpAny W.M A (letOwnedTupleGo tg (.ref I) v) (λ_ s2=>Qg v s2) E' s1) E s:=
 zY (k.take hw wn x ht hu st h) (λr s1 h1=>by
  obtain⟨y,rfl,h1⟩:=h1;exact h1) λ_ _ e=>e
end
noncomputable abbrev gG(ifs:List Expr)(env:Env):Sem Bool:=forIn ifs true λc r=>if r=true then do let ok <-isTrue c env (eval c env);pure (ForInStep.yield ok) else pure (ForInStep.yield r)
def lW:∀(ifs:List Expr),(forIn ifs false λc r=>if r=true then do let ok <-isTrue c env (eval c env);pure (ForInStep.yield ok) else pure (ForInStep.yield r):Sem Bool)=pure false
 |[]=>by rw[forIn_nil]
 |c::r=>by
  rw[forIn_cons];simp only[false_eq_true,if_false,pure_bind];exact lW r
def vn{Q:Bool->Shared->Prop}{c:Expr}(h:wpAny M A (isTrue c env (eval c env)) (λok s₁=>if ok=true then wpAny M A (gG r env) Q E s₁ else Q false s₁) E s):wpAny M A (gG (c::r) env) Q E s:=by
 unfold gG;rw[forIn_cons];simp only[if_true];refine zy (zy (zY h (λok s₁ h₁=>zq ?_) λ_ _ e=>e))
 cases ok with
 |true=>exact h₁
 |false=>
  show wpAny M A (forIn r false _) Q E s₁;rw[lW];exact zq h₁
section
variable{prog:Program}{w:World}{R:Result->Shared->Prop}{s:Shared}
def tn{elt target iter:Expr}{scope:Scope}(I:Nat->Shared->Prop)(turn:∀n s,I n s->wpAny (model prog w) A (pyNext it) (λr s₁=>match r with
   |none=>R (.ok .next) s₁
   |some v=>wpAny (model prog w) A (letOwnedTupleGo target it v) (λ_ s₁=>wpAny (model prog w) A (assign target env v) (λ_ s₂=>
     wpAny (model prog w) A (gG ifs env) (λok s₃=>
      if ok=true then wpAny (model prog w) A (eval elt env) (λx s₄=>
       wpAny (model prog w) A (call (.builtin "list.append") [acc,x]) (λ_ s₅=>∃m,m<n/\I m s₅) (notedBy (model prog w) A env λe s'=>R (.error e) s') s₄) (notedBy (model prog w) A env λe s'=>R (.error e) s') s₃
      else ∃m,m<n/\I m s₃) (notedBy (model prog w) A env λe s'=>R (.error e) s') s₂) (notedBy (model prog w) A env λe s'=>R (.error e) s') s₁) (notedBy (model prog w) A env λe s'=>R (.error e) s') s₁) (notedBy (model prog w) A env λe s'=>R (.error e) s') s) (n:Nat) (h:I n s):codeAny (model prog w) A (.compLoop (.ListComp elt [⟨target,iter,ifs,0⟩] scope pos) 0 it acc env) R s:=by
 refine codeAny_loop rfl I (λn s hI=>?_) n h;show wpAny _ A ((compTurn (.ListComp elt [⟨target,iter,ifs,0⟩] scope pos) 0 it acc env).onRaise (λx=>do noteFrame x env;theTreesLotGoes x)) _ _ s;refine wpAny_noted ?_;rw[compTurn_list];refine zy (zL (zy (zY (turn n s hI) (λr s₁ h₁=>?_) λ_ _ h'=>h')))
 cases r with
 |none=>exact zq h₁
 |some v=>
  refine zy (zY h₁ (λ_ s₁ h₁=>?_) λ_ _ h'=>h');refine zy (zY h₁ (λ_ s₂ h₂=>zy (zY h₂ (λok s₃ h₃=>?_) λ_ _ h'=>h')) λ_ _ h'=>h')
  cases ok with
  |false=>exact zq ⟨rfl,h₃⟩
  |true=>
   exact zy (zy (zY h₃ (λx s₄ h₄=>zy (zY h₄ (λ_ s₅ h₅=>zq (zq ⟨rfl,h₅⟩)) λ_ _ h'=>h')) λ_ _ h'=>h'))
end
noncomputable def F4(cx:Cx)(scope:Scope)(cl:List (Str×Addr))(ts:List Str)(C:Addr):Cx:=⟨compEnvC scope cl C cx.env,ts,cx.ns⟩
def tq{names:List (Str×NameKind)}:∀{x:Str} {k:NameKind},(∀y∈names,y.2≠.cell)->(jY kd names).lookup x=some k->(k=.cell->kd x=some .cell/\(x,NameKind.free)∈names):=by
 induction names with
 |nil=>
  intro _ _ _ h;simp[jY]at h
 |cons hd0 r ih=>
  obtain⟨n,j⟩:=hd0;intro x k hc h;have ih:=@ih x k (λy m=>hc y (zx _ m));have e:jY kd ((n,j)::r)=(if (j==.free&&kd n==some .cell) then (n,.cell) else (n,j))::jY kd r:=rfl;rw[e]at h;intro hk
  by_cases hx:x=n
  .subst hx
   by_cases q:(j==NameKind.free&&kd x==some .cell)=true
   .simp only[and_eq_true,beq_iff_eq]at q
    exact⟨q.2,by rw[q.1];exact zw⟩
   .rw[if_neg q,List.lookup_cons_self]at h
    injection h;subst hk;exact absurd rfl (hc (x,.cell) (zw ..))
  .have hb:(x==n)=false:=zE.mpr hx
   have:(jY kd r).lookup x=some k:=by
    by_cases q:(j==NameKind.free&&kd n==some .cell)=true
    .rw[if_pos q,lookup_cons,hb]at h;exact h
    .rw[if_neg q,lookup_cons,hb]at h;exact h
   exact⟨(ih this hk).1,zx _ (ih this hk).2⟩
def im{α:Type}{l:List (Str×α)}{x:Str}{c:α}(e:l.lookup x=some c):(x,c)∈l:=by
 induction l with
 |nil=>injection e
 |cons p r ih=>
  rw[lookup_cons]at e;split at e
  .rename_i q;injection e;rw[ze.mp q];exact zw
  .exact zx _ (ih e)
structure y8(kd:Kd)(ns ts:List Str)(scope:Scope):Prop where
 kind:scope.kind=.function
 cell:∀y∈scope.names,y.2≠.cell
 loc:∀y∈scope.names,y.2=.local->scope.names.lookup y.1=some .local
 free:∀y∈scope.names,y.2=.free->kd y.1=some .cell/\y.1∈ns
 ts:∀x∈ts,scope.names.lookup x=some .local
def xw{scope:Scope}(h:Hy kd ns ts scope=true):y8 kd ns ts scope:=by
 simp only[Hy,and_eq_true,beq_iff_eq,all_eq_true,bne_iff_ne,ne_eq,or_eq_true,contains_iff_mem]at h;obtain⟨⟨h1,h2⟩,h3⟩:=h;exact⟨h1,λy m=>(h2 y m).1.1,λy m q=>((h2 y m).1.2).resolve_left λz=>z q,λy m q=>((h2 y m).2).resolve_left λz=>z q,h3⟩
def L7{cx:Cx}{scope:Scope}{cl:List (Str×Addr)}{C:Addr}(hk:cx.env.scope.kind=.function):kdOf (F4 cx scope cl ts C)=λx=>(jY (kdOf cx) scope.names).lookup x:=by
 funext x
 show (relabel scope cx.env).names.lookup x=_;rw[jd hk]
section
variable{l lo:Loc}{s:Shared}
def BAt.more(b:BAt W fr pa g J H s){C:Addr}(h:g C=none/\C∉owned J H/\s.heap.get? C≠none):BAt W fr (C::pa) g J H s:=
 ⟨b.top,b.rel,b.bas,λa m=>by rcases zZ.mp m with rfl | m;exact h;exact b.prv a m,λenv he=>by
  obtain⟨k,L,o,q1,q2,q3,q4,q5⟩:=b.frs env he;exact⟨k,L,o,q1,zx _ q2,q3,q4,q5⟩⟩
def At.inner(a:At W fr pa cx l lo g J H s){scope:Scope}{cl:List (Str×Addr)}{ts:List Str}{C:Addr}{li:Loc}{m:Str->Option Value}(sc:y8 (kdOf cx) cx.ns ts scope)(nd:ts.Nodup)(hcl:∀p∈cl,cx.env.cells.lookup p.1=some p.2)(uE:∀x∈scope.names,x.2=.free->(cl.lookup x.1).isSome=true)(hC:g C=none/\C∉owned J H/\s.heap.get? C≠none)(np:C∉pa)(hn:s.heap.Ns C m)(Xb:li.length=ts.length)(hm:∀(i:Nat) (x:Str) (v:V),ts[i]?=some x->li[i]?=some (some v)->∃y,m x=some y/\ay W.P g J v y):At W fr (C::pa) (F4 cx scope cl ts C) li l g J H s:=by
 have mem:∀a∈cl.map (·.2),a∈pa:=λa q=>by
  obtain⟨p,m,rfl⟩:=mem_map.mp q;exact a_pvs p m
 refine⟨a.toBAt.more hC,⟨sc.kind,a.loc.gl,a.loc.bl,Xb,⟨m,hn,λi x v hi _ hl=>hm i x v hi hl⟩,λi x hi hk=>?_,λi x v hi hk hl=>?_,⟨nd,λq=>np (mem _ q),λx y c h1 h2=>?_⟩⟩,λb q=>?_⟩
 .have hi:ts[i]?=some x:=hi
  have h1:=sc.ts x (mem_of_getElem? hi);have h2:(relabel scope cx.env).names.lookup x=some .local:=lookup_relabel_local h1;rw[show (F4 cx scope cl ts C).env.kindOf x=(relabel scope cx.env).names.lookup x from rfl,h2]at hk;injection hk
 .have hi:cx.ns[i]?=some x:=hi
  have hk:(relabel scope cx.env).names.lookup x=some .cell:=hk;rw[jd a.loc.fk]at hk;obtain⟨h1,h2⟩:=tq sc.cell hk rfl;obtain⟨c,hc⟩:=isSome_iff_exists.mp (uE _ h2 rfl);have hc:cl.lookup x=some c:=hc;obtain⟨c',y,e1,e2,e3⟩:=a.loc.cel i x hi h1;rw[hcl _ (im hc)]at e1;injection e1;obtain⟨z,rfl,rz⟩:=e3 v hl;exact⟨c,z,hc,e2,rz⟩
 .have h1:cl.lookup x=some c:=h1
  have h2:cl.lookup y=some c:=h2;exact a.loc.ok.inj x y c (hcl _ (im h1)) (hcl _ (im h2))
 .rcases zZ.mp q with rfl | q
  .exact zw
  .exact zx _ (mem _ q)
where a_pvs:∀p∈cl,p.2∈pa:=λp m=>a.pvs _ (zx _ (bM (hcl p m)))
end
section
variable{l lo:Loc}{s:Shared}
def BAt.stepP{pv:List Addr}{g' J' H' s'}(x:BAt W fr pa g J H s)(r:Cy W.P g' J' H' s'.heap)(st:Step pv g J H s.heap g' J' H' s'.heap)(hp:∀a∈pv,a∉pa):BAt W fr pa g' J' H' s':=
 ⟨x.top,r,λa o e=>st.gsub a o (x.bas a o e),fV x.prv st,λenv he=>by
  obtain⟨k,L,o,a,b,c,d,e⟩:=x.frs env he;obtain⟨o',e',q1,q2⟩:=(st.keep L o d (x.prv L b).2.1 (λm=>hp L m b)).data;exact⟨k,L,o',a,b,c,e',q1.trans e.1,let ⟨es,ep,z⟩:=e.2;⟨es,ep,q2.trans z⟩⟩⟩
def Lp.runR{wr:List Addr}{g0 J0 H0 s0 pv pv' g J H s g' J' H' s'}(x:Lp W fr pa wr g0 J0 H0 s0 pv g J H s)(r:Cy W.P g' J' H' s'.heap)(st:Step pv' g J H s.heap g' J' H' s'.heap)(sm:bu s s')(hp:∀a∈pv',a∈wr):Lp W fr pa wr g0 J0 H0 s0 pv g' J' H' s' where
 bat:=x.bat.stepP r st λa m=>x.apart a (hp a m)
 st:=by
  have st2:=(x.st.weaken (pv':=pv++wr) λa m=>zh _ m).trans (st.weaken λa m=>zU _ (hp a m));refine⟨st2.gsub,st2.gnew,st2.onew,λa o e n m=>st2.keep a o e n λq=>?_,st2.phi,λa m n e=>st2.live a (zh _ m) n e⟩
  rcases zH.mp q with q | q
  .exact m q
  .rcases x.dead a q with z | z
   .rw[z]at e;injection e
   .exact n z
 sm:=x.sm.trans sm
 nob:=fV x.nob st
 apart:=x.apart
 dead:=x.dead
def Lp.add{wr new:List Addr}{g0 J0 H0 s0 pv g J H s}(x:Lp W fr pa wr g0 J0 H0 s0 pv g J H s){h':Heap}{t:Nat}(k:∀b o,s.heap.get? b=some o->h'.get? b=some o)(hn:∀a∈new,s.heap.get? a=none/\h'.get? a≠none):Lp W fr pa (new++wr) g0 J0 H0 s0 pv g J H { s with heap:=h',toks:=t }:=by
 obtain⟨b1,st1⟩:=x.bat.grow (t:=t) k;have y:=x.run b1 st1 ⟨rfl,rfl,rfl⟩ (λa m=>by simp at m);refine⟨y.bat,y.st,y.sm,λa m=>?_,λa m=>?_,λa m=>?_⟩
 .rcases zH.mp m with m | m
  .exact⟨x.bat.rel.none_at (hn a m).1,x.bat.rel.not_owned (hn a m).1,(hn a m).2⟩
  .exact y.nob a m
 .rcases zH.mp m with m | m
  .exact x.bat.fresh_not_pa (hn a m).1
  .exact y.apart a m
 .rcases zH.mp m with m | m
  .exact (x.st.dead (hn a m).1).symm
  .exact y.dead a m
def Lp.fin{wr new:List Addr}{g0 J0 H0 s0 pv g J H s}(x:Lp W fr pa (new++wr) g0 J0 H0 s0 pv g J H s){h':Heap}{t:Nat}(k:∀b o,b∉wr->s.heap.get? b=some o->h'.get? b=some o)(hd:∀b∈new,b∉wr):Lp W fr pa new g0 J0 H0 s0 pv g J H { s with heap:=h',toks:=t }:=by
 have iw:∀a∈wr,a∈new++wr:=λa m=>zU _ m;have nw:∀a,s0.heap.get? a≠none->a∉owned J0 H0->a∉wr:=λa e n m=>(x.dead a (iw a m)).elim e n;refine⟨x.bat.priv k (λa m=>⟨(x.nob a (iw a m)).1,(x.nob a (iw a m)).2.1⟩) (λa m q=>absurd q (x.apart a (iw a m))) (λa m q=>absurd q (x.apart a (iw a m))),⟨x.st.gsub,x.st.gnew,x.st.onew,λa o e n m=>?_,x.st.phi,λa m n e=>?_⟩,x.sm.trans ⟨rfl,rfl,rfl⟩,λa m=>?_,λa m=>x.apart a (zh _ m),λa m=>x.dead a (zh _ m)⟩
 .exact (x.st.keep a o e n m).map λo' e'=>k a o' (nw a (by rw[e];simp) n) e'
 .obtain⟨o,ho⟩:=zF.mp (x.st.live a m n e)
  show h'.get? a≠none;rw[k a o (nw a e n) ho];simp
 .have y:=x.nob a (zh _ m)
  obtain⟨o,ho⟩:=zF.mp y.2.2;refine⟨y.1,y.2.1,?_⟩;show h'.get? a≠none;rw[k a o (hd a m) ho];simp
def Lp.at{g0 J0 H0 s0 g J H s}(x:Lp W fr pa wr g0 J0 H0 s0 [] g J H s)(a:At W fr pa cx l lo g0 J0 H0 s0):At W fr pa cx l lo g J H s:=a.step x.bat x.st
def Lp.fpk{wr pv':List Addr}{g0 J0 H0 s0 pv g J H s g' J' H'}{h':Heap}(x:Lp W fr pa wr g0 J0 H0 s0 pv g J H s)(st:Step pv' g J H s.heap g' J' H' h')(r:Cy W.P g' J' H' h'){b:Addr}(hb:(b∈wr/\b∉pv'/\∃o,s.heap.get? b=some o/\o.cls≠.type "frame")\/(g0 b).isSome=true):∀o,s.heap.get? b=some o->h'.get? b=some o:=λo e=>by
 rcases hb with ⟨m,np,o1,e1,c1⟩ | hb
 .rw[e]at e1
  injection e1;exact (st.keep b o e (x.nob b m).2.1 np).exact c1
 .obtain⟨o0,h0⟩:=isSome_iff_exists.mp hb
  have h1:=x.st.gsub b o0 h0;have h2:=x.bat.rel.sub b o0 h1;rw[e]at h2;injection h2;exact r.sub b o (st.gsub b o h1)
def PlainList.kept{h h':Heap}{D:Addr}{ys:Array Value}(x:h.PlainList D ys)(k:∀o,h.get? D=some o->Kept o (h'.get? D)):h'.PlainList D ys:=by
 obtain⟨n,e⟩:=x;exact⟨n,(k _ e).exact (by simp)⟩
def Ns.keptK{h h':Heap}{C:Addr}{m:Str->Option Value}(x:h.Ns C m)(k:∀o,h.get? C=some o->Kept o (h'.get? C)):h'.Ns C m:=
 Ns.kept x λo e=>let ⟨o',e',_,d⟩:=(k o e).data;⟨o',e',d⟩
def y9{nt:Nat}{ts:List Str}{li:Loc}{y:Value}{Q:Unit->Shared->Prop}(hh:A.handled=none)(wo:u9 nt tg=some ts)(hb:bindC nt u=some li)(wq:cx.ns=ts)(hk:∀x∈ts,cx.env.kindOf x=some .local)(a:At W fr pa cx (replicate ts.length none) lo g J H s)(r:ay W.P g J u y)(h:∀h' t',At W fr pa cx li lo g J H { s with heap:=h',toks:=t' }->Step [cx.env.locals] g J H s.heap g J H h'->Q () { s with heap:=h',toks:=t' }):wpAny W.M A (assign tg cx.env y) Q E s:=by
 revert hb wq hk a;refine Dp (m:=λnt tg ts=>bindC nt u=some li->cx.ns=ts->(∀x∈ts,cx.env.kindOf x=some .local)->At W fr pa cx (replicate ts.length none) lo g J H s->wpAny W.M A (assign tg cx.env y) Q E s) wo (λx p hb wq hk a=>?_) λx px y' py k pos ne hb wq hk a=>?_
 .cases Option.some.inj hb
  exact iT (t:=0) (loc:=true) (v:=u) a (by simp[qW,wq,kdOf,hk x (by simp)]) (.inl rfl) r h
 .revert r h
  refine Hx (m:=λu li=>ay W.P g J u y->(∀h' t',At W fr pa cx li lo g J H { s with heap:=h',toks:=t' }->Step [cx.env.locals] g J H s.heap g J H h'->Q () { s with heap:=h',toks:=t' })->wpAny W.M A (assign (.Tuple [.Name x px,.Name y' py] k pos) cx.env y) Q E s) hb λv1 v2 r h=>?_;exact lb (ts:=[0,1]) (loc:=true) hh (.inl rfl) a (by simp[qX,HQ,qW,wq,kdOf,hk x (by simp),hk y' (by simp)]) (by rfl) r h
def xx{nt:Nat}{ts:List Str}(wo:u9 nt tg=some ts):ts.Nodup/\(nt=2->lf tg=true):=
 Dp (m:=λnt tg ts=>ts.Nodup/\(nt=2->lf tg=true)) wo (λx p=>⟨by simp,λh=>absurd h (by decide)⟩) λx px y py k q ne=>⟨by simpa using ne,λ_=>rfl⟩
def L8(W:Wd)(A:Around)(fr:List Env)(pa:List Addr)(cx:Cx)(l:Loc)(nt:Nat)(elt:Expr)(ifs:List Expr)(f:V->Hp->(Option V->Hp->Prop)->Prop):Prop:=
 ∀(li:Loc) (g:IH) (J:cy) (H:Hp) (s:Shared) (u:V) (k:Option V->Hp->Prop) (NE:QP) (Qa:QP) (Qb:Shared->Prop),bindC nt u=some li->f u H k->At W fr pa cx li l g J H s->(∀g2 J2 H2 v y s2,k (some v) H2->ay W.P g2 J2 v y->At W fr pa cx li l g2 J2 H2 s2->Step [] g J H s.heap g2 J2 H2 s2.heap->bu s s2->Qa y s2)->(∀g2 J2 H2 s2,k none H2->At W fr pa cx li l g2 J2 H2 s2->Step [] g J H s.heap g2 J2 H2 s2.heap->bu s s2->Qb s2)->wpAny W.M A (gG ifs cx.env) (λok s3=>if ok=true then wpAny W.M A (eval elt cx.env) Qa NE s3 else Qb s3) NE s
abbrev Q5(W:Wd)(fr:List Env)(pa:List Addr)(D C:Addr)(wr:List Addr)(g0:IH)(J0:cy)(H0:Hp)(s0:Shared)(St:Nat->Heap->Prop)(xs:List V)(f:V->Hp->(Option V->Hp->Prop)->Prop)(K:KP)(n:Nat)(s':Shared):Prop:=
 ∃(i:Nat) (g':IH) (J':cy) (H':Hp) (acc:List V) (ys:Array Value) (m':Str->Option Value),n=xs.length-i/\i<=xs.length/\Lp W fr pa (D::C::wr) g0 J0 H0 s0 [] g' J' H' s'/\St i s'.heap/\s'.heap.PlainList D ys/\s'.heap.Ns C m'/\ah W.P g' J' acc ys.toList/\cb f (xs.drop i) acc H' K/\acc.length<=i
def Aa{g0 J0 H0 s0}{I C D:Addr}{fp wr:List Addr}{tok:Expr->Bool}{xs:List V}{St:Nat->Heap->Prop}{nt:Nat}{elt:Expr}{scope:Scope}{cl:List (Str×Addr)}{f:V->Hp->(Option V->Hp->Prop)->Prop}{K:KP}{R:Result->Shared->Prop}(hh:A.handled=none)(a0:At W fr pa cx l lo g0 J0 H0 s0)(hw:Wk W A g0 J0 I fp wr tok xs St)(wn:∀i h,St i h->∀b∈wr,∃o,h.get? b=some o/\o.cls≠.type "frame")(Bn:∀b∈fp,b∈wr\/(g0 b).isSome=true)(ht:tok tg=true)(wo:u9 nt tg=some ts)(sc:y8 (kdOf cx) cx.ns ts scope)(hcl:∀p∈cl,cx.env.cells.lookup p.1=some p.2)(uE:∀x∈scope.names,x.2=.free->(cl.lookup x.1).isSome=true)(Wi:D≠C)(TD:C∉wr)(TE:D∉wr)(hz:aj xs.length=true)(Vk:L8 W A fr (C::pa) (F4 cx scope cl ts C) l nt elt ifs f)(Vl:∀u H k,f u H k->∃li,bindC nt u=some li)(hR:∀g' J' H' vs ys n m' s',K (.lst vs) H'->Lp W fr pa [D,C] g0 J0 H0 s0 [] g' J' H' s'->s'.heap.get? D=some (bd ys n)->ah W.P g' J' vs ys->s'.heap.Ns C m'->R (.ok .next) s'){s:Shared}{m:Str->Option Value}(x:Lp W fr pa (D::C::wr) g0 J0 H0 s0 [] g J H s)(hc:cb f xs [] H K)(st:St 0 s.heap)(hn:s.heap.Ns C m)(hD:s.heap.PlainList D #[]):codeAny W.M A (.compLoop (.ListComp elt [⟨tg,it,ifs,0⟩] scope pos) 0 (.ref I) (.ref D) (F4 cx scope cl ts C).env) R s:=by
 refine tn (Q5 W fr pa D C wr g0 J0 H0 s0 St xs f K) ?_ xs.length ⟨0,g,J,H,[],#[],m,by simp,zero_le _,x,st,hD,hn,aB.mpr rfl,hc,zv _⟩;intro n s' zI;obtain⟨i,g',J',H',acc,ys,m',rfl,hi,x',st',Wj,oU,ra,hc',Wl⟩:=zI
 by_cases hlt:i<xs.length
 .have hu:xs[i]?=some xs[i]:=zo hlt
  have hdrop:xs.drop i=xs[i]::xs.drop (i+1):=List.drop_eq_getElem_cons hlt;rw[hdrop,mY]at hc';obtain⟨li,hb⟩:=Vl _ _ _ hc';refine hw.take' (wr':=D::C::wr) (λb m=>zx _ (zx _ m)) wn x' ht hu st' (λg1 y h1 tk ru x1 st1 gs hk Wm=>?_);have hn1:=oU.at' λo e=>hk C o TD e;have hD1:=Wj.at λo e=>hk D o TE e;have kl:∀z∈ts,(F4 cx scope cl ts C).env.kindOf z=some .local:=λz m=>lookup_relabel_local (sc.ts z m);have a1:=(x1.at a0).inner (li:=replicate ts.length none) sc (xx wo).1 hcl uE (x1.nob C (by simp)) (x1.apart C (by simp)) hn1 (by simp) (λi x v _ q=>by
   rw[getElem?_replicate]at q;split at q<;>injection q)
  refine y9 (cx:=F4 cx scope cl ts C) hh wo hb rfl kl a1 ru λh2 t2 a2 st2=>?_;have x2:=x1.runR (s':={ s' with heap:=h2,toks:=t2 }) a2.rel st2 ⟨rfl,rfl,rfl⟩ (λa m=>by rw[zp.mp m];exact zx _ zw);have hD2:h2.PlainList D ys:=PlainList.kept hD1 λo e=>st2.keep D o e (x1.nob D (by simp)).2.1 (show D∉[C] by simpa using Wi);have fpm:∀b∈fp,b∈D::C::wr\/(g0 b).isSome=true:=λb q=>(Bn b q).imp (λz=>zx _ (zx _ z)) id;have ng:∀c∈D::C::wr,g0 c=none:=λc q=>by
   cases e:g0 c with
   |none=>rfl
   |some o=>have:=x'.st.gsub c o e;rw[(x'.nob c q).1]at this;injection this
  have fpC:∀b∈fp,b≠C:=λb q z=>by
   subst z
   rcases Bn b q with w | w
   .exact TD w
   .rw[ng b (by simp)]at w;injection w
  have fpD:∀b∈fp,b≠D:=λb q z=>by
   subst z
   rcases Bn b q with w | w
   .exact TE w
   .rw[ng b (by simp)]at w;injection w
  have st2':St (i+1) h2:=hw.frame _ _ _ st1 λb q=>x1.fpk st2 a2.rel ((Bn b q).imp (λz=>⟨zx _ (zx _ z),show b∉[C] by simpa using fpC b q,wn _ _ st1 b z⟩) id);have hn2:∃m2,h2.Ns C m2:=by obtain⟨m2,q,_⟩:=a2.loc.loc;exact⟨m2,q⟩
  have ra1:ah W.P g1 J' acc ys.toList:=aZ gs (zO _) ra;refine Vk li g1 J' H' _ xs[i] _ _ _ _ hb hc' a2 (λg3 J3 H3 v y3 s3 oV r3 a3 st3 sm3=>?_) (λg3 J3 H3 s3 oV a3 st3 sm3=>?_)
  .have x3:=x2.runR a3.rel st3 sm3 (λa m=>by simp at m)
   have hD3:s3.heap.PlainList D ys:=PlainList.kept hD2 λo e=>st3.keep D o e (x2.nob D (by simp)).2.1 (by simp);have hys:ys.size<=sizeLine:=by
    have e1:=au ra;have e2:=bW hz;rw[Array.length_toList]at e1;exact aq (by lia)
   refine wpAny_list_append_plain (hsz:=hys) hD3 λh5 Wn Os=>?_;have x5:=(x3.own (h':=h5) (t:=s3.toks) (λb o q e=>(Os.2 b (λz=>q (by simp[z]))).trans e) (λb q=>by
    by_cases z:b=D
    .subst z;obtain⟨n,e⟩:=Wn;rw[e];simp
    .obtain⟨o,ho⟩:=zF.mp (x3.nob b q).2.2
     rw[Os.2 b z,ho];simp)).1
   obtain⟨m2,hn2⟩:=hn2;refine⟨xs.length-(i+1),Nat.sub_lt_sub_left hlt (lt_succ_self i),?_⟩;refine⟨i+1,g3,J3,H3,acc++[v],ys.push y3,m2,rfl,hlt,x5,?_,Wn,?_,?_,oV,by simp;lia⟩
   .exact hw.frame _ _ _ st2' λb q o e=>Os.extBut b o (fpD b q) (x2.fpk st3 a3.rel ((Bn b q).imp (λz=>⟨zx _ (zx _ z),by simp,wn _ _ st2' b z⟩) id) o e)
   .exact (Ns.keptK hn2 λo e=>st3.keep C o e (x2.nob C (by simp)).2.1 (by simp)).sameBut Os (z6 Wi)
   .rw[Array.toList_push]
    exact cm (st3.reps ra1) (ad.mpr ⟨_,_,rfl,r3,aB.mpr rfl⟩)
  .have x3:=x2.runR a3.rel st3 sm3 (λa m=>by simp at m)
   obtain⟨m2,hn2⟩:=hn2;refine⟨xs.length-(i+1),Nat.sub_lt_sub_left hlt (lt_succ_self i),?_⟩;refine⟨i+1,g3,J3,H3,acc,ys,m2,rfl,hlt,x3,?_,PlainList.kept hD2 λo e=>st3.keep D o e (x2.nob D (by simp)).2.1 (by simp),Ns.keptK hn2 λo e=>st3.keep C o e (x2.nob C (by simp)).2.1 (by simp),st3.reps ra1,oV,by lia⟩;exact hw.frame _ _ _ st2' λb q o e=>x2.fpk st3 a3.rel ((Bn b q).imp (λz=>⟨zx _ (zx _ z),by simp,wn _ _ st2' b z⟩) id) o e
 .have hin:i=xs.length:=by lia
  subst hin;rw[List.drop_length,pt]at hc';refine hw.done _ _ _ st' λh' tk hk=>?_;have x2:=Lp.fin (new:=[D,C]) (t:=tk) x' hk (λb m=>by
   simp at m
   rcases m with rfl | rfl
   .exact TE
   .exact TD)
  obtain⟨n',e'⟩:=Wj.at λo e=>hk D o TE e;have e'':h'.get? D=some (bd ys.toList n'):=by rw[e']
  exact hR g' J' H' acc ys.toList n' m' _ hc' x2 e'' ra (oU.at' λo e=>hk C o TD e)
def xy{nt:Nat}{x:Value}(b:BAt W fr pa g J H s)(hh:A.handled=none)(Wo:nt=2->lf tg=true)(e:fG nt H v=some (xs,H'))(r:ay W.P g J v x)(h:∀(I:Addr) (fp wr:List Addr) (tok:Expr->Bool) (St:Nat->Heap->Prop) (s':Shared),Wk W A g J I fp wr tok xs St->(∀i h,St i h->∀b∈wr,∃o,h.get? b=some o/\o.cls≠.type "frame")->(∀b∈fp,b∈wr\/(g b).isSome=true)->tok tg=true->Lp W fr pa wr g J H s [] g J H' s'->St 0 s'.heap->Q (.ref I) s'):wpAny W.M A (pyIter x) Q E s:=by
 have key:∀{v':V},v=v'->(∀n,v'≠.ref n)->wpAny W.M A (pyIter x) Q E s:=by
  rintro v' rfl hv
  have e2:dJ v=some xs/\H=H':=by
   obtain⟨ys,h1,h2⟩:=z7.mp ((Bx hv).symm.trans e);injection h2;exact⟨h1,rfl⟩
  obtain⟨e2,rfl⟩:=e2;refine HP b hh e2 r λo fp St ho Bn hw hcls hst=>?_;obtain⟨b1,st1⟩:=b.grow (h':=s.heap.push o) (t:=s.toks) (λ_ _ e=>zc _ e);have x0:Lp W fr pa [] g J H s [] g J H s:=⟨b,Step.refl,bu.refl _,λa m=>by simp at m,λa m=>by simp at m,λa m=>by simp at m⟩;have x1:=x0.add (new:=[s.heap.objs.size]) (h':=s.heap.push o) (t:=s.toks) (λ_ _ e=>zc _ e) (λa m=>by
   rw[zp.mp m];exact⟨be _,by rw[zR _ ho];simp⟩)
  refine h _ fp [s.heap.objs.size] (λ_=>true) St _ (Wk.of_walks hw hcls) (λi h' st b m=>?_) (λb m=>(Bn b m).imp (λz=>by simp[z]) id) rfl x1 hst;rw[zp.mp m];obtain⟨o',nm,e1,c1,_,c2⟩:=hcls i h' st;exact⟨o',e1,λq=>by rw[c1]at q;injection q;exact c2 rfl⟩
 cases v with
 |ref n=>
  obtain⟨h2,hH,q0⟩:=yB e;subst q0;obtain⟨p,hp,rfl⟩:=bV.mp r;obtain⟨v0,rfl,en,Xc⟩:=b.rel.obj n _ p hH hp;obtain⟨y,z⟩:=b.turn (t:=s.toks) (o':=.gone) (h':=s.heap) hH hp (by simp[bT]) (a:=p.1) (by simp[bT]) (Heap.SameBut.refl ..) trivial;have am:∀a∈[p.1,p.2],a∈owned J H:=λa m=>cW.mpr ⟨n,p,_,hp,hH,by simpa[bT]using m⟩;obtain⟨M,B,q1,q2⟩:=iM (o':=O.gone) hp hH;have nd:=b.rel.nod;have hne:p.1≠p.2:=by
   rw[q1,nodup_append,nodup_append]at nd;simpa[bT]using nd.1.2.1
  have no:∀a∈[p.1,p.2],a∉owned J (H.set n .gone):=λa m=>by
   rw[q1,nodup_append,nodup_append]at nd;rw[q2];have m':a∈bT p (O.iter (eK 0 v0)):=by simpa[bT]using m
   simp only[bT,append_nil,mem_append]at nd ⊢
   rintro (h | h)
   .exact nd.1.2.2 _ h a m' rfl
   .exact nd.2.2 a (.inr m') _ h rfl
  have x1:Lp W fr pa [p.1,p.2] g J H s [] g J (H.set n .gone) s:=⟨y,z,bu.refl _,λa m=>⟨b.rel.own _ (am a m),no a m,b.rel.alive _ (am a m)⟩,λa m q=>(b.prv a q).2.1 (am a m),λa m=>.inr (am a m)⟩
  rcases Xc with ⟨li,ys,k,h1,h3,h4⟩ |⟨cs,t,h1,h3⟩
  .have kl:s.heap.IsList li ys.toArray:=bx (b.rel.sub _ _ h1)
   have ne:∀a∈[p.1,p.2],li≠a:=λa m q=>by
    have:=b.rel.own _ (am a m);rw[<-q,h1]at this;injection this
   have D:=Draws.list (prog:=W.prog) (w:=W.w) (A:=A.in1) hh p.2 li (ne p.2 (by simp)) ys.toArray;rw[show ys.toArray.size=v0.length by rw[zW,au h3]]at D;refine wpAny_pyIter_enum en (h p.1 (p.1::[p.2,li]) [p.1,p.2] lf _ s (Wk.enum D (λi y hy=>?_) hne (by
    simp only[mem_cons,not_mem_nil,or_false,not_or];exact⟨hne,z6 (ne p.1 (by simp))⟩)) (λi h' st c m=>?_) (λc m=>?_) (Wo h2) x1 ⟨⟨.none,en⟩,h4,kl⟩)
   .have hy:ys[i]?=some y:=by simpa using hy
    have hi:i<v0.length:=by rw[<-au h3];exact (zu.mp hy).1
    obtain⟨z,w1,w2⟩:=ia h3 (zo hi);rw[hy]at w1;injection w1;exact⟨_,zo hi,w2⟩
   .obtain⟨⟨_,e1⟩,⟨o,e2,c2,_⟩,_⟩:=st
    simp at m
    rcases m with rfl | rfl
    .exact⟨_,e1,by simp⟩
    .exact⟨o,e2,by rw[c2];decide⟩
   .simp at m
    rcases m with rfl | rfl | rfl
    .exact .inl (by simp)
    .exact .inl (by simp)
    .exact .inr (by rw[h1];rfl)
  .subst h1
   have fin:∀{ty:String},ty ≠ "frame" ->s.heap.IsStrIter p.2 ty (aH cs) t 0->Draws W.prog W.w A.in1 p.2 [p.2] (aH cs).cps.size (λi v=>∃c u,(aH cs).cps[i]?=some c/\v=.str ⟨#[c]⟩ u) (λi h=>h.IsStrIter p.2 ty (aH cs) t i)->wpAny W.M A (pyIter (.ref p.1)) Q E s:=λ{ty} Xd h4 D=>by
    rw[show (aH cs).cps.size=(cs.map λc=>V.str [c]).length by simp]at D;refine wpAny_pyIter_enum en (h p.1 (p.1::[p.2]) [p.1,p.2] lf _ s (Wk.enum D (λi y hy=>?_) hne (by simpa using hne)) (λi h' st c m=>?_) (λc m=>.inl m) (Wo h2) x1 ⟨⟨.none,en⟩,h4⟩)
    .obtain⟨c,u,hc,rfl⟩:=hy
     exact⟨.str [c],by simpa using hc,bG.mpr ⟨u,rfl⟩⟩
    .obtain⟨⟨_,e1⟩,⟨o,e2,c2,_⟩⟩:=st
     simp at m
     rcases m with rfl | rfl
     .exact⟨_,e1,by simp⟩
     .exact⟨o,e2,by rw[c2];exact λq=>Xd (by injection q;rfl)⟩
   rcases h3 with h3 | h3
   .exact fin (by decide) h3 (Draws.strAscii (prog:=W.prog) (w:=W.w) (A:=A.in1) hh p.2 _ t)
   .exact fin (by decide) h3 (Draws.strWide (prog:=W.prog) (w:=W.w) (A:=A.in1) hh p.2 _ t)
 |_=>exact key rfl (by intro n;exact V.noConfusion)
end
section
variable{l lo:Loc}{s:Shared}
def xz{nt:Nat}{elt:Expr}{scope:Scope}{cl:List (Str×Addr)}{xs:List V}{x:Value}{f:V->Hp->(Option V->Hp->Prop)->Prop}{K:KP}{RR:Value->Addr->Result->Shared->Prop}(hh:A.handled=none)(a:At W fr pa cx l lo g J H s)(e:fG nt H v=some (xs,H'))(hz:aj xs.length=true)(r:ay W.P g J v x)(wo:u9 nt tg=some ts)(sc:y8 (kdOf cx) cx.ns ts scope)(hcl:∀p∈cl,cx.env.cells.lookup p.1=some p.2)(uE:∀x∈scope.names,x.2=.free->(cl.lookup x.1).isSome=true)(Vk:∀C,L8 W A fr (C::pa) (F4 cx scope cl ts C) l nt elt ifs f)(Vl:∀u H k,f u H k->∃li,bindC nt u=some li)(hc:cb f xs [] H' K)(hR:∀D C g' J' H2 vs m' s',K (.lst vs) H2->At W fr pa cx l lo g' J' H2 s'->ay W.P g' J' (.lst vs) (.ref D)->Step [] g J H s.heap g' J' H2 s'.heap->bu s s'->s'.heap.Ns C m'->(g' C=none/\C∉owned J' H2)->C∉pa->(s.heap.get? C=none\/C∈owned J H)->RR (.ref D) C (.ok .next) s'):wpAny W.M A (pyIter x) (λrT s2=>wpAny W.M A (newList []) (λacc s3=>wpAny W.M A (newFunctionEnv scope cx.env.globals cl [] cx.env.qual none .none (some cx.env)) (λSj s4=>
   codeAny W.M A (.compStart (.ListComp elt [⟨tg,it,ifs,0⟩] scope pos) 0 rT acc { Sj with scope:=relabel scope cx.env }) (RR acc Sj.locals) s4) E s3) E s2) E s:=by
 refine xy a.toBAt hh (xx wo).2 e r λI fp wr tok St s₂ hw wn Bn ht x1 hst=>?_;refine wpAny_newObj_type (wpAny_newFunctionEnv sc.cell (by intro y hy;simp at hy) (λh₁ JH JI=>?_) sc.kind);dsimp only at JH JI ⊢;generalize hH2:s₂.heap.push { cls:=.type "list",dict:=none,data:=.seq ([]:List Value).toArray }=H2 at JH JI ⊢;have hC:H2.objs.size=s₂.heap.objs.size+1:=by rw[<-hH2,size_push]
 have hDC:s₂.heap.objs.size≠H2.objs.size:=by rw[hC];exact ne_of_lt (lt_succ_self _)
 have below:∀b,b<s₂.heap.objs.size->b≠H2.objs.size:=λb hb=>by rw[hC];exact ne_of_lt (Nat.lt_succ_of_lt hb)
 have old:∀b o,s₂.heap.get? b=some o->h₁.get? b=some o:=λb o e=>JI.extBut b o (below b (lt_size e)) (zc _ (hH2▸zc _ e));have hacc:h₁.PlainList s₂.heap.objs.size #[]:=⟨_,JI.extBut _ _ hDC (zc _ (hH2▸zR _ rfl))⟩;have fresh:∀a,s₂.heap.objs.size<=a->s₂.heap.get? a=none:=λa ha=>by
  cases e:s₂.heap.get? a with
  |none=>rfl
  |some o'=>exact absurd (lt_size e) (Nat.not_lt.mpr ha)
 have fD:=fresh _ (zv _);have fC:=fresh H2.objs.size (by rw[hC];exact le_succ _);have nwr:∀a,s₂.heap.get? a=none->a∉wr:=λa q m=>(x1.nob a m).2.2 q;have x2:=x1.add (new:=[s₂.heap.objs.size,H2.objs.size]) (h':=h₁) (t:=s₂.toks+([]:List (Str×Value)).length) old (λa m=>by
  simp at m
  rcases m with rfl | rfl
  .obtain⟨n,e⟩:=hacc
   exact⟨fD,by rw[e];simp⟩
  .obtain⟨o,_,_,e,_⟩:=JH
   exact⟨fC,by rw[e];simp⟩)
 have hst₁:St 0 h₁:=hw.frame _ _ _ hst λb _ o e=>old b o e;have loop:∀s₃:Shared,s₃={ s₂ with heap:=h₁,toks:=s₂.toks+([]:List (Str×Value)).length }->codeAny W.M A (.compLoop (.ListComp elt [⟨tg,it,ifs,0⟩] scope pos) 0 (.ref I) (.ref s₂.heap.objs.size) (F4 cx scope cl ts H2.objs.size).env) (RR (.ref s₂.heap.objs.size) H2.objs.size) s₃:=by
  rintro s₃ rfl
  refine Aa hh a hw wn Bn ht wo sc hcl uE hDC (nwr _ fC) (nwr _ fD) hz (Vk _) Vl (λg' J' H3 vs ys n m' s' hk x3 eD ra hn=>?_) x2 hc hst₁ JH hacc;have nD:=x3.nob s₂.heap.objs.size (by simp);have nC:=x3.nob H2.objs.size (by simp);have x4:=(Lp.fin (new:=[H2.objs.size]) (wr:=[]) (t:=s'.toks) (h':=s'.heap) (by
   refine⟨x3.bat,x3.st,x3.sm,λa m=>x3.nob a ?_,λa m=>x3.apart a ?_,λa m=>x3.dead a ?_⟩<;>simp at m<;>simp[m]) (λ_ _ _ e=>e) (λ_ _ m=>by simp at m)).still (a:=s₂.heap.objs.size) (o:=bd ys n) eD nD.1 nD.2.1 (x3.apart _ (by simp)) (by simpa using hDC) ((x3.dead _ (by simp)).symm)
  have nC4:=x4.nob H2.objs.size (by simp);refine hR _ _ _ J' H3 vs m' s' hk (x4.at a) (cL.mpr ⟨_,ys,n,rfl,bN,aZ (tm nD.1) (zO _) ra⟩) x4.st x4.sm hn ⟨nC4.1,nC4.2.1⟩ (x4.apart _ (by simp)) (x4.dead _ (by simp))
 exact codeAny_compStart_list (loop _ rfl) (hw.self 0 _ _ _ hst₁ (loop _ rfl))
def nY(a:At W fr pa cx l lo g J H s){scope:Scope}(sc:y8 (kdOf cx) cx.ns ts scope):∃cl,closureFor scope cx.env=pure cl/\(∀p∈cl,cx.env.cells.lookup p.1=some p.2)/\∀x∈scope.names,x.2=.free->(cl.lookup x.1).isSome=true:=
 vj λx m q=>by
  obtain⟨h1,h2⟩:=sc.free x m q;obtain⟨i,hi⟩:=List.getElem?_of_mem h2;obtain⟨c,_,e,_⟩:=a.loc.cel i x.1 hi h1;exact⟨c,e⟩
def DF(h:nJ it=true):∀x,foldedSetIterable it env x=pure x:=λx=>by
 induction it using Expr.casesOn<;>first | rfl | exact ff h
def Step.letgo{g J H h g' J' H' h' h''}{C:Addr}(x:Step [] g J H h g' J' H' h')(k:∀b o,b≠C->h'.get? b=some o->h''.get? b=some o)(d:h.get? C=none\/C∈owned J H):Step [] g J H h g' J' H' h'':=
 ⟨x.gsub,x.gnew,x.onew,λa o e n m=>(x.keep a o e n m).map λo' e'=>k a o' (λq=>d.elim (λz=>by rw[<-q,e]at z;injection z) (λz=>n (q▸z))) e',x.phi,λ_ m=>by simp at m⟩
def DG{C:Addr}{h':Heap}(a:At W fr pa cx l lo g J H s)(sb:Heap.SameBut C s.heap h')(n:g C=none/\C∉owned J H)(np:C∉pa):At W fr pa cx l lo g J H { s with heap:=h' }/\(∀b o,b≠C->s.heap.get? b=some o->h'.get? b=some o):=by
 have k:∀b o,b≠C->s.heap.get? b=some o->h'.get? b=some o:=λb o q e=>(sb.2 b q).trans e;have b1:=a.toBAt.priv (wr:=[C]) (t:=s.toks) (λb o q e=>k b o (by simpa using q) e) (λb q=>by rw[zp.mp q];exact n) (λb q m=>absurd m (by rw[zp.mp q];exact np)) (λb q m=>absurd m (by rw[zp.mp q];exact np));have nl:∀b∈cx.pv,b≠C:=λb m q=>np (q▸a.pvs b m);refine⟨⟨b1,⟨a.loc.fk,a.loc.gl,a.loc.bl,a.loc.len,?_,λi x hi hk=>?_,λi x v hi hk hl=>?_,a.loc.ok⟩,a.pvs⟩,k⟩
 .obtain⟨m,hn,hm⟩:=a.loc.loc
  exact⟨m,hn.sameBut sb (nl _ zw),hm⟩
 .obtain⟨c,y,e1,e2,e3⟩:=a.loc.cel i x hi hk
  exact⟨c,y,e1,e2.sameBut sb (nl _ (zx _ (bM e1))),e3⟩
 .obtain⟨c,z,e1,e2,e3⟩:=a.loc.fre i x v hi hk hl
  exact⟨c,z,e1,e2.sameBut sb (nl _ (zx _ (bM e1))),e3⟩
end
def Step.over{xa:List Addr}{g0 J0 H0 h0 g J H h g' J' H' h'}(x:Step pv g0 J0 H0 h0 g J H h)(st:Step xa g J H h g' J' H' h')(hd:∀a∈xa,fe J0 H0 h0 a):Step pv g0 J0 H0 h0 g' J' H' h':=by
 have st2:=(x.weaken (pv':=pv++xa) λa m=>zh _ m).trans (st.weaken λa m=>zU _ m);refine⟨st2.gsub,st2.gnew,st2.onew,λa o e n m=>st2.keep a o e n λq=>?_,st2.phi,λa m n e=>st2.live a (zh _ m) n e⟩
 rcases zH.mp q with q | q
 .exact m q
 .rcases hd a q with z | z
  .rw[z]at e;injection e
  .exact n z
def Tb(h:Heap)(e:Addr):Prop:=∃o vs T,h.get? e=some o/\o.data=.fields vs/\vs[1]?=some (.ref T)
def Ab{base h:Heap}:pA base h pa fr->h.FunFrames base fr:=by
 induction fr with
 |nil=>
  intro _;exact trivial
 |cons env r ih=>
  intro x;obtain⟨k,L,o,a,b,c,d,e1,es,ep,e2⟩:=x env zw;exact⟨k,⟨L,o,a,c,d,λvs q=>by rw[e2]at q;injection q⟩,ih λe m=>x e (zx _ m)⟩
def iV{base h:Heap}{pa:List Addr}{fr:List Env}(x:pA base h pa fr){b:Addr}(m:b∈fr.filterMap (·.frame)):b∈pa/\∃o,h.get? b=some o/\o.cls=.type "frame" := by
 obtain⟨env,me,hf⟩:=List.mem_filterMap.mp m;obtain⟨k,L,o,a,b',c,d,e1,_⟩:=x env me;rw[a]at hf;injection hf;exact⟨b',o,d,e1⟩
section
variable{outer:List Env}{xa:List Addr}{s:Shared}{env:Env}{L e:Addr}{c:Nat}{fs:List V}
def tu(b:BAt W fr pa g J H s)(nx:∀a∈xa,g a=none/\a∉owned J H/\a∉pa){h':Heap}(k:∀a o,a∉xa->s.heap.get? a=some o->Kept o (h'.get? a))(kf:∀a o,a∉xa->(g a).isSome=true\/a∈owned J H->s.heap.get? a=some o->h'.get? a=some o)(lv:∀a∈xa,h'.get? a≠none):BAt W fr pa g J H { s with heap:=h' }/\Step xa g J H s.heap g J H h':=by
 have st:Step xa g J H s.heap g J H h':=⟨λ_ _ e=>e,λ_ _ e=>.inl e,λ_ m=>.inl m,λa o e _ m=>k a o m e,zO _,λa m _ _=>lv a m⟩;refine⟨b.stepP (s':={ s with heap:=h' }) ⟨λa o q=>?_,b.rel.len,b.rel.own,b.rel.nod,λn o p e1 e2=>?_⟩ st λa m=>(nx a m).2.2,st⟩
 .exact kf a o (λm=>by rw[(nx a m).1]at q;injection q) (.inl (by rw[q];rfl)) (b.rel.sub a o q)
 .exact (b.rel.obj n o p e1 e2).mono (λ_ _ e=>e) (zO _) λa ma y e=>by
   have mo:a∈owned J H:=cW.mpr ⟨n,p,o,e2,e1,ma⟩;exact kf a y (λm=>(nx a m).2.1 mo) (.inr mo) e
def tx(uE:A.frames=some fr)(Ot:fr=env::outer)(hf:env.frame=some L)(b:BAt W fr pa g J H s)(x:dh W g J H s.heap pa xa e c fs){head:Value}{JJ:Bool}{Q:Unit->Shared->Prop}(h:∀h' T,s.heap.get? T=none->dh W g J H h' pa (T::xa) e c fs->Tb h' e->BAt W fr pa g J H { s with heap:=h' }->Step xa g J H s.heap g J H h'->Q () { s with heap:=h' }):wpAny W.M A (do let a <-frameOf env;let pl <-entryPlaceOf L JJ;let b <-EntryCells.newEntry head a .none (rawInt L) .none pl;setField (.ref e) 1 b) Q E s:=by
 subst Ot;obtain⟨vs,d,od,r,y,he,hsz,N5,hd,KC,hr⟩:=x.obj;refine zy (wpAny_frameOf_fun uE (Ab b.frs) hf λh₁ Ou=>?_);refine zy (wpAny_entryPlaceOf λpl hpl=>?_);unfold EntryCells.newEntry newFields;refine zy (wpAny_newObj_type ?_ (hpl.sizeOk5 _ _ _ _ _));generalize hot:({ cls:=.type "traceback",dict:=none,data:=.fields ([head,.ref L,.none,rawInt L,.none]++(if pl.isEmpty then replicate 6 Value.none else pl)).toArray }:Obj)=oT;have hTs:∃ts,oT.data=.fields ts/\3<ts.size:=⟨_,by rw[<-hot],by simp⟩;have hTf:oT.isFreed=false:=by rw[<-hot];rfl
 clear hot;have ex:e∉(env::outer).filterMap (·.frame):=λm=>(x.new e x.mem).2.2.1 (iV b.frs m).1;have he₁:h₁.get? e=some ⟨.ref c,some d,.fields vs,#[]⟩:=(Ou.2.1 e ex).trans he;have he₂:=zc oT he₁;refine wpAny_setField he₂ rfl (by lia) ?_;have hTe:h₁.objs.size≠e:=Nat.ne_of_gt (lt_size he₁);have he₃:=zC (Obj.mapFields (·.setIfInBounds 1 (Value.ref h₁.objs.size))) he₂ (Obj.isFreed_of_fields (Obj.data_mapFields rfl _));have hT₃:=(get?_update_other (h₁.push oT) (Obj.mapFields (·.setIfInBounds 1 (Value.ref h₁.objs.size))) (z6 hTe)).trans (zR h₁ hTf);have hT0:s.heap.get? h₁.objs.size=none:=by rw[Ou.1];exact be _
 have keep1:∀a o,a≠e->h₁.get? a=some o->((h₁.push oT).update e (Obj.mapFields (·.setIfInBounds 1 (Value.ref h₁.objs.size)))).get? a=some o:=λa o q ha=>by
  rw[get?_update_other _ _ (z6 q)];exact zc _ ha
 have kept:∀a o,a∉xa->s.heap.get? a=some o->Kept o (((h₁.push oT).update e (Obj.mapFields (·.setIfInBounds 1 (Value.ref h₁.objs.size)))).get? a):=λa o q ha=>by
  have qe:a≠e:=λz=>q (z▸x.mem)
  by_cases m:a∈(env::outer).filterMap (·.frame)
  .obtain⟨_,o',h1,h2⟩:=iV b.frs m
   rw[ha]at h1;injection h1;obtain⟨sl,h3⟩:=Ou.2.2 a o ha;exact .inr ⟨h2,sl,keep1 a _ qe h3⟩
  .exact .inl (keep1 a o qe ((Ou.2.1 a m).trans ha))
 have nfr:∀a,(g a).isSome=true\/a∈owned J H->a∉(env::outer).filterMap (·.frame):=λa q m=>by
  have:=b.prv a (iV b.frs m).1
  rcases q with q | q
  .rw[this.1]at q;injection q
  .exact this.2.1 q
 have lv:∀a∈xa,((h₁.push oT).update e (Obj.mapFields (·.setIfInBounds 1 (Value.ref h₁.objs.size)))).get? a≠none:=λa m=>by
  by_cases q:a=e
  .subst q;rw[he₃];simp
  .obtain⟨o,ho⟩:=zF.mp (x.new a m).2.2.2
   rw[keep1 a o q ((Ou.2.1 a λz=>(x.new a m).2.2.1 (iV b.frs z).1).trans ho)];simp
 obtain⟨b',st'⟩:=tu b (λa m=>⟨(x.new a m).1,(x.new a m).2.1,(x.new a m).2.2.1⟩) kept (λa o q z ha=>keep1 a o (λw=>q (w▸x.mem)) ((Ou.2.1 a (nfr a z)).trans ha)) lv;obtain⟨ts,wo,Vm⟩:=hTs;refine h _ h₁.objs.size hT0 ⟨λa m=>?_,zx _ x.mem,?_⟩ ?_ b' st'
 .rcases zZ.mp m with rfl | m
  .exact⟨b.rel.none_at hT0,b.rel.not_owned hT0,b.fresh_not_pa hT0,by rw[hT₃];simp⟩
  .exact⟨(x.new a m).1,(x.new a m).2.1,(x.new a m).2.2.1,lv a m⟩
 .exact⟨vs.setIfInBounds 1 (.ref h₁.objs.size),d,od,r,y,he₃,by simpa using hsz,.inr ⟨h₁.objs.size,oT,ts,by simp[show 1<vs.size by lia],hTe,zw,hT₃,wo,Vm⟩,hd,KC,hr⟩
 .exact⟨_,vs.setIfInBounds 1 (.ref h₁.objs.size),h₁.objs.size,he₃,rfl,by simp[show 1<vs.size by lia]⟩
def xA(b:BAt W fr pa g J H s)(x:dh W g J H s.heap pa xa e c fs){vs:Array Value}{d T:Addr}{oT:Obj}{ts:Array Value}(he:s.heap.get? e=some ⟨.ref c,some d,.fields vs,#[]⟩)(h1:vs[1]?=some (.ref T))(hTe:T≠e)(mT:T∈xa)(hT:s.heap.get? T=some oT)(hd:oT.data=.fields ts)(h3:3<ts.size)(v:Value):dh W g J H (s.heap.update T (Obj.mapFields (·.setIfInBounds 3 v))) pa xa e c fs/\Tb (s.heap.update T (Obj.mapFields (·.setIfInBounds 3 v))) e/\BAt W fr pa g J H { s with heap:=s.heap.update T (Obj.mapFields (·.setIfInBounds 3 v)) }/\Step xa g J H s.heap g J H (s.heap.update T (Obj.mapFields (·.setIfInBounds 3 v))):=by
 have other:∀a,a≠T->(s.heap.update T (Obj.mapFields (·.setIfInBounds 3 v))).get? a=s.heap.get? a:=λa q=>get?_update_other _ _ (z6 q);have self:=zC (Obj.mapFields (·.setIfInBounds 3 v)) hT (Obj.isFreed_of_fields (Obj.data_mapFields hd _));have lv:∀a∈xa,(s.heap.update T (Obj.mapFields (·.setIfInBounds 3 v))).get? a≠none:=λa m=>by
  by_cases q:a=T
  .subst q;rw[self];simp
  .rw[other a q];exact (x.new a m).2.2.2
 obtain⟨JK,d',od,r,y,Wp,hsz,N5,Xe,KC,hr⟩:=x.obj;rw[he]at Wp;injection Wp;obtain⟨b',st'⟩:=tu b (λa m=>⟨(x.new a m).1,(x.new a m).2.1,(x.new a m).2.2.1⟩) (h':=s.heap.update T (Obj.mapFields (·.setIfInBounds 3 v))) (λa o q ha=>.inl ((other a λz=>q (z▸mT)).trans ha)) (λa o q _ ha=>(other a λz=>q (z▸mT)).trans ha) lv;refine⟨⟨λa m=>⟨(x.new a m).1,(x.new a m).2.1,(x.new a m).2.2.1,lv a m⟩,x.mem,vs,d,od,r,y,(other e (z6 hTe)).trans he,hsz,.inr ⟨T,_,_,h1,hTe,mT,self,Obj.data_mapFields hd _,by simpa using h3⟩,Xe,KC,hr⟩,⟨_,vs,T,(other e (z6 hTe)).trans he,rfl,h1⟩,b',st'⟩
def iW(b:BAt W fr pa g J H s)(x:dh W g J H s.heap pa xa e c fs)(tb:Tb s.heap e){f:Option Addr}{Q:Unit->Shared->Prop}(h:∀h',dh W g J H h' pa xa e c fs->Tb h' e->BAt W fr pa g J H { s with heap:=h' }->Step xa g J H s.heap g J H h'->Q () { s with heap:=h' }):wpAny W.M A (setFlight (.ref e) f) Q E s:=by
 obtain⟨vs,d,od,r,y,he,hsz,N5,hd,KC,hr⟩:=x.obj;obtain⟨o,JK,T,t1,t2,t3⟩:=tb;rw[he]at t1;injection t1;injection t2
 rcases N5 with z |⟨T',oT,ts,h1,hTe,mT,hT,hdT,h3⟩
 .rw[t3]at z;injection z
 .rw[t3]at h1
  injection h1;unfold setFlight;refine zy (wpAny_field he rfl (x:=.ref T) t3 ?_);rw[if_pos (show (Value.ref T != Value.none)=true from by simp)];obtain⟨q1,q2,q3,q4⟩:=xA b x he t3 hTe mT hT hdT h3 (f.elim Value.none λf=>rawInt f);exact wpAny_setField hT hdT h3 (h _ q1 q2 q3 q4)
def qZ(uE:A.frames=some fr)(Ot:fr=env::outer)(hf:env.frame=some L)(b:BAt W fr pa g J H s)(x:dh W g J H s.heap pa xa e c fs){Q:Unit->Shared->Prop}(h:∀h' xb,(∀a∈xa,a∈xb)->(∀a∈xb,a∈xa\/s.heap.get? a=none)->dh W g J H h' pa xb e c fs->Tb h' e->BAt W fr pa g J H { s with heap:=h' }->Step xa g J H s.heap g J H h'->Q () { s with heap:=h' }):wpAny W.M A (noteFrame (.ref e) env) Q E s:=by
 obtain⟨vs,d,od,r,y,he,hsz,N5,hd,KC,hr⟩:=x.obj;unfold noteFrame;simp only[hf]
 rcases N5 with z |⟨T,oT,ts,h1,hTe,mT,hT,hdT,h3⟩
 .refine zy (wpAny_field he rfl z ?_)
  rw[if_neg (by decide)];refine tx uE Ot hf b x λh' T n x' tb b' st=>h h' (T::xa) (λa m=>zx _ m) (λa m=>?_) x' tb b' st
  rcases zZ.mp m with rfl | m
  .exact .inr n
  .exact .inl m
 .refine zy (wpAny_field he rfl h1 ?_)
  rw[if_pos (show (Value.ref T != Value.none)=true from by simp)];refine zy (wpAny_field hT hdT (x:=ts[3]) (by simp[h3]) ?_)
  by_cases q:(ts[3]==rawInt L)=true
  .rw[if_pos q]
   exact zq (h s.heap xa (λa m=>m) (λa m=>.inl m) x ⟨_,vs,T,he,rfl,h1⟩ b Step.refl)
  .rw[if_neg q]
   obtain⟨q1,q2,q3,q4⟩:=xA b x he h1 hTe mT hT hdT h3 .none;refine zy (wpAny_setField hT hdT h3 ?_);refine tx uE Ot hf q3 q1 λh' T' n x' tb b' st=>h h' (T'::xa) (λa m=>zx _ m) (λa m=>?_) x' tb b' (q4.trans st)
   rcases zZ.mp m with rfl | m
   .refine .inr ?_
    have n:(s.heap.update T (Obj.mapFields (·.setIfInBounds 3 Value.none))).get? a=none:=n;have:a≠T:=λw=>by
     subst w;rw[zC _ hT (Obj.isFreed_of_fields (Obj.data_mapFields hdT _))]at n;injection n
    rwa [get?_update_other _ _ (z6 this)]at n
   .exact .inl m
def DH(uE:A.frames=some fr)(Ot:fr=env::outer)(hf:env.frame=some L)(b:BAt W fr pa g J H s)(x:dh W g J H s.heap pa xa e c fs){Q:Unit->Shared->Prop}(h:∀h' xb,(∀a∈xa,a∈xb)->(∀a∈xb,a∈xa\/s.heap.get? a=none)->dh W g J H h' pa xb e c fs->Tb h' e->BAt W fr pa g J H { s with heap:=h' }->Step xb g J H s.heap g J H h'->Q () { s with heap:=h' }):wpAny W.M A (leaving env (.ref e)) Q E s:=by
 unfold leaving;refine zy (qZ uE Ot hf b x λh1 xb n0 n1 x1 t1 b1 st1=>?_);exact iW b1 x1 t1 λh2 x2 t2 b2 st2=>h h2 xb n0 n1 x2 t2 b2 ((st1.weaken n0).trans st2)
def tz(b:BAt W fr pa g J H s)(x:dh W g J H s.heap pa xa e c fs)(tb:Tb s.heap e)(h:∀h',dh W g J H h' pa xa e c fs->Tb h' e->BAt W fr pa g J H { s with heap:=h' }->Step xa g J H s.heap g J H h'->E (.ref e) { s with heap:=h' }):cameBackBy W.M A env E (.ref e) s:=by
 unfold cameBackBy;obtain⟨o,vs,T,t1,t2,t3⟩:=id tb;refine zy (wpAny_field t1 t2 t3 ?_);rw[if_neg (show ¬ ((Value.ref T==Value.none)=true)from by simp)];exact iW b x tb h
end
section
variable{d:Nat}
def je{nt:Nat}{aF:de}{k:Option V->Hp->Prop}(h:aX C l nt elt aF u H k):∃li,bindC nt u=some li:=by
 unfold aX at h;split at h
 .exact⟨_,by assumption⟩
 .exact h.elim
def HR{value:Expr}{lo hi st:Option Expr}{E Q:QP}(h:wpAny W.M A (eval value env) (λo s₁=>wpAny W.M A (evalPart lo env) (λl s₂=>wpAny W.M A (evalPart hi env) (λu s₃=>wpAny W.M A (evalPart st env) (λz s₄=>
   wpAny W.M A (subscriptTail value (.Slice lo hi st sp) o (.ref s₄.heap.objs.size)) Q E { s₄ with heap:=s₄.heap.push { cls:=.type "slice",data:=.fields #[l,u,z] } }) E s₃) E s₂) E s₁) E s) :
  wpAny W.M A (eval (.Subscript value (.Slice lo hi st sp) pos) env) Q E s:=
 Subscript_ (zY h (λo s₁ h₁=>wpAny_Slice h₁) λ_ _ e=>e)
def vp{op:BoolOp}{x:Sem Value}(h:wpAny W.M A x Q E s):wpAny W.M A (boolOp pos op [x]) Q E s:=h
def tC{b:Bool}{x y:Sem Value}{r:List (Sem Value)}(h:wpAny W.M A x (λv s₁=>wpAny W.M A (truthy v) (λt s₂=>if t=b then wpAny W.M A (boolOp pos (if b then .And else .Or) (y::r)) Q E s₂ else Q v s₂) E s₁) E s):wpAny W.M A (boolOp pos (if b then .And else .Or) (x::y::r)) Q E s:=by
 show wpAny _ A (do
  let v <-x
  standAt pos
  let t <-holding [v] (truthy v)
  match (if b then BoolOp.And else .Or),t with
  |.And,false | .Or,true=>pure v
  |_,_=>boolOp pos (if b then .And else .Or) (y::r)) Q E s
 refine zy (zY h (λv s₁ h₁=>zy (zL (zy (zQ (zY h₁ (λt s₂ h₂=>?_) λ_ _ x=>x))))) λ_ _ x=>x);injection b<;>injection t<;>first | exact zq h₂ | exact h₂
def q7{b:Bool}{x:Expr}{Q:Bool->Shared->Prop}(h:wpAny W.M A (isTrue x env (eval x env)) (λt s₁=>if t=b then wpAny W.M A (allTrue (if b then .And else .Or) r env) Q E s₁ else Q (!b) s₁) E s):wpAny W.M A (allTrue (if b then .And else .Or) (x::r) env) Q E s:=by
 rw[arm_allTrue_cons];refine zy (zY h (λt s₁ h₁=>?_) λ_ _ e=>e);injection b<;>injection t<;>first | exact zq h₁ | exact h₁
def L9{keep:List Value}{Q:Unit->Shared->Prop}(h:Q () s):wpAny W.M A (release vs keep) Q E s:=λΓ p _=>by rw[Sem.wp_release];exact h
def lX{l:Expr}{op eL:CmpOp}{Q:Bool->Shared->Prop}(h:wpAny W.M A (eval l env) (λa s₁=>wpAny W.M A (eval r env) (λb s₂=>wpAny W.M A (compareOp op a b) (λc s₃=>wpAny W.M A (truthy c) (λt s₄=>if t then wpAny W.M A (eval r2 env) (λe s₅=>wpAny W.M A (compareOp eL b e) (λc s₆=>wpAny W.M A (truthy c) Q E s₆) E s₅) E s₄ else Q false s₄) E s₃) E s₂) E s₁) E s)(hm:behindInMarks eL r2=false):wpAny W.M A (isTrue (.Compare l [op,eL] [r,r2] pos) env (eval (.Compare l [op,eL] [r,r2] pos) env)) Q E s:=by
 rw[arm_isTrue_Compare];refine zy (zY h (λa s₁ h₁=>?_) λ_ _ e=>e);have e1:markedEach [op,eL] [r,r2] (evalEach [r,r2] env)=[eval r env,eval r2 env]:=by
  show [eval r env,markedBehindIn eL r2 (eval r2 env)]=_;rw[markedBehindIn_of_false hm]
 rw[e1];show wpAny _ A (do
  let rv <-holding [a] (eval r env)
  standAt pos
  let c <-holding [a,rv] (compareOp op a rv)
  release [a,rv] [c]
  if <-holding [c,rv] (truthy c) then testChain pos rv [eL] [eval r2 env] else pure false) Q E s₁
 refine zy (zQ (zY h₁ (λb s₂ h₂=>zy (zL (zy (zQ (zY h₂ (λc s₃ h₃=>zy (L9 (zy (zQ (zY h₃ (λt s₄ h₄=>?_) λ_ _ e=>e))))) λ_ _ e=>e))))) λ_ _ e=>e))
 cases t with
 |false=>exact zq h₄
 |true=>
  show wpAny _ A (do
   let rv <-holding [b] (eval r2 env)
   standAt pos
   let c <-operate [b,rv] (compareOp eL b rv)
   holding [c] (truthy c)) Q E s₄
  exact zy (zQ (zY h₄ (λe s₅ h₅=>zy (zL (zy (wpAny_operating (zY h₅ (λc s₆ h₆=>zQ h₆) λ_ _ e=>e))))) λ_ _ e=>e))
def DI{s:Shared}(h:Q (.ref s.heap.objs.size) { s with heap:=s.heap.push (aA [] 0) }):wpAny W.M A (eval (.Dict [] [] pos) env) Q E s:=by
 rw[eval_Dict_empty];exact zy (zL (wpAny_newObj_type h))
def HS{c1:Nat}{c2:Pos}{c3:Pos}{M:List Nat}{s:Shared}(hp:M.length<=2 ^ 20)(h:wpAny W.M A (eval v env) (λx s₁=>∃l t,x=.str (aH l) t/\l.length<=2 ^ 20/\∀t' k,Q (.str (aH (M++l)) t') { s₁ with toks:=k }) E { s with toks:=s.toks+1 }):wpAny W.M A (eval (.JoinedStr [.Constant (.str (aH M)) c1 c2,.FormattedValue v (-1) none c3] pos) env) Q E s:=by
 refine JoinedStr_many (joinParts_cons (wpAny_Constant_str ?_));have e0:(Str.empty++aH M)=aH M:=by
  show Str.mk (#[]++M.toArray)=_;simp
 dsimp only;rw[e0];refine⟨by rw[aE];exact aq (by lia),joinParts_cons ?_⟩;rw[arm_eval_FormattedValue];refine zy (zY h (λx s₁ h₁=>zy (zL ?_)) λ_ _ e=>e);obtain⟨l,t,rfl,hl,hq⟩:=h₁;refine zy (zQ (zq ?_));show wpAny _ A (formatField (.str (aH l) t) Str.empty) _ E s₁;refine SB.field_str (λt' k=>?_) (by rw[aE];exact aq (by lia));dsimp only;rw[<-gA];exact⟨by rw[aE,zV];exact aq (by lia),joinParts_nil (hq _ _) (by rw[aE,zV];exact aq (by lia))⟩
noncomputable def jr(env:Env)(pos:Pos):List (Option Expr)->List Expr->List (Sem Value×Sem Value)
 |[],_=>[]
 |o::ks,vs=>match o with
  |none=>[]
  |some k=>match vs with
   |[]=>[]
   |v::vs=>(eval k env,do let x <-eval v env;standAt pos;pure x)::jr env pos ks vs
theorem tD{k:Expr}{ks:List (Option Expr)}{v:Expr}:jr env pos (some k::ks) (v::vs)=(eval k env,do let x <-eval v env;standAt pos;pure x)::jr env pos ks vs:=rfl
def q9:∀{ks:List (List Nat)} {keys:List (Option Expr)} {vals:List Expr},tc ks keys=true->keys.length=vals.length->(evalEachOpt keys env).zip ((evalEach vals env).map λv=>do let x <-v;standAt pos;pure x)=(jr env pos keys vals).map (λp=>(some p.1,p.2))/\(jr env pos keys vals).length=ks.length:=by
 intro ks
 induction ks with
 |nil=>
  intro keys vals h hl
  cases keys with
  |cons _ _=>injection h
  |nil=>cases vals with
   |nil=>exact⟨rfl,rfl⟩
   |cons _ _=>injection hl
 |cons k ks ih=>
  intro keys vals h hl
  cases keys with
  |nil=>injection h
  |cons o keys=>cases vals with
   |nil=>injection hl
   |cons v vals=>
    have h:=and_eq_true_iff.mp h;obtain⟨e,rfl,-⟩:=(Option.any_eq_true _ _).mp h.1;obtain⟨q1,q2⟩:=ih h.2 (Nat.succ.inj hl);refine⟨?_,by rw[tD,zd,zd,q2]⟩;rewrite[tD,z0,<-q1]
    rfl
def io:List (List Nat)->List Tok->List Value
 |[],_=>[]
 |k::ks,ts=>match ts with
  |[]=>[]
  |t::ts=>.str (aH k) t::io ks ts
theorem xB{k:List Nat}{t:Tok}{ts:List Tok}:io (k::ks) (t::ts)=.str (aH k) t::io ks ts:=rfl
theorem xC{ts:List Tok}:io [] ts=[]:=rfl
def re:∀{ks:List (List Nat)} {ts:List Tok} {xs:List Value},ts.length=ks.length->xs.length=ks.length->allStrKeys ((io ks ts).zip xs)=true/\strPairs ((io ks ts).zip xs)=(ks.map aH).zip xs:=by
 intro ks
 induction ks with
 |nil=>intro ts xs _ _;exact⟨by simp[xC,allStrKeys],by simp[xC,strPairs]⟩
 |cons k ks ih=>
  intro ts xs h1 h2
  cases ts with
  |nil=>injection h1
  |cons t ts=>cases xs with
   |nil=>injection h2
   |cons x xs=>
    obtain⟨q1,q2⟩:=ih (ts:=ts) (xs:=xs) (Nat.succ.inj h1) (Nat.succ.inj h2);exact⟨by simp only[xB,zip_cons_cons,allStrKeys];exact q1,by simp only[xB,zip_cons_cons,strPairs,map_cons,q2]⟩
def DJ{ks:List (List Nat)}{xs:List Value}(h:xs.length=ks.length):((ks.map aH).zip xs).map (·.1)=ks.map aH:=by
 rw[List.map_fst_zip];simp[h]
def DK{ks:List (List Nat)}:gx ks=true->(ks.map aH).Nodup:=by
 induction ks with
 |nil=>
  intro _;exact nodup_nil
 |cons k ks ih=>
  intro h;simp only[B2,B3,and_eq_true,not_eq_true']at h;rw[z0,zS];refine⟨λm=>?_,ih h.2⟩;obtain⟨k',m',e⟩:=mem_map.mp m;have:=wU.mp e;subst this;have:=zA.mpr m';rw[h.1]at this;injection this
def BAt.other{s:Shared}{D:Addr}{t:Nat}(b:BAt W fr pa g J H s)(sb:Heap.SameBut D s.heap h')(ng:g D=none)(no:D∉owned J H)(np:D∉pa):BAt W fr pa g J H { s with heap:=h',toks:=t }:=by
 have kp:∀a y,a≠D->s.heap.get? a=some y->h'.get? a=some y:=λa y ne e=>(sb.2 a ne).trans e;refine⟨b.top,⟨λa o e=>kp a o (λq=>by rw[q,ng]at e;injection e) (b.rel.sub a o e),b.rel.len,b.rel.own,b.rel.nod,λn o p e1 e2=>?_⟩,b.bas,λa m=>⟨(b.prv a m).1,(b.prv a m).2.1,?_⟩,λenv he=>?_⟩
 .exact (b.rel.obj n o p e1 e2).mono (λ_ _ e=>e) (zO _) λa ma y e=>kp a y (λq=>no (q▸cW.mpr ⟨n,p,o,e2,e1,ma⟩)) e
 .have:a≠D:=λq=>np (q▸m)
  show h'.get? a≠none;rw[sb.2 a this];exact (b.prv a m).2.2
 .obtain⟨k,L,o,q1,q2,q3,q4,q5⟩:=b.frs env he
  exact⟨k,L,o,q1,q2,q3,kp L o (λq=>np (q▸q2)) q4,q5⟩
def DL{s s1:Shared}{ks:List (List Nat)}{xs:List Value}{ts:List Tok}(b:BAt W fr pa g J H s)(b1:BAt W fr pa g1 J1 H1 s1)(st:Step [] g J H (s.heap.push emptyDict) g1 J1 H1 s1.heap)(sm:bu s s1)(rs:ah W.P g1 J1 ws xs)(hn:gx ks=true)(ht:ts.length=ks.length)(hl:xs.length=ks.length)(hz:s.heap.objs.size≠sysModules)(k:Gives W fr pa g J H s (.dct ks ws) H1 Q):∃Wq,Carries (strKind W.prog W.w) ((io ks ts).zip xs) Wq/\s1.heap.DictOf (strKind W.prog W.w) s.heap.objs.size []/\∀h',h'.DictOf (strKind W.prog W.w) s.heap.objs.size (merged [] Wq)->Heap.SameBut s.heap.objs.size s1.heap h'->Q (.ref s.heap.objs.size) { s1 with heap:=h',toks:=s1.toks+((io ks ts).zip xs).length }:=by
 have e0:(s.heap.push emptyDict).get? s.heap.objs.size=some emptyDict:=zR _ rfl;have no0:s.heap.objs.size∉owned J H:=b.rel.not_owned (be _);have e1:=(st.keep _ _ e0 no0 (by simp)).exact (by decide);have ng:g1 s.heap.objs.size=none:=by
  cases q:g1 s.heap.objs.size with
  |none=>rfl
  |some o=>
   rcases st.gnew _ _ q with z | z | z
   .rw[b.rel.none_at (be _)]at z;injection z
   .exact absurd z no0
   .rw[e0]at z;injection z
 have no:s.heap.objs.size∉owned J1 H1:=λm=>by
  rcases st.onew _ m with z | z
  .exact no0 z
  .rw[e0]at z;injection z
 have np:s.heap.objs.size∉pa:=b.fresh_not_pa (be _);obtain⟨q1,q2⟩:=re ht hl;refine display_done_str (P:=λh'=>Q (.ref s.heap.objs.size) { s1 with heap:=h',toks:=s1.toks+((io ks ts).zip xs).length }) q1 (by rw[q2,DJ hl];exact DK hn) ⟨_,#[],0,e1,⟨rfl,rfl,rfl⟩,rfl,λe he=>by simp at he,Pairs.nil,nodup_nil⟩ λh' hd hs=>?_;rw[q2]at hd;obtain⟨⟨oc,od,Vg,Vh⟩,es,ep,ho,⟨x1,x2,x3⟩,Sk,Sl,N6,_⟩:=hd;dsimp only at x1 x2 x3 Sk;subst x1 x2 x3 Sk;obtain⟨w1,w2⟩:=u0 (w:=W.w) (prog:=W.prog) (ks:=ks) (xs:=xs) (es:=es.toList) hl.symm (λe he=>Sl e (by simpa using he)) N6;have b2:=(b1.other (t:=s1.toks+((io ks ts).zip xs).length) hs ng no np).still (a:=s.heap.objs.size) (o:=aA es.toList ep) (by rw[ho]) ng no np;have up:∀a o,g1 a=some o->jP g1 s.heap.objs.size (aA es.toList ep) a=some o:=λa o e=>by
  have:a≠s.heap.objs.size:=λq=>by rw[q,ng]at e;injection e
  rw[bj this];exact e
 have al:∀a o,s.heap.get? a=some o->(s.heap.push emptyDict).get? a=some o:=λa o e=>zc _ e;have dead:∀a,(s.heap.push emptyDict).get? a=none->s.heap.get? a=none:=λa e=>by
  cases q:s.heap.get? a with
  |none=>rfl
  |some o=>rw[al a o q]at e;injection e
 refine k _ J1 _ _ ?_ b2 ⟨λa o e=>up a o (st.gsub a o e),λa o e=>?_,λa m=>(st.onew a m).imp id (dead a),λa o e n m=>?_,st.phi,λa m=>by simp at m⟩ sm
 .exact gy.mpr ⟨_,es.toList,ep,rfl,hz,bN,w1,by rw[w2];exact aZ up (zO _) rs⟩
 .by_cases q:a=s.heap.objs.size
  .subst q;exact .inr (.inr (be _))
  .rw[bj q]at e
   rcases st.gnew a o e with z | z | z
   .exact .inl z
   .exact .inr (.inl z)
   .exact .inr (.inr (dead a z))
 .have ne:a≠s.heap.objs.size:=ne_of_lt (lt_size e)
  rw[hs.2 a ne];exact st.keep a o (al a o e) n (by simp)
def xD{s:Shared}(b:BAt W fr pa g J H s):s.heap.objs.size≠sysModules:=by
 obtain⟨mg,mb,hg,_⟩:=b.top.glb;obtain⟨o,es,ep,e,_⟩:=hg;have:=lt_size (dW b _ _ e);intro q;rw[q]at this;exact absurd this (by decide)
def Gives.mineD{H:Hp}{s:Shared}(k:Gives W fr pa g J H s (.ref H.length) (H++[.dict [] []]) Q)(b:BAt W fr pa g J H s)(t:Nat):Q (.ref s.heap.objs.size) { s with heap:=s.heap.push (aA [] 0),toks:=t }:=by
 obtain⟨x,y⟩:=b.mine (t:=t) (o:=.dict [] []) (p:=(s.heap.objs.size,0)) (h':=s.heap.push (aA [] 0)) (λ_ _ e=>zc _ e) (by simp[bT]) (λa m=>by
  simp[bT]at m;subst m;exact be _) ⟨xD b,[],0,zR _ rfl,trivial,aB.mpr rfl⟩
 exact k _ _ _ _ (bV.mpr ⟨(s.heap.objs.size,0),by rw[zk (by rw[b.rel.len];exact zv _),b.rel.len];simp,rfl⟩) x y ⟨rfl,rfl,rfl⟩
def Gives.mine{H:Hp}{s:Shared}{n:Nat}(k:Gives W fr pa g J H s (.ref H.length) (H++[.list vs]) Q)(b:BAt W fr pa g J H s)(r:ah W.P g J vs xs)(t:Nat):Q (.ref s.heap.objs.size) { s with heap:=s.heap.push (bd xs n),toks:=t }:=by
 obtain⟨x,y⟩:=b.mine (t:=t) (o:=.list vs) (p:=(s.heap.objs.size,0)) (h':=s.heap.push (bd xs n)) (λ_ _ e=>zc _ e) (by simp[bT]) (λa m=>by
  simp[bT]at m;subst m;exact be _) ⟨xs,n,zR _ rfl,r⟩
 exact k _ _ _ _ (bV.mpr ⟨(s.heap.objs.size,0),by rw[zk (by rw[b.rel.len];exact zv _),b.rel.len];simp,rfl⟩) x y ⟨rfl,rfl,rfl⟩
def HT{va vb:V}(e:aT H .Add va vb=some (.lst ws)):∃x y,va.res H=.lst x/\vb.res H=.lst y/\(aj x.length&&aj y.length)=true/\ws=x++y:=
 jJ (H:=H) (m:=λva=>∃x y,va.res H=.lst x/\vb.res H=.lst y/\(aj x.length&&aj y.length)=true/\ws=x++y) e (λ_ e=>eE (H:=H) (v:=vb) (m:=λ_=>_) e λ_ e=>bc e λ_ e=>V.noConfusion (Option.some.inj e)) (λ_ e=>BP (H:=H) (v:=vb) (m:=λ_=>_) e λ_ e=>bc e λ_ e=>V.noConfusion (Option.some.inj e)) (λ_ e=>BQ (H:=H) (v:=vb) (m:=λ_=>_) e λ_ e=>bc e λ_ e=>V.noConfusion (Option.some.inj e)) λx ea e=>mR e λy eb e=>bc e λhc e=>⟨x,y,ea,eb,hc,(V.lst.inj (Option.some.inj e)).symm⟩
def HU{H:Hp}(b:BAt W fr pa g J H s)(e:aT H .Add va vb=some (.lst ws))(ra:ay W.P g J va xa)(rb:ay W.P g J vb xb)(k:Gives W fr pa g J H s (.ref H.length) (H++[.list ws]) Q):wpAny W.M A (binaryOp .Add xa xb) Q E s:=by
 obtain⟨x,y,ea,eb,hc,rfl⟩:=HT e;apply ce b ea ra;intro a1 xs n k1 r1;apply ce b eb rb;intro a2 ys m k2 r2;refine concat_meets ⟨_,k1,rfl⟩ ⟨_,k2,rfl⟩ noFill_list_add seq_list_add PySem.F.slot_list_add PySem.F.entry_list_add (PySem.F.args_list_add_2 _ _) (PyProof.Rows.list_addW a1 a2 _ _ n m _ _ _ _ (uR r1 r2 hc)) ⟨k1,k2,?_⟩;rw[jl];exact k.mine b (cm r1 r2) s.toks
def Kh{nt:Nat}{aF:de}{pa:List Addr}{cx:Cx}{l:Loc}{mi:Expr}{scope:Scope}{cl:List (Str×Addr)}{C:Addr}(sc:y8 (kdOf cx) cx.ns ts scope)(fk:cx.env.scope.kind=.function)(h2:mE (λx=>(jY (kdOf cx) scope.names).lookup x) ts cx.ns elt mi=true)(h3:Bt (λx=>(jY (kdOf cx) scope.names).lookup x) ts cx.ns aF ifs=true)(hE:∀{cx:Cx} {l lo:Loc} {g:IH} {J:cy} {H:Hp} {s:Shared} {E:QP} {Q:QP} {K:KP},mE (kdOf cx) cx.ns cx.nso elt mi=true->At W fr pa cx l lo g J H s->wE (Call W d) g6 elt l lo H K->oZ W fr pa cx l lo g J H s K Q->rY W fr pa [] g J H s g6 E->wpAny W.M A (eval mi cx.env) Q E s)(hC:∀{cx:Cx} {l lo:Loc} {g:IH} {J:cy} {H:Hp} {s:Shared} {E:QP} {Q:Bool->Shared->Prop} {K:Bool->Hp->Prop},Bt (kdOf cx) cx.ns cx.nso aF ifs=true->At W fr pa cx l lo g J H s->Br (Call W d) g6 aF l lo H K->nR W fr pa cx l lo g J H s K Q->rY W fr pa [] g J H s g6 E->wpAny W.M A (gG ifs cx.env) Q E s):L8 W A fr pa (F4 cx scope cl ts C) l nt mi ifs (aX (Call W d) l nt elt aF):=by
 intro li g J H s u k NE Qa Qb hb hf a ka kb;rw[<-L7 (cl:=cl) (ts:=ts) (C:=C) fk]at h2 h3;have hf:Br (Call W d) g6 aF li l H (pq (Call W d) g6 l elt li k):=by simpa only[aX,hb]using hf
 refine hC h3 a hf (λg3 J3 H3 b s3 oV a3 st3 sm3=>?_) (λ_ _ _ _ _ _ _ _ q=>q.elim)
 cases b with
 |true=>
  rw[if_pos rfl];exact hE h2 a3 oV (λg4 J4 H4 v y s4 Sn r4 a4 st4 N7=>ka g4 J4 H4 v y s4 Sn r4 a4 (st3.trans st4) (sm3.trans N7)) (λ_ _ _ _ _ _ _ _ q=>q.elim)
 |false=>
  rw[if_neg zt];exact kb g3 J3 H3 s3 oV a3 st3 sm3
def Ma{pa:List Addr}{e:Option Expr}{cx:Cx}{lo:Loc}{s:Shared}{K:KP}(hE:∀{e:Expr},mE (kdOf cx) cx.ns cx.nso p e=true->At W fr pa cx l lo g J H s->wE (Call W d) X p l lo H K->oZ W fr pa cx l lo g J H s K Q->rY W fr pa [] g J H s X E->wpAny W.M A (eval e cx.env) Q E s)(hm:mO (kdOf cx) cx.ns cx.nso p e=true)(a:At W fr pa cx l lo g J H s)(h:wE (Call W d) X p l lo H K)(k:∀g' J' H' v x s',K v H'->gc W.P g' J' v x->At W fr pa cx l lo g' J' H' s'->Step [] g J H s.heap g' J' H' s'.heap->bu s s'->Q x s')(hx:rY W fr pa [] g J H s X E):wpAny W.M A (evalPart e cx.env) Q E s:=by
 cases e with
 |none=>
  have:p=.lit .undef:=by
   induction p using PE.casesOn<;>try exact ff hm
   rename_i v
   induction v using V.casesOn<;>first | rfl | exact ff hm
  subst this;rw[evalPart_none];exact zq (k g J H .undef _ s h (.inl ⟨rfl,rfl⟩) a Step.refl (bu.refl _))
 |some x=>
  rw[evalPart_some];have hm':mE (kdOf cx) cx.ns cx.nso p x=true:=hm;exact hE hm' a h (λg1 J1 H1 v y s1 hk r a1 st sm=>k g1 J1 H1 v y s1 hk (.inr r) a1 st sm) hx
section
def WE(W:Wd)(fr:List Env)(A:Around)(d:Nat)(p:PE):Prop:=∀{pa:List Addr} {e:Expr} {cx:Cx} {l lo:Loc} {g:IH} {J:cy} {H:Hp} {s:Shared} {E:QP} {Q:QP} {K:KP} {X:XP},mE (kdOf cx) cx.ns cx.nso p e=true->At W fr pa cx l lo g J H s->wE (Call W d) X p l lo H K->oZ W fr pa cx l lo g J H s K Q->rY W fr pa [] g J H s X E->wpAny W.M A (eval e cx.env) Q E s
def WT(W:Wd)(fr:List Env)(A:Around)(d:Nat)(p:PE):Prop:=∀{pa:List Addr} {e:Expr} {cx:Cx} {l lo:Loc} {g:IH} {J:cy} {H:Hp} {s:Shared} {E:QP} {Q:Bool->Shared->Prop} {K:Bool->Hp->Prop} {X:XP},mT (kdOf cx) cx.ns cx.nso p e=true->At W fr pa cx l lo g J H s->wT (Call W d) X p l lo H K->nR W fr pa cx l lo g J H s K Q->rY W fr pa [] g J H s X E->wpAny W.M A (isTrue e cx.env (eval e cx.env)) Q E s
def Bu(W:Wd)(fr:List Env)(A:Around)(d:Nat)(ps:de):Prop:=∀(pos:Pos) {pa:List Addr} {xs:List Expr} {cx:Cx} {l lo:Loc} {g:IH} {J:cy} {H:Hp} {s:Shared} {E:QP} {Q:List Value->Shared->Prop} {K:List V->Hp->Prop} {X:XP},kC (kdOf cx) cx.ns cx.nso ps xs=true->At W fr pa cx l lo g J H s->fQ (Call W d) X ps l lo H K->Hz W fr pa cx l lo g J H s K (λys s'=>ys.length=xs.length->Q ys s')->rY W fr pa [] g J H s X E->wpAny W.M A (spliced (backTo pos (starEach xs cx.env))) Q E s
def WD(W:Wd)(fr:List Env)(A:Around)(d:Nat)(ps:de):Prop:=∀(pos:Pos) {pa:List Addr} {ks:List (List Nat)} {keys:List (Option Expr)} {vals:List Expr} {cx:Cx} {l lo:Loc} {g:IH} {J:cy} {H:Hp} {s:Shared} {E:QP} {Q:List (Value×Value)->Shared->Prop} {K:List V->Hp->Prop} {X:XP},tc ks keys=true->kC (kdOf cx) cx.ns cx.nso ps vals=true->keys.length=vals.length->At W fr pa cx l lo g J H s->fQ (Call W d) X ps l lo H K->(∀g' J' H' ws xs ts s',K ws H'->ah W.P g' J' ws xs->ts.length=ks.length->xs.length=ks.length->At W fr pa cx l lo g' J' H' s'->Step [] g J H s.heap g' J' H' s'.heap->bu s s'->Q ((io ks ts).zip xs) s')->rY W fr pa [] g J H s X E->wpAny W.M A (evalPairs (jr cx.env pos keys vals)) Q E s
def Ki(W:Wd)(fr:List Env)(A:Around)(d:Nat)(ps:de):Prop:=∀(b:Bool) {pa:List Addr} {xs:List Expr} {pos:Pos} {cx:Cx} {l lo:Loc} {g:IH} {J:cy} {H:Hp} {s:Shared} {E:QP} {Q:QP} {K:KP} {X:XP},kC (kdOf cx) cx.ns cx.nso ps xs=true->At W fr pa cx l lo g J H s->JT (Call W d) X b ps l lo H K->oZ W fr pa cx l lo g J H s K Q->rY W fr pa [] g J H s X E->wpAny W.M A (boolOp pos (if b then .And else .Or) (evalEach xs cx.env)) Q E s
def On(W:Wd)(fr:List Env)(A:Around)(d:Nat)(ps:de):Prop:=∀{pa:List Addr} {xs:List Expr} {cx:Cx} {l lo:Loc} {g:IH} {J:cy} {H:Hp} {s:Shared} {E:QP} {Q:Bool->Shared->Prop} {K:Bool->Hp->Prop} {X:XP},Bt (kdOf cx) cx.ns cx.nso ps xs=true->At W fr pa cx l lo g J H s->Br (Call W d) X ps l lo H K->nR W fr pa cx l lo g J H s K Q->rY W fr pa [] g J H s X E->wpAny W.M A (gG xs cx.env) Q E s
def Q6(W:Wd)(fr:List Env)(A:Around)(d:Nat)(ps:de):Prop:=∀(b:Bool) {pa:List Addr} {xs:List Expr} {cx:Cx} {l lo:Loc} {g:IH} {J:cy} {H:Hp} {s:Shared} {E:QP} {Q:Bool->Shared->Prop} {K:Bool->Hp->Prop} {X:XP},Bt (kdOf cx) cx.ns cx.nso ps xs=true->At W fr pa cx l lo g J H s->JU (Call W d) X b ps l lo H K->nR W fr pa cx l lo g J H s K Q->rY W fr pa [] g J H s X E->wpAny W.M A (allTrue (if b then .And else .Or) xs cx.env) Q E s
end
variable(aG:eq d A fr)
include aG
theorem Q7{i:Nat}:WE W fr A d (.var i):=by
 intro pa e cx l lo g J H s E Q K X hm a h k hx;apply qS hm;intro x q n1 n2 n3;rw[mX]at h;split at h
 .rename_i v hl
  exact iR a n1 n2 n3 hl λy r=>k.here a h r
 .exact h.elim
theorem Q8{i:Nat}:WE W fr A d (.fre i):=by
 intro pa e cx l lo g J H s E Q K X hm a h k hx;apply HB hm;intro x q n1 n2 n3;rw[LB]at h;split at h
 .rename_i v hl
  exact HA a n1 n2 n3 hl λy r=>k.here a h r
 .exact h.elim
theorem Q9{i:Nat}:WE W fr A d (.glb i):=by
 intro pa e cx l lo g J H s E Q K X hm a h k hx;apply xg hm;intro x q n1 n2 n3;rw[Cm]at h;obtain⟨v,hv,hk⟩:=dm h;exact qR a n1 n2 n3 hv λy r=>k.here a hk r
theorem Ra:WE W fr A d (.lit v):=by
 intro pa e cx l lo g J H s E Q K X hm a h k hx;rw[uN]at h;exact vf hm λy t r=>k.tok a t h r
theorem Mb{b:Bool}(N8:Ki W fr A d es):WE W fr A d (.bool b es):=by
 intro pa e cx l lo g J H s E Q K X hm a h k hx;apply Ds hm;intro vs pos h1;rw[arm_eval_BoolOp];exact N8 b h1 a h k hx
theorem Rb{x:PE}{op:CmpOp}{y:PE}(fw:WE W fr A d x)(oW:WE W fr A d y):WE W fr A d (.cmp x op y):=by
 intro pa e cx l lo g J H s E Q K X hm a h k hx;apply HC hm;intro ex ey pos h1 h2 h3;refine wpAny_Compare1 (fw h2 a h (λg1 J1 H1 va xa s1 aU ra a1 st1 aV=>?_) hx) h1;refine oW h3 a1 aU (λg2 J2 H2 vb xb s2 gZ rb a2 st2 fz=>?_) (hx.trans st1 aV);obtain⟨r,hr,hk⟩:=iQ gZ;exact kR a2.toBAt (by have:=aG.units;lia) hr (st2.rep ra) rb λt=>(k.trans st1 aV).trans st2 fz |>.bool a2 hk t
theorem Rc{x:PE}{op:Operator}{y:PE}(fw:WE W fr A d x)(oW:WE W fr A d y):WE W fr A d (.bin x op y):=by
 intro pa e cx l lo g J H s E Q K X hm a h k hx;apply HD hm;intro ex ey pos h2 h3;refine wpAny_BinOp (fw h2 a h (λg1 J1 H1 va xa s1 aU ra a1 st1 aV=>?_) hx);refine oW h3 a1 aU (λg2 J2 H2 vb xb s2 gZ rb a2 st2 fz=>?_) (hx.trans st1 aV);obtain⟨r,hr,hk⟩:=dm gZ;exact LH a2.toBAt hr (st2.rep ra) rb (((k.trans st1 aV).trans st2 fz).gives a2 hk)
theorem Mc{x:PE}{y:PE}(fw:WE W fr A d x)(oW:WE W fr A d y):WE W fr A d (.addO x y):=by
 intro pa e cx l lo g J H s E Q K X hm a h k hx;apply Dt hm;intro ex ey pos h2 h3;refine wpAny_BinOp (fw h2 a h (λg1 J1 H1 va xa s1 aU ra a1 st1 aV=>?_) hx);refine oW h3 a1 aU (λg2 J2 H2 vb xb s2 gZ rb a2 st2 fz=>?_) (hx.trans st1 aV);obtain⟨r,hr,hk⟩:=dm gZ;split at hk
 .exact HU a2.toBAt hr (st2.rep ra) rb (((k.trans st1 aV).trans st2 fz).gives a2 hk)
 .exact hk.elim
theorem Rd{x:PE}{y:PE}(fw:WE W fr A d x)(oW:WE W fr A d y)(N9:WT W fr A d t):WE W fr A d (.ite t x y):=by
 intro pa e cx l lo g J H s E Q K X hm a h k hx;apply xh hm;intro et ex ey pos h1 h2 h3;refine wpAny_IfExp (N9 h1 a h (λg1 J1 H1 b s1 aU a1 st1 aV=>?_) hx)
 cases b with
 |true=>exact fw h2 a1 aU (k.trans st1 aV) (hx.trans st1 aV)
 |false=>exact oW h3 a1 aU (k.trans st1 aV) (hx.trans st1 aV)
theorem Md{x:PE}{n:Nat}(fw:WE W fr A d x):WE W fr A d (.attr x n):=by
 intro pa e cx l lo g J H s E Q K X hm a h k hx;apply nS hm;intro ex pos hb h2;rw[arm_eval_Attribute];refine zy (zY (mz hb (fw h2 a h (Q:=λxo s1=>wpAny W.M A (getAttr xo (fT n) true) Q E s1) (λg1 J1 H1 va xa s1 aU ra a1 st1 aV=>?_) hx)) (λo s₁ h₁=>zy (zL (zy (zQ (zY h₁ (λr s₂ h₂=>zy (wpAny_letTemporaryGo (zq h₂))) λ_ _ x=>x))))) λ_ _ x=>x);obtain⟨r,hr,hk⟩:=dm aU;exact qJ a1.toBAt hr ra ((k.trans st1 aV).gives a1 hk)
theorem Rf{x:PE}(Vn:WE W fr A d i)(fw:WE W fr A d x):WE W fr A d (.idx x i):=by
 intro pa e cx l lo g J H s E Q K X hm a h k hx;apply HE hm;intro ex ei pos h2 h3;refine Subscript_ (fw h2 a h (λg1 J1 H1 va xa s1 aU ra a1 st1 aV=>?_) hx);refine Vn h3 a1 aU (λg2 J2 H2 vb xb s2 gZ rb a2 st2 fz=>?_) (hx.trans st1 aV);obtain⟨r,hr,hk⟩:=dm gZ;exact LN a2.toBAt hr (st2.rep ra) rb (((k.trans st1 aV).trans st2 fz).gives a2 hk)
theorem Rg{x:PE}(Vo:WE W fr A d u)(Vp:WE W fr A d v)(Vq:WE W fr A d w)(fw:WE W fr A d x):WE W fr A d (.slc x u v w):=by
 intro pa e cx l lo g J H s E Q K X hm a h k hx;apply HF hm;intro ex X3 X4 X5 sp pos h2 h3 h4 h5;refine HR (fw h2 a h (λg1 J1 H1 va xa s1 aU ra a1 st1 aV=>?_) hx);refine Ma (λh1 h2 h3 h4 h5=>Vo h1 h2 h3 h4 h5) h3 a1 aU (λg2 J2 H2 vb xb s2 gZ rb a2 st2 fz=>?_) (hx.trans st1 aV);refine Ma (λh1 h2 h3 h4 h5=>Vp h1 h2 h3 h4 h5) h4 a2 gZ (λg3 J3 H3 vc xc s3 oV rc a3 st3 sm3=>?_) ((hx.trans st1 aV).trans st2 fz);refine Ma (λh1 h2 h3 h4 h5=>Vq h1 h2 h3 h4 h5) h5 a3 oV (λg4 J4 H4 vd xd s4 Sn rd a4 st4 N7=>?_) (((hx.trans st1 aV).trans st2 fz).trans st3 sm3);obtain⟨r,hr,hk⟩:=dm Sn;have pm:∀{g J H s g' J' H' s'} {v x},gc W.P g J v x->Step [] g J H s g' J' H' s'->gc W.P g' J' v x:=λh st=>h.elim .inl λq=>.inr (st.rep q);exact LP a4.toBAt hr (st4.rep (st3.rep (st2.rep ra))) (pm (pm rb st3) st4) (pm rc st4) rd (((((k.trans st1 aV).trans st2 fz).trans st3 sm3).trans st4 N7).gives a4 hk)
theorem Rh(oX:Bu W fr A d es):WE W fr A d (.tup es):=by
 intro pa e cx l lo g J H s E Q K X hm a h k hx;apply HG hm;intro vs kk pos hl h1;rw[arm_eval_Tuple];refine zy (zL (zy (oX pos h1 a h (λg1 J1 H1 ws xs s1 aU rs a1 st1 aV hn=>?_) hx)));exact wpAny_newTuple (((k.trans st1 aV).gives a1 aU).push (o:=fc xs 0) a1.toBAt rfl (wQ a1.toBAt rs 0)) (by rw[hn];exact aq (by lia))
theorem Me(oX:Bu W fr A d es):WE W fr A d (.list es):=by
 intro pa e cx l lo g J H s E Q K X hm a h k hx;apply Du hm;intro vs pos hl h1;rw[arm_eval_List];refine zy (zL (zy (oX pos h1 a h (λg1 J1 H1 ws xs s1 aU rs a1 st1 aV hn=>?_) hx)));exact wpAny_newList (((k.trans st1 aV).gives a1 aU).push (o:=bd xs 0) a1.toBAt rfl (iN a1.toBAt rs 0)) (by rw[hn];exact aq (by lia))
theorem HV(oX:Bu W fr A d es):WE W fr A d (.listO es):=by
 intro pa e cx l lo g J H s E Q K X hm a h k hx;apply yW hm;intro vs pos hl h1;rw[arm_eval_List];refine zy (zL (zy (oX pos h1 a h (λg1 J1 H1 ws xs s1 aU rs a1 st1 aV hn=>?_) hx)));exact wpAny_newList (((k.trans st1 aV).gives a1 aU).mine a1.toBAt rs s1.toks) (by rw[hn];exact aq (by lia))
theorem Mf(So:WD W fr A d vs):WE W fr A d (.dict ks vs):=by
 intro pa e cx l lo g J H s E Q K X hm a h k hx;apply Dw hm;intro keys vals pos w3 hn h1 h2;obtain⟨h0,Xf,hl⟩:=w3;obtain⟨q1,q2⟩:=q9 (env:=cx.env) (pos:=pos) h1 hl;obtain⟨b0,st0⟩:=a.toBAt.grow (h':=s.heap.push emptyDict) (t:=s.toks) (λ_ _ e=>zc _ e);have sm0:bu s { s with heap:=s.heap.push emptyDict }:=⟨rfl,rfl,rfl⟩;have a0:=a.step b0 st0;refine wpAny_Dict_pairs (knd:=strKind W.prog W.w) q1 (by intro q;rw[q]at q2;rw[<-q2]at h0;exact absurd h0 (by simp)) (by rw[q2];exact Xf) ?_;refine So pos h1 h2 hl a0 h (λg1 J1 H1 ws xs ts s1 aU rs ht hx1 a1 st1 aV=>?_) (hx.trans st0 sm0);unfold sk at aU;split at aU
 .exact DL a.toBAt a1.toBAt st1 (sm0.trans aV) rs hn ht hx1 (xD a.toBAt) (k.gives a aU)
 .exact aU.elim
theorem HW   : WE W fr A d (.dictO ):=by
 intro pa e cx l lo g J H s E Q K X hm a h k hx;apply yX hm;intro pos;rw[Co]at h;exact DI ((k.gives a h).mineD a.toBAt s.toks)
theorem Mg{nt:Nat}{aF:de}(Bo:On W fr A d aF)(Oa:WE W fr A d elt)(Sp:WE W fr A d it):WE W fr A d (.comp nt elt it aF):=by
 intro pa e cx l lo g J H s E Q K X hm a h k hx;apply te hm;intro mi tg rT ifs scope pos ts FV h1 wo Vr h2 h3;have sc:=xw Vr;obtain⟨cl,c1,c2,c3⟩:=nY a sc;rw[eval_ListComp];refine wpAny_comprehension_free (use:=none) rfl (DF FV) c1 sc.kind sc.loc (Sp h1 a h (λg1 J1 H1 v x s1 aU r1 a1 st1 aV=>?_) hx);unfold hU at aU;split at aU
 .rename_i xs H' he
  split at aU
  .rename_i hz
   refine xz aG.hand a1 he hz r1 wo sc c2 c3 (λC=>Kh sc a.loc.fk h2 h3 (λh1 h2 h3 h4 h5=>Oa h1 h2 h3 h4 h5) (λh1 h2 h3 h4 h5=>Bo h1 h2 h3 h4 h5)) (λu H k q=>je q) aU (λD C g' J' H2 vs m' s' hk a' r' st' Ob hn nC np dC=>?_);refine⟨m',hn,λh' sb=>?_⟩;obtain⟨a2,k2⟩:=DG a' sb nC np;exact k g' J' H2 (.lst vs) (.ref D) _ hk r' a2 (st1.trans (st'.letgo k2 dC)) (aV.trans (Ob.trans ⟨rfl,rfl,rfl⟩))
  .exact aU.elim
 .exact aU.elim
theorem Mh{args:de}(Oc:WE W fr A d f)(fy:Bu W fr A d args):WE W fr A d (.call f args):=by
 intro pa e cx l lo g J H s E Q K X hm a h k hx;apply nT hm;intro x p as pos h1 h2;refine wpAny_Call_NameR (Oc h1 a h (λg1 J1 H1 fv xf s1 aU rf a1 st1 aV=>?_) hx);refine cR (bf h2).1 (fy pos h2 a1 aU (λg2 J2 H2 ws xs s2 gZ rs a2 st2 fz _=>?_) (hx.trans st1 aV));obtain⟨q1,q2⟩:=xn aG a2 gZ (st2.rep rf) rs ((k.trans st1 aV).trans st2 fz) ((hx.trans st1 aV).trans st2 fz);exact⟨⟨a2.toBAt.kin,q1⟩,q2⟩
theorem Mi{n:Nat}{args:de}(Od:WE W fr A d o)(fy:Bu W fr A d args):WE W fr A d (.meth n o args):=by
 intro pa e cx l lo g J H s E Q K X hm a h k hx;apply tf hm;intro v ap as pos hb hl hn h1 h2;refine la hb hl hn (bf h2).2 (Od h1 a h (λg1 J1 H1 ov xo s1 aU ro a1 st1 aV=>?_) hx);intro pl;split at aU
 .rename_i hmo
  refine nV a1.toBAt hmo ro λf hf=>?_;refine cR (bf h2).1 (fy pos h2 a1 aU (λg2 J2 H2 ws xs s2 gZ rs a2 st2 fz _=>?_) (hx.trans st1 aV));obtain⟨q1,q2⟩:=xq aG a2 gZ hf (st2.rep ro) rs ((k.trans st1 aV).trans st2 fz) ((hx.trans st1 aV).trans st2 fz);exact⟨⟨a2.toBAt.kin,q1⟩,q2⟩
 .exact aU.elim
theorem Ri{x:PE}(fw:WE W fr A d x):WE W fr A d (.frz x):=by
 intro pa e cx l lo g J H s E Q K X hm a h k hx;refine fw hm a h (λg1 J1 H1 va xa s1 aU ra a1 st1 aV=>?_) hx
 cases va with
 |ref n=>
  obtain⟨vs,hH,aU⟩:=aU;obtain⟨g2,b2,st2,r2⟩:=a1.toBAt.freeze hH ra;exact (k.trans st1 aV) g2 J1 _ _ _ s1 aU r2 (a1.step b2 st2) st2 (bu.refl _)
 |_=>exact aU.elim
theorem Mj{M:List Nat}{x:PE}(fw:WE W fr A d x):WE W fr A d (.fstr M x):=by
 intro pa e cx l lo g J H s E Q K X hm a h k hx;apply Dx hm;intro c1 c2 v c3 pos hl h1;have st0:Step [] g J H s.heap g J H ({ s with toks:=s.toks+1 }:Shared).heap:=Step.refl;have sm0:bu s { s with toks:=s.toks+1 }:=⟨rfl,rfl,rfl⟩;refine HS (zT hl (by decide)) (fw h1 (a.tok (s.toks+1)) h (λg1 J1 H1 va xa s1 aU ra a1 st1 aV=>?_) (hx.trans st0 sm0));unfold pp at aU;split at aU
 .rename_i l'
  split at aU
  .rename_i hf
   obtain⟨t,rfl⟩:=bG.mp ra;exact⟨l',t,rfl,bW hf.1,λt' kk=>((k.trans st0 sm0).trans st1 aV).tok a1 kk aU (bG.mpr ⟨t',rfl⟩)⟩
  .exact aU.elim
 .exact aU.elim
theorem Mk(FW:WT W fr A d p):WT W fr A d (.not_ p):=by
 intro pa e cx l lo g J H s E Q K X hm a h k hx;apply DA hm;intro x pos h1;exact wpAny_isTrue_Not (FW h1 a h (λg1 J1 H1 b s1 aU a1 st1 aV=>k g1 J1 H1 (!b) s1 aU a1 st1 aV) hx)
theorem Ml{b:Bool}(Oe:Q6 W fr A d es):WT W fr A d (.bool b es):=by
 intro pa e cx l lo g J H s E Q K X hm a h k hx;apply yZ hm;intro vs pos h1;rw[arm_isTrue_BoolOp];exact Oe b h1 a h k hx
theorem Rj{x:PE}{y:PE}(N9:WT W fr A d t)(Vs:WT W fr A d x)(Vt:WT W fr A d y):WT W fr A d (.ite t x y):=by
 intro pa e cx l lo g J H s E Q K X hm a h k hx;apply DB hm;intro et ex ey pos h1 h2 h3;rw[arm_isTrue_IfExp];refine zy (zY (N9 h1 a h (Q:=λb s1=>if b then wpAny W.M A (isTrue ex cx.env (eval ex cx.env)) Q E s1 else wpAny W.M A (isTrue ey cx.env (eval ey cx.env)) Q E s1) (λg1 J1 H1 b s1 aU a1 st1 aV=>?_) hx) (λb s1 h1=>?_) λ_ _ e=>e)
 .cases b with
  |true=>exact Vs h2 a1 aU (k.trans st1 aV) (hx.trans st1 aV)
  |false=>exact Vt h3 a1 aU (k.trans st1 aV) (hx.trans st1 aV)
 .injection b<;>exact h1
theorem Rk{x:PE}{op:CmpOp}{y:PE}(fw:WE W fr A d x)(oW:WE W fr A d y):WT W fr A d (.cmp x op y):=by
 intro pa e cx l lo g J H s E Q K X hm a h k hx;apply DC hm;intro ex ey pos h1 h2 h3;refine wpAny_isTrue_Compare1 (fw h2 a h (λg1 J1 H1 va xa s1 aU ra a1 st1 aV=>?_) hx) h1;refine oW h3 a1 aU (λg2 J2 H2 vb xb s2 gZ rb a2 st2 fz=>?_) (hx.trans st1 aV);obtain⟨r,hr,hk⟩:=iQ gZ;exact kR a2.toBAt (by have:=aG.units;lia) hr (st2.rep ra) rb λt=>z9 (((k.trans st1 aV).trans st2 fz).tok a2 hk t)
theorem Mm{x:PE}{op:CmpOp}{y:PE}{eL:CmpOp}{z:PE}(fw:WE W fr A d x)(oW:WE W fr A d y)(Vu:WE W fr A d z):WT W fr A d (.cmp2 x op y eL z):=by
 intro pa e cx l lo g J H s E Q K X hm a h k hx;apply pI hm;intro ex ey ez pos h1 h2 h3 h4;refine lX (fw h2 a h (λg1 J1 H1 va xa s1 aU ra a1 st1 aV=>?_) hx) h1;refine oW h3 a1 aU (λg2 J2 H2 vb xb s2 gZ rb a2 st2 fz=>?_) (hx.trans st1 aV);obtain⟨r,hr,hk⟩:=iQ gZ;refine kR a2.toBAt (by have:=aG.units;lia) hr (st2.rep ra) rb λt=>?_;refine z9 ?_;have k2:=(k.trans st1 aV).trans st2 fz;have x2:=(hx.trans st1 aV).trans st2 fz
 cases r with
 |false=>exact k2.tok a2 hk t
 |true=>
  have st3:Step [] g2 J2 H2 s2.heap g2 J2 H2 ({ s2 with toks:=t }:Shared).heap:=Step.refl;have sm3:bu s2 { s2 with toks:=t }:=⟨rfl,rfl,rfl⟩;refine Vu h4 (a2.tok t) hk (λg4 J4 H4 vc xc s4 Sn rc a4 st4 N7=>?_) (x2.trans st3 sm3);obtain⟨r,hr,hk⟩:=iQ Sn;exact kR a4.toBAt (by have:=aG.units;lia) hr (st4.rep rb) rc λt=>z9 (((k2.trans st3 sm3).trans st4 N7).tok a4 hk t)
theorem Rl{i:Nat}:WT W fr A d (.var i):=by
 intro pa e cx l lo g J H s E Q K X hm a h k hx;apply qS (show mE (kdOf cx) cx.ns cx.nso (.var i) e=true from hm);intro x q n1 n2 n3;rw[LC]at h;split at h
 .rename_i v hl
  exact fj rfl (iR a n1 n2 n3 hl λy r=>ij r h λb hb=>k.here a hb)
 .exact h.elim
theorem Rm:WT W fr A d (.lit v):=by
 intro pa e cx l lo g J H s E Q K X hm a h k hx;apply gD hm;intro c n q hn;have fin:∀b:Bool,(kBool b c&&uB b v)=true->wpAny W.M A (PySem.isTrue (.Constant c n q) cx.env (eval (.Constant c n q) cx.env)) Q E s:=λb hm=>by
  have hm:=and_eq_true_iff.mp hm;rw[ta hm.1]
  induction v using V.casesOn<;>first | (cases hm.2;done) | skip
  rw[<-ze.mp hm.2]at h;refine fj rfl ?_;rw[eval_Constant];exact zq (z9 (k.here a h))
 rcases or_eq_true_iff.mp hn with hn | hn
 .exact fin _ hn
 .exact fin _ hn
theorem Mn{args:de}(Oc:WE W fr A d f)(fy:Bu W fr A d args):WT W fr A d (.call f args):=by
 intro pa e cx l lo g J H s E Q K X hm a h k hx;have hm':mE (kdOf cx) cx.ns cx.nso (.call f args) e=true:=hm;apply nT hm';intro x p as pos h1 h2;exact fj rfl (wpAny_Call_NameR (Oc h1 a h (λg1 J1 H1 fv xf s1 aU rf a1 st1 aV=>by
  refine cR (bf h2).1 (fy pos h2 a1 aU (λg2 J2 H2 ws xs s2 gZ rs a2 st2 fz _=>?_) (hx.trans st1 aV));obtain⟨q1,q2⟩:=xn aG a2 gZ (st2.rep rf) rs (Q:=λv s3=>wpAny W.M A (truthy v) Q E s3) (λg3 J3 H3 v y s3 oV r3 a3 st3 sm3=>ij r3 oV λb hb=>(((k.trans st1 aV).trans st2 fz).trans st3 sm3).here a3 hb) ((hx.trans st1 aV).trans st2 fz);exact⟨⟨a2.toBAt.kin,q1⟩,q2⟩) hx))
theorem Mo{n:Nat}{args:de}(Od:WE W fr A d o)(fy:Bu W fr A d args):WT W fr A d (.meth n o args):=by
 intro pa e cx l lo g J H s E Q K X hm a h k hx;have hm':mE (kdOf cx) cx.ns cx.nso (.meth n o args) e=true:=hm;apply tf hm';intro v ap as pos hb hl hn h1 h2;refine fj rfl (la hb hl hn (bf h2).2 (Od h1 a h (λg1 J1 H1 ov xo s1 aU ro a1 st1 aV=>?_) hx));intro pl;split at aU
 .rename_i hmo
  refine nV a1.toBAt hmo ro λf hf=>?_;refine cR (bf h2).1 (fy pos h2 a1 aU (λg2 J2 H2 ws xs s2 gZ rs a2 st2 fz _=>?_) (hx.trans st1 aV));obtain⟨q1,q2⟩:=xq aG a2 gZ hf (st2.rep ro) rs (Q:=λv s3=>wpAny W.M A (truthy v) Q E s3) (λg3 J3 H3 v y s3 oV r3 a3 st3 sm3=>ij r3 oV λb hb=>(((k.trans st1 aV).trans st2 fz).trans st3 sm3).here a3 hb) ((hx.trans st1 aV).trans st2 fz);exact⟨⟨a2.toBAt.kin,q1⟩,q2⟩
 .exact aU.elim
theorem Mp{x:PE}{n:Nat}(fw:WE W fr A d x):WT W fr A d (.attr x n):=by
 intro pa e cx l lo g J H s E Q K X hm a h k hx;have hm':mE (kdOf cx) cx.ns cx.nso (.attr x n) e=true:=hm;apply nS hm';intro ex pos hb h2;refine fj rfl ?_;rw[arm_eval_Attribute];refine zy (zY (mz hb (fw h2 a h (Q:=λxo s1=>wpAny W.M A (getAttr xo (fT n) true) (λv s3=>wpAny W.M A (truthy v) Q E s3) E s1) (λg1 J1 H1 va xa s1 aU ra a1 st1 aV=>?_) hx)) (λo s₁ h₁=>zy (zL (zy (zQ (zY h₁ (λr s₂ h₂=>zy (wpAny_letTemporaryGo (zq h₂))) λ_ _ x=>x))))) λ_ _ x=>x);obtain⟨r,hr,hk⟩:=dm aU;exact qJ a1.toBAt hr ra λg3 J3 y s3 r3 b3 st3 sm3=>ij r3 hk λb hb=>((k.trans st1 aV).trans st3 sm3).here (a1.step b3 st3) hb
theorem xE   : Bu W fr A d (.z):=by
 intro pos pa xs cx l lo g J H s E Q K X hm a h k hx;have e:=fh hm;subst e;exact spliced_nil (k g J H [] [] s h (aB.mpr rfl) a Step.refl (bu.refl _) rfl)
theorem tF(wu:WE W fr A d p)(Of:Bu W fr A d ps):Bu W fr A d (.k p ps):=by
 intro pos pa xs cx l lo g J H s E Q K X hm a h k hx;revert k;apply cS hm;intro x r h1 h2 k;rw[qT h1];refine spliced_cons (wu h1 a h (λg1 J1 H1 va xa s1 aU ra a1 st1 aV=>?_) hx);refine Of pos h2 a1 aU (λg2 J2 H2 ws ys s2 gZ rs a2 st2 fz=>?_) (hx.trans st1 aV);intro hl;exact (k.trans st1 aV).trans st2 fz g2 J2 H2 _ _ s2 gZ (ad.mpr ⟨_,_,rfl,st2.rep ra,rs⟩) a2 Step.refl (bu.refl _) (by rw[zd,zd,hl])
theorem DM   : WD W fr A d (.z):=by
 intro pos pa ks keys vals cx l lo g J H s E Q K X h1 h2 hl a h k hx;have e:=fh h2;subst e;have e:keys=[]:=List.eq_nil_of_length_eq_zero (by simpa using hl);subst e
 cases ks with
 |nil=>exact evalPairs_nil (k g J H [] [] [] s h (aB.mpr rfl) rfl rfl a Step.refl (bu.refl _))
 |cons=>injection h1
theorem xF(Sq:WD W fr A d ps)(wu:WE W fr A d p):WD W fr A d (.k p ps):=by
 intro pos pa ks keys vals cx l lo g J H s E Q K X h1 h2 hl a h k hx;revert hl;apply cS h2;intro v vals h3 h4 hl
 cases keys with
 |nil=>simp at hl
 |cons key keys=>
  cases ks with
  |nil=>injection h1
  |cons kk ks=>
    have hk:=and_eq_true_iff.mp h1;obtain⟨ke,rfl,hc⟩:=(Option.any_eq_true _ _).mp hk.1;apply gD hc;intro c c1 c2 hc;rw[my hc];have h1:=hk.2;have st0:Step [] g J H s.heap g J H ({ s with toks:=s.toks+1 }:Shared).heap:=Step.refl;have sm0:bu s { s with toks:=s.toks+1 }:=⟨rfl,rfl,rfl⟩;refine evalPairs_cons (wpAny_Constant_str (zy (zY (wu h3 (a.tok (s.toks+1)) h (Q:=λxv s1=>wpAny W.M A (evalPairs (jr cx.env pos keys vals)) (λvs s₃=>Q ((.str (aH kk) s.toks,xv)::vs) s₃) E s1) (λg1 J1 H1 va xa s1 aU ra a1 st1 aV=>?_) (hx.trans st0 sm0)) (λxv s1 q=>zy (zL (zq q))) λ_ _ e=>e)));refine Sq pos h1 h4 (by simpa using hl) a1 aU (λg2 J2 H2 ws xs ts s2 gZ rs ht hx2 a2 st2 fz=>?_) ((hx.trans st0 sm0).trans st1 aV);exact k g2 J2 H2 _ (xa::xs) (s.toks::ts) s2 gZ (ad.mpr ⟨_,_,rfl,st2.rep ra,rs⟩) (by simp[ht]) (by simp[hx2]) a2 ((st0.trans st1).trans st2) ((sm0.trans aV).trans fz)
theorem xG   : Ki W fr A d (.z):=by
 intro b pa xs pos cx l lo g J H s E Q K X hm a h k hx;exact h.elim
theorem HX(wu:WE W fr A d p):Ki W fr A d (.k p .z):=by
 intro b pa xs pos cx l lo g J H s E Q K X hm a h k hx;apply cS hm;intro x r h1 h2;rw[fh h2];exact vp (wu h1 a h k hx)
theorem HY(Xg:Ki W fr A d (.k p2 ps))(wu:WE W fr A d p):Ki W fr A d (.k p (de.k p2 ps)):=by
 intro b pa xs pos cx l lo g J H s E Q K X hm a h k hx;apply cS hm;intro x r h1 h2;have h5:=h2;revert h5;apply cS h2;intro y r h3 h4 h5;refine tC (wu h1 a h (λg1 J1 H1 va xa s1 aU ra a1 st1 aV=>?_) hx);refine ij ra aU λt ht=>?_
 by_cases q:t=b
 .rw[if_pos q]at ht ⊢
  exact Xg b h5 a1 ht (k.trans st1 aV) (hx.trans st1 aV)
 .rw[if_neg q]at ht ⊢
  exact (k.trans st1 aV).here a1 ht ra
theorem xH   : On W fr A d (.z):=by
 intro pa xs cx l lo g J H s E Q K X hm a h k hx;rw[nW hm];exact wpAny_tests_nil (k.here a h)
theorem tG(Og:On W fr A d ps)(FW:WT W fr A d p):On W fr A d (.k p ps):=by
 intro pa xs cx l lo g J H s E Q K X hm a h k hx;apply lV hm;intro x r h1 h2;refine vn (FW h1 a h (λg1 J1 H1 t s1 aU a1 st1 aV=>?_) hx)
 cases t with
 |true=>exact Og h2 a1 aU (k.trans st1 aV) (hx.trans st1 aV)
 |false=>exact (k.trans st1 aV).here a1 aU
theorem xI   : Q6 W fr A d (.z):=by
 intro b pa xs cx l lo g J H s E Q K X hm a h k hx;rw[nW hm,arm_allTrue_nil];have:((if b then BoolOp.And else BoolOp.Or)==BoolOp.And)=b:=by injection b<;>rfl
 rw[this];exact zq (k.here a h)
theorem tH(FW:WT W fr A d p)(Oh:Q6 W fr A d ps):Q6 W fr A d (.k p ps):=by
 intro b pa xs cx l lo g J H s E Q K X hm a h k hx;apply lV hm;intro x r h1 h2;refine q7 (FW h1 a h (λg1 J1 H1 t s1 aU a1 st1 aV=>?_) hx)
 by_cases q:t=b
 .rw[if_pos q]at aU ⊢
  exact Oh b h2 a1 aU (k.trans st1 aV) (hx.trans st1 aV)
 .rw[if_neg q]at aU ⊢
  exact (k.trans st1 aV).here a1 aU
structure AO(W:Wd)(fr:List Env)(A:Around)(d:Nat)(p:PE):Prop where
 e:WE W fr A d p
 t:WT W fr A d p
structure AL(W:Wd)(fr:List Env)(A:Around)(d:Nat)(ps:de):Prop where
 es:Bu W fr A d ps
 ds:WD W fr A d ps
 bs:Ki W fr A d ps
 cs:On W fr A d ps
 ts:Q6 W fr A d ps
theorem js(h:∀{kd:Kd} {ns nso:List Str} {e:Expr},mT kd ns nso p e=true->False):WT W fr A d p:=by
 intro pa e cx l lo g J H s E Q K X hm a h2 k hx;exact (h hm).elim
theorem Mq(h:∀{kd:Kd} {ns nso:List Str} {e:Expr},mE kd ns nso p e=true->False):WE W fr A d p:=by
 intro pa e cx l lo g J H s E Q K X hm a h2 k hx;exact (h hm).elim
theorem tI(i1:WE W fr A d p)(i2:Ki W fr A d ps):Ki W fr A d (.k p ps):=by
 cases ps with
 |z=>exact HX aG i1
 |k p2 ps=>exact HY aG i2 i1
theorem jt(p:PE):AO W fr A d p:=
 PE.rec (motive_1:=λp=>AO W fr A d p) (motive_2:=λps=>AL W fr A d ps) ⟨Mq aG (by exact λh=>ff h),js aG (by exact λh=>ff h)⟩ (λx0=>⟨Q7 aG ,Rl aG ⟩) (λx0=>⟨Q8 aG ,js aG (by exact λh=>ff h)⟩) (λx0=>⟨Ra aG ,Rm aG ⟩) (λx0=>⟨Q9 aG ,js aG (by exact λh=>ff h)⟩) (λx0 y0=>⟨Mq aG (by exact λh=>ff h),Mk aG y0.2⟩) (λx0 x1 y1=>⟨Mb aG y1.3,Ml aG y1.5⟩) (λx0 x1 x2 y0 y2=>⟨Rb aG y0.1 y2.1,Rk aG y0.1 y2.1⟩) (λx0 x1 x2 x3 x4 y0 y2 y4=>⟨Mq aG (by exact λh=>ff h),Mm aG y0.1 y2.1 y4.1⟩) (λx0 x1 x2 y0 y2=>⟨Rc aG y0.1 y2.1,js aG (by exact λh=>ff h)⟩) (λx0 x1 y0 y1=>⟨Mc aG y0.1 y1.1,js aG (by exact λh=>ff h)⟩) (λx0 x1 x2 y0 y1 y2=>⟨Rd aG y1.1 y2.1 y0.2,Rj aG y0.2 y1.2 y2.2⟩) (λx0 x1 y0=>⟨Md aG y0.1,Mp aG y0.1⟩) (λx0 x1 y0 y1=>⟨Rf aG y1.1 y0.1,js aG (by exact λh=>ff h)⟩) (λx0 x1 x2 x3 y0 y1 y2 y3=>⟨Rg aG y1.1 y2.1 y3.1 y0.1,js aG (by exact λh=>ff h)⟩) (λx0 y0=>⟨Rh aG y0.1,js aG (by exact λh=>ff h)⟩) (λx0 y0=>⟨Me aG y0.1,js aG (by exact λh=>ff h)⟩) (λx0 y0=>⟨HV aG y0.1,js aG (by exact λh=>ff h)⟩) (λx0 x1 y1=>⟨Mf aG y1.2,js aG (by exact λh=>ff h)⟩) ⟨HW aG ,js aG (by exact λh=>ff h)⟩ (λx0 x1 x2 x3 y1 y2 y3=>⟨Mg aG y3.4 y1.1 y2.1,js aG (by exact λh=>ff h)⟩) (λx0 x1 y0 y1=>⟨Mh aG y0.1 y1.1,Mn aG y0.1 y1.1⟩) (λx0 x1 x2 y1 y2=>⟨Mi aG y1.1 y2.1,Mo aG y1.1 y2.1⟩) (λx0 y0=>⟨Ri aG y0.1,js aG (by exact λh=>ff h)⟩) (λx0 x1 y1=>⟨Mj aG y1.1,js aG (by exact λh=>ff h)⟩) ⟨xE aG ,DM aG ,xG aG ,xH aG ,xI aG ⟩ (λx0 x1 y0 y1=>⟨tF aG y0.1 y1.1,xF aG y1.2 y0.1,tI aG y0.1 y1.3,tG aG y1.4 y0.2,tH aG y0.2 y1.5⟩) p
theorem xJ(ps:de):AL W fr A d ps:=by
 refine de.rec (motive_1:=λ_=>True) (motive_2:=λps=>AL W fr A d ps) ?_ ?_ ?_ ?_ ?_ ?_ ?_ ?_ ?_ ?_ ?_ ?_ ?_ ?_ ?_ ?_ ?_ ?_ ?_ ?_ ?_ ?_ ?_ ?_ ?_ ?_ ?_ ps
 all_goals first
  |exact trivial
  |exact λ_=>trivial
  |exact λ_ _=>trivial
  |exact λ_ _ _=>trivial
  |exact λ_ _ _ _=>trivial
  |exact λ_ _ _ _ _=>trivial
  |exact λ_ _ _ _ _ _=>trivial
  |exact λ_ _ _ _ _ _ _=>trivial
  |exact λ_ _ _ _ _ _ _ _=>trivial
  |exact⟨xE aG ,DM aG ,xG aG ,xH aG ,xI aG ⟩
  |exact λx0 x1 _ y1=>⟨tF aG (jt aG x0).1 y1.1,xF aG y1.2 (jt aG x0).1,tI aG (jt aG x0).1 y1.3,tG aG y1.4 (jt aG x0).2,tH aG (jt aG x0).2 y1.5⟩
theorem gi(p:PE):WE W fr A d p:=(jt aG p).1
theorem Kj(p:PE):WT W fr A d p:=(jt aG p).2
theorem Mr(ps:de):Bu W fr A d ps:=(xJ aG ps).1
theorem Ms(ps:de):On W fr A d ps:=(xJ aG ps).4
end
noncomputable def tJ(e:Expr):Bool:=Nat.ble 8 e.ctorIdx&&Nat.ble e.ctorIdx 10
noncomputable def isComp(p:PE):Bool:=Nat.beq p.ctorIdx 20
def HZ:Expr->Bool:=kZ true λvs _ _=>vs.all (foldedForSure 8) || !vs.all (constantsAlone 8)
def rg(kd:Kd)(ns:List Str):List Nat->Expr->Bool
 |[],_=>false
 |t::ts,e=>match ts with
  |[]=>nX kd ns false t e
  |_::_=>kZ false (λes _ _=>gh kd ns false (t::ts) es) e
section
variable{α:Type}{d r:α}
noncomputable def Mt(d:α)(f:Nat->α)(e:PE):α:=if h:e.ctorIdx=1 then PE.var.elim (motive_1:=λ_=>α) e h f else d
def DN{m:PE->Prop}{f}(h:Mt d f e=r)(hd:d≠r)(k:∀i,f i=r->m (.var i)):m e:=
 if c:e.ctorIdx=1 then PE.var.elim (motive_1:=λe=>Mt d f e=r->m e) e c (λi=>k i) h else absurd ((zX c).symm.trans h) hd
noncomputable def Mu(d:α)(f:V->α)(e:PE):α:=if h:e.ctorIdx=3 then PE.lit.elim (motive_1:=λ_=>α) e h f else d
def vt{m:PE->Prop}{f}(h:Mu d f e=r)(hd:d≠r)(k:∀v,f v=r->m (.lit v)):m e:=
 if c:e.ctorIdx=3 then PE.lit.elim (motive_1:=λe=>Mu d f e=r->m e) e c (λv=>k v) h else absurd ((zX c).symm.trans h) hd
noncomputable def Mv(d:α)(f:Nat->α)(e:PE):α:=if h:e.ctorIdx=4 then PE.glb.elim (motive_1:=λ_=>α) e h f else d
def Mw{m:PE->Prop}{f}(h:Mv d f e=r)(hd:d≠r)(k:∀i,f i=r->m (.glb i)):m e:=
 if c:e.ctorIdx=4 then PE.glb.elim (motive_1:=λe=>Mv d f e=r->m e) e c (λi=>k i) h else absurd ((zX c).symm.trans h) hd
noncomputable def DO(d:α)(f:PE->CmpOp->PE->CmpOp->PE->α)(e:PE):α:=if h:e.ctorIdx=8 then PE.cmp2.elim (motive_1:=λ_=>α) e h f else d
def H6{m:PE->Prop}{f}(h:DO d f e=r)(hd:d≠r)(k:∀a o b p c,f a o b p c=r->m (.cmp2 a o b p c)):m e:=
 if c:e.ctorIdx=8 then PE.cmp2.elim (motive_1:=λe=>DO d f e=r->m e) e c (λa o b p c=>k a o b p c) h else absurd ((zX c).symm.trans h) hd
noncomputable def Mx(d:α)(f:PE->PE->PE->α)(e:PE):α:=if h:e.ctorIdx=11 then PE.ite.elim (motive_1:=λ_=>α) e h f else d
def My{m:PE->Prop}{f}(h:Mx d f e=r)(hd:d≠r)(k:∀t a b,f t a b=r->m (.ite t a b)):m e:=
 if c:e.ctorIdx=11 then PE.ite.elim (motive_1:=λe=>Mx d f e=r->m e) e c (λt a b=>k t a b) h else absurd ((zX c).symm.trans h) hd
noncomputable def DP(d:α)(f:PE->Nat->α)(e:PE):α:=if h:e.ctorIdx=12 then PE.attr.elim (motive_1:=λ_=>α) e h f else d
def H7{m:PE->Prop}{f}(h:DP d f e=r)(hd:d≠r)(k:∀p z,f p z=r->m (.attr p z)):m e:=
 if c:e.ctorIdx=12 then PE.attr.elim (motive_1:=λe=>DP d f e=r->m e) e c (λp z=>k p z) h else absurd ((zX c).symm.trans h) hd
noncomputable def DQ(d:α)(f:PE->de->α)(e:PE):α:=if h:e.ctorIdx=21 then PE.call.elim (motive_1:=λ_=>α) e h f else d
def H8{m:PE->Prop}{f}(h:DQ d f e=r)(hd:d≠r)(k:∀g l,f g l=r->m (.call g l)):m e:=
 if c:e.ctorIdx=21 then PE.call.elim (motive_1:=λe=>DQ d f e=r->m e) e c (λg l=>k g l) h else absurd ((zX c).symm.trans h) hd
noncomputable def rh(d:α)(f:Option Expr->Pos->α)(e:Stmt):α:=if h:e.ctorIdx=3 then Stmt.Return.elim (motive_2:=λ_=>α) e h f else d
def Ac{m:Stmt->Prop}{f}{e:Stmt}(h:rh d f e=r)(hd:d≠r)(k:∀v q,f v q=r->m (.Return v q)):m e:=
 if c:e.ctorIdx=3 then Stmt.Return.elim (motive_2:=λe=>rh d f e=r->m e) e c (λv q=>k v q) h else absurd ((zX c).symm.trans h) hd
noncomputable def rj(d:α)(f:List Expr->Expr->Pos->α)(e:Stmt):α:=if h:e.ctorIdx=5 then Stmt.Assign.elim (motive_2:=λ_=>α) e h f else d
def Ad{m:Stmt->Prop}{f}{e:Stmt}(h:rj d f e=r)(hd:d≠r)(k:∀ts v q,f ts v q=r->m (.Assign ts v q)):m e:=
 if c:e.ctorIdx=5 then Stmt.Assign.elim (motive_2:=λe=>rj d f e=r->m e) e c (λts v q=>k ts v q) h else absurd ((zX c).symm.trans h) hd
noncomputable def Mz(d:α)(f:Expr->Expr->List Stmt->List Stmt->Pos->α)(e:Stmt):α:=if h:e.ctorIdx=9 then Stmt.For.elim (motive_2:=λ_=>α) e h f else d
def MA{m:Stmt->Prop}{f}{e:Stmt}(h:Mz d f e=r)(hd:d≠r)(k:∀t i a b q,f t i a b q=r->m (.For t i a b q)):m e:=
 if c:e.ctorIdx=9 then Stmt.For.elim (motive_2:=λe=>Mz d f e=r->m e) e c (λt i a b q=>k t i a b q) h else absurd ((zX c).symm.trans h) hd
noncomputable def vu(d:α)(f:Expr->List Stmt->List Stmt->Pos->α)(e:Stmt):α:=if h:e.ctorIdx=11 then Stmt.While.elim (motive_2:=λ_=>α) e h f else d
def DR{m:Stmt->Prop}{f}{e:Stmt}(h:vu d f e=r)(hd:d≠r)(k:∀t a b q,f t a b q=r->m (.While t a b q)):m e:=
 if c:e.ctorIdx=11 then Stmt.While.elim (motive_2:=λe=>vu d f e=r->m e) e c (λt a b q=>k t a b q) h else absurd ((zX c).symm.trans h) hd
noncomputable def UK(d:α)(f:Expr->List Stmt->List Stmt->Pos->α)(e:Stmt):α:=if h:e.ctorIdx=12 then Stmt.If.elim (motive_2:=λ_=>α) e h f else d
def Ro{m:Stmt->Prop}{f}{e:Stmt}(h:UK d f e=r)(hd:d≠r)(k:∀t a b q,f t a b q=r->m (.If t a b q)):m e:=
 if c:e.ctorIdx=12 then Stmt.If.elim (motive_2:=λe=>UK d f e=r->m e) e c (λt a b q=>k t a b q) h else absurd ((zX c).symm.trans h) hd
noncomputable def vw(d:α)(f:Option Expr->Option Expr->Pos->α)(e:Stmt):α:=if h:e.ctorIdx=16 then Stmt.Raise.elim (motive_2:=λ_=>α) e h f else d
def DS{m:Stmt->Prop}{f}{e:Stmt}(h:vw d f e=r)(hd:d≠r)(k:∀v c q,f v c q=r->m (.Raise v c q)):m e:=
 if c:e.ctorIdx=16 then Stmt.Raise.elim (motive_2:=λe=>vw d f e=r->m e) e c (λv c q=>k v c q) h else absurd ((zX c).symm.trans h) hd
noncomputable def MB(d:α)(f:List Stmt->List ExceptHandler->List Stmt->List Stmt->Pos->α)(e:Stmt):α:=if h:e.ctorIdx=17 then Stmt.Try.elim (motive_2:=λ_=>α) e h f else d
def MC{m:Stmt->Prop}{f}{e:Stmt}(h:MB d f e=r)(hd:d≠r)(k:∀b hs el fin q,f b hs el fin q=r->m (.Try b hs el fin q)):m e:=
 if c:e.ctorIdx=17 then Stmt.Try.elim (motive_2:=λe=>MB d f e=r->m e) e c (λb hs el fin q=>k b hs el fin q) h else absurd ((zX c).symm.trans h) hd
noncomputable def DT(d:α)(f:Expr->Pos->α)(e:Stmt):α:=if h:e.ctorIdx=24 then Stmt.Expr.elim (motive_2:=λ_=>α) e h f else d
def Ia{m:Stmt->Prop}{f}{e:Stmt}(h:DT d f e=r)(hd:d≠r)(k:∀v q,f v q=r->m (.Expr v q)):m e:=
 if c:e.ctorIdx=24 then Stmt.Expr.elim (motive_2:=λe=>DT d f e=r->m e) e c (λv q=>k v q) h else absurd ((zX c).symm.trans h) hd
noncomputable def vx(d:α)(f:Pos->α)(e:Stmt):α:=if h:e.ctorIdx=26 then Stmt.Break.elim (motive_2:=λ_=>α) e h f else d
def DU{m:Stmt->Prop}{f}{e:Stmt}(h:vx d f e=r)(hd:d≠r)(k:∀q,f q=r->m (.Break q)):m e:=
 if c:e.ctorIdx=26 then Stmt.Break.elim (motive_2:=λe=>vx d f e=r->m e) e c (λq=>k q) h else absurd ((zX c).symm.trans h) hd
noncomputable def lg(d:α)(f:Pos->α)(e:Stmt):α:=if h:e.ctorIdx=27 then Stmt.Continue.elim (motive_2:=λ_=>α) e h f else d
def tK{m:Stmt->Prop}{f}{e:Stmt}(h:lg d f e=r)(hd:d≠r)(k:∀q,f q=r->m (.Continue q)):m e:=
 if c:e.ctorIdx=27 then Stmt.Continue.elim (motive_2:=λe=>lg d f e=r->m e) e c (λq=>k q) h else absurd ((zX c).symm.trans h) hd
end
def Ib(f:Nat->Bool):PE->Bool:=Mt false f
def Rp(f:Nat->Bool):PE->Bool:=Mv false f
def MD(f:V->Bool):PE->Bool:=Mu false f
def Kk(f:PE->de->Bool):PE->Bool:=DQ false f
def Kl(f:PE->Nat->Bool):PE->Bool:=DP false f
def Rq(f:PE->CmpOp->PE->CmpOp->PE->Bool):PE->Bool:=DO false f
def UL(f:PE->PE->PE->Bool):PE->Bool:=Mx false f
noncomputable def ME(f:PE->Bool)(p:PS):Bool:=if h:p.ctorIdx=6 then PS.ret.elim (motive_1:=λ_=>Bool) p h f else false
noncomputable def MF(f:PE->Bool):de->Bool
 |.k p .z=>f p
 |_=>false
noncomputable def Km(f:PS->Bool):bh->Bool
 |.k p .z=>f p
 |_=>false
noncomputable def vZ:V->Bool
 |.int i=>i==0
 |_=>false
noncomputable def vN:V->Bool
 |.none=>true
 |_=>false
noncomputable def vS:V->Bool
 |.str _=>true
 |_=>false
noncomputable def MG:Option V->Bool
 |some (.blt .len)=>true
 |_=>false
def Ae(m:Expr->Expr->Bool):Stmt->Bool:=rj false λts v _=>c1 (λt=>m t v) ts
def MH(m:Expr->Bool):Stmt->Bool:=DT false λv _=>m v
def Ic(m:Option Expr->Bool):Stmt->Bool:=rh false λv _=>m v
def DV(m:Expr->Bool):Stmt->Bool:=vw false λv c _=>v.any m&&c.isNone
def V3(m:Expr->List Stmt->List Stmt->Bool):Stmt->Bool:=UK false λt a b _=>m t a b
def DW(m:Expr->List Stmt->Bool):Stmt->Bool:=vu false λt a b _=>b.isEmpty&&m t a
def Rr(m:Expr->Expr->List Stmt->Bool):Stmt->Bool:=Mz false λt i a b _=>b.isEmpty&&m t i a
def Kn:Stmt->Bool:=lg false λ_=>true
def Rs:Stmt->Bool:=vx false λ_=>true
noncomputable def Ts(m:Expr->Str->List Stmt->Bool):ExceptHandler->Bool
 |.ExceptHandler t n b _=>t.any λt=>n.any λn=>m t n b
def Rt(m:List Stmt->Expr->Str->List Stmt->Bool):Stmt->Bool:=MB false λb hs el fin _=>el.isEmpty&&(fin.isEmpty&&c1 (Ts (m b)) hs)
section
variable{p:PE}{st:Stmt}
def MI{f}{p:PS}{m:PS->Prop}(h:ME f p=true)(k:∀q,f q=true->m (.ret q)):m p:=
 if c:p.ctorIdx=6 then PS.ret.elim (motive_1:=λp=>ME f p=true->m p) p c (λq h=>k q h) h else ff ((zX c).symm.trans h)
def MJ{f}{p:de}{m:de->Prop}(h:MF f p=true)(k:∀q,f q=true->m (.k q .z)):m p:=by
 cases p with
 |z=>exact ff h
 |k q r=>cases r with
  |z=>exact k q h
  |k=>exact ff h
def Id{f}{p:bh}{m:bh->Prop}(h:Km f p=true)(k:∀q,f q=true->m (.k q .z)):m p:=by
 cases p with
 |z=>exact ff h
 |k q r=>cases r with
  |z=>exact k q h
  |k=>exact ff h
variable{ms:Stmt->Prop}
def nZ{m}(h:Ae m st=true)(k:∀t v q,m t v=true->ms (.Assign [t] v q)):ms st:=Ad h zt λts v q h=>u7 (m:=λts=>ms (.Assign ts v q)) h λt=>k t v q
def DX{m}(h:MH m st=true)(k:∀v q,m v=true->ms (.Expr v q)):ms st:=Ia h zt k
def vy{m}(h:Ic m st=true)(k:∀v q,m v=true->ms (.Return v q)):ms st:=Ac h zt k
def pK{α:Type}{m:α->Bool}{o:Option α}{mo:Option α->Prop}(h:o.any m=true)(k:∀v,m v=true->mo (some v)):mo o:=by
 cases o with
 |none=>exact ff h
 |some v=>exact k v h
def fo{α:Type}{m:α->Bool}{o:Option α}(h:o.any m=true):∃v,o=some v/\m v=true:=pK (mo:=λo=>∃v,o=some v/\m v=true) h λv h=>⟨v,rfl,h⟩
def DY{m}(h:DV m st=true)(k:∀v q,m v=true->ms (.Raise (some v) none q)):ms st:=
 DS h zt λv c q h=>Dk (m:=λc=>ms (.Raise v c q)) (an h).2 (pK (mo:=λv=>ms (.Raise v none q)) (an h).1 λv=>k v q)
def Ru{m}(h:V3 m st=true)(k:∀t a b q,m t a b=true->ms (.If t a b q)):ms st:=Ro h zt k
def DZ{m}(h:DW m st=true)(k:∀t a q,m t a=true->ms (.While t a [] q)):ms st:=DR h zt λt a b q h=>lU (m:=λb=>ms (.While t a b q)) (an h).1 (k t a q (an h).2)
def MK{m}(h:Rr m st=true)(k:∀t i a q,m t i a=true->ms (.For t i a [] q)):ms st:=MA h zt λt i a b q h=>lU (m:=λb=>ms (.For t i a b q)) (an h).1 (k t i a q (an h).2)
def ML{m}(h:Rt m st=true)(k:∀b t n hb hp q,m b t n hb=true->ms (.Try b [.ExceptHandler (some t) (some n) hb hp] [] [] q)):ms st:=
 MC h zt λb hs el fin q h=>lU (m:=λel=>ms (.Try b hs el fin q)) (an h).1 (lU (m:=λfin=>ms (.Try b hs [] fin q)) (an (an h).2).1 (u7 (m:=λhs=>ms (.Try b hs [] [] q)) (an (an h).2).2 λ⟨t,n,hb,hp⟩ h=>pK (mo:=λt=>ms (.Try b [.ExceptHandler t n hb hp] [] [] q)) h λt h=>pK (mo:=λn=>ms (.Try b [.ExceptHandler (some t) n hb hp] [] [] q)) h λn=>k b t n hb hp q))
end
def hT(v:Nat):PE->Bool:=UL λt a b=>Rq (λz o p o2 c=>MD vZ z&&o==.LtE&&o2==.LtE&&Kl (λq k=>Ib (λi=>i==v) q&&k==25) p&&Kk (λn as=>Rp (λn=>MG (af n)) n&&MF (Ib λj=>j != v) as) c) t&&MD vN a&&MD vS b
def Tt(kd:Kd)(ns:List Str)(v:Nat)(h:bh)(hb:List Stmt):Bool:=Km (ME λp=>hT v p&&c1 (Ic λe=>e.any λe=>mE kd ns [] p e) hb) h
mutual
noncomputable def mS(kd:Kd)(ns:List Str):PS->Stmt->Bool
 |.bad,_=>true
 |.asg i e,s=>Ae (λt value=>Dq t&&nX kd ns false i t&&(!tJ value||isComp e)&&mE kd ns [] e value) s
 |.asgs ts e,s=>Ae (λt value=>LX (λes=>gh kd ns false ts es&&HZ value&&decide ts.Nodup&&mE kd ns [] e value) t) s
 |.seta o k e,s=>Ae (λt value=>lT (λov at' _=>at'==fT k&&mE kd ns [] o ov&&mE kd ns [] e value) t) s
 |.seti o i e,s=>Ae (λt value=>Hv (λov=>mE kd ns [] o ov) (λiv=>mE kd ns [] i iv) t&&mE kd ns [] e value) s
 |.exp e,s=>MH (λv=>!tJ v&&mE kd ns [] e v) s
 |.ret e,s=>Ic (λv=>v.any λv=>mE kd ns [] e v) s
 |.retn,s=>Ic (λv=>v.isNone) s
 |.raise g args,s=>DV (λv=>nQ (λf as _=>Dq f&&mE kd ns [] (.glb g) f&&kC kd ns [] args as) v) s
 |.ite t a b,s=>V3 (λt' a' b'=>mT kd ns [] t t'&&rZ kd ns a a'&&rZ kd ns b b') s
 |.whil t b,s=>DW (λt' b'=>mT kd ns [] t t'&&rZ kd ns b b') s
 |.for_ ts it b,s=>Rr (λtg rT b'=>rg kd ns ts tg&&nJ rT&&mE kd ns [] it rT&&rZ kd ns b b') s
 |.try_ b g v h,s=>Rt (λb' t n hb=>Dq t&&mE kd ns [] (.glb g) t&&ns[v]? == some n&&kd n==some .local&&Tt kd ns v h hb&&rZ kd ns b b') s
 |.cont,s=>Kn s
 |.brk,s=>Rs s
noncomputable def rZ(kd:Kd)(ns:List Str):bh->List Stmt->Bool
 |.z,xs=>xs.isEmpty
 |.k s ss,xs=>match xs with
  |x::r=>mS kd ns s x&&rZ kd ns ss r
  |[]=>false
end
def Rv(P:Params)(g:IH)(J:cy):Fl->Flow->Prop
 |.next,f=>f=.next
 |.brk,f=>f=.brk
 |.cont,f=>f=.cont
 |.ret v,f=>∃x,f=.ret x/\ay P g J v x
def rk(W:Wd)(fr:List Env)(pa:List Addr)(cx:Cx)(g:IH)(J:cy)(H:Hp)(s:Shared)(K:KS)(Q:Flow->Shared->Prop):Prop:=
 ∀g' J' H' fl l' f s',K fl l' H'->Rv W.P g' J' fl f->At W fr pa cx l' [] g' J' H' s'->Step cx.pv g J H s.heap g' J' H' s'.heap->bu s s'->Q f s'
def j0(W:Wd)(fr:List Env)(pa:List Addr)(cx:Cx)(g:IH)(J:cy)(H:Hp)(s:Shared)(X:XS)(E:QP):Prop:=
 ∀g' J' H' l' c fs e xa s',X l' c fs H'->dh W g' J' H' s'.heap pa xa e c fs->(∀a∈xa,fe J H s.heap a)->At W fr pa cx l' [] g' J' H' s'->Step cx.pv g J H s.heap g' J' H' s'.heap->bu s s'->E (.ref e) s'
section
variable{l lo:Loc}{g':IH}{J':cy}{H':Hp}{s s':Shared}{Q:Flow->Shared->Prop}{K:KS}{X:XS}
def rk.trans{pv:List Addr}(k:rk W fr pa cx g J H s K Q)(st:Step pv g J H s.heap g' J' H' s'.heap)(sm:bu s s')(hp:∀a∈pv,a∈cx.pv):rk W fr pa cx g' J' H' s' K Q:=
 λg2 J2 H2 fl l2 f s2 hk hf ha hst hs=>k g2 J2 H2 fl l2 f s2 hk hf ha ((st.weaken hp).trans hst) (sm.trans hs)
def j0.trans{pv:List Addr}(k:j0 W fr pa cx g J H s X E)(st:Step pv g J H s.heap g' J' H' s'.heap)(sm:bu s s')(hp:∀a∈pv,a∈cx.pv):j0 W fr pa cx g' J' H' s' X E:=
 λg2 J2 H2 l2 c fs e xa s2 hx he hd ha hst hs=>k g2 J2 H2 l2 c fs e xa s2 hx he (λa m=>st.deadO (hd a m)) ha ((st.weaken hp).trans hst) (sm.trans hs)
def j0.toX(k:j0 W fr pa cx g J H s X E)(a:At W fr pa cx l [] g J H s):rY W fr pa [] g J H s (X l) E:=
 λg2 J2 H2 c fs e xa s2 hx he hd hb hst hs=>k g2 J2 H2 l c fs e xa s2 hx he hd (a.step hb hst) (hst.weaken λ_ m=>by simp at m) hs
def j0.none:j0 W fr pa cx g J H s kJ E:=λ_ _ _ _ _ _ _ _ _ hx=>hx.elim
def rk.here{fl:Fl}{f:Flow}(k:rk W fr pa cx g J H s K Q)(a:At W fr pa cx l [] g J H s)(hk:K fl l H)(hf:Rv W.P g J fl f):Q f s:=k g J H fl l f s hk hf a Step.refl (bu.refl s)
structure Fm(A:Around)(fr:List Env)(cx:Cx):Prop where
 frames:A.frames=some fr
 top:∃outer,fr=cx.env::outer
 frame:∃L,cx.env.frame=some L
 nso:cx.nso=[]
def mf(fm:Fm A fr cx)(h:mE kd cx.ns [] p e=true):mE kd cx.ns cx.nso p e=true:=by rw[fm.nso];exact h
def Rw(fm:Fm A fr cx)(h:mT kd cx.ns [] p e=true):mT kd cx.ns cx.nso p e=true:=by rw[fm.nso];exact h
def Rx(fm:Fm A fr cx)(h:kC kd cx.ns [] p e=true):kC kd cx.ns cx.nso p e=true:=by rw[fm.nso];exact h
def o7.stepP{pv:List Addr}(x:o7 P g J cx l lo h)(hp:∀a∈cx.pv,a∉owned J H)(st:Step pv g J H h g' J' H' h')(hq:∀a∈cx.pv,a∉pv):o7 P g' J' cx l lo h':=by
 have kp:∀a∈cx.pv,∀o,h.get? a=some o->∃o',h'.get? a=some o'/\o'.data=o.data:=λa m o e=>let ⟨o',e',_,d⟩:=(st.keep a o e (hp a m) (hq a m)).data;⟨o',e',d⟩;refine⟨x.fk,x.gl,x.bl,x.len,?_,λi y hi hk=>?_,λi y v hi hk hv=>?_,x.ok⟩
 .obtain⟨m,hn,hm⟩:=x.loc
  refine⟨m,Ns.kept hn (kp _ zw),λi y v hi hk hl=>?_⟩;obtain⟨z,e,r⟩:=hm i y v hi hk hl;exact⟨z,e,st.rep r⟩
 .obtain⟨c,z,e,q,r⟩:=x.cel i y hi hk
  refine⟨c,z,e,IsCell.kept q (kp _ (zx _ (bM e))),λv hv=>?_⟩;obtain⟨u,e1,r1⟩:=r v hv;exact⟨u,e1,st.rep r1⟩
 .obtain⟨c,z,e,q,r⟩:=x.fre i y v hi hk hv
  exact⟨c,z,e,IsCell.kept q (kp _ (zx _ (bM e))),st.rep r⟩
def At.stepP{pv:List Addr}(x:At W fr pa cx l lo g J H s)(b:BAt W fr pa g' J' H' s')(st:Step pv g J H s.heap g' J' H' s'.heap)(hq:∀a∈pv,a∉pa):At W fr pa cx l lo g' J' H' s':=
 ⟨b,x.loc.stepP (λa m=>(x.prv a (x.pvs a m)).2.1) st (λa m q=>hq a q (x.pvs a m)),x.pvs⟩
def j0.noted(fm:Fm A fr cx)(k:j0 W fr pa cx g J H s X E):j0 W fr pa cx g J H s X (notedBy W.M A cx.env (cameBackBy W.M A cx.env E)):=by
 intro g2 J2 H2 l2 c fs e xa s2 hx he hd ha hst hs;obtain⟨outer,ho⟩:=fm.top;obtain⟨L,hL⟩:=fm.frame;refine qZ fm.frames ho hL ha.toBAt he λh3 xb s3 n3 x3 t3 b3 st3=>tz b3 x3 t3 λh4 x4 t4 b4 st4=>?_;have np:∀a∈xb,a∉pa:=λa m=>(x3.new a m).2.2.1;have st5:=(st3.weaken s3).trans st4;have dd:∀a∈xb,fe J H s.heap a:=λa m=>by
  rcases n3 a m with z | z
  .exact hd a z
  .exact hst.deadO (.inl z)
 exact k g2 J2 H2 l2 c fs e xb _ hx x4 dd (ha.stepP b4 st5 np) (hst.over st5 dd) (hs.trans ⟨rfl,rfl,rfl⟩)
def At.same(x:At W fr pa cx l lo g J H s)(b:BAt W fr pa g J H s')(kp:∀a∈cx.pv,∀o,s.heap.get? a=some o->s'.heap.get? a=some o):At W fr pa cx l lo g J H s':=by
 refine⟨b,⟨x.loc.fk,x.loc.gl,x.loc.bl,x.loc.len,?_,λi y hi hk=>?_,λi y v hi hk hv=>?_,x.loc.ok⟩,x.pvs⟩
 .obtain⟨m,hn,hm⟩:=x.loc.loc
  exact⟨m,hn.at' (kp _ zw),hm⟩
 .obtain⟨c,z,e,q,r⟩:=x.loc.cel i y hi hk
  exact⟨c,z,e,Heap.IsCell.keep q (kp _ (zx _ (bM e))),r⟩
 .obtain⟨c,z,e,q,r⟩:=x.loc.fre i y v hi hk hv
  exact⟨c,z,e,Heap.IsCell.keep q (kp _ (zx _ (bM e))),r⟩
end
section
variable{kd:Kd}{ns:List Str}{st:Stmt}
variable{m:Stmt->Prop}
def D0{i:Nat}(h:mS kd ns (.asg i p) st=true)(k:∀x px value pos,nX kd ns false i (.Name x px)=true->(tJ value=false\/isComp p=true)->mE kd ns [] p value=true->m (.Assign [.Name x px] value pos)):m st:=
 nZ h λt v q h=>fK (m:=λt=>nX kd ns false i t=true->m (.Assign [t] v q)) (an (an (an h).1).1).1 (λx px _ h1=>k x px v q h1 ((or_eq_true_iff.mp (an (an h).1).2).imp bn id) (an h).2) (an (an (an h).1).1).2
def Af{ts:List Nat}(h:mS kd ns (.asgs ts p) st=true)(k:∀es n tp value pos,gh kd ns false ts es=true->HZ value=true->ts.Nodup->mE kd ns [] p value=true->m (.Assign [.Tuple es n tp] value pos)):m st:=
 nZ h λ_ v q h=>Dn (m:=λt=>m (.Assign [t] v q)) h λes n tp h=>k es n tp v q (an (an (an h).1).1).1 (an (an (an h).1).1).2 (zG (an (an h).1).2) (an h).2
def Ag{n:Nat}(h:mS kd ns (.seta o n p) st=true)(k:∀ov ap value pos,mE kd ns [] o ov=true->mE kd ns [] p value=true->m (.Assign [.Attribute ov (fT n) ap] value pos)):m st:=
 nZ h λ_ v q h=>jX (m:=λt=>m (.Assign [t] v q)) h λov _ ap h=>ge (m:=λn=>m (.Assign [.Attribute ov n ap] v q)) (an (an h).1).1 (k ov ap v q (an (an h).1).2 (an h).2)
def Ah(h:mS kd ns (.seti o i p) st=true)(k:∀ov iv sp value pos,mE kd ns [] o ov=true->mE kd ns [] i iv=true->mE kd ns [] p value=true->m (.Assign [.Subscript ov iv sp] value pos)):m st:=
 nZ h λ_ v q h=>u8 (m:=λt=>m (.Assign [t] v q)) (an h).1 λov iv sp h1 h2=>k ov iv sp v q h1 h2 (an h).2
def D1(h:mS kd ns (.exp p) st=true)(k:∀v pos,tJ v=false->mE kd ns [] p v=true->m (.Expr v pos)):m st:=DX h λv q h=>k v q (bn (an h).1) (an h).2
def D2(h:mS kd ns (.ret p) st=true)(k:∀v pos,mE kd ns [] p v=true->m (.Return (some v) pos)):m st:=vy h λ_ q h=>pK (mo:=λv=>m (.Return v q)) h λv=>k v q
def Ai(h:mS kd ns .retn st=true)(k:∀pos,m (.Return none pos)):m st:=vy h λ_ q h=>Dk (m:=λv=>m (.Return v q)) h (k q)
def vz{g:Nat}{args:de}(h:mS kd ns (.raise g args) st=true)(k:∀x p as cp pos,mE kd ns [] (.glb g) (.Name x p)=true->kC kd ns [] args as=true->m (.Raise (some (.Call (.Name x p) as [] cp)) none pos)):m st:=
 DY h λ_ q h=>mw (m:=λv=>m (.Raise (some v) none q)) h λf as p h=>fK (m:=λf=>mE kd ns [] (.glb g) f=true->m (.Raise (some (.Call f as [] p)) none q)) (an (an h).1).1 (λx px _ h1=>k x px as p q h1 (an h).2) (an (an h).1).2
def D3(h:mS kd ns (.ite t a b) st=true)(k:∀t' a' b' pos,mT kd ns [] t t'=true->rZ kd ns a a'=true->rZ kd ns b b'=true->m (.If t' a' b' pos)):m st:=Ru h λt' a' b' q h=>k t' a' b' q (an (an h).1).1 (an (an h).1).2 (an h).2
def Aj(h:mS kd ns (.whil t b) st=true)(k:∀t' b' pos,mT kd ns [] t t'=true->rZ kd ns b b'=true->m (.While t' b' [] pos)):m st:=DZ h λt' b' q h=>k t' b' q (an h).1 (an h).2
def D4{ts:List Nat}(h:mS kd ns (.for_ ts it b) st=true)(k:∀tg rT b' pos,rg kd ns ts tg=true->nJ rT=true->mE kd ns [] it rT=true->rZ kd ns b b'=true->m (.For tg rT b' [] pos)):m st:=
 MK h λtg rT b' q h=>k tg rT b' q (an (an (an h).1).1).1 (an (an (an h).1).1).2 (an (an h).1).2 (an h).2
def Ak(h:mS kd ns .cont st=true)(k:∀pos,m (.Continue pos)):m st:=tK (show Kn st=true from h) zt λq _=>k q
def D5(h:mS kd ns .brk st=true)(k:∀pos,m (.Break pos)):m st:=DU (show Rs st=true from h) zt λq _=>k q
def D6{g v:Nat}(h:mS kd ns (.try_ b g v hh) st=true)(k:∀b' x p n hb hpos pos,mE kd ns [] (.glb g) (.Name x p)=true->ns[v]?=some n->kd n=some .local->Tt kd ns v hh hb=true->rZ kd ns b b'=true->m (.Try b' [.ExceptHandler (some (.Name x p)) (some n) hb hpos] [] [] pos)):m st:=
 ML h λb' t n hb hp q h=>let h3:=an (an (an h).1).1;let h4:=an h3.1;fK (m:=λt=>mE kd ns [] (.glb g) t=true->m (.Try b' [.ExceptHandler (some t) (some n) hb hp] [] [] q)) (an h4.1).1 (λx p _ h5=>k b' x p n hb hp q h5 (ze.mp h4.2) (ze.mp h3.2) (an (an h).1).2 (an h).2) (an h4.1).2
def D7{st:List Stmt}(h:rZ kd ns .z st=true):st=[]:=by
 exact isEmpty_iff.mp h
def Al{st:List Stmt}{m:List Stmt->Prop}(h:rZ kd ns (.k p ps) st=true)(k:∀x r,mS kd ns p x=true->rZ kd ns ps r=true->m (x::r)):m st:=by
 cases st with
 |nil=>exact ff h
 |cons x r=>exact u6 h (k x r)
def tM{ts:List Nat}(h:rg kd ns ts tg=true):(∃t,ts=[t]/\nX kd ns false t tg=true)\/(∃t u Sr es k p,ts=t::u::Sr/\tg=.Tuple es k p/\gh kd ns false ts es=true):=by
 cases ts with
 |nil=>exact ff h
 |cons t ts=>cases ts with
  |nil=>exact .inl ⟨t,rfl,h⟩
  |cons u ts=>exact nO (m:=λtg=>_\/(∃t' u' Sr es k p,t::u::ts=t'::u'::Sr/\tg=.Tuple es k p/\gh kd ns false (t::u::ts) es=true)) h zt λes k p h=>.inr ⟨t,u,ts,es,k,p,rfl,rfl,h⟩
end
section
variable{prog:Program}{w:World}{R:Result->Shared->Prop}{s:Shared}{env:Env}
def vA{value:Expr}{x:Str}{n:Nat}:∃b,swapsWith value (some (.Name x p)) n env=pure b/\(tJ value=false->b=false):=by
 induction value using Expr.casesOn<;>exact⟨_,rfl,by intro h;first | rfl | injection h⟩
def vB{value:Expr}{n:Nat}(h:tJ value=false):swapsWith value none n env=pure false:=by
 induction value using Expr.casesOn<;>first | rfl | injection h
def vC{value:Expr}{n:Nat}:swapsWith value (some (.Attribute o a p)) n env=pure false:=by induction value using Expr.casesOn<;>rfl
def Am{value:Expr}{n:Nat}:swapsWith value (some (.Subscript o i p)) n env=pure false:=by induction value using Expr.casesOn<;>rfl
def pL{value:Expr}{k:Nat}{n:Nat}:swapsWithSole [.Tuple es k p] value n env=pure false:=by induction value using Expr.casesOn<;>rfl
def vD{target:Expr}{body:List Stmt}(I:Nat->Shared->Prop)(turn:∀n s,I n s->wpAny (model prog w) A (pyNext it) (λr s₁=>match r with
   |none=>R (.ok .next) s₁
   |some v=>wpAny (model prog w) A (letOwnedTupleGo target it v) (λ_ s₁=>wpAny (model prog w) A (assign target env v) (λ_ s₂=>wpAny (model prog w) A (execs body env) (λf s₃=>match f with
     |.next | .cont=>∃m,m<n/\I m s₃
     |.brk=>R (.ok .next) s₃
     |.ret v=>R (.ok (.ret v)) s₃) (notedBy (model prog w) A env λe s'=>R (.error e) s') s₂) (notedBy (model prog w) A env λe s'=>R (.error e) s') s₁) (notedBy (model prog w) A env λe s'=>R (.error e) s') s₁) (notedBy (model prog w) A env λe s'=>R (.error e) s') s) (n:Nat) (h:I n s):codeAny (model prog w) A (.forLoop target it body [] env) R s:=by
 refine codeAny_loop' rfl I (λn s hI=>?_) n h;show wpAny _ _ ((forTurn target it body [] env).onRaise (λx=>do noteFrame x env;theTreesLotGoes x)) _ _ s;refine wpAny_noted ?_;simp only[forTurn];refine zy (zL (zy (wpAny_onRaise (zY (turn n s hI) (λr s₁ h₁=>?_) λ_ _ h'=>zL h'))))
 cases r with
 |none=>exact zq (.inr ⟨rfl,codeAny_block (wpAny_execs_nil h₁)⟩)
 |some v=>
  refine zy (zY h₁ (λ_ s₁ h₁=>?_) λ_ _ h'=>h');refine zy (zY h₁ (λ_ s₂ h₂=>zy (zY h₂ (λf s₃ h₃=>?_) λ_ _ h'=>h')) λ_ _ h'=>h')
  cases f with
  |next=>exact zq (.inl ⟨rfl,h₃⟩)
  |cont=>exact zq (.inl ⟨rfl,h₃⟩)
  |brk=>exact zq h₃
  |ret v=>exact zq h₃
def Ry{a b:Nat}(h:(a != b)=false):a=b:=ze.mp (by rwa [bne,Bool.not_eq_false']at h)
noncomputable def UM{α:Type}(b1 b2 b3 b4 b5:Bool)(u:Sem Unit)(n:α):Sem (Option α):=do
 if b1 then return none
 if b2 then return none
 if b3 then return none
 if b4 then return none
 if b5 then u
 return some n
def MM{α:Type}(b1 b2 b3 b4 b5:Bool)(u:Sem Unit)(n:α)(h:b4=true\/b5=false):UM b1 b2 b3 b4 b5 u n=pure none\/(b3=false/\UM b1 b2 b3 b4 b5 u n=pure (some n)):=
 match b1,b2,b3,b4,b5,h with
 |true,_,_,_,_,_=>.inl rfl
 |false,true,_,_,_,_=>.inl rfl
 |false,false,true,_,_,_=>.inl rfl
 |false,false,false,true,_,_=>.inl rfl
 |false,false,false,false,false,_=>.inr ⟨rfl,rfl⟩
 |false,false,false,false,true,h=>h.elim ff ff'
def Ie{k:Nat}{value:Expr}(h:value.ctorIdx≠25):swappedStores [.Tuple es k p] value env=pure none:=by
 revert h
 induction value using Expr.casesOn<;>intro h<;>first | rfl | exact absurd rfl h
def o9{es:List Expr}{k:Nat}{value:Expr}(h:HZ value=true):swappedStores [.Tuple es k p] value env=pure none\/∃names,swappedStores [.Tuple es k p] value env=pure (some names)/\names.length=es.length/\∃F:Expr->Option Str,names=es.filterMap F/\∀id pos,F (.Name id pos)=if env.kindOf id==some .local&&pos.line==(es.head?.map (·.pos.line)).getD 0 then some id else none:=by
 by_cases c:value.ctorIdx=25
 .refine Expr.Tuple.elim (motive_1:=λvalue=>HZ value=true->(swappedStores [.Tuple es k p] value env=pure none\/∃names,swappedStores [.Tuple es k p] value env=pure (some names)/\names.length=es.length/\∃F:Expr->Option Str,names=es.filterMap F/\∀id pos,F (.Name id pos)=if env.kindOf id==some .local&&pos.line==(es.head?.map (·.pos.line)).getD 0 then some id else none)) value c (λvs k2 p2 h=>?_) h
  have h:vs.all (foldedForSure 8)=true\/vs.all (constantsAlone 8)=false:=(or_eq_true_iff.mp h).imp id bn;have key:swappedStores [.Tuple es k p] (.Tuple vs k2 p2) env=UM _ _ _ (vs.all (foldedForSure 8)) (vs.all (constantsAlone 8)) _ (es.filterMap _):=rfl;exact (MM _ _ _ _ _ _ _ h).imp (λq=>key.trans q) λq=>⟨_,key.trans q.2,Ry (Bool.or_eq_false_iff.mp q.1).1,_,rfl,λ_ _=>rfl⟩
 .exact .inl (Ie c)
end
def An{ts:List Nat}:∀{vs:List V} {l:Loc} {t:Nat} {v:Option V},t∉ts->dD ts vs (l.set t v)=(dD ts vs l).map (·.set t v):=by
 induction ts with
 |nil=>intro vs l t v _;cases vs<;>rfl
 |cons u ts ih=>
  intro vs l t v h
  cases vs with
  |nil=>rfl
  |cons w vs=>
   simp only[mem_cons,not_or]at h;show dD ts vs ((l.set t v).set u (some w))=(dD ts vs (l.set u (some w))).map _;rw[List.set_comm _ _ h.1,ih h.2]
def vE{ts:List Nat}:∀{vs:List V} {l:Loc} {t:Nat} {v:V},ts.length=vs.length->dD (ts++[t]) (vs++[v]) l=(dD ts vs l).map (·.set t (some v)):=by
 induction ts with
 |nil=>intro vs l t v h;cases vs with
  |nil=>rfl
  |cons _ _=>injection h
 |cons u ts ih=>intro vs l t v h;cases vs with
  |nil=>injection h
  |cons w vs=>exact ih (Nat.succ.inj h)
def pM{ts:List Nat}:∀{vs:List V} {l l':Loc},dD ts vs l=some l'->ts.length=vs.length:=by
 induction ts with
 |nil=>intro vs l l' h;cases vs with
  |nil=>rfl
  |cons _ _=>injection h
 |cons u ts ih=>intro vs l l' h;cases vs with
  |nil=>injection h
  |cons w vs=>exact zi Nat.succ (ih h)
def Ao{ts:List Nat}:∀{vs:List V} {l:Loc},ts.length=vs.length->ts.Nodup->dD ts.reverse vs.reverse l=dD ts vs l:=by
 induction ts with
 |nil=>
  intro l2
  cases l2 with
  |nil=>
   intro _ _ _;exact rfl
  |cons _ _=>
   intro _ h _;simp at h
 |cons t ts ih=>
  intro l2
  cases l2 with
  |nil=>
   intro _ h _;simp at h
  |cons v vs=>
   intro l h nd;have hl:ts.length=vs.length:=by simpa using h
   rw[zS]at nd;rw[zB,zB,vE (by simpa using hl),ih hl nd.2];show _=dD ts vs (l.set t (some v));rw[An nd.1]
def lY(kd:Kd)(ns:List Str):List Nat->List Str->Prop
 |[],[]=>True
 |t::ts,x::xs=>ns[t]?=some x/\kd x=some .local/\lY kd ns ts xs
 |_,_=>False
def vF{ns:List Str}{ts:List Nat}:∀{xs:List Str} {t:Nat} {x:Str},lY kd ns ts xs->ns[t]?=some x->kd x=some .local->lY kd ns (ts++[t]) (xs++[x]):=by
 induction ts with
 |nil=>
  intro l2
  cases l2 with
  |nil=>
   intro _ _ _ h1 h2;exact⟨h1,h2,trivial⟩
  |cons _ _=>
   intro _ _ h _ _;exact h.elim
 |cons _ _ ih=>
  intro l2
  cases l2 with
  |nil=>
   intro _ _ h _ _;exact h.elim
  |cons _ _=>
   intro _ _ h h1 h2;exact⟨h.1,h.2.1,ih h.2.2 h1 h2⟩
def pO:∀{ts:List Nat} {xs:List Str},lY kd ns ts xs->lY kd ns ts.reverse xs.reverse
 |[],[],_=>trivial
 |[],_::_,h=>h.elim
 |_::_,[],h=>h.elim
 |t::ts,x::xs,h=>by
  rw[zB,zB];exact vF (pO h.2.2) h.1 h.2.1
def D8{n:Nat}{ts:List Nat}{F:Expr->Option Str}(hF:∀id pos,F (.Name id pos)=if kd id==some .local&&pos.line==n then some id else none):∀{es:List Expr},gh kd ns false ts es=true->(es.filterMap F).length=es.length->lY kd ns ts (es.filterMap F):=by
 induction ts with
 |nil=>
  intro l2
  cases l2 with
  |nil=>exact λ_ _=>trivial
  |cons _ _=>exact λh _=>ff h
 |cons t ts ih=>
  intro l2
  cases l2 with
  |nil=>exact λh _=>ff h
  |cons e es=>
   intro h hl;have h:=an h;revert hl;apply vl h.1;intro x p h1 hl
   cases q:(kd x==some .local&&p.line==n)with
   |true=>
    have e:F (.Name x p)=some x:=(hF x p).trans (if_pos q);rw[List.filterMap_cons_some e]at hl ⊢;exact⟨ze.mp (an h1).1,ze.mp (an q).1,ih h.2 (Nat.succ.inj hl)⟩
   |false=>
    rw[List.filterMap_cons_none ((hF x p).trans (if_neg λz=>ff (q.symm.trans z)))]at hl;exact absurd (hl▸List.length_filterMap_le F es) (Nat.not_succ_le_self _)
section
variable{l lo:Loc}{H':Hp}{s:Shared}{d:Nat}
def D9:∀{ts:List Nat} {xs:List Str} {vs:List V} {ys:List Value} {l l':Loc} {s:Shared} {Q:Unit->Shared->Prop},At W fr pa cx l [] g J H s->lY (kdOf cx) cx.ns ts xs->dD ts vs l=some l'->ah W.P g J vs ys->(∀h' t',At W fr pa cx l' [] g J H { s with heap:=h',toks:=t' }->Step cx.pv g J H s.heap g J H h'->Q () { s with heap:=h',toks:=t' })->wpAny W.M A (assignInOrder (xs.map λn=>bindName cx.env n) ys) Q E s:=by
 intro ts
 induction ts with
 |nil=>
  intro xs vs ys l l' s Q a ht hb r h
  cases xs with
  |cons _ _=>exact ht.elim
  |nil=>cases vs with
   |cons _ _=>injection hb
   |nil=>
    rw[aB]at r;subst r;injection hb;exact wpAny_assignInOrder_none (h s.heap s.toks a Step.refl)
 |cons t ts ih=>
  intro xs vs ys l l' s Q a ht hb r h
  cases xs with
  |nil=>exact ht.elim
  |cons x xs=>cases vs with
   |nil=>injection hb
   |cons v vs=>
    obtain⟨y,ys,rfl,r1,r2⟩:=ad.mp r;refine wpAny_assignInOrder_more (wpAny_bindName (jZ (loc:=false) a ht.1 (.inl ht.2.1) r1 λh1 t1 a1 st1=>?_));exact ih a1 ht.2.2 hb r2 λh2 t2 a2 st2=>h h2 t2 a2 (st1.trans st2)
def rm(h:Heap)(e:Addr):Prop:=∃d t,h.get? e=some { cls:=.ref 285,dict:=some d,data:=.fields #[.ref t,.none,.none,.none,.bool false,.none] }
def xK(W:Wd)(A:Around)(fr:List Env)(pa:List Addr):Prop:=
 ∀(g:IH) (J:cy) (H:Hp) (s:Shared) (vs:List V) (xs:List Value) (Q E:QP),BAt W fr pa g J H s->ah W.P g J vs xs->vs.length=2->(∀e xa g' s',dh W g' J H s'.heap pa xa e 285 vs->rm s'.heap e->(∀a∈xa,fe J H s.heap a)->BAt W fr pa g' J H s'->Step [] g J H s.heap g' J H s'.heap->bu s s'->Q (.ref e) s')->Q4 W.K (.ref 285)=true/\wpAny W.M A (call (.ref 285) xs) Q E s
def mB(W:Wd)(A:Around)(fr:List Env)(pa:List Addr):Prop:=
 ∀(env:Env) (x:Sem Value) (Q:Flow->Shared->Prop) (E:QP) (s0:Shared),wpAny W.M A x (λy s=>∃g J H e xa fs,y=.ref e/\BAt W fr pa g J H s/\dh W g J H s.heap pa xa e 285 fs/\rm s.heap e/\E (.ref e) s) E s0->wpAny W.M A (raiseStmt env (some x) none) Q E s0
def xL(W:Wd)(A:Around)(fr:List Env)(pa:List Addr)(C:ba):Prop:=
 ∀(cx:Cx) (l:Loc) (g0 g:IH) (J0 J:cy) (H0 H:Hp) (s0 s:Shared) (gk v c:Nat) (h:bh) (hb:List Stmt) (x n:Str) (p pos:Pos) (fs:List V) (e:Addr) (xa:List Addr) (K:KS) (X:XS) (Q:Flow->Shared->Prop) (E:QP),Fm A fr cx->mE (kdOf cx) cx.ns [] (.glb gk) (.Name x p)=true->cx.ns[v]?=some n->cx.env.kindOf n=some .local->Tt (kdOf cx) cx.ns v h hb=true->At W fr pa cx l [] g J H s->dh W g J H s.heap pa xa e c fs->(∀a∈xa,fe J0 H0 s0.heap a)->Step cx.pv g0 J0 H0 s0.heap g J H s.heap->bu s0 s->af gk=some (.base c)->dT C h (l.set v (some (.exn c fs))) H (λfl l' H'=>K fl (l'.set v none) H') X->rk W fr pa cx g0 J0 H0 s0 K Q->wpAny W.M A (noteFrame (.ref e) cx.env) (λ_ s₂=>wpAny W.M A (setFlight (.ref e) none) (λ_ s₃=>wpAny W.M A (handleBy (.ref e) cx.env [.ExceptHandler (some (.Name x p)) (some n) hb pos]) Q E s₃) E s₂) E s
def mh{as:List Expr}:exec (.Raise (some (.Call f as [] cp)) none pos) env=(do standAt pos;raiseStmt env (some (do let v <-eval (.Call f as [] cp) env;standAt pos;pure v)) none):=by rfl
def Rz(h:dJ v=some xs):fG 0 H v=some (xs,H):=(Bx λn q=>by subst q;injection h).trans (by rw[h];rfl)
end
def uD(W:Wd)(A:Around)(fr:List Env)(d:Nat)(p:PS):Prop:=∀{st:Stmt} {pa:List Addr} {cx:Cx} {l:Loc} {g:IH} {J:cy} {H:Hp} {s:Shared} {E:QP} {Q:Flow->Shared->Prop} {K:KS} {X:XS},Fm A fr cx->mS (kdOf cx) cx.ns p st=true->At W fr pa cx l [] g J H s->wS (Call W d) p l H K X->rk W fr pa cx g J H s K Q->j0 W fr pa cx g J H s X E->wpAny W.M A (exec st cx.env) Q E s
def n7(W:Wd)(A:Around)(fr:List Env)(d:Nat)(p:bh):Prop:=∀{st:List Stmt} {pa:List Addr} {cx:Cx} {l:Loc} {g:IH} {J:cy} {H:Hp} {s:Shared} {E:QP} {Q:Flow->Shared->Prop} {K:KS} {X:XS},Fm A fr cx->rZ (kdOf cx) cx.ns p st=true->At W fr pa cx l [] g J H s->dT (Call W d) p l H K X->rk W fr pa cx g J H s K Q->j0 W fr pa cx g J H s X E->wpAny W.M A (execs st cx.env) Q E s
def n7.run(q:n7 W A fr d p){st:List Stmt}{cx:Cx}{l:Loc}{Q:Flow->Shared->Prop}{K:KS}{X:XS}(fm:Fm A fr cx)(hm:rZ (kdOf cx) cx.ns p st=true)(a:At W fr pa cx l [] g J H s)(h:dT (Call W d) p l H K X)(k:rk W fr pa cx g J H s K Q)(hx:j0 W fr pa cx g J H s X E):wpAny W.M A (execs st cx.env) Q E s:=q fm hm a h k hx
section
variable{d:Nat}
def Ig(h:isComp p=true):∃nt elt it aF,p=.comp nt elt it aF:=PE.comp.elim (motive_1:=λp=>∃nt elt it aF,p=.comp nt elt it aF) p (eq_of_beq_eq_true h) λ_ _ _ _=>⟨_,_,_,_,rfl⟩
def RA(aG:eq d A fr){i:Nat}:uD W A fr d (.asg i p):=by
 intro st pa cx l g J H s E Q K X fm hm a h k hx;apply D0 hm;intro x px value pos h1 h2 h3;obtain⟨b,hb,Ss⟩:=vA (value:=value) (x:=x) (p:=px) (n:=pos.line) (env:=cx.env)
 cases b with
 |false=>
  refine wpAny_Assign_Name (gi aG p (mf fm h3) a h (λg1 J1 H1 v y s1 aU r1 a1 st1 aV=>?_) (hx.toX a)) hb;have h1':=h1;simp only[qW,and_eq_true,beq_iff_eq,or_eq_true,not_eq_true']at h1';refine jZ (loc:=false) a1 h1'.1 (h1'.2.imp id λq=>⟨rfl,q.2,rfl⟩) r1 λh' t a2 st2=>?_;exact k g1 J1 H1 .next _ .next _ aU rfl a2 ((st1.weaken λ_ m=>by simp at m).trans st2) (aV.trans ⟨rfl,rfl,rfl⟩)
 |true=>
  have hlc:tJ value=true:=by
   cases q:tJ value with
   |true=>rfl
   |false=>exact absurd (Ss q) (by decide)
  obtain⟨nt,elt,it,aF,rfl⟩:=Ig (h2.resolve_left λq=>ff' (hlc.symm.trans q));revert hb;apply te h3;intro mi tg rT ifs scope Su ts FV m1 wo Vr m2 m3 hb;have sc:=xw Vr;obtain⟨cl,c1,c2,c3⟩:=nY a sc;rw[exec_Assign_Name_used _ _ _ _ hb];refine zy (zL (zy ?_));show wpAny _ A (do let _ <-comprehension (.ListComp mi [⟨tg,rT,ifs,0⟩] scope Su) scope cx.env _ (newList []) false (eval rT cx.env) (some (assign (.Name x px) cx.env))) _ _ s;refine zy (zY (wpAny_comprehension_free (use:=some (assign (.Name x px) cx.env)) (Q:=λ_ s'=>Q .next s') rfl (DF FV) c1 sc.kind sc.loc (gi aG it (mf fm m1) a h (λg1 J1 H1 v y s1 aU r1 a1 st1 aV=>?_) (hx.toX a))) (λ_ s' hq=>zq (zq hq)) λ_ _ e=>e);unfold hU at aU;split at aU
  .rename_i xs H' he
   split at aU
   .rename_i hz
    refine xz aG.hand a1 he hz r1 wo sc c2 c3 (λC=>Kh sc a.loc.fk m2 m3 (λh1 h2 h3 h4 h5=>gi aG elt h1 h2 h3 h4 h5) (λh1 h2 h3 h4 h5=>Ms aG aF h1 h2 h3 h4 h5)) (λu H k q=>je q) aU (λD C g' J' H2 vs m' s' hk a' r' st' Ob hn nC np dC=>?_);show wpAny _ A (assign (.Name x px) cx.env (.ref D)) _ _ s';refine iT (loc:=false) (t:=i) a' h1 (.inr rfl) r' λh2 t2 a2 st2=>?_;have nv:C∉cx.pv:=λm=>np (a'.pvs _ m);refine⟨m',Ns.keptK hn λo e=>st2.keep C o e nC.2 nv,λh3 sb=>?_⟩;obtain⟨a3,k3⟩:=DG a2 sb nC np;have st3:Step cx.pv g1 J1 H1 s1.heap g' J' H2 h2:=(st'.weaken λ_ m=>by simp at m).trans st2;have st4:Step cx.pv g1 J1 H1 s1.heap g' J' H2 h3:=⟨st3.gsub,st3.gnew,st3.onew,λb o e n m=>(st3.keep b o e n m).map λo' e'=>k3 b o' (λq=>dC.elim (λz=>by rw[<-q,e]at z;injection z) (λz=>n (q▸z))) e',st3.phi,λb m n e=>by
     obtain⟨o,ho⟩:=zF.mp (st3.live b m n e);rw[k3 b o (λq=>nv (q▸m)) ho];simp⟩
    exact k g' J' H2 .next _ .next _ hk rfl a3 ((st1.weaken λ_ m=>by simp at m).trans st4) (aV.trans (Ob.trans ⟨rfl,rfl,rfl⟩))
   .exact aU.elim
  .exact aU.elim
def MN(aG:eq d A fr){ts:List Nat}:uD W A fr d (.asgs ts p):=by
 intro st pa cx l g J H s E Q K X fm hm a h k hx;apply Af hm;intro es kk tp value pos h1 h2 hnd h3
 rcases o9 (env:=cx.env) (es:=es) (k:=kk) (p:=tp) h2 with hw |⟨names,hw,hnl,F,hnm,hF⟩
 .refine Assign_Tuple (gi aG p (mf fm h3) a h (λg1 J1 H1 v y s1 aU r1 a1 st1 aV=>?_) (hx.toX a)) pL hw
  unfold lM at aU;split at aU
  .rename_i vs
   split at aU
   .rename_i l' hb
    refine lb (loc:=false) aG.hand (.inr rfl) a1 h1 hb r1 λh' t a2 st2=>?_;exact k g1 J1 H1 .next _ .next _ aU rfl a2 ((st1.weaken λ_ m=>by simp at m).trans st2) (aV.trans ⟨rfl,rfl,rfl⟩)
   .exact aU.elim
  .exact aU.elim
 .refine Assign_Tuple_swapped (names:=names) (gi aG p (mf fm h3) a h (λg1 J1 H1 v y s1 aU r1 a1 st1 aV=>?_) (hx.toX a)) pL hw
  unfold lM at aU;split at aU
  .rename_i vs
   split at aU
   .rename_i l' hb
    obtain⟨T,ys,n,rfl,t1,t2⟩:=cV.mp r1;have hnm2:lY (kdOf cx) cx.ns ts names:=by
     subst hnm;exact D8 (n:=(es.head?.map (·.pos.line)).getD 0) hF h1 hnl
    have hlen:names.length=ys.toArray.size:=by
     have e1:=pM hb;have e2:=au t2;have e3:=(qY (env:=cx.env) h1).1;have e4:ts.length=es.length:=by
      have:=(qY (env:=cx.env) h1).2.2;have:=zi length this;simp only[length_map]at this
      lia
     rw[zW]
     lia
    rw[hlen];refine wpAny_unpackItems_tuple aG.hand (eU (a1.rel.sub _ _ t1)) λh' he=>?_;have kp:∀b o,s1.heap.get? b=some o->h'.get? b=some o:=λb o e=>he b o (ne_of_lt (lt_size e)) e;obtain⟨b2,st2⟩:=a1.toBAt.grow (t:=s1.toks) kp;have hb':=(Ao (l:=l) (pM hb) hnd).trans hb;refine D9 (a1.step b2 st2) (pO hnm2) hb' (sM t2) λh3 t3 a3 st3=>?_;exact k g1 J1 H1 .next _ .next _ aU rfl a3 ((st1.weaken λ_ m=>by simp at m).trans ((st2.weaken λ_ m=>by simp at m).trans st3)) (aV.trans ⟨rfl,rfl,rfl⟩)
   .exact aU.elim
  .exact aU.elim
def MO(aG:eq d A fr){n:Nat}:uD W A fr d (.seta o n p):=by
 intro st pa cx l g J H s E Q K X fm hm a h k hx;apply Ag hm;intro ov ap value pos h1 h2;refine plainObj_wpAny_Assign_Attribute (gi aG p (mf fm h2) a h (λg1 J1 H1 v y s1 aU r1 a1 st1 aV=>?_) (hx.toX a)) vC;refine gi aG o (mf fm h1) a1 aU (λg2 J2 H2 vo yo s2 gZ r2 a2 st2 fz=>?_) ((hx.toX a).trans st1 aV);unfold fb at gZ;split at gZ
 .rename_i H3 he
  refine Hq a2.toBAt he r2 (st2.rep r1) λg3 J3 s3 b3 st3 sm3=>?_;exact k g3 J3 H3 .next _ .next s3 gZ rfl (a2.step b3 st3) (((st1.trans st2).trans st3).weaken λ_ m=>by simp at m) ((aV.trans fz).trans sm3)
 .exact gZ.elim
def MP(aG:eq d A fr):uD W A fr d (.seti o i p):=by
 intro st pa cx l g J H s E Q K X fm hm a h k hx;apply Ah hm;intro ov iv sp value pos h1 h2 h3;refine wpAny_Assign_Subscript (gi aG p (mf fm h3) a h (λg1 J1 H1 v y s1 aU r1 a1 st1 aV=>?_) (hx.toX a)) Am;refine gi aG o (mf fm h1) a1 aU (λg2 J2 H2 vo yo s2 gZ r2 a2 st2 fz=>?_) ((hx.toX a).trans st1 aV);refine gi aG i (mf fm h2) a2 gZ (λg3 J3 H3 vi yi s3 oV r3 a3 st3 sm3=>?_) (((hx.toX a).trans st1 aV).trans st2 fz);unfold jk at oV;split at oV
 .rename_i H4 he
  refine Hr a3.toBAt he (st3.rep r2) r3 (st3.rep (st2.rep r1)) λg4 J4 s4 b4 st4 N7=>?_;exact k g4 J4 H4 .next _ .next s4 oV rfl (a3.step b4 st4) ((((st1.trans st2).trans st3).trans st4).weaken λ_ m=>by simp at m) (((aV.trans fz).trans sm3).trans N7)
 .exact oV.elim
def RB(aG:eq d A fr):uD W A fr d (.exp p):=by
 intro st pa cx l g J H s E Q K X fm hm a h k hx;apply D1 hm;intro v pos h1 h2;refine wpAny_Expr_any (gi aG p (mf fm h2) a h (λg1 J1 H1 v y s1 aU r1 a1 st1 aV=>?_) (hx.toX a)) (by unfold interactive;rw[a.loc.fk];rfl) (vB h1);exact k g1 J1 H1 .next _ .next s1 aU rfl a1 (st1.weaken λ_ m=>by simp at m) aV
def RC(aG:eq d A fr):uD W A fr d (.ret p):=by
 intro st pa cx l g J H s E Q K X fm hm a h k hx;apply D2 hm;intro v pos h1;refine wpAny_Return_some (gi aG p (mf fm h1) a h (λg1 J1 H1 v y s1 aU r1 a1 st1 aV=>?_) (hx.toX a));exact k g1 J1 H1 (.ret v) _ (.ret y) s1 aU ⟨y,rfl,r1⟩ a1 (st1.weaken λ_ m=>by simp at m) aV
def MQ   : uD W A fr d (.retn):=by
 intro st pa cx l g J H s E Q K X fm hm a h k hx;apply Ai hm;intro pos;exact wpAny_Return_none (k.here a h ⟨.none,rfl,dg.mpr rfl⟩)
def Ih(aG:eq d A fr){gk:Nat}{args:de}(hN:∀pa,xK W A fr pa)(hR:∀pa,mB W A fr pa):uD W A fr d (.raise gk args):=by
 intro st pa cx l g J H s E Q K X fm hm a h k hx;apply vz hm;intro x p as cp pos h1 h2;rw[mh];refine zy (zL ?_);refine GF h λc hc h=>?_;refine hR pa cx.env _ Q E s (zy (zY (Q:=λy s1=>∃g J H e xa fs,y=.ref e/\BAt W fr pa g J H s1/\dh W g J H s1.heap pa xa e 285 fs/\rm s1.heap e/\E (.ref e) s1) ?_ (λy s1 q=>zy (zL (zq q))) λ_ _ e=>e));obtain⟨n1,n2,n3⟩:=Dr h1;refine wpAny_Call_NameR (qR a n1 n2 n3 hc λy r=>?_);obtain⟨rfl,_⟩:=r;refine cR (bf h2).1 (Mr aG args cp (Rx fm h2) a h (λg1 J1 H1 vs xs s1 aU rs a1 st1 aV _=>?_) (hx.toX a));obtain⟨rfl,hl,hX⟩:=aU;obtain⟨q1,q2⟩:=hN pa g1 J1 H1 s1 vs xs (λy s1=>∃g J H e xa fs,y=.ref e/\BAt W fr pa g J H s1/\dh W g J H s1.heap pa xa e 285 fs/\rm s1.heap e/\E (.ref e) s1) E a1.toBAt rs hl (λe xa g2 s2 he hv hd b2 st2 fz=>by
  refine⟨g2,J1,H1,e,xa,vs,rfl,b2,he,hv,?_⟩;exact hx g2 J1 H1 l 285 vs e xa s2 hX he (λa m=>st1.deadO (hd a m)) (a1.step b2 st2) ((st1.trans st2).weaken λ_ m=>by simp at m) (aV.trans fz))
 exact⟨⟨a1.toBAt.kin,q1⟩,q2⟩
def RD(aG:eq d A fr){x y:bh}(Xh:n7 W A fr d x)(Xi:n7 W A fr d y):uD W A fr d (.ite t x y):=by
 intro st pa cx l g J H s E Q K X fm hm a h k hx;apply D3 hm;intro t' x' y' pos h1 h2 h3;refine wpAny_If (Kj aG t (Rw fm h1) a h (λg1 J1 H1 b s1 aU a1 st1 aV=>?_) (hx.toX a));have e0:∀a∈([]:List Addr),a∈cx.pv:=λ_ m=>by simp at m
 cases b with
 |true=>exact Xh.run fm h2 a1 aU (k.trans st1 aV e0) (hx.trans st1 aV e0)
 |false=>exact Xi.run fm h3 a1 aU (k.trans st1 aV e0) (hx.trans st1 aV e0)
abbrev WM(W:Wd)(fr:List Env)(pa:List Addr)(cx:Cx)(d:Nat)(g:IH)(J:cy)(H:Hp)(s:Shared)(t:PE)(b:bh)(X:XS)(K:KS)(n:Nat)(s':Shared):Prop:=
 ∃g' J' H' l',bZ (oY (Call W d) t X) (qu (Call W d) b X) n l' H' K/\At W fr pa cx l' [] g' J' H' s'/\Step cx.pv g J H s.heap g' J' H' s'.heap/\bu s s'
def MR(aG:eq d A fr)(Sv:n7 W A fr d b):uD W A fr d (.whil t b):=by
 intro st pa cx l g J H s E Q K X fm hm a h k hx;apply Aj hm;intro t' b' pos h1 h2;obtain⟨n,h⟩:=h;refine wpAny_While (codeAny_whileLoop (WM W fr pa cx d g J H s t b X K) ?_ n ⟨g,J,H,l,h,a,Step.refl,bu.refl s⟩);intro n s' zI;obtain⟨g',J',H',l',hw,a',st',Ob⟩:=zI
 cases n with
 |zero=>exact hw.elim
 |succ n=>
  rw[av]at hw;have x':=(hx.trans st' Ob λ_ m=>m).noted fm;refine Kj aG t (Rw fm h1) a' hw (λg1 J1 H1 c s1 aU a1 st1 aV=>?_) (x'.toX a');have st1':=st1.weaken (pv':=cx.pv) λ_ m=>by simp at m
  cases c with
  |true=>
   refine Sv.run fm h2 a1 aU (λg2 J2 H2 fl l2 f s2 gZ hf a2 st2 fz=>?_) (x'.trans st1' aV λ_ m=>m);have st3:=(st'.trans st1').trans st2;have sm3:=(Ob.trans aV).trans fz
   cases fl with
   |next=>injection hf;exact⟨n,lt_succ_self n,⟨g2,J2,H2,l2,gZ,a2,st3,sm3⟩⟩
   |cont=>injection hf;exact⟨n,lt_succ_self n,⟨g2,J2,H2,l2,gZ,a2,st3,sm3⟩⟩
   |brk=>injection hf;exact k g2 J2 H2 .next l2 .next s2 gZ rfl a2 st3 sm3
   |ret v=>
    obtain⟨y,rfl,r⟩:=hf;exact k g2 J2 H2 (.ret v) l2 (.ret y) s2 gZ ⟨y,rfl,r⟩ a2 st3 sm3
  |false=>exact wpAny_execs_nil (k g1 J1 H1 .next l' .next s1 aU rfl a1 (st'.trans st1') (Ob.trans aV))
abbrev RE(W:Wd)(fr:List Env)(pa:List Addr)(cx:Cx)(d:Nat)(wr:List Addr)(g1:IH)(J1:cy)(H1:Hp)(s1:Shared)(St:Nat->Heap->Prop)(ts:List Nat)(b:bh)(xs:List V)(K:KS)(n:Nat)(s':Shared):Prop:=
 ∃(i:Nat) (g':IH) (J':cy) (H':Hp) (l':Loc),n=xs.length-i/\i<=xs.length/\Lp W fr pa wr g1 J1 H1 s1 cx.pv g' J' H' s'/\At W fr pa cx l' [] g' J' H' s'/\St i s'.heap/\fN (cr (Call W d) ts b) (xs.drop i) l' H' K
def MS(aG:eq d A fr){ts:List Nat}(Sv:n7 W A fr d b):uD W A fr d (.for_ ts it b):=by
 intro st pa cx l g J H s E Q K X fm hm a h k hx;apply D4 hm;intro tg rT b' pos h0 FV h1 h2;refine wpAny_For (gi aG it (mf fm h1) a h (λg1 J1 H1 v y s1 aU r1 a1 st1 aV=>?_) (hx.toX a)) (DF FV);unfold kFor at aU;split at aU
 .rename_i xs hxs
  refine xy (tg:=tg) (nt:=0) a1.toBAt aG.hand (by intro q;injection q) (Rz hxs) r1 λI fp wr tok St s2 hw wn Bn ht x2 hst=>?_;have x2':Lp W fr pa wr g1 J1 H1 s1 cx.pv g1 J1 H1 s2:=⟨x2.bat,x2.st.weaken (λ_ m=>by simp at m),x2.sm,x2.nob,x2.apart,x2.dead⟩;have nwr:∀b∈wr,b∉cx.pv:=λb m q=>x2.apart b m (a1.pvs b q);refine vD (RE W fr pa cx d wr g1 J1 H1 s1 St ts b xs K) ?_ xs.length ⟨0,g1,J1,H1,l,by simp,zero_le _,x2',a1.step x2.bat x2.st,hst,aU⟩;intro n s' zI;obtain⟨i,g',J',H',l',rfl,hi,x',a',st',hf'⟩:=zI
  by_cases hlt:i<xs.length
  .have hu:xs[i]?=some xs[i]:=zo hlt
   have hdrop:xs.drop i=xs[i]::xs.drop (i+1):=List.drop_eq_getElem_cons hlt;rw[hdrop,aY]at hf';unfold cr at hf';split at hf'
   .rename_i l2 hb
    refine hw.take' (wr':=wr) (λb m=>m) wn x' ht hu st' (λg3 y3 h3 X6 ru x3 st3 gs oV Wm=>?_);have a3:=a'.stepP x3.bat Wm λb m=>x3.apart b m;have body:∀h4 t4,At W fr pa cx l2 [] g3 J' H' { s' with heap:=h4,toks:=t4 }->Step cx.pv g3 J' H' h3 g3 J' H' h4->wpAny W.M A (execs b' cx.env) (λf s₃=>match f with
      |.next | .cont=>∃m,m<xs.length-i/\RE W fr pa cx d wr g1 J1 H1 s1 St ts b xs K m s₃
      |.brk=>Q .next s₃
      |.ret v=>Q (.ret v) s₃) (notedBy W.M A cx.env λe s'=>cameBackBy W.M A cx.env E e s') { s' with heap:=h4,toks:=t4 }:=λh4 t4 a4 st4=>by
     have x4:=x3.run a4.toBAt st4 ⟨rfl,rfl,rfl⟩ (λ_ m=>m);have st4':St (i+1) h4:=hw.frame _ _ _ st3 λc q=>x3.fpk st4 a4.rel ((Bn c q).imp (λz=>⟨z,nwr c z,wn _ _ st3 c z⟩) id);refine Sv.run fm h2 a4 hf' (λg5 J5 H5 fl l5 f s5 TF TG a5 st5 Xj=>?_) j0.none;have x5:=x4.run a5.toBAt st5 Xj (λ_ m=>m);have st5':St (i+1) s5.heap:=hw.frame _ _ _ st4' λc q=>x4.fpk st5 a5.rel ((Bn c q).imp (λz=>⟨z,nwr c z,wn _ _ st4' c z⟩) id);have stq:Step cx.pv g1 J1 H1 s1.heap g5 J5 H5 s5.heap:=x5.st;have stk:=(st1.weaken (pv':=cx.pv) λ_ m=>by simp at m).trans stq
     cases fl with
     |next=>injection TG;exact⟨xs.length-(i+1),Nat.sub_lt_sub_left hlt (lt_succ_self i),⟨i+1,g5,J5,H5,l5,rfl,hlt,x5,a5,st5',TF⟩⟩
     |cont=>injection TG;exact⟨xs.length-(i+1),Nat.sub_lt_sub_left hlt (lt_succ_self i),⟨i+1,g5,J5,H5,l5,rfl,hlt,x5,a5,st5',TF⟩⟩
     |brk=>injection TG;exact k g5 J5 H5 .next l5 .next s5 TF rfl a5 stk (aV.trans x5.sm)
     |ret v=>
      obtain⟨y,rfl,r⟩:=TG;exact k g5 J5 H5 (.ret v) l5 (.ret y) s5 TF ⟨y,rfl,r⟩ a5 stk (aV.trans x5.sm)
    rcases tM h0 with ⟨t,rfl,h0⟩ |⟨t,u,Sr,es,kk,tp,rfl,rfl,h0⟩
    .have:l2=l'.set t (some xs[i]):=by simpa[GD]using hb.symm
     subst this;exact iT (loc:=false) a3 h0 (.inr rfl) ru body
    .have Ss:∃us,xs[i]=.tup us/\dD (t::u::Sr) us l'=some l2:=by
      generalize xs[i]=z at hb
      induction z using V.casesOn<;>first | (injection hb;done) | exact⟨_,rfl,hb⟩
     obtain⟨us,Xk,Xl⟩:=Ss;rw[Xk]at ru;exact lb (loc:=false) aG.hand (.inr rfl) a3 h0 Xl ru body
   .exact hf'.elim
  .have hin:i=xs.length:=by lia
   subst hin;rw[List.drop_length,sz]at hf';refine hw.done _ _ _ st' λh' tk hk=>?_;have x5:=Lp.fin (new:=[]) (t:=tk) x' hk (λb m=>by simp at m);have a5:=a'.same x5.bat λb m o e=>hk b o (λq=>nwr b q m) e;exact k g' J' H' .next l' .next _ hf' rfl a5 ((st1.weaken (pv':=cx.pv) λ_ m=>by simp at m).trans x5.st) (aV.trans x5.sm)
 .exact aU.elim
def MT{gk v:Nat}(hT:∀pa,xL W A fr pa (Call W d))(Sv:n7 W A fr d b):uD W A fr d (.try_ b gk v hh):=by
 intro st pa cx l g J H s E Q K X fm hm a h k hx;apply D6 hm;intro b' x p n hb hpos pos h1 h2 h3 h4 h5;refine wpAny_Try_except (Sv.run fm h5 a h (λg1 J1 H1 fl l1 f s1 aU hf a1 st1 aV=>?_) (λg1 J1 H1 l1 c fs e xa s1 hx1 he hd a1 st1 aV=>?_))
 .have q:=k g1 J1 H1 fl l1 f s1 aU hf a1 st1 aV
  cases fl with
  |next=>injection hf;exact wpAny_execs_nil q
  |cont=>injection hf;exact q
  |brk=>injection hf;exact q
  |ret v=>
   obtain⟨y,rfl,r⟩:=hf;exact q
 .exact hT pa cx l1 g g1 J J1 H H1 s s1 gk v c hh hb x n p hpos fs e xa K X Q E fm h1 h2 h3 h4 a1 he hd st1 aV hx1.1 hx1.2 k
def MU   : uD W A fr d (.cont):=by
 intro st pa cx l g J H s E Q K X fm hm a h k hx;apply Ak hm;intro pos;exact wpAny_Continue (k.here a h rfl)
def RF   : uD W A fr d (.brk):=by
 intro st pa cx l g J H s E Q K X fm hm a h k hx;apply D5 hm;intro pos;exact wpAny_Break (k.here a h rfl)
end
section
variable{d:Nat}(aG:eq d A fr)(hN:∀pa,xK W A fr pa)(hR:∀pa,mB W A fr pa)(hT:∀pa,xL W A fr pa (Call W d))
def MV:n7 W A fr d .z:=λfm hm a h k hx=>by
 rw[D7 hm];exact wpAny_execs_nil (k.here a h rfl)
def Ii(Xm:uD W A fr d p)(Vv:n7 W A fr d ps):n7 W A fr d (.k p ps):=by
 intro st pa cx l g J H s E Q K X fm hm a h k hx;apply Al hm;intro x r h1 h2;rw[sx]at h;refine wpAny_execs_cons (Xm fm h1 a h (λg1 J1 H1 fl l1 f s1 aU hf a1 st1 aV=>?_) hx)
 cases fl with
 |next=>injection hf;exact Vv.run fm h2 a1 aU (k.trans st1 aV λ_ m=>m) (hx.trans st1 aV λ_ m=>m)
 |cont=>injection hf;exact k g1 J1 H1 .cont l1 .cont s1 aU rfl a1 st1 aV
 |brk=>injection hf;exact k g1 J1 H1 .brk l1 .brk s1 aU rfl a1 st1 aV
 |ret v=>
  obtain⟨y,rfl,r⟩:=hf;exact k g1 J1 H1 (.ret v) l1 (.ret y) s1 aU ⟨y,rfl,r⟩ a1 st1 aV
include aG hN hR hT
mutual
theorem RG:∀(p:PS),uD W A fr d p
 |.bad=>λ_ _ _ h _ _=>h.elim
 |.asg i p=>RA aG
 |.asgs ts p=>MN aG
 |.seta o n p=>MO aG
 |.seti o i p=>MP aG
 |.exp p=>RB aG
 |.ret p=>RC aG
 |.retn=>MQ
 |.raise gk args=>Ih aG hN hR
 |.ite t x y=>RD aG (ju x) (ju y)
 |.whil t b=>MR aG (ju b)
 |.for_ ts it b=>MS aG (ju b)
 |.try_ b gk v hh=>MT hT (ju b)
 |.cont=>MU
 |.brk=>RF
theorem ju:∀(p:bh),n7 W A fr d p
 |.z=>MV
 |.k p ps=>Ii (RG p) (ju ps)
end
end
def tN(names:List Str)(p:Arguments):Prop:=p.posonlyargs=[]/\p.args.map (·.arg)=names/\p.vararg=none/\p.kwonlyargs=[]/\p.kwarg=none
def lh{l:List (Str×Value)}:(l.lookup n).isNone=true↔n∉l.map (·.1):=by
 induction l with
 |nil=>simp
 |cons p r ih=>
  rw[lookup_cons]
  by_cases h:n=p.1
  .subst h;simp
  .have:(n==p.1)=false:=zE.mpr h
   rw[this];simp only[ih,map_cons,mem_cons,not_or];exact⟨λq=>⟨h,q⟩,λq=>q.2⟩
def Ea:∀{names:List Str} {w:List Value} {p:Str×Value},names.Nodup->p∈names.zip w->(names.zip w).lookup p.1=some p.2:=by
 intro names
 induction names with
 |nil=>intro w p nd h;injection h
 |cons n names ih=>
  intro w p nd h
  cases w with
  |nil=>injection h
  |cons v w=>
   rw[zS]at nd;rw[zip_cons_cons]at h ⊢
   rcases zZ.mp h with rfl | h
   .rw[List.lookup_cons_self]
   .have:p.1≠n:=λq=>nd.1 (q▸(of_mem_zip h).1)
    rw[lookup_cons,zE.mpr this];exact ih nd.2 h
def MW{f:Str->Option Value}{names:List Str}:∀{w:List Value},names.length=w.length->(∀p∈names.zip w,f p.1=some p.2)->names.filterMap (λn=>(f n).map λx=>(n,x))=names.zip w:=by
 induction names with
 |nil=>
  intro l2
  cases l2 with
  |nil=>
   intro _ _;exact rfl
  |cons _ _=>
   intro h _;simp at h
 |cons n names ih=>
  intro l2
  cases l2 with
  |nil=>
   intro h _;simp at h
  |cons v w=>
   intro h k;rw[zip_cons_cons]at k ⊢;rw[List.filterMap_cons,k (n,v) zw];simp only[map_some];rw[ih (by simpa using h) λp m=>k p (zx _ m)]
def Eb(L:List (Str×Value)):∀(Z:List (Str×Value)),(L.map (·.1)).Nodup->(forIn L Z λ(x:Str×Value) (z:List (Str×Value))=>if (List.lookup x.fst z).isNone=true then pure (ForInStep.yield (z++[(x.fst,x.snd)])) else pure (ForInStep.yield z):Sem (List (Str×Value)))=pure (Z++L.filter λp=>decide (p.1∉Z.map (·.1))):=by
 induction L with
 |nil=>
  intro Z _;rw[forIn_nil];simp
 |cons p L ih=>
  intro Z nd;rw[z0,zS]at nd;rw[forIn_cons]
  by_cases h:(List.lookup p.1 Z).isNone=true
  .rw[if_pos h,pure_bind]
   show forIn L (Z++[(p.1,p.2)]) _=_;rw[ih _ nd.2];have h':=lh.mp h;rw[List.filter_cons,if_pos (by simpa using h')];rw[zj]
   congr 2
   simp only[List.singleton_append]
   congr 1
   refine List.filter_congr λq m=>?_;have:q.1≠p.1:=λe=>nd.1 (e▸mem_map.mpr ⟨q,m,rfl⟩);simp[this]
  .rw[if_neg h,pure_bind]
   show forIn L Z _=_;rw[ih Z nd.2,List.filter_cons,if_neg (by
    have:¬ p.1∉Z.map (·.1):=λq=>h (lh.mpr q);simpa using this)]
def n8{names:List Str}:∀{xs:List Value},xs.length<=names.length->(names.zip xs).map (·.1)=names.take xs.length/\names.zip xs=(names.take xs.length).zip xs:=by
 induction names with
 |nil=>
  intro l2
  cases l2 with
  |nil=>
   intro _;exact⟨rfl,rfl⟩
  |cons _ _=>
   intro h;simp at h
 |cons n names ih=>
  intro l2
  cases l2 with
  |nil=>
   intro _;simp
  |cons x xs=>
   intro h;obtain⟨q1,q2⟩:=ih (xs:=xs) (by simpa using h);simp only[zip_cons_cons,map_cons,length_cons,List.take_succ_cons,q1,<-q2,and_self]
def Ap{names:List Str}{xs ds:List Value}(hl:xs.length<=names.length)(hd:ds.length<=names.length)(hm:names.length<=xs.length+ds.length)(nd:names.Nodup):(names.zip xs++((names.drop (names.length-ds.length)).zip ds).filter λp=>decide (p.1∉names.take xs.length))=names.zip (xs++ds.drop (xs.length+ds.length-names.length)):=by
 have a1:names.drop (names.length-ds.length)=(names.drop (names.length-ds.length)).take (xs.length+ds.length-names.length)++names.drop xs.length:=by
  conv=>lhs;rw[<-take_append_drop (xs.length+ds.length-names.length) (names.drop (names.length-ds.length))]
  rw[List.drop_drop,VK hd hm]
 have a2:ds=ds.take (xs.length+ds.length-names.length)++ds.drop (xs.length+ds.length-names.length):=(take_append_drop ..).symm;have a3:(names.drop (names.length-ds.length)).zip ds=((names.drop (names.length-ds.length)).take (xs.length+ds.length-names.length)).zip (ds.take (xs.length+ds.length-names.length))++(names.drop xs.length).zip (ds.drop (xs.length+ds.length-names.length)):=by
  rw[<-List.zip_append (by rw[length_take,length_take,length_drop,Nat.sub_sub_self hd]),<-a1,<-a2]
 have nd2:(names.take xs.length++names.drop xs.length).Nodup:=by rw[take_append_drop];exact nd
 rw[nodup_append]at nd2;have f1:(((names.drop (names.length-ds.length)).take (xs.length+ds.length-names.length)).zip (ds.take (xs.length+ds.length-names.length))).filter (λp=>decide (p.1∉names.take xs.length))=[]:=by
  rw[List.filter_eq_nil_iff];intro p m q;have m1:=(of_mem_zip m).1;refine (zG q) ?_;rw[List.take_drop]at m1;have m2:=List.mem_of_mem_drop m1
  rwa [VK hd hm]at m2
 have f2:((names.drop xs.length).zip (ds.drop (xs.length+ds.length-names.length))).filter (λp=>decide (p.1∉names.take xs.length))=(names.drop xs.length).zip (ds.drop (xs.length+ds.length-names.length)):=by
  rw[List.filter_eq_self];intro p m;have m1:=(of_mem_zip m).1;exact zb λq=>nd2.2.2 _ q _ m1 rfl
 rewrite[a3,List.filter_append,f1,f2,nil_append,(n8 hl).2]
 conv=>rhs;rw[<-take_append_drop xs.length names]
 rw[List.zip_append (by simp;lia),take_append_drop]
def Ec{Q:List (Str×Value)->Shared->Prop}{L Z:List (Str×Value)}(nd:(L.map (·.1)).Nodup)(h:Q (Z++L.filter λp=>decide (p.1∉Z.map (·.1))) s):wpAny M A (forIn L Z λ(x:Str×Value) (z:List (Str×Value))=>if (List.lookup x.fst z).isNone=true then pure (ForInStep.yield (z++[(x.fst,x.snd)])) else pure (ForInStep.yield z)) Q E s:=by
 rw[Eb L Z nd];exact zq h
def Ed{fd:FuncData}{p:Arguments}(e:fd.params=p):fd={ fd with params:=p }:=e▸rfl
def rn{α:Type}{Q:α->Shared->Prop}{c:Prop}[Decidable c]{a b:Sem α}(h:¬c)(k:wpAny M A b Q E s):wpAny M A (if c then a else b) Q E s:=by rw[if_neg h];exact k
section
variable{names:List Str}{xs ds:List Value}(hl:xs.length<=names.length)(hd:ds.length<=names.length)(hm:names.length<=xs.length+ds.length)(nd:names.Nodup)
include hl hd hm
theorem Ij:¬(!((names.take (names.length-(ds.drop (ds.length-names.length)).length)).filter λn=>((names.zip xs).lookup n).isNone).isEmpty)=true:=by
 rw[Nat.sub_eq_zero_of_le hd,drop_zero];have e2:((names.take (names.length-ds.length)).filter λn=>((names.zip xs).lookup n).isNone)=[]:=by
  rw[List.filter_eq_nil_iff];intro n m q;rw[lh,(n8 hl).1]at q;refine q ?_;rw[<-Nat.min_eq_left (Nat.sub_le_iff_le_add.mpr hm),<-List.take_take]at m;exact List.mem_of_mem_take m
 rw[e2];exact zt
include nd
theorem Ee:(((names.drop (names.length-(ds.drop (ds.length-names.length)).length)).zip (ds.drop (ds.length-names.length))).map (·.1)).Nodup:=by
 rw[Nat.sub_eq_zero_of_le hd,drop_zero,List.map_fst_zip (by rw[length_drop,Nat.sub_sub_self hd];exact zv _)];exact nd.sublist (List.drop_sublist ..)
theorem Aq:(names++[]).filterMap (λn=>((names.zip xs++((names.drop (names.length-(ds.drop (ds.length-names.length)).length)).zip (ds.drop (ds.length-names.length))).filter λ(p:Str×Value)=>decide (p.1∉(names.zip xs).map λ(q:Str×Value)=>q.1)).lookup n).map λx=>(n,x))=names.zip (xs++ds.drop (xs.length+ds.length-names.length)):=by
 rw[Nat.sub_eq_zero_of_le hd,drop_zero,(n8 hl).1,Ap hl hd hm nd,zJ,MW (by rw[zV,length_drop,VL hl];exact (VM hl hm).symm) λp m=>Ea nd m]
end
def lZ{fd:FuncData}{names:List Str}{xs ds:List Value}{items:Option (Array Value)}{Q:List (Str×Value)->Shared->Prop}(h:tN names fd.params)(hl:xs.length<=names.length)(hd:ds.length<=names.length)(hm:names.length<=xs.length+ds.length)(nd:names.Nodup)(hs:∀Q':Option (Array Value)->Shared->Prop,Q' items s->wpAny M A (seqItems? fd.defaults) Q' E s)(hi:(items.getD #[]).toList=ds)(hQ:Q (names.zip (xs++ds.drop (xs.length+ds.length-names.length))) s):wpAny M A (bindArgs fd ⟨xs,[]⟩) Q E s:=by
 generalize hp:fd.params=p at h;rw[Ed hp];obtain⟨po,ar,va,ko,kd,kw,df⟩:=p;obtain⟨rfl,rfl,rfl,rfl,rfl⟩:=h;subst hi;refine zy (zq ?_);refine zy (hs _ ?_);refine rn (λq=>absurd (zG (and_eq_true_iff.mp q).1) (Nat.not_lt.mpr hl)) ?_;refine rn (Ij hl hd hm) ?_;refine zy (Ec (Ee hl hd hm nd) ?_);refine zy (zq ?_);refine rn zt ?_;exact zq (Eq.mpr (zi (λl=>Q l s) (Aq hl hd hm nd)) hQ)
structure FnAt(W:Wd)(f:Nat)(F:FD)(fd:FuncData)(body:List Stmt)(names:List Str):Prop where
 obj:∃o,W.base.get? f=some o/\o.data=.func fd
 bod:fd.body=.stmts body
 co:fd.scope.isCoroutine=false
 gen:fd.scope.isGenerator=false
 kind:fd.scope.kind=.function
 glob:fd.globals=mainGlobals
 blt:fd.builtins=builtinsNs
 clo:fd.closure=[]
 code:W.base.CodeRec fd.code fd.qualname
 par:tN (names.take F.n) fd.params
 dfl:(F.dfl=[]/\fd.defaults=.none)\/∃T o ys n,fd.defaults=.ref T/\W.base.get? T=some o/\o.data=.seq ys n/\ah W.P W.base.get? [] F.dfl ys.toList
 len:names.length=F.locs.length
 nle:F.n<=names.length
 dle:F.dfl.length<=F.n
 nd:names.Nodup
 pk:∀x∈names.take F.n,fd.scope.names.lookup x=some .local\/fd.scope.names.lookup x=some .cell
 mss:rZ (λx=>fd.scope.names.lookup x) names F.body body=true
def xM(Q:Option (Array Value)->Shared->Prop)(h:Q none s):wpAny M A (seqItems? .none) Q E s:=by
 show wpAny M A (do notAStandIn .none;pure none) Q E s;exact zy (zq (zq h))
def n9{names:List (Str×NameKind)}:∀{n:Nat} {acc:List (Str×Addr)} {x:Str},names.lookup x=some .cell\/(acc.lookup x).isSome=true->((cellsFrom n names acc).lookup x).isSome=true:=by
 induction names with
 |nil=>
  intro n acc x h
  rcases h with h | h
  .simp at h
  .exact h
 |cons hd0 r ih=>
  obtain⟨y,k⟩:=hd0;intro n acc x h;unfold cellsFrom;split
  .refine ih ?_
   rw[lookup_cons]at h ⊢
   by_cases q:x=y
   .subst q;simp
   .rw[zE.mpr q]at h ⊢
    exact h
  .rename_i hk
   refine ih ?_;rw[lookup_cons]at h
   rcases h with h | h
   .split at h
    .injection h;simp at hk
    .exact .inl h
   .exact .inr h
section
variable{l lo:Loc}{s:Shared}{d:Nat}
def pP(f:Str×Value->PUnit->Sem (ForInStep PUnit))(hf:∀n v u,f (n,v) u=(do storeName cx.env n v;pure (.yield ⟨⟩))):∀(xs:List Str) (vs:List V) (ys:List Value) (i:Nat) {l:Loc} {s:Shared} {Q:PUnit->Shared->Prop},At W fr pa cx l [] g J H s->xs.length=vs.length->(∀j x,xs[j]?=some x->cx.ns[i+j]?=some x/\(cx.env.kindOf x=some .local\/cx.env.kindOf x=some .cell))->ah W.P g J vs ys->(∀l' h' t',At W fr pa cx l' [] g J H { s with heap:=h',toks:=t' }->l'.length=l.length->(∀j,j<i->l'[j]?=l[j]?)->(∀j,vs.length+i<=j->l'[j]?=l[j]?)->(∀j v,vs[j]?=some v->l'[i+j]?=some (some v))->(∀z w,z∉xs->gX s.heap cx.env.locals z w->gX h' cx.env.locals z w)->Step cx.pv g J H s.heap g J H h'->Q ⟨⟩ { s with heap:=h',toks:=t' })->wpAny W.M A (forIn (xs.zip ys) ⟨⟩ f) Q E s:=by
 intro xs
 induction xs with
 |nil=>
  intro vs ys i l s Q a hl hk r h
  cases vs with
  |nil=>
   rw[List.zip_nil_left,forIn_nil];exact zq (h l s.heap s.toks a rfl (λ_ _=>rfl) (λ_ _=>rfl) (λ_ _ q=>by simp at q) (λ_ _ _ q=>q) Step.refl)
  |cons _ _=>simp at hl
 |cons x xs ih=>
  intro vs ys i l s Q a hl hk r h
  cases vs with
  |nil=>simp at hl
  |cons v vs=>
   obtain⟨y,ys,rfl,r1,r2⟩:=ad.mp r;rw[zip_cons_cons,forIn_cons,hf];obtain⟨k1,k2⟩:=hk 0 x rfl;rw[Nat.add_zero]at k1;have hil:i<l.length:=by rw[a.loc.len];exact (zu.mp k1).1
   refine zy (zy (iS (v:=some v) (loc:=false) a k1 (k2.imp id λq=>⟨rfl,q,rfl⟩) (λu e=>by injection e;exact r1) λh1 t1 a1 Vw st1=>zq ?_));refine ih vs ys (i+1) a1 (by simpa using hl) (λj z hz=>?_) r2 (λl' h' t' a2 e1 e2 e3 e4 Vx st2=>?_)
   .have:=hk (j+1) z (by simpa using hz)
    rwa [show i+(j+1)=i+1+j by lia]at this
   .refine h l' h' t' a2 (e1.trans (length_set ..)) (λj hj=>?_) (λj hj=>?_) (λj u hu=>?_) (λz w hz q=>Vx z w (λm=>hz (zx _ m)) (Vw.2 z w (λe=>hz (e▸zw)) q)) (st1.trans st2)
    .rw[e2 j (by lia),zD (by lia)]
    .rw[e3 j (by simp at hj;lia),zD (by simp at hj;lia)]
    .cases j with
     |zero=>
      injection hu;rw[Nat.add_zero,e2 i (by lia),z5 hil]
     |succ j=>rw[show i+(j+1)=i+1+j by lia];exact e4 j u (by simpa using hu)
def Ef{f:Nat}{fd:FuncData}{body:List Stmt}{names:List Str}{args:List V}{K:KP}(hN:∀A fr pa,eq d A fr->xK W A fr pa)(hR:∀A fr pa,eq d A fr->mB W A fr pa)(hT:∀A fr pa,eq d A fr->xL W A fr pa (Call W d))(hf:FnAt W f F fd body names)(hw:wF (Call W d) F args H K X):Call W (d+1) f args H K X:=by
 refine⟨λA fr pa g J s xs Q E aG b rv hK hX=>?_⟩;rw[QD]at hw;obtain⟨Wr,Ov,hw⟩:=hw;have hk:=dW b;obtain⟨o,ho,FX⟩:=hf.obj;have hxl:=au rv;have hnl:(names.take F.n).length=F.n:=by rw[length_take];exact Nat.min_eq_left hf.nle
 refine codeAny_call_function (by have:=aG.depth;lia) (hk _ _ ho) FX hf.co hf.gen hf.bod (hf.code.keeps hk) ?_;have hdf:∃items ds,(items.getD #[]).toList=ds/\ds.length=F.dfl.length/\ah W.P g J F.dfl ds/\∀(E:QP) (Q':Option (Array Value)->Shared->Prop),Q' items s->wpAny W.M A.in1 (seqItems? fd.defaults) Q' E s:=by
  rcases hf.dfl with ⟨h1,h2⟩ |⟨T,oT,ys,n,h1,h2,h3,h4⟩
  .exact⟨none,[],rfl,by rw[h1];rfl,by rw[h1];exact aB.mpr rfl,λE Q' q=>by rw[h2];exact xM Q' q⟩
  .exact⟨some ys,ys.toList,rfl,au h4,aZ b.bas List.nil_prefix h4,λE Q' q=>by rw[h1];exact wpAny_seqItems (hk _ _ h2) h3 q⟩
 obtain⟨items,ds,hi,Ts,Ws,hs⟩:=hdf;refine lZ (names:=names.take F.n) (ds:=ds) hf.par (by rw[hnl];lia) (by rw[hnl,Ts];exact hf.dle) (by rw[hnl];lia) (hf.nd.sublist (List.take_sublist ..)) (λQ' q=>hs _ Q' q) hi ?_;rw[hnl,hf.clo];have edrop:xs.length+ds.length-F.n=F.dfl.length-(F.n-args.length):=by rw[hxl,Ts];exact VL Wr
 rw[edrop];have rall:ah W.P g J (args++F.dfl.drop (F.dfl.length-(F.n-args.length))) (xs++ds.drop (F.dfl.length-(F.n-args.length))):=by
  refine cm rv ?_;have:F.dfl=F.dfl.take (F.dfl.length-(F.n-args.length))++F.dfl.drop (F.dfl.length-(F.n-args.length)):=(take_append_drop ..).symm;rw[this]at Ws;obtain⟨ys,zs,e,r1,r2⟩:=ni Ws;rw[e,List.drop_left' (by rw[au r1,length_take];exact Nat.min_eq_left (sub_le _ _))];exact r2
 generalize hvs:args++F.dfl.drop (F.dfl.length-(F.n-args.length))=vs at rall hw;generalize xs++ds.drop (F.dfl.length-(F.n-args.length))=ys at rall;have hvl:vs.length=F.n:=by rw[<-hvs,zV,length_drop];exact VM Wr Ov
 simp only[newFunctionEnv,isSome_none,false_eq_true,if_false];refine zy (wpAny_alloc ?_);refine zy (wpAny_layCells _ (λname kind cells=>by cases hkc:kind==NameKind.cell<;>simp[hkc]) _ _ _ _ ?_);have ok:=cellsFrom_ok fd.scope.names (s.heap.push { cls:=.type "frame",data:=.dict #[] }) (s.heap.objs.size+1) [] ⟨λ_ _ hm=>(nomatch hm),List.Pairwise.nil⟩ (by rw[size_push];exact zv _);rw[size_push]at ok;rw[show ({ s with heap:=s.heap.push { cls:=.type "frame",data:=.dict #[] } }:Shared).heap.objs.size=s.heap.objs.size+1 from size_push ..];generalize hcs:cellsFrom (s.heap.objs.size+1) fd.scope.names []=cs at ok ⊢;generalize hh1:pushCells (s.heap.push { cls:=.type "frame",data:=.dict #[] }) fd.scope.names=h1 at ok
 let env:Env:={ scope:=fd.scope,locals:=s.heap.objs.size,globals:=fd.globals,cells:=cs,qual:=fd.qualname ++ ".<locals>.",func:=some f,code:=fd.code,frame:=some s.heap.objs.size,builtins:=fd.builtins }
 let cx:Cx:=⟨env,names,[]⟩
 have kp:∀a o,s.heap.get? a=some o->h1.get? a=some o:=λa o e=>hh1▸pushCells_keeps _ _ a o (zc _ e);have fobj:h1.get? s.heap.objs.size=some { cls:=.type "frame",data:=.dict #[] }:=hh1▸pushCells_keeps _ _ _ _ (zR _ rfl);obtain⟨b1,st1⟩:=b.grow (h':=h1) (t:=s.toks) kp;have fresh:∀a,s.heap.objs.size<=a->s.heap.get? a=none:=λa ha=>by
  cases e:s.heap.get? a with
  |none=>rfl
  |some o'=>exact absurd (lt_size e) (Nat.not_lt.mpr ha)
 have pvn:∀a∈cx.pv,s.heap.get? a=none/\h1.get? a≠none:=λa m=>by
  rcases zZ.mp m with rfl | m
  .exact⟨be _,by show h1.get? s.heap.objs.size≠none;rw[fobj];simp⟩
  .obtain⟨⟨n,c⟩,m',rfl⟩:=mem_map.mp m
   obtain⟨⟨o,e,_⟩,hle⟩:=ok.empty n c m';exact⟨fresh c (by lia),by show h1.get? c≠none;rw[e];simp⟩
 have dd:∀a∈cx.pv,fe J H s.heap a:=λa m=>.inl (pvn a m).1;have a0:At W (env::fr) (cx.pv++pa) cx (replicate names.length none) [] g J H { s with heap:=h1 }:=by
  refine⟨⟨b1.top,b1.rel,b1.bas,λa m=>?_,λe he=>?_⟩,⟨hf.kind,hf.glob,hf.blt,by simp[cx],⟨λ_=>none,?_,λi x v _ _ q=>?_⟩,λi x hi hk=>?_,λi x v hi=>?_,⟨hf.nd,λq=>?_,λx y c h1 h2=>?_⟩⟩,λa m=>zh _ m⟩
  .rcases zH.mp m with m | m
   .exact⟨b.rel.none_at (pvn a m).1,b.rel.not_owned (pvn a m).1,(pvn a m).2⟩
   .exact b1.prv a m
  .rcases zZ.mp he with rfl | he
   .refine⟨by show fd.scope.kind≠.module;rw[hf.kind];decide,s.heap.objs.size,_,rfl,zh _ zw,?_,fobj,rfl,#[],0,rfl⟩
    cases q:W.base.get? s.heap.objs.size with
    |none=>rfl
    |some o=>have:=hk _ _ q;rw[be]at this;injection this
   .obtain⟨k,L,o,q1,q2,q3⟩:=b1.frs e he
    exact⟨k,L,o,q1,zU _ q2,q3⟩
  .exact hh1▸(Heap.Ns.new s.heap (.type "frame")).keeps (pushCells_keeps _ _)
  .rw[getElem?_replicate]at q;split at q<;>injection q
  .have:=n9 (n:=s.heap.objs.size+1) (acc:=[]) (.inl (show fd.scope.names.lookup x=some .cell from hk))
   rw[hcs]at this;obtain⟨c,hc⟩:=isSome_iff_exists.mp this;exact⟨c,none,hc,(ok.empty x c (mem_of_lookup hc)).1,λv q=>by rw[getElem?_replicate]at q;split at q<;>injection q⟩
  .injection hi
  .obtain⟨⟨n,c⟩,m,e⟩:=mem_map.mp q
   have q1:=(ok.empty n c m).2;have q2:c=s.heap.objs.size:=e;rw[q2]at q1;exact absurd q1 (Nat.not_succ_le_self _)
  .exact name_of_addr ok.apart (mem_of_lookup h1) (mem_of_lookup h2)
 refine zy (pP (cx:=cx) (fr:=env::fr) (pa:=cx.pv++pa) _ (λ_ _ _=>rfl) (names.take F.n) vs ys 0 a0 (by rw[hnl,hvl]) (λj x hj=>?_) rall (λl' h2 t2 a2 e1 _ e3 e4 _ st2=>?_))
 .have Vy:names[j]?=some x:=by
   rw[List.getElem?_take]at hj;split at hj
   .exact hj
   .injection hj
  exact⟨by rw[zero_add];exact Vy,hf.pk x (mem_of_getElem? hj)⟩
 have hl':l'=vs.map some++replicate (F.locs.length-F.n) none:=by
  apply List.ext_getElem?;intro j
  by_cases hj:j<vs.length
  .rw[zK (by simpa using hj),getElem?_map,zo hj]
   have:=e4 j vs[j] (zo hj)
   rwa [zero_add]at this
  .rw[e3 j (by lia),zk (by simp;lia),getElem?_replicate,getElem?_replicate,zM]
   have:=hf.len
   by_cases q:j<names.length
   .rw[if_pos q,if_pos (by rw[hvl];exact Nat.sub_lt_sub_right (hvl▸Nat.le_of_not_lt hj) (this▸q))]
   .rw[if_neg q,if_neg (by rw[hvl];exact Nat.not_lt.mpr (Nat.sub_le_sub_right (Nat.le_of_not_lt (this▸q)) _))]
 have st12:Step [] g J H s.heap g J H h2:=st1.over st2 dd;have k2:∀a o,W.base.get? a=some o->h2.get? a=some o:=λa o e=>a2.rel.sub _ _ (a2.bas _ _ e);refine zq ⟨b.top.nolimit.keeps k2,codeAny_func ?_⟩;have fm:Fm (A.deeper env) (env::fr) cx:=⟨by show A.frames.map _=_;rw[aG.frames];rfl,⟨fr,rfl⟩,⟨_,rfl⟩,rfl⟩;have ambb:eq d (A.deeper env) (env::fr):=⟨fm.frames,by show A.depth+1+3*d+5<_;have:=aG.depth;lia,by show A.units+3+60*d+150<_;have:=aG.units;lia,aG.hand⟩;rw[<-hl']at hw;have back:∀{g' J' H'} {s':Shared},BAt W (env::fr) (cx.pv++pa) g' J' H' s'->Step [] g J H s.heap g' J' H' s'.heap->BAt W fr pa g' J' H' s':=λb' st=>b.step b'.rel st;refine ju ambb (λpa=>hN _ _ pa ambb) (λpa=>hR _ _ pa ambb) (λpa=>hT _ _ pa ambb) F.body fm (by exact hf.mss) a2 hw (λg' J' H' fl l3 f' s' oV Wt a3 st3 sm3=>?_) (λg' J' H' l3 c fs e xa s' Xn he hd a3 st3 sm3=>?_)
 .have st:=st12.over st3 dd
  have bb:=back a3.toBAt st
  cases fl with
  |next=>
   injection Wt;exact hK g' J' H' .none .none s' oV (dg.mpr rfl) bb st (bu.trans ⟨rfl,rfl,rfl⟩ sm3)
  |ret v=>
   obtain⟨y,rfl,r⟩:=Wt;exact hK g' J' H' v y s' oV r bb st (bu.trans ⟨rfl,rfl,rfl⟩ sm3)
  |cont=>exact oV.elim
  |brk=>exact oV.elim
 .refine DH fm.frames rfl rfl a3.toBAt he λh4 xb n0 n1 x4 t4 b4 st4=>?_
  have st:=st12.over st3 dd;have dx:∀a∈xb,fe J H s.heap a:=λa m=>by
   rcases n1 a m with z | z
   .exact st12.deadO (hd a z)
   .exact st.deadO (.inl z)
  have st5:=st.over st4 dx;exact hX g' J' H' c fs e xb _ Xn ⟨λa m=>⟨(x4.new a m).1,(x4.new a m).2.1,λq=>(x4.new a m).2.2.1 (zU _ q),(x4.new a m).2.2.2⟩,x4.mem,x4.obj⟩ dx (back b4 st5) st5 (bu.trans ⟨rfl,rfl,rfl⟩ sm3)
end
section
variable{prog:Program}{w:World}{h:Heap}{g:Array GenState}{d:Drawn}{t:Nat}{os:OsState}
variable{nm q:Str}{C N:Addr}{bs bm TH:List Value}{Bp:Bool}{sn:List Str}{sub:List Value}{ab:Bool}{col:Option Bool}{dd:Option Addr}{k0 k1 k2 k3 k5:Option Value}{B newId rW:String}{K:Frag}
structure Eg(bm:List Value)(B:String):Prop where
 hasB:bm.contains (.type B)=true
 base:bm.contains (.type "BaseException")=true
 noA:bm.contains (.type "AttributeError")=false
 noN:bm.contains (.type "NameError")=false
def vG(F:ExcBaseFacts B newId rW TH)(b:Eg bm B){rest:List Value}{Q:Unit->Shared->Prop}(hC:h.get? C=some (excClassObj nm q C N bs bm Bp sn sub ab col dd k0 k1 k2 k3 k5 newId))(hq:Q () ⟨h,g,d,t,os⟩):wpAny M A (checkBuiltinCall newId ⟨.ref C::rest,[]⟩) Q E ⟨h,g,d,t,os⟩:=by
 have hcont:(Value.ref C::bm).contains (.type B)=true:=by rw (config:={}) [contains_cons,b.hasB,Bool.or_true]
 have hstar:=F.noStar;unfold checkBuiltinCall;rw (config:={}) [F.newRow,F.newKind,F.newSplit];dsimp only
 repeat (first | refine wpAny_loadPart_at hC ?_ | (refine wpAny_isSubtype_exc hC ?_;rw (config:={}) [hcont]) | refine wpAny_staticBase_exc hC ?_ | refine wpAny_madeBy_exc hC ?_ | simp only[bne_self_eq_false,false_eq_true,if_false] | wp_step)
 exact hq
def Eh(F:ExcBaseFacts B newId rW TH)(b:Eg bm B){R:Result->Shared->Prop}{rest:List Value}(hC:h.get? C=some (excClassObj nm q C N bs bm Bp sn sub ab col dd k0 k1 k2 k3 k5 newId))(hq:R (.ok (.ret (.ref (h.objs.size+1)))) ⟨(h.push { cls:=.type "tuple",data:=.seq rest.toArray }).push { cls:=.ref C,data:=.fields #[.ref h.objs.size,.none,.none,.none,.bool false,.none] },g,d,t,os⟩)(yv:rest.length<=sizeLine):codeAny (model prog w) A (.builtin newId ⟨.ref C::rest,[]⟩) R ⟨h,g,d,t,os⟩:=by
 have hends:=F.ends;have hcB:(Value.ref C::bm).contains (.type B)=true:=by rw (config:={}) [contains_cons,b.hasB,Bool.or_true]
 have hcA:(Value.ref C::bm).contains (.type "AttributeError")=false:=by rw (config:={}) [contains_cons,b.noA];rfl
 have hcN:(Value.ref C::bm).contains (.type "NameError")=false:=by rw (config:={}) [contains_cons,b.noN];rfl
 refine codeAny_builtinAt F.entry ?_;unfold Builtin.«BaseException.__new__»;refine PySem.wpAt_bind ?_;show PySem.wpAt _ _ _ (stack>>=_) _ _ _;refine PySem.wpAt_bind (PySem.wpAt_stack λp below=>PySem.wpAt_of_wpAny ?_)
 wp_walk
 refine PySem.wpAt_of_wpAny ?_;rw (config:={}) [F.owner]
 repeat (first | with_reducible refine wpAny_madeHere_exc F.canon hC ?_ | with_reducible refine wpAny_loadPart_at hC ?_ | (with_reducible refine wpAny_isSubtype_exc hC ?_;first | rw (config:={}) [hcB] | rw (config:={}) [hcA] | rw (config:={}) [hcN]) | wp_step)
 show R _ _;rw (config:={}) [size_push];exact hq
def tO(F:ExcBaseFacts B newId rW TH)(b:Eg bm B){rest:List Value}{fI:Addr}{oI:Obj}{Q:Fin->Shared->Prop}(X:K.In h)(hC:h.get? C=some (excClassObj nm q C N bs bm Bp sn sub ab col dd k0 k1 k2 k3 k5 newId))(hi:findIn K (.ref C) "__init__" = some (some (.ref fI)))(Vz:h.get? fI=some oI)(hfc:oI.cls=.type "function")(hq:∀h' e,Heap.MadeExcOf h h' e (.ref C) rest->wpAny (model prog w) A (call (.ref fI) (.ref e::rest)) (λr s'=>r=.none/\Q (.done (.ret (.ref e))) s') E ⟨h',g,d,t,os⟩)(yv:rest.length<=sizeLine):wpAny (model prog w) A (Builtin.«type.__call__» ⟨.ref C::rest,[]⟩) Q E ⟨h,g,d,t,os⟩:=by
 repeat (first | with_reducible refine wpAny_loadPart_at hC ?_ | with_reducible refine wpAny_madeBy_exc hC ?_ | wp_step)
 refine codeAny_call_builtin_code (Code.quiet_builtin _ F.quiet) (vG F b hC ?_);refine Eh F b hC ?_ yv;show wpAny _ _ _ _ _ _;have kp:∀b o,h.get? b=some o->((h.push { cls:=.type "tuple",data:=.seq rest.toArray }).push { cls:=.ref C,data:=.fields #[.ref h.objs.size,.none,.none,.none,.bool false,.none] }).get? b=some o:=λb o e=>zc _ (zc _ e);have hC₁:=kp _ _ hC;have hfI₁:=kp _ _ Vz;have hget:((h.push { cls:=.type "tuple",data:=.seq rest.toArray }).push { cls:=.ref C,data:=.fields #[.ref h.objs.size,.none,.none,.none,.bool false,.none] }).get? (h.objs.size+1)=some { cls:=.ref C,data:=.fields #[.ref h.objs.size,.none,.none,.none,.bool false,.none] }:=by heap_get
 have hcC:(Value.ref C::bm).contains (.ref C)=true:=by simp
 unfold isInstance
 repeat (first | with_reducible refine wpAny_loadPart_at hget ?_ | (with_reducible refine wpAny_isSubtype_exc hC₁ ?_;rw (config:={}) [hcC]) | wp_step)
 show wpAny _ _ (typeLookup (.ref C) _) _ _ _;refine (looks_findIn (X.keeps kp) hi).at ?_;refine zQ (zy ?_);unfold bindSpecial;refine zy (wpAny_typeOf (T:= "function") ⟨_,hfI₁,hfc⟩ ?_);rw (config:={}) [if_pos (by decide)];refine zq (zy (zY (hq _ (h.objs.size+1) ⟨λb o hb=>kp b o hb,Heap.get?_none_of_le (le_succ _),h.objs.size,hget,Heap.get?_none_of_le (zv _),?_⟩) (λr s' hr=>?_) λ_ _ x=>x))
 .exact zc _ (Heap.get?_push_at rfl rfl)
 .obtain⟨rfl,hQ⟩:=hr
  wp_walk
  exact hQ
def MX(F:ExcBaseFacts B newId rW TH)(b:Eg bm B){rest:List Value}{fI:Addr}{oI:Obj}(X:K.In h)(hC:h.get? C=some (excClassObj nm q C N bs bm Bp sn sub ab col dd k0 k1 k2 k3 k5 newId))(hi:findIn K (.ref C) "__init__" = some (some (.ref fI)))(Vz:h.get? fI=some oI)(hfc:oI.cls=.type "function")(hq:∀h' e,Heap.MadeExcOf h h' e (.ref C) rest->wpAny (model prog w) (A.under (.builtin "type.__call__" ⟨.ref C::rest,[]⟩)) (call (.ref fI) (.ref e::rest)) (λr s'=>r=.none/\Q (.ref e) s') E ⟨h',g,d,t,os⟩)(yv:rest.length<=sizeLine):wpAny (model prog w) A (call (.ref C) rest) Q E ⟨h,g,d,t,os⟩:=by
 have f1:=tc_lookup;have f2:=tc_bind (.ref C);have hT:(⟨h,g,d,t,os⟩:Shared).TypeIs (.ref C) "type" :=⟨_,hC,rfl⟩;refine wpAny_call (codeAny_of_tree ?_);show wpAny _ _ (callAny (.ref C) _) _ _ _
 repeat (any_goals (first | assumption | with_reducible refine wpAny_loadPart_at hC ?_ | wp_step))
 refine⟨rfl,?_⟩;refine codeAny_call_builtin_at (Code.quiet_builtin _ (by decide +kernel)) entry_typeCall (wpAny_check_type_call_sub hC (tO F b X hC hi Vz hfc (λh' e hm=>?_) yv));exact hq h' e hm
end
def vH(self:Value):refuseLoop self "__setattr__" [.type "Exception",.type "BaseException",.type "object"]=pure ():=by kernel_rfl
open PySem PySem.W PySem.Calls PyProof.Rows PySem.Builtin.ObjectAttr
structure rp(K:Frag):Prop where
 ga:findIn K (.ref 285) "__getattribute__" = some (some (.builtin "BaseException.__getattribute__"))
 dict:hasDictIn K 285=true
 set:findIn K (.ref 285) "__setattr__" = some (some (.builtin "object.__setattr__"))
 cls:∃nm q N bs Bp sn sub ab col dd k0 k1 k2 k3 k5,K.lookup 285=some (excClassObj nm q 285 N bs pz Bp sn sub ab col dd k0 k1 k2 k3 k5 "Exception.__new__")
 init:findIn K (.ref 285) "__init__" = some (some (.ref 282))
 fn:typeIn K (.ref 282)=some (.type "function")
 keep:keepIn K (.ref 285)=true
 fld:∀n∈["word", "irritants", "reason", "place"],findIn K (.ref 285) (Str.ofString n)=some none
def j1{K:Frag}(h:nq K=true):rp K:=by
 unfold nq at h;simp only[and_eq_true,beq_iff_eq]at h;obtain⟨⟨⟨⟨⟨⟨⟨⟨x1,x2⟩,x3⟩,x4⟩,x5⟩,x6⟩,x7⟩,x8⟩,x9⟩:=h;refine⟨x1,x3,x4,?_,x6,ze.mp x7,x8,λn m=>ze.mp (zP.mp x9 n m)⟩;obtain⟨o,ho,hs⟩:=any_some x5;obtain⟨dd,cd,sl,rfl,h6⟩:=lO hs;simp only[and_eq_true,beq_iff_eq,not_eq_true']at h6;obtain⟨⟨⟨h2,h3⟩,h4⟩,h5⟩:=h6;obtain⟨nm,bs,mro,N,q,hd,sn,sub,ab,col,del⟩:=cd;dsimp only at h2 h3;subst h2 h3;obtain⟨sl⟩:=sl;revert h5 ho;apply KH (l:=sl) h4;intro k0 k1 k2 k3 k4 k5 h5 ho;have e4:k4=some (.builtin "Exception.__new__"):=by simpa using h5
 subst e4;exact⟨nm,q,N,bs,hd,sn,sub,ab,col,dd,k0,k1,k2,k3,k5,ho⟩
def UN:Eg pz "Exception" :=⟨by decide +kernel,by decide +kernel,by decide +kernel,by decide +kernel⟩
section
variable{prog:Program}{w:World}{s:Shared}{K:Frag}{x:Addr}{R:Result->Shared->Prop}
def rq(F:rp K):∃cd,clsIn K 285=some cd/\cd.mro=.ref 285::pz/\cd.hasDict=true:=by
 obtain⟨nm,q,N,bs,hd,sn,sub,ab,col,dd,k0,k1,k2,k3,k5,ho⟩:=F.cls;obtain⟨cd,hc,Oq⟩:=any_some F.dict;have hc':=hc;unfold clsIn at hc';rw[ho]at hc';injection hc';exact⟨_,hc,rfl,Oq⟩
def pQ{od:Option Obj}{name:Str}(X:K.In s.heap)(F:rp K)(I:InstAt s.heap x ox 285 od)(ht:findIn K (.ref 285) name=some none)(h:wpAny (model prog w) A.in1 (storeInOwnDict (.ref x) (.ref 285) (.str name tk) name v false) (λfin s'=>match fin with | .done f=>R (.ok f) s' | .again c'=>c'.quiet=true/\codeAny (model prog w) A c' R s') (λe s'=>R (.error e) s') s):codeAny (model prog w) A (.call (.builtin "object.__setattr__") ⟨[.ref x,.str name tk,v],[]⟩) R s:=by
 have SF:=PySem.F.store_object;obtain⟨cd,hc,JL,TI⟩:=rq F;have sub:Looks (model prog w) s.heap (isInstance (.ref x) (.type "object")) true:=I.type.andThen (looks_mroIn X (by unfold mroIn;rw[hc,bind_some,JL];rfl));refine codeAny_call_builtin SF.slot.plain SF.entry (@check_slot (model prog w) _ _ s "object.__setattr__" "object" "__setattr__" (.ref x) [.str name tk,v] [] _ SF.kind SF.split sub (SF.args (.ref x) (.str name tk) v) ?_);have hm:Looks (model prog w) s.heap (mroOf (.ref 285)) cd.mro:=(looks_clsIn X hc).andThen .now;rw[osa_eq,refuse_eq];refine zy (zy (I.type.here (zy (hm.here ?_))));rw[JL,pz,refuseLoop_ref,refuseLoop_ref,vH];refine zq (zy (I.type.here (zy ((looks_findIn X ht).here (zy (zq ?_))))));exact h
def Ik{ox:Obj}{dx:Addr}{es:List DictEntry}{n:Nat}{name:Str}(X:K.In s.heap)(F:rp K)(I:InstAt s.heap x ox 285 (some (aA es n)))(hd:ox.dict=some dx)(ht:findIn K (.ref 285) name=some none)(D:s.heap.get? dx=some (aA es n))(hr:es.any (·.refKey)=false)(hz:(putL name (PyData.keyHash w.params name) (.str name s.toks) v es).length<=1000)(h:∀h',Heap.SameBut dx s.heap h'->h'.get? dx=some (aA (putL name (PyData.keyHash w.params name) (.str name s.toks) v es) (putN name es n))->R (.ok (.ret .none)) { s with heap:=h',toks:=s.toks+1 }):codeAny (model prog w) A (.call (.builtin "object.__setattr__") ⟨[.ref x,.str name tk,v],[]⟩) R s:=by
 refine pQ X F I ht ?_;obtain⟨cd,hc,JL,TI⟩:=rq F;have up:=zC (f:=Obj.putName name (PyData.keyHash w.params name) (.str name s.toks) v) (h:=s.heap) D (by rw[putName_dict];rfl);rw[putName_dict]at up;obtain⟨hx,hcl,hn,-⟩:=I;obtain⟨oc,W8,Vg,Vh⟩:=ox;dsimp only at hcl hd;subst hcl hd;refine zy (zq (zy (zy (wpAny_loadPart hx (zy ((looks_clsIn X hc).here ?_))))));rw[TI];refine zq (a:=some dx) (zy (zq (zy ?_)));unfold nsSet;refine zy (zy (wpAny_askSetting (zq (zy (wpAny_mkText (zy (wpAny_loadPart D ?_)))))));dsimp only;have c:(!es.toArray.any (·.key.isStr name)&&es.toArray.any (·.refKey))=false:=by
  rw[<-any_toList,<-any_toList];simp only[hr,Bool.and_false]
 rw[aRefKeyMayBeTheName_at,c];refine wpAny_updatePart D ?_;refine zy (wpAny_lookBehind up (pastItsLine_dict (by rw[zW,sizeLine_eq];lia)) ?_);exact zq (h _ (Heap.SameBut.update ..) up)
def Il{data:Array Value}{name:Str}{v:Value}(X:K.In s.heap)(F:rp K)(hx:s.heap.get? x=some { cls:=.ref 285,data:=.fields data })(ht:findIn K (.ref 285) name=some none)(h:∀h',(∀b o,b≠x->s.heap.get? b=some o->h'.get? b=some o)->h'.get? x=some { cls:=.ref 285,dict:=some s.heap.objs.size,data:=.fields data }->h'.get? s.heap.objs.size=some (aA (putL name (PyData.keyHash w.params name) (.str name s.toks) v []) (putN name [] 0))->R (.ok (.ret .none)) { s with heap:=h',toks:=s.toks+1 }):codeAny (model prog w) A (.call (.builtin "object.__setattr__") ⟨[.ref x,.str name tk,v],[]⟩) R s:=by
 have I:InstAt s.heap x { cls:=.ref 285,data:=.fields data } 285 none:=⟨hx,rfl,rfl,trivial⟩;refine pQ X F I ht ?_;obtain⟨cd,hc,JL,TI⟩:=rq F;have hx1:=zc (h:=s.heap) ({ cls:=.type "dict",data:=.dict #[] }:Obj) hx;have ne:s.heap.objs.size≠x:=Nat.ne_of_gt (lt_size hx);have hx2:=zC (λo:Obj=>{ o with dict:=some s.heap.objs.size }) (h:=s.heap.push ({ cls:=.type "dict",data:=.dict #[] }:Obj)) hx1 rfl;have D:((s.heap.push ({ cls:=.type "dict",data:=.dict #[] }:Obj)).update x λo:Obj=>{ o with dict:=some s.heap.objs.size }).get? s.heap.objs.size=some (aA [] 0):=by
  rw[get?_update_other _ _ (z6 ne)];exact zR _ rfl
 have up:=zC (Obj.putName name (PyData.keyHash w.params name) (.str name s.toks) v) D (by rw[putName_dict];rfl);rw[putName_dict]at up;refine zy (zq (zy (zy (wpAny_loadPart hx (zy ((looks_clsIn X hc).here ?_))))));rw[TI];refine zy (wpAny_alloc (zy (wpAny_update hx1 (zq ?_))));refine zy (zq (zy ?_));unfold nsSet;refine zy (zy (wpAny_askSetting (zq (zy (wpAny_mkText (zy (wpAny_loadPart D ?_)))))));dsimp only;rw[aRefKeyMayBeTheName_at,show (!([]:List DictEntry).toArray.any (·.key.isStr name)&&([]:List DictEntry).toArray.any (·.refKey))=false by simp];refine wpAny_updatePart D ?_;refine zy (wpAny_lookBehind up (pastItsLine_dict (by rw[zW,sizeLine_eq];show 1<=_;lia)) ?_);refine zq (h _ (λb o q e=>?_) ?_ up)
 .have nb:s.heap.objs.size≠b:=Nat.ne_of_gt (lt_size e)
  rw[get?_update_other _ _ nb,get?_update_other _ _ (z6 q)];exact zc _ e
 .rw[get?_update_other _ _ ne]
  exact hx2
def Im{ox:Obj}{dx:Addr}{es:List DictEntry}{n:Nat}{name:Str}{Q:Unit->Shared->Prop}(X:K.In s.heap)(F:rp K)(I:InstAt s.heap x ox 285 (some (aA es n)))(hd:ox.dict=some dx)(ht:findIn K (.ref 285) name=some none)(D:s.heap.get? dx=some (aA es n))(hr:es.any (·.refKey)=false)(hz:(putL name (PyData.keyHash w.params name) (.str name (s.toks+1)) v es).length<=1000)(h:∀h',Heap.SameBut dx s.heap h'->h'.get? dx=some (aA (putL name (PyData.keyHash w.params name) (.str name (s.toks+1)) v es) (putN name es n))->Q () { s with heap:=h',toks:=s.toks+2 }):wpAny (model prog w) A (setAttr (.ref x) name v) Q E s:=
 set_plain X I F.set (Ik (s:={ s with toks:=s.toks+1 }) X F I hd ht D hr hz λh' a b=>h h' a b)
def Io{data:Array Value}{name:Str}{v:Value}{Q:Unit->Shared->Prop}(X:K.In s.heap)(F:rp K)(hx:s.heap.get? x=some { cls:=.ref 285,data:=.fields data })(ht:findIn K (.ref 285) name=some none)(h:∀h',(∀b o,b≠x->s.heap.get? b=some o->h'.get? b=some o)->h'.get? x=some { cls:=.ref 285,dict:=some s.heap.objs.size,data:=.fields data }->h'.get? s.heap.objs.size=some (aA (putL name (PyData.keyHash w.params name) (.str name (s.toks+1)) v []) (putN name [] 0))->Q () { s with heap:=h',toks:=s.toks+2 }):wpAny (model prog w) A (setAttr (.ref x) name v) Q E s:=
 set_plain X (⟨hx,rfl,rfl,trivial⟩:InstAt s.heap x { cls:=.ref 285,data:=.fields data } 285 none) F.set (Il (s:={ s with toks:=s.toks+1 }) X F hx ht λh' a b c=>h h' a b c)
end
noncomputable def lw(n:String):List Nat:=(Str.ofString n).cps.toList
def vI(n:String):aH (lw n)=Str.ofString n:=by unfold lw;simp
noncomputable abbrev MY(t:Addr):Array Value:=#[.ref t,.none,.none,.none,.bool false,.none]
structure fq(W:Wd)(g:IH)(J:cy)(H:Hp)(h:Heap)(pa xa:List Addr)(e t:Addr)(ks:List (List Nat))(vs:List V):Prop where
 new:∀a∈xa,g a=none/\a∉owned J H/\a∉pa/\h.get? a≠none
 mem:e∈xa
 obj:(ks=[]/\vs=[]/\h.get? e=some { cls:=.ref 285,data:=.fields (MY t) })\/∃d es n,d∈xa/\d≠e/\h.get? e=some { cls:=.ref 285,dict:=some d,data:=.fields (MY t) }/\h.get? d=some (aA es n)/\aN W.P ks es/\ah W.P g J vs (es.map (·.val))
section
variable{l:Loc}{s:Shared}{d:Nat}{e t:Addr}{xa:List Addr}{ks:List (List Nat)}{vs:List V}
def fq.keep(x:fq W g J H h pa xa e t ks vs){pv:List Addr}(st:Step pv g J H h g' J' H' h')(hp:∀a∈xa,a∉pv):fq W g' J' H' h' pa xa e t ks vs:=by
 have nn:=fV (pa:=xa) (λa m=>⟨(x.new a m).1,(x.new a m).2.1,(x.new a m).2.2.2⟩) st;have kk:∀a∈xa,∀o,o.cls≠.type "frame" ->h.get? a=some o->h'.get? a=some o:=λa m o c q=>(st.keep a o q (x.new a m).2.1 (hp a m)).exact c;refine⟨λa m=>⟨(nn a m).1,(nn a m).2.1,(x.new a m).2.2.1,(nn a m).2.2⟩,x.mem,?_⟩
 rcases x.obj with ⟨h1,h2,h3⟩ |⟨d,es,n,m1,m2,h1,h2,h3,h4⟩
 .exact .inl ⟨h1,h2,kk e x.mem _ (by simp) h3⟩
 .exact .inr ⟨d,es,n,m1,m2,kk e x.mem _ (by simp) h1,kk d m1 _ (by simp) h2,h3,st.reps h4⟩
def Ip(F:rp W.K)(b:BAt W fr pa g J H s)(x:fq W g J H s.heap pa xa e t ks vs){name:String}(hm:name∈["word", "irritants", "reason", "place"]){y:Value}(r:ay W.P g J v y)(hz:ks.length<=10){Q:Unit->Shared->Prop}(h:∀h' t' xb,(∀a∈xa,a∈xb)->(∀a∈xb,a∈xa\/s.heap.get? a=none)->BAt W fr pa g J H { s with heap:=h',toks:=t' }->fq W g J H h' pa xb e t (dictPut ks vs (lw name) v).1 (dictPut ks vs (lw name) v).2->Step xa g J H s.heap g J H h'->Q () { s with heap:=h',toks:=t' }):wpAny W.M A (setAttr (.ref e) (Str.ofString name) y) Q E s:=by
 have X:=b.kin;have ht:=F.fld name hm;have zl:∀{ks:List (List Nat)} {vs:List V} {k:List Nat} {v:V},(dictPut ks vs k v).1.length<=ks.length+1:=by
  intro ks
  induction ks with
  |nil=>intro vs k v;injection vs<;>simp[pn]
  |cons a ks ih=>
   intro vs k v
   cases vs with
   |nil=>simp[yA]
   |cons w vs=>
    rw[cU];split
    .simp
    .simp only[length_cons]
     have:=ih (vs:=vs) (k:=k) (v:=v)
     lia
 rcases x.obj with ⟨rfl,rfl,h3⟩ |⟨dx,es,n,m1,m2,h1,h2,h3,h4⟩
 .refine Io X F h3 ht λh' k1 k2 k3=>?_
  have nd:s.heap.get? s.heap.objs.size=none:=be _;have b1:=b.priv (wr:=[e]) (h':=h') (t:=s.toks+2) (λa o m q=>k1 a o (by simpa using m) q) (λa m=>by rw[zp.mp m];exact⟨(x.new e x.mem).1,(x.new e x.mem).2.1⟩) (λa m q=>absurd q (by rw[zp.mp m];exact (x.new e x.mem).2.2.1)) (λa m q=>absurd q (by rw[zp.mp m];exact (x.new e x.mem).2.2.1));obtain⟨w1,w2⟩:=nI (P:=W.P) (g:=g) (J:=J) (k:=lw name) (ks:=[]) (vs:=[]) (es:=[]) r (s.toks+1) trivial (aB.mpr rfl);rw[vI]at w1 w2;have ne:s.heap.objs.size≠e:=λq=>(x.new e x.mem).2.2.2 (q▸nd);refine h h' _ (s.heap.objs.size::xa) (λa m=>zx _ m) (λa m=>?_) b1 ⟨λa m=>?_,zx _ x.mem,.inr ⟨s.heap.objs.size,_,_,zw,ne,k2,k3,w1,w2⟩⟩ ((Step.turned (wr:=[e]) (λa o m q=>k1 a o (by simpa using m) q) (λa m _=>by rw[zp.mp m,k2];simp)).weaken λa m=>by rw[zp.mp m];exact x.mem)
  .rcases zZ.mp m with rfl | m
   .exact .inr nd
   .exact .inl m
  .rcases zZ.mp m with rfl | m
   .exact⟨b.rel.none_at nd,b.rel.not_owned nd,b.fresh_not_pa nd,by rw[k3];simp⟩
   .refine⟨(x.new a m).1,(x.new a m).2.1,(x.new a m).2.2.1,?_⟩
    by_cases q:a=e
    .subst q;rw[k2];simp
    .obtain⟨o,ho⟩:=zF.mp (x.new a m).2.2.2
     rw[k1 a o q ho];simp
 .have I:InstAt s.heap e { cls:=.ref 285,dict:=some dx,data:=.fields (MY t) } 285 (some (aA es n)):=⟨h1,rfl,rfl,h2⟩
  obtain⟨w1,w2⟩:=nI (P:=W.P) (g:=g) (J:=J) (k:=lw name) r (s.toks+1) h3 h4;rw[vI]at w1 w2;refine Im X F I rfl ht h2 (ig (du h3)) (by rw[jU w1];have:=zl (ks:=ks) (vs:=vs) (k:=lw name) (v:=v);lia) λh' k1 k2=>?_;have kk:∀a o,a∉[dx]->s.heap.get? a=some o->h'.get? a=some o:=λa o m q=>(k1.2 a (by simpa using m)).trans q;have b1:=b.priv (wr:=[dx]) (h':=h') (t:=s.toks+2) kk (λa m=>by rw[zp.mp m];exact⟨(x.new dx m1).1,(x.new dx m1).2.1⟩) (λa m q=>absurd q (by rw[zp.mp m];exact (x.new dx m1).2.2.1)) (λa m q=>absurd q (by rw[zp.mp m];exact (x.new dx m1).2.2.1));refine h h' _ xa (λa m=>m) (λa m=>.inl m) b1 ⟨λa m=>⟨(x.new a m).1,(x.new a m).2.1,(x.new a m).2.2.1,?_⟩,x.mem,.inr ⟨dx,_,_,m1,m2,kk e _ (by simpa using m2.symm) h1,k2,w1,w2⟩⟩ ((Step.turned (wr:=[dx]) kk (λa m _=>by rw[zp.mp m,k2];simp)).weaken λa m=>by rw[zp.mp m];exact m1)
  by_cases q:a=dx
  .subst q;rw[k2];simp
  .obtain⟨o,ho⟩:=zF.mp (x.new a m).2.2.2
   rw[kk a o (by simpa using q) ho];simp
def xN{x:Str}{y:Value}(a:At W fr pa cx l [] g J H s)(hk:cx.env.kindOf x=some .local)(hd:(x==("__debug__" : Str))=false)(hs:gX s.heap cx.env.locals x y)(k:Q y s):wpAny W.M A (eval (.Name x p) cx.env) Q E s:=by
 obtain⟨m,hn,e⟩:=hs;exact wpAny_Name (wpAny_loadName_local a.loc.fk hk hn e k) hd
def gH(F:rp W.K)(a:At W fr pa cx l [] g J H s)(x:fq W g J H s.heap pa xa e t ks vs){self:Str}{name:String}{i:Nat}(hs:gX s.heap cx.env.locals self (.ref e))(VA:cx.env.kindOf self=some .local)(Xo:(self==("__debug__" : Str))=false)(hn:cx.ns[i]?=some nm)(Xp:cx.env.kindOf nm=some .local)(hnd:(nm==("__debug__" : Str))=false)(hl:l[i]?=some (some v))(hm:name∈["word", "irritants", "reason", "place"])(hz:ks.length<=10){Q:Flow->Shared->Prop}(h:∀h' t' xb,(∀a∈xa,a∈xb)->(∀a∈xb,a∈xa\/s.heap.get? a=none)->At W fr pa cx l [] g J H { s with heap:=h',toks:=t' }->gX h' cx.env.locals self (.ref e)->fq W g J H h' pa xb e t (dictPut ks vs (lw name) v).1 (dictPut ks vs (lw name) v).2->Step xa g J H s.heap g J H h'->Q .next { s with heap:=h',toks:=t' }):wpAny W.M A (exec (.Assign [.Attribute (.Name self sp) (Str.ofString name) ap] (.Name nm np) pos) cx.env) Q E s:=by
 refine plainObj_wpAny_Assign_Attribute (iR a hn (.inl Xp) hnd hl λy r=>xN a VA Xo hs ?_) (by rfl);refine Ip F a.toBAt x hm r hz λh' t' xb s1 s2 b' x' st=>?_;have np':∀b∈xa,b∉pa:=λb m=>(x.new b m).2.2.1;exact h h' t' xb s1 s2 (a.stepP (s':={ s with heap:=h',toks:=t' }) b' st np') (hs.kept λo q=>st.keep _ o q (a.prv _ (a.pvs _ zw)).2.1 λm=>np' _ m (a.pvs _ zw)) x' st
end
structure xO(W:Wd)(f:Nat)(fd:FuncData)(body:List Stmt)(me:Str)(names:List Str):Prop where
 obj:∃o,W.base.get? f=some o/\o.data=.func fd
 bod:fd.body=.stmts body
 co:fd.scope.isCoroutine=false
 gen:fd.scope.isGenerator=false
 kind:fd.scope.kind=.function
 glob:fd.globals=mainGlobals
 blt:fd.builtins=builtinsNs
 clo:fd.closure=[]
 code:W.base.CodeRec fd.code fd.qualname
 par:tN (me::names) fd.params
 dfl:fd.defaults=.none
 nd:(me::names).Nodup
 pk:∀x∈me::names,fd.scope.names.lookup x=some .local
section
variable{s:Shared}{d:Nat}{e t:Addr}{xa:List Addr}{ks:List (List Nat)}{vs:List V}
def fq.more{pv:List Addr}(x:fq W g J H s.heap pa xa e t ks vs)(hp:∀a∈xa,a∉pv):fq W g J H s.heap (pv++pa) xa e t ks vs:=
 ⟨λa m=>⟨(x.new a m).1,(x.new a m).2.1,λq=>(zH.mp q).elim (hp a m) (x.new a m).2.2.1,(x.new a m).2.2.2⟩,x.mem,x.obj⟩
def fq.less{pv:List Addr}(x:fq W g J H h (pv++pa) xa e t ks vs):fq W g J H h pa xa e t ks vs:=
 ⟨λa m=>⟨(x.new a m).1,(x.new a m).2.1,λq=>(x.new a m).2.2.1 (zU _ q),(x.new a m).2.2.2⟩,x.mem,x.obj⟩
def tP{f:Nat}{fd:FuncData}{body:List Stmt}{self:Str}{names:List Str}{args:List V}{R:Result->Shared->Prop}(hf:xO W f fd body self names)(FY:A.frames=some fr)(FZ:A.depth<recursionLimit)(b:BAt W fr pa g J H s)(x:fq W g J H s.heap pa xa e t ks vs)(rv:ah W.P g J args ys)(Wl:args.length=names.length)(k:∀(cx:Cx) h2 t2,cx.ns=self::names->(∀y∈self::names,cx.env.kindOf y=some .local)->(∀y,cx.env.kindOf y=fd.scope.names.lookup y)->At W (cx.env::fr) (cx.pv++pa) cx (none::args.map some) [] g J H { s with heap:=h2,toks:=t2 }->gX h2 cx.env.locals self (.ref e)->fq W g J H h2 (cx.pv++pa) xa e t ks vs->Step [] g J H s.heap g J H h2->(∀a∈cx.pv,fe J H s.heap a)->(A.deeper cx.env).frames=some (cx.env::fr)->(∀{g' J' H'} {s':Shared},BAt W (cx.env::fr) (cx.pv++pa) g' J' H' s'->Step [] g J H s.heap g' J' H' s'.heap->BAt W fr pa g' J' H' s')->wpAny W.M (A.deeper cx.env) (execs body cx.env) (λf s'=>R (.ok (.ret (match f with | .ret v=>v | _=>.none))) s') (λe s'=>wpAny W.M (A.deeper cx.env) (leaving cx.env e) (λ_ Se=>R (.error e) Se) (λe' Se=>R (.error e') Se) s') { s with heap:=h2,toks:=t2 }):codeAny W.M A (.call (.ref f) ⟨.ref e::ys,[]⟩) R s:=by
 have hk:=dW b;obtain⟨o,ho,FX⟩:=hf.obj;have hyl:=au rv;refine codeAny_call_function FZ (hk _ _ ho) FX hf.co hf.gen hf.bod (hf.code.keeps hk) ?_;refine lZ (names:=self::names) (ds:=[]) (items:=none) hf.par (by simp;lia) (by simp) (by simp;lia) hf.nd (λQ' q=>by rw[hf.dfl];exact xM Q' q) rfl ?_;rw[hf.clo,List.drop_nil,zJ];simp only[newFunctionEnv,isSome_none,false_eq_true,if_false];refine zy (wpAny_alloc ?_);refine zy (wpAny_layCells _ (λname kind cells=>by cases hkc:kind==NameKind.cell<;>simp[hkc]) _ _ _ _ ?_);have ok:=cellsFrom_ok fd.scope.names (s.heap.push { cls:=.type "frame",data:=.dict #[] }) (s.heap.objs.size+1) [] ⟨λ_ _ hm=>(nomatch hm),List.Pairwise.nil⟩ (by rw[size_push];exact zv _);rw[size_push]at ok;rw[show ({ s with heap:=s.heap.push { cls:=.type "frame",data:=.dict #[] } }:Shared).heap.objs.size=s.heap.objs.size+1 from size_push ..];generalize hcs:cellsFrom (s.heap.objs.size+1) fd.scope.names []=cs at ok ⊢;generalize hh1:pushCells (s.heap.push { cls:=.type "frame",data:=.dict #[] }) fd.scope.names=h1 at ok
 let env:Env:={ scope:=fd.scope,locals:=s.heap.objs.size,globals:=fd.globals,cells:=cs,qual:=fd.qualname ++ ".<locals>.",func:=some f,code:=fd.code,frame:=some s.heap.objs.size,builtins:=fd.builtins }
 let cx:Cx:=⟨env,self::names,[]⟩
 have kp:∀a o,s.heap.get? a=some o->h1.get? a=some o:=λa o e=>hh1▸pushCells_keeps _ _ a o (zc _ e);have fobj:h1.get? s.heap.objs.size=some { cls:=.type "frame",data:=.dict #[] }:=hh1▸pushCells_keeps _ _ _ _ (zR _ rfl);obtain⟨b1,st1⟩:=b.grow (h':=h1) (t:=s.toks) kp;have fresh:∀a,s.heap.objs.size<=a->s.heap.get? a=none:=λa ha=>by
  cases e:s.heap.get? a with
  |none=>rfl
  |some o'=>exact absurd (lt_size e) (Nat.not_lt.mpr ha)
 have pvn:∀a∈cx.pv,s.heap.get? a=none/\h1.get? a≠none:=λa m=>by
  rcases zZ.mp m with rfl | m
  .exact⟨be _,by show h1.get? s.heap.objs.size≠none;rw[fobj];simp⟩
  .obtain⟨⟨n,c⟩,m',rfl⟩:=mem_map.mp m
   obtain⟨⟨o,e,_⟩,hle⟩:=ok.empty n c m';exact⟨fresh c (by lia),by show h1.get? c≠none;rw[e];simp⟩
 have dd:∀a∈cx.pv,fe J H s.heap a:=λa m=>.inl (pvn a m).1;have a0:At W (env::fr) (cx.pv++pa) cx (replicate (self::names).length none) [] g J H { s with heap:=h1 }:=by
  refine⟨⟨b1.top,b1.rel,b1.bas,λa m=>?_,λe he=>?_⟩,⟨hf.kind,hf.glob,hf.blt,by simp[cx],⟨λ_=>none,?_,λi x v _ _ q=>?_⟩,λi x hi hk=>?_,λi x v hi=>?_,⟨hf.nd,λq=>?_,λx y c h1 h2=>?_⟩⟩,λa m=>zh _ m⟩
  .rcases zH.mp m with m | m
   .exact⟨b.rel.none_at (pvn a m).1,b.rel.not_owned (pvn a m).1,(pvn a m).2⟩
   .exact b1.prv a m
  .rcases zZ.mp he with rfl | he
   .refine⟨by show fd.scope.kind≠.module;rw[hf.kind];decide,s.heap.objs.size,_,rfl,zh _ zw,?_,fobj,rfl,#[],0,rfl⟩
    cases q:W.base.get? s.heap.objs.size with
    |none=>rfl
    |some o=>have:=hk _ _ q;rw[be]at this;injection this
   .obtain⟨k,L,o,q1,q2,q3⟩:=b1.frs e he
    exact⟨k,L,o,q1,zU _ q2,q3⟩
  .exact hh1▸(Heap.Ns.new s.heap (.type "frame")).keeps (pushCells_keeps _ _)
  .rw[getElem?_replicate]at q;split at q<;>injection q
  .have:=n9 (n:=s.heap.objs.size+1) (acc:=[]) (.inl (show fd.scope.names.lookup x=some .cell from hk))
   rw[hcs]at this;obtain⟨c,hc⟩:=isSome_iff_exists.mp this;exact⟨c,none,hc,(ok.empty x c (mem_of_lookup hc)).1,λv q=>by rw[getElem?_replicate]at q;split at q<;>injection q⟩
  .injection hi
  .obtain⟨⟨n,c⟩,m,e⟩:=mem_map.mp q
   have q1:=(ok.empty n c m).2;have q2:c=s.heap.objs.size:=e;rw[q2]at q1;exact absurd q1 (Nat.not_succ_le_self _)
  .exact name_of_addr ok.apart (mem_of_lookup h1) (mem_of_lookup h2)
 have nx:∀a∈xa,a∉cx.pv:=λa m q=>(x.new a m).2.2.2 (pvn a q).1;have x1:fq W g J H h1 (cx.pv++pa) xa e t ks vs:=(x.keep st1 (λa _ m=>by simp at m)).more (s:={ s with heap:=h1 }) nx;rw[zip_cons_cons,forIn_cons];have kself:cx.env.kindOf self=some .local:=hf.pk self zw;refine zy (zy (zy (iS (v:=none) (loc:=false) (i:=0) a0 rfl (.inl kself) (λu e=>by injection e) λh2 t2 a2 Vx st2=>zq ?_)));refine pP (cx:=cx) (fr:=env::fr) (pa:=cx.pv++pa) _ (λ_ _ _=>rfl) names args ys 1 a2 Wl.symm (λj y hj=>⟨by rw[Nat.add_comm];show (self::names)[j+1]?=some y;simpa using hj,.inl (hf.pk y (zx _ (mem_of_getElem? hj)))⟩) rv (λl' h3 t3 a3 e1 e2 e3 e4 Xq st3=>?_);have hl':l'=none::args.map some:=by
  apply List.ext_getElem?;intro j
  cases j with
  |zero=>rw[e2 0 (by lia)];simp
  |succ j=>
   rw[getElem?_cons_succ,getElem?_map]
   by_cases hj:j<args.length
   .rw[zo hj]
    have:=e4 j args[j] (zo hj)
    rwa [Nat.add_comm]at this
   .rw[e3 (j+1) (by lia),getElem?_eq_none (by lia:args.length<=j)]
    simp
    lia
 subst hl';have nself:self∉names:=(zS.mp hf.nd).1;have hold:=Xq self (.ref e) nself (Vx.1 kself);have st13:Step [] g J H s.heap g J H h3:=(st1.over st2 dd).over st3 dd;have x3:fq W g J H h3 (cx.pv++pa) xa e t ks vs:=(x1.keep st2 nx).keep st3 nx;have k2:∀a o,W.base.get? a=some o->h3.get? a=some o:=λa o e=>a3.rel.sub _ _ (a3.bas _ _ e);refine zq ⟨b.top.nolimit.keeps k2,codeAny_func ?_⟩;have fmf:(A.deeper env).frames=some (env::fr):=by show A.frames.map _=_;rw[FY];rfl
 exact k cx h3 t3 rfl (λy m=>hf.pk y m) (λy=>rfl) a3 hold x3 st13 dd fmf λb' st=>b.step b'.rel st
end
noncomputable def Ei(a1 a2 a3 a4 b1 b2 b3 b4:Pos):List Stmt:=
 [.Assign [.Attribute (.Name (Str.ofString "self") a1) (Str.ofString "word") a2] (.Name (Str.ofString "word") a3) a4,.Assign [.Attribute (.Name (Str.ofString "self") b1) (Str.ofString "irritants") b2] (.Name (Str.ofString "irritants") b3) b4]
def Ej(c1 c2 c3 c4:Pos)(n5:Nat)(c6 c7 c8 c9 F6 a1 a2 a3 a4 b1 b2 b3 b4:Pos):List Stmt:=
 [.Expr (.Call (.Attribute (.Name (Str.ofString "SchemeError") c1) (Str.ofString "__init__") c2) [.Name (Str.ofString "self") c3,.Constant (.str (aH (lw "ReadError"))) n5 c4,.List [.Name (Str.ofString "reason") c6,.Name (Str.ofString "place") c7] c8] [] c9) F6,.Assign [.Attribute (.Name (Str.ofString "self") a1) (Str.ofString "reason") a2] (.Name (Str.ofString "reason") a3) a4,.Assign [.Attribute (.Name (Str.ofString "self") b1) (Str.ofString "place") b2] (.Name (Str.ofString "place") b3) b4]
noncomputable def vJ(K:Frag):Bool:=readsIn K 246 (.type "type")&&(match findCls K (.ref 246) (.type "type") (Str.ofString "__init__")with | some (.val v)=>v==.ref 243 | _=>false)&&specialIn K (.ref 246) "__getattribute__" == some (some (.builtin "type.__getattribute__"))&&keepIn K (.ref 243)
structure Iq(W:Wd):Prop where
 cls:vJ W.K=true
 glob:∃mg,W.base.Ns mainGlobals mg/\mg (Str.ofString "SchemeError")=some (.ref 246)
 i2:∃fd a1 a2 a3 a4 b1 b2 b3 b4,xO W 243 fd (Ei a1 a2 a3 a4 b1 b2 b3 b4) (Str.ofString "self") [Str.ofString "word",Str.ofString "irritants"]
 i1:∃fd c1 c2 c3 c4 n5 c6 c7 c8 c9 F6 a1 a2 a3 a4 b1 b2 b3 b4,xO W 282 fd (Ej c1 c2 c3 c4 n5 c6 c7 c8 c9 F6 a1 a2 a3 a4 b1 b2 b3 b4) (Str.ofString "self") [Str.ofString "reason",Str.ofString "place"]/\(c2.endLine==c9.line)=true/\fd.scope.names.lookup (Str.ofString "SchemeError")=some .globalImplicit
 o1:∃o,W.base.get? 282=some o/\o.cls=.type "function"
def Step.over'{pv xa:List Addr}{g0 J0 H0 h0 g J H h g' J' H' h'}(x:Step pv g0 J0 H0 h0 g J H h)(st:Step xa g J H h g' J' H' h')(hd:∀a∈xa,a∈pv\/fe J0 H0 h0 a):Step pv g0 J0 H0 h0 g' J' H' h':=by
 have st2:=(x.weaken (pv':=pv++xa) λa m=>zh _ m).trans (st.weaken λa m=>zU _ m);refine⟨st2.gsub,st2.gnew,st2.onew,λa o e n m=>st2.keep a o e n λq=>?_,st2.phi,λa m n e=>st2.live a (zh _ m) n e⟩
 rcases zH.mp q with q | q
 .exact m q
 .rcases hd a q with z | z | z
  .exact m z
  .rw[z]at e;injection e
  .exact n z
section
variable{s:Shared}{e t:Addr}{xa:List Addr}
def Ir(T:Iq W)(FY:A.frames=some fr)(FZ:A.depth<recursionLimit)(b:BAt W fr pa g J H s)(x:fq W g J H s.heap pa xa e t [] [])(r1:ay W.P g J v1 y1)(r2:ay W.P g J v2 y2){Q:QP}(k:∀h' t' xb,BAt W fr pa g J H { s with heap:=h',toks:=t' }->fq W g J H h' pa xb e t [lw "word",lw "irritants"] [v1,v2]->(∀a∈xa,a∈xb)->(∀a∈xb,a∈xa\/fe J H s.heap a)->Step xa g J H s.heap g J H h'->Q .none { s with heap:=h',toks:=t' }):wpAny W.M A (call (.ref 243) [.ref e,y1,y2]) Q E s:=by
 obtain⟨fd,a1,a2,a3,a4,b1,b2,b3,b4,hf⟩:=T.i2;have F:=j1 b.top.facts.exn;refine wpAny_call (tP hf FY FZ b x (args:=[v1,v2]) (ad.mpr ⟨_,_,rfl,r1,ad.mpr ⟨_,_,rfl,r2,aB.mpr rfl⟩⟩) rfl λcx h2 t2 wq Bv Wu a hs x2 st2 dd fmf back=>?_);have np:∀{ks vs} {h:Heap} {xa},fq W g J H h (cx.pv++pa) xa e t ks vs->∀b∈xa,b∉cx.pv++pa:=λz b m=>(z.new b m).2.2.1;refine wpAny_execs_cons (gH F a x2 (name:= "word") (i:=1) (v:=v1) hs (Bv _ (by simp)) (by decide +kernel) (by rw[wq];rfl) (Bv _ (by simp)) (by decide +kernel) rfl (by simp) (by simp) λh3 t3 Xr s3 n3 a3 hs3 x3 st3=>?_);refine wpAny_execs_cons (gH F a3 x3 (name:= "irritants") (i:=2) (v:=v2) hs3 (Bv _ (by simp)) (by decide +kernel) (by rw[wq];rfl) (Bv _ (by simp)) (by decide +kernel) rfl (by simp) (by simp[cU,pn]) λh4 t4 VB s4 n4 a4 hs4 x4 st4=>?_);refine wpAny_execs_nil ?_;have st23:=(st2.weaken (pv':=xa) λa m=>by simp at m).trans st3;have w3:∀a∈Xr,a∈xa\/fe J H s.heap a:=λa m=>(n3 a m).imp id λq=>st2.deadO (.inl q);have st5:Step xa g J H s.heap g J H h4:=st23.over' st4 w3;have bb:BAt W fr pa g J H { s with heap:=h4,toks:=t4 }:=b.stepP (s':={ s with heap:=h4,toks:=t4 }) a4.rel st5 λa m=>(x.new a m).2.2.1;refine k h4 t4 VB bb ?_ (λa m=>s4 a (s3 a m)) (λa m=>?_) st5
 .have e1:(dictPut [] [] (lw "word") v1)=([lw "word"],[v1]):=rfl
  have e2:dictPut [lw "word"] [v1] (lw "irritants") v2=([lw "word",lw "irritants"],[v1,v2]):=by
   rw[cU,if_neg (by decide +kernel)];rfl
  rw[e1]at x4;dsimp only at x4;rw[e2]at x4;exact x4.less
 .rcases n4 a m with q | q
  .exact w3 a q
  .exact .inr (st23.deadO (.inl q))
def Iu(T:Iq W)(FY:A.frames=some fr)(FZ:A.depth+1<recursionLimit)(b:BAt W fr pa g J H s)(x:fq W g J H s.heap pa xa e t [] [])(r1:ay W.P g J v1 y1)(r2:ay W.P g J v2 y2){Q:QP}(k:∀g' h' t' xb w1 w2,BAt W fr pa g' J H { s with heap:=h',toks:=t' }->fq W g' J H h' pa xb e t [lw "word",lw "irritants",lw "reason",lw "place"] [w1,w2,v1,v2]->(∀a∈xb,a∈xa\/fe J H s.heap a)->Step xa g J H s.heap g' J H h'->Q .none { s with heap:=h',toks:=t' }):wpAny W.M A (call (.ref 282) [.ref e,y1,y2]) Q E s:=by
 obtain⟨fd,c1,c2,c3,c4,n5,c6,c7,c8,c9,F6,a1,a2,a3,a4,b1,b2,b3,b4,hf,FT,VA⟩:=T.i1;have F:=j1 b.top.facts.exn;have hcls:=T.cls;unfold vJ at hcls;simp only[and_eq_true,beq_iff_eq]at hcls;obtain⟨⟨⟨hr,hfc⟩,Vf⟩,Xs⟩:=hcls;have hfc:findCls W.K (.ref 246) (.type "type") (Str.ofString "__init__")=some (.val (.ref 243)):=by
  split at hfc
  .rename_i v hv
   rw[hv,ze.mp hfc]
  .injection hfc
 refine wpAny_call (tP hf FY (by lia) b x (args:=[v1,v2]) (ad.mpr ⟨_,_,rfl,r1,ad.mpr ⟨_,_,rfl,r2,aB.mpr rfl⟩⟩) rfl λcx h2 t2 wq Bv Wu a hs x2 st2 dd fmf back=>?_);refine wpAny_execs_cons (wpAny_Expr_any (la rfl FT (by simp) rfl ?_) (by unfold interactive;rw[a.loc.fk];rfl) (by rfl));have hglob:∀E':QP,wpAny W.M (A.deeper cx.env) (eval (.Name (Str.ofString "SchemeError") c1) cx.env) (λv s'=>v=.ref 246/\s'={ s with heap:=h2,toks:=t2 }) E' { s with heap:=h2,toks:=t2 }:=λE'=>by
  obtain⟨mg,hg,hv⟩:=T.glob;refine Name_function_global a.loc.fk ((Wu _).trans VA) ?_ (by decide +kernel);refine loadGlobal_global ?_ hv ⟨rfl,rfl⟩;rw[a.loc.gl];exact hg.at' λo e=>dW a.toBAt _ _ e
 refine zY (hglob _) (λv s' hv=>?_) λ_ _ e=>e;obtain⟨rfl,rfl⟩:=hv;intro pl;refine method_cls a.toBAt.kin Vf (cls_value a.toBAt.kin hr hfc rfl ?_);have a':=a.tok (t2+1);refine cR rfl ?_;refine spliced_cons (xN a' (Bv _ (by simp)) (by decide +kernel) hs ?_);refine spliced_cons (wpAny_Constant_str (k:=n5) (pos:=c4) ?_);have a'':=a.tok (t2+1+1);refine spliced_cons ?_;rw[arm_eval_List];refine zy (zL (zy ?_));refine spliced_cons (iR a'' (i:=1) (v:=v1) (by rw[wq];rfl) (.inl (Bv _ (by simp))) (by decide +kernel) rfl λz1 q1=>?_);refine spliced_cons (iR a'' (i:=2) (v:=v2) (by rw[wq];rfl) (.inl (Bv _ (by simp))) (by decide +kernel) rfl λz2 q2=>?_);refine spliced_nil ?_;refine wpAny_newList ?_ (by show 2<=sizeLine;exact aq (by lia));refine spliced_nil ?_;obtain⟨b3,st3⟩:=a''.toBAt.push (o:=bd [z1,z2] 0) rfl (t2+1+1);have rl:ay W.P (jP g h2.objs.size (bd [z1,z2] 0)) J (.lst [v1,v2]) (.ref h2.objs.size):=cL.mpr ⟨_,[z1,z2],0,rfl,bN,ad.mpr ⟨_,_,rfl,st3.rep q1,ad.mpr ⟨_,_,rfl,st3.rep q2,aB.mpr rfl⟩⟩⟩;generalize jP g h2.objs.size (bd [z1,z2] 0)=g3 at b3 st3 rl;generalize h2.push (bd [z1,z2] 0)=h3 at b3 st3 ⊢;have x3:=x2.keep st3 (λ_ _ m=>by simp at m);have a3:=a''.step b3 st3;have hs3:=hs.kept λo q=>st3.keep _ o q (a.prv _ (a.pvs _ zw)).2.1 (by simp);refine⟨⟨b3.kin,Xs⟩,Ir T fmf (by show A.depth+1<_;exact FZ) b3 x3 (bG.mpr ⟨_,rfl⟩) rl λh4 t4 VB b4 x4 s4 n4 st4=>?_⟩;have np3:∀b∈xa,b∉cx.pv++pa:=λb m=>(x2.new b m).2.2.1;have a4:=a3.stepP (s':={ s with heap:=h4,toks:=t4 }) b4 st4 np3;have hs4:=hs3.kept λo q=>st4.keep _ o q (a3.prv _ (a3.pvs _ zw)).2.1 λm=>np3 _ m (zh _ zw);refine wpAny_execs_cons (gH F a4 x4 (name:= "reason") (i:=1) (v:=v1) hs4 (Bv _ (by simp)) (by decide +kernel) (by rw[wq];rfl) (Bv _ (by simp)) (by decide +kernel) rfl (by simp) (by simp) λh5 t5 Xu s5 Xv a5 Os x5 st5=>?_);have e1:dictPut [lw "word",lw "irritants"] [.str (lw "ReadError"),.lst [v1,v2]] (lw "reason") v1=([lw "word",lw "irritants",lw "reason"],[.str (lw "ReadError"),.lst [v1,v2],v1]):=by
  rw[cU,if_neg (by decide +kernel),cU,if_neg (by decide +kernel)];rfl
 refine wpAny_execs_cons (gH F a5 x5 (name:= "place") (i:=2) (v:=v2) Os (Bv _ (by simp)) (by decide +kernel) (by rw[wq];rfl) (Bv _ (by simp)) (by decide +kernel) rfl (by simp) (by rw[e1];simp) λh6 t6 Wv s6 n6 a6 X7 x6 VC=>?_);refine wpAny_execs_nil ?_;have sA:Step xa g J H s.heap g3 J H h4:=((st2.trans st3).weaken (pv':=xa) λa m=>by simp at m).trans st4;have d23:∀a,fe J H h3 a->fe J H s.heap a:=λa q=>(st2.trans st3).deadO q;have w4:∀a∈VB,a∈xa\/fe J H s.heap a:=λa m=>(n4 a m).imp id (d23 a);have sB:Step xa g J H s.heap g3 J H h5:=sA.over' st5 w4;have w5:∀a∈Xu,a∈xa\/fe J H s.heap a:=λa m=>by
  rcases Xv a m with q | q
  .exact w4 a q
  .exact .inr (sA.deadO (.inl q))
 have sC:Step xa g J H s.heap g3 J H h6:=sB.over' VC w5;have w6:∀a∈Wv,a∈xa\/fe J H s.heap a:=λa m=>by
  rcases n6 a m with q | q
  .exact w5 a q
  .exact .inr (sB.deadO (.inl q))
 have bb:BAt W fr pa g3 J H { s with heap:=h6,toks:=t6 }:=b.stepP (s':={ s with heap:=h6,toks:=t6 }) a6.rel sC λa m=>(x.new a m).2.2.1;refine k _ h6 t6 Wv (.str (lw "ReadError")) (.lst [v1,v2]) bb ?_ w6 sC;have e2:dictPut [lw "word",lw "irritants",lw "reason"] [.str (lw "ReadError"),.lst [v1,v2],v1] (lw "place") v2=([lw "word",lw "irritants",lw "reason",lw "place"],[.str (lw "ReadError"),.lst [v1,v2],v1,v2]):=by
  rw[cU,if_neg (by decide +kernel),cU,if_neg (by decide +kernel),cU,if_neg (by decide +kernel)];rfl
 rw[e1]at x6;dsimp only at x6;rw[e2]at x6;exact x6.less
end
def j2{n m:String}:(Value.str (aH (lw n)) t).isStr (Str.ofString m)=(Str.ofString n==Str.ofString m):=by rw[vI];rfl
def Ek{P:Params}{es:List DictEntry}{n:Nat}{J:cy}(hk:aN P [lw "word",lw "irritants",lw "reason",lw "place"] es)(hr:ah P g J [w1,w2,v1,v2] (es.map (·.val))):∃r y,lookIn (Str.ofString "place") (aA es n)=some (some y)/\ah P g J [v1,v2] [r,y]:=by
 rcases es with _ |⟨e1,_ |⟨e2,_ |⟨e3,_ |⟨e4,_ |⟨e5,es⟩⟩⟩⟩⟩<;>try (simp only[pw,yF,yG,and_false]at hk;done)
 simp only[pw,yH]at hk;obtain⟨⟨t1,k1,-⟩,⟨t2,k2,-⟩,⟨t3,k3,-⟩,⟨t4,k4,-⟩,-⟩:=hk;simp only[map_cons,map_nil]at hr;obtain⟨_,_,q1,-,hr⟩:=ad.mp hr;injection q1;obtain⟨_,_,q1,-,hr⟩:=ad.mp hr;injection q1;refine⟨e3.val,e4.val,?_,hr⟩;have d1:e1.key.isStr (Str.ofString "place")=false:=by rw[k1,j2];decide +kernel
 have d2:e2.key.isStr (Str.ofString "place")=false:=by rw[k2,j2];decide +kernel
 have d3:e3.key.isStr (Str.ofString "place")=false:=by rw[k3,j2];decide +kernel
 have d4:e4.key.isStr (Str.ofString "place")=true:=by rw[k4,j2];decide +kernel
 unfold lookIn aA;simp only[find?_cons,d1,d2,d3,d4]
section
variable{d:Nat}
def MZ(T:Iq W)(aG:eq d A fr)(pa:List Addr):xK W A fr pa:=by
 intro g J H s vs xs Q E b rv hl k;have F:=j1 b.top.facts.exn;have X:=b.kin;refine⟨F.keep,?_⟩;obtain⟨nm,q,N,bs,hd,sn,sub,ab,col,dd,k0,k1,k2,k3,k5,ho⟩:=F.cls;obtain⟨oF,Xw,hf2⟩:=T.o1;revert rv k;apply Bw hl;intro v1 v2 rv k;obtain⟨y1,_,rfl,r1,Xy⟩:=ad.mp rv;obtain⟨y2,_,rfl,r2,Xz⟩:=ad.mp Xy;have:=aB.mp Xz;subst this;refine MX PySem.F.excBase_Exception UN X (X _ _ ho) F.init (dW b _ _ Xw) hf2 (λh' e hm=>?_) (by show 2<=sizeLine;exact aq (by lia));obtain⟨tt,he,X8,ht⟩:=hm.there;obtain⟨b1,st1⟩:=b.grow (t:=s.toks) hm.keeps;have e0:=hm.new;have x1:fq W g J H h' pa [e] e tt [] []:=⟨λa m=>by
  rw[zp.mp m];exact⟨b.rel.none_at e0,b.rel.not_owned e0,b.fresh_not_pa e0,by rw[he];simp⟩,zw,.inl ⟨rfl,rfl,he⟩⟩
 refine Iu (A:=A.under (.builtin "type.__call__" ⟨.ref 285::[y1,y2],[]⟩)) T (fr:=fr) (s:={ s with heap:=h' }) aG.frames (by show A.depth+1+1<recursionLimit;have:=aG.depth;lia) b1 x1 r1 r2 λg2 h2 t2 xb w1 w2 b2 x2 n2 st2=>⟨rfl,?_⟩
 rcases x2.obj with ⟨z,-⟩ |⟨da,es,n,m1,m2,h3,h4,h5,h6⟩
 .injection z
 obtain⟨ry,y,p1,p2⟩:=Ek (n:=n) h5 h6;have nd:=x2.new da m1;have b3:=b2.still h4 nd.1 nd.2.1 nd.2.2.1;have up:∀b y,g2 b=some y->jP g2 da (aA es n) b=some y:=λb y q=>by
  by_cases h:b=da
  .subst h;rw[nd.1]at q;injection q
  .rw[bj h];exact q
 have sA:Step [] g J H s.heap g2 J H h2:=st1.over st2 λa m=>by rw[zp.mp m];exact .inl e0
 have dA:∀a∈xb,fe J H s.heap a:=λa m=>by
  rcases n2 a m with q | q
  .rw[zp.mp q];exact .inl e0
  .exact st1.deadO q
 have sB:Step [] g J H s.heap (jP g2 da (aA es n)) J H h2:=⟨λa o q=>up a o (sA.gsub a o q),λa o q=>by
  by_cases h:a=da
  .subst h
   rcases dA a m1 with z | z
   .exact .inr (.inr z)
   .exact .inr (.inl z)
  .rw[bj h]at q;exact sA.gnew a o q,sA.onew,sA.keep,sA.phi,sA.live⟩
 refine k e [e] _ _ ⟨λa m=>?_,zw,_,da,aA es n,ry,y,h3,(by show 4<6;lia),.inl rfl,bN,p1,aZ up (zO _) p2⟩ ⟨da,tt,h3⟩ (λa m=>?_) b3 sB ⟨rfl,rfl,rfl⟩
 .rw[zp.mp m]
  have ne:=x2.new e x2.mem;exact⟨by rw[bj (z6 m2)];exact ne.1,ne.2.1,ne.2.2.1,ne.2.2.2⟩
 .rw[zp.mp m];exact .inl e0
def El(aG:eq d A fr)(pa:List Addr):mB W A fr pa:=by
 intro env x Q E s0 h;unfold raiseStmt;refine zy (zY h (λv s₁ h₁=>?_) λ_ _ x=>x);obtain⟨g,J,H,e,xa,fs,rfl,b,xe,⟨da,t,he⟩,hE⟩:=h₁;have F:=j1 b.top.facts.exn;obtain⟨nm,q,N,bs,hd,sn,sub,ab,col,dd,k0,k1,k2,k3,k5,ho⟩:=F.cls;have hC:=b.kin _ _ ho;have hcB:(Value.ref 285::pz).contains (.type "BaseException")=true:=by decide +kernel
 obtain⟨hp,gg,dr,tk,os⟩:=s₁
 repeat (first | with_reducible refine wpAny_loadPart_at he ?_ | with_reducible refine wpAny_loadPart_at hC ?_ | (with_reducible refine wpAny_isSubtype_exc hC ?_;rw[hcB]) | wp_step)
 exact wpAny_raiseNew_none aG.hand hE
end
def rt(name:Str)(o:Obj):(Obj.dropName name o).cls=o.cls:=by
 rw[Obj.dropName_eq];unfold Obj.dropNameByArray;split
 .split<;>rfl
 .rfl
def pb{name:Str}{o:Obj}(e:o.isFreed=false):(Obj.dropName name o).isFreed=false:=by
 rw[Obj.dropName_eq];unfold Obj.dropNameByArray;split
 .split<;>rfl
 .exact e
def Ar{s:Shared}{a:Addr}{m:Str->Option Value}{name:Str}{Q:Bool->Shared->Prop}(hn:s.heap.Ns a m)(hQ:∀h' v,h'.Ns a (λx=>if x=name then v else m x)->Heap.SameBut a s.heap h'->(∀o,s.heap.get? a=some o->∃o',h'.get? a=some o'/\o'.cls=o.cls)->Q (m name).isSome { s with heap:=h' }):wpAny M A (nsDel a name) Q E s:=λΓ p hΓ=>by
 have lib:=wpAny_nsDel_keeps (M:=M) (A:=A) (E:=λ_ _=>True) (name:=name) hn (Q:=λb s'=>b=(m name).isSome/\∃v,s'.heap.Ns a (λx=>if x=name then v else m x)/\Heap.SameBut a s.heap s'.heap) (λh' v x y=>⟨rfl,v,x,y⟩) Γ p hΓ;obtain⟨o,es,ep,ho,hd,hk,hm⟩:=hn;have hany:es.any (·.refKey)=false:=by
  rw[Array.any_eq_false'];intro e he;obtain⟨n,t,h⟩:=hk e he;simp[DictEntry.refKey,h]
 have hhas:nsHas name o=pure (es.any (·.key.isStr name)):=by
  rw[nsHas_eq];unfold nsHasByArray;rw[hd];show (if (es.any λx=>x.key.isStr name)=true then _ else _)=_;generalize (es.any λx=>x.key.isStr name)=b;injection b<;>simp[hany]
 simp only[nsDel,Sem.wp_bind']at lib ⊢;rw[Sem.wp_loadPart_of M Γ _ p s (o:=o) _ ho]at lib ⊢;rw[hhas]at lib ⊢;simp only[Sem.wp_pure']at lib ⊢;generalize (es.any λx=>x.key.isStr name)=b at lib ⊢
 cases b with
 |false=>
  simp only[false_eq_true,if_false,Sem.wp_pure']at lib ⊢;obtain⟨l1,v,l2,l3⟩:=lib;rw[l1];exact hQ s.heap v l2 l3 λo e=>⟨o,e,rfl⟩
 |true=>
  simp only[if_true,Sem.wp_bind',Sem.wp_cmd_updatePart,Sem.wp_pure']at lib ⊢;obtain⟨l0,l1,v,l2,l3⟩:=lib;have q:=hQ _ v l2 l3 λo' e=>by
   rw[ho]at e;injection e;exact⟨_,zC _ ho (pb (Heap.get?_some_iff.mp ho).2),rt ..⟩
  rw[<-l1]at q;exact⟨l0,q⟩
section
variable{l lo:Loc}{s:Shared}
def Iv{i:Nat}{x:Str}{Q:Unit->Shared->Prop}(a:At W fr pa cx l [] g J H s)(hx:cx.ns[i]?=some x)(hk:cx.env.kindOf x=some .local)(h:∀h' t,At W fr pa cx (l.set i none) [] g J H { s with heap:=h',toks:=t }->Step cx.pv g J H s.heap g J H h'->Q () { s with heap:=h',toks:=t }):wpAny W.M A (do bindName cx.env x .none;unbindBehindTheSuite cx.env x pos) Q E s:=by
 have hp:(cx.env.scope.kind==.class||(cx.env.scope.kind==.module&&cx.env.locals != cx.env.globals))=false:=by rw[a.loc.fk];rfl
 refine zy (wpAny_bindName (iS (v:=none) (loc:=false) a hx (.inl hk) (λu e=>by injection e) λh1 t1 a1 Vw st1=>?_));unfold unbindBehindTheSuite;refine wpAny_onRaise ?_;unfold unbindName;refine zy (wpAny_point (zy ?_));unfold deleteName;simp only[hk,hp];rw[if_neg (by decide)];obtain⟨m,hn,hm⟩:=a1.loc.loc;refine zy (Ar hn λh' v oU hs hcls=>?_);obtain⟨m0,n0,e0⟩:=Vw.1 hk;have hsome:(m x).isSome=true:=by rw[<-Ns.same n0 hn x,e0];rfl
 rw[hsome];simp only[Bool.not_true,false_eq_true,if_false];have pl:cx.env.locals∈cx.pv:=zw;have kp:∀b o,b∉[cx.env.locals]->h1.get? b=some o->h'.get? b=some o:=λb o q e=>(hs.2 b (by simpa using q)).trans e;have b1:=a1.toBAt.priv (t:=t1) (h':=h') kp (λb q=>by rw[zp.mp q];exact⟨(a.prv _ (a.pvs _ pl)).1,(a.prv _ (a.pvs _ pl)).2.1⟩) (λb q _ o e c _=>by
   rw[zp.mp q]at e ⊢;obtain⟨o1,es,ep,e1,f,_⟩:=oU;obtain⟨o2,e2,c2⟩:=hcls o e;rw[e1]at e2;injection e2;exact⟨o1,e1,c2.trans c,es,ep,f⟩) (λb q _=>by
   rw[zp.mp q];obtain⟨o,es,ep,e,f,_⟩:=oU;rw[e];simp)
 have kc:∀b,b≠cx.env.locals->∀o,h1.get? b=some o->h'.get? b=some o:=λb q o e=>(hs.2 b q).trans e;have st2:Step cx.pv g J H h1 g J H h':=((Step.turned (wr:=[cx.env.locals]) kp (λb q _=>by
  rw[zp.mp q];obtain⟨o,es,ep,e,f,_⟩:=oU;rw[e];simp)).weaken λb q=>by rw[zp.mp q];exact pl)
 have fin:At W fr pa cx (l.set i none) [] g J H { s with heap:=h',toks:=t1 }:=by
  refine⟨b1,⟨a.loc.fk,a.loc.gl,a.loc.bl,by rw[length_set];exact a.loc.len,⟨_,oU,λj z u hj rV hl=>?_⟩,λj z hj rV=>?_,λj z u hj rV hl=>?_,a.loc.ok⟩,a.pvs⟩
  .have q:j≠i:=λq=>by
    subst q;have hlt:j<l.length:=by rw[a.loc.len];exact (zu.mp hx).1
    rw[z5 hlt]at hl;injection hl
   obtain⟨w,e,Si⟩:=hm j z u hj rV hl;exact⟨w,by rw[if_neg (DE a.loc.ok.nd hx hj q)];exact e,Si⟩
  .obtain⟨c,y,e,hc,hv⟩:=a1.loc.cel j z hj rV
   exact⟨c,y,e,Heap.IsCell.keep hc (kc c (a.loc.ok.cell_ne e)),hv⟩
  .rw[List.getElem?_nil]at hl;injection hl
 exact zq (wpAny_point (h h' t1 fin ((st1.weaken λ_ m=>xt m).trans st2)))
def M0{x:Value}(b:BAt W fr pa g J H s)(e:aP H .len [v]=some r)(rx:ay W.P g J v x)(k:Gives W fr pa g J H s r H Q):wpAny W.M A (call (.builtin KI.len.id) [x]) Q E s:=
 J8 b e (ev.mpr ⟨_,rfl,rx⟩) k
variable{C:ba}{e:Expr}
def Ko{i:Nat}(hm:mE (kdOf cx) cx.ns [] (.var i) e=true)(a:At W fr pa cx l [] g J H s)(h:wE C X (.var i) l [] H K)(k:∀v y,K v H->l[i]?=some (some v)->ay W.P g J v y->Q y s):wpAny W.M A (eval e cx.env) Q E s:=by
 apply qS hm;intro x q n1 n2 n3;rw[mX]at h;split at h
 .rename_i v hl
  exact iR a n1 n2 n3 hl λy r=>k v y h hl r
 .exact h.elim
def Kp{i:Nat}(hm:mE (kdOf cx) cx.ns [] (.glb i) e=true)(a:At W fr pa cx l [] g J H s)(h:∀v,af i=some v->∀y,ay W.P g J v y->Q y s)(hv:∃v,af i=some v):wpAny W.M A (eval e cx.env) Q E s:=by
 apply xg hm;intro x q n1 n2 n3;obtain⟨v,hv⟩:=hv;exact qR a n1 n2 n3 hv λy r=>h v hv y r
end
def o7.mono{lo:Loc}(x:o7 P g J cx l lo h)(hg:∀a o,g a=some o->g' a=some o):o7 P g' J cx l lo h:=by
 refine⟨x.fk,x.gl,x.bl,x.len,?_,λi y hi hk=>?_,λi y v hi hk hv=>?_,x.ok⟩
 .obtain⟨m,hn,hm⟩:=x.loc
  refine⟨m,hn,λi y v hi hk hl=>?_⟩;obtain⟨z,e,r⟩:=hm i y v hi hk hl;exact⟨z,e,fU hg (zO _) r⟩
 .obtain⟨c,z,e,q,r⟩:=x.cel i y hi hk
  refine⟨c,z,e,q,λv hv=>?_⟩;obtain⟨u,e1,r1⟩:=r v hv;exact⟨u,e1,fU hg (zO _) r1⟩
 .obtain⟨c,z,e,q,r⟩:=x.fre i y v hi hk hv
  exact⟨c,z,e,q,fU hg (zO _) r⟩
def UO{m:V->Prop}(h:vZ v=true)(k:m (.int 0)):m v:=by
 cases v with
 |int i=>exact ge (m:=λi=>m (.int i)) h k
 |_=>exact ff h
def UP{m:V->Prop}(h:vN v=true)(k:m .none):m v:=by
 cases v with
 |none=>exact k
 |_=>exact ff h
def UQ{m:V->Prop}(h:vS v=true)(k:∀s,m (.str s)):m v:=by
 cases v with
 |str s=>exact k s
 |_=>exact ff h
def Iw(h:MG o=true):o=some (.blt .len):=by
 cases o with
 |none=>exact ff h
 |some u=>cases u with
  |blt u=>cases u with
   |len=>rfl
   |_=>exact ff h
  |_=>exact ff h
section
variable{m:PE->Prop}{v:Nat}{c:PE}
def UR(h:Kk (λn as=>Rp (λn=>MG (af n)) n&&MF (Ib λj=>j != v) as) c=true)(k:∀n j,j≠v->af n=some (.blt .len)->m (.call (.glb n) (.k (.var j) .z))):m c:=
 H8 h zt λg as h=>Mw (m:=λg=>m (.call g as)) (an h).1 zt λn h3=>MJ (m:=λas=>m (.call (.glb n) as)) (an h).2 λq h4=>
  DN (m:=λq=>m (.call (.glb n) (.k q .z))) h4 zt λj h5=>k n j (bne_iff_ne.mp h5) (Iw h3)
def US(h:Kl (λq k=>Ib (λi=>i==v) q&&k==25) c=true)(k:m (.attr (.var v) 25)):m c:=
 H7 h zt λq _ h=>ge (m:=λz=>m (.attr q z)) (an h).2 (DN (m:=λq=>m (.attr q 25)) (an h).1 zt λ_ h=>ge (m:=λi=>m (.attr (.var i) 25)) h k)
def UT(h:hT v c=true)(k:∀n j s,j≠v->af n=some (.blt .len)->m (.ite (.cmp2 (.lit (.int 0)) .LtE (.attr (.var v) 25) .LtE (.call (.glb n) (.k (.var j) .z))) (.lit .none) (.lit (.str s)))):m c:=
 My h zt λt a b h=>vt (m:=λb=>m (.ite t a b)) (an h).2 zt λw h2=>UQ (m:=λw=>m (.ite t a (.lit w))) h2 λs=>
  vt (m:=λa=>m (.ite t a (.lit (.str s)))) (an (an h).1).2 zt λw h3=>UP (m:=λw=>m (.ite t (.lit w) (.lit (.str s)))) h3 (H6 (m:=λt=>m (.ite t (.lit .none) (.lit (.str s)))) (an (an h).1).1 zt λz o p o2 c h=>
    let q4:=an h;let q3:=an q4.1;let q2:=an q3.1;let q1:=an q2.1
    vt (m:=λz=>m (.ite (.cmp2 z o p o2 c) (.lit .none) (.lit (.str s)))) q1.1 zt λw h5=>UO (m:=λw=>m (.ite (.cmp2 (.lit w) o p o2 c) (.lit .none) (.lit (.str s)))) h5 (ge (m:=λo=>m (.ite (.cmp2 (.lit (.int 0)) o p o2 c) (.lit .none) (.lit (.str s)))) q1.2 (ge (m:=λo=>m (.ite (.cmp2 (.lit (.int 0)) .LtE p o c) (.lit .none) (.lit (.str s)))) q2.2 (US (m:=λp=>m (.ite (.cmp2 (.lit (.int 0)) .LtE p .LtE c) (.lit .none) (.lit (.str s)))) q3.2 (UR (m:=λc=>m (.ite (.cmp2 (.lit (.int 0)) .LtE (.attr (.var v) 25) .LtE c) (.lit .none) (.lit (.str s)))) q4.2 λn j=>k n j s)))))
end
def UU{ns:List Str}{v:Nat}{hb:List Stmt}{m:bh->List Stmt->Prop}(q:Tt kd ns v h hb=true)(k:∀n j s e pos,j≠v->af n=some (.blt .len)->mE kd ns [] (.ite (.cmp2 (.lit (.int 0)) .LtE (.attr (.var v) 25) .LtE (.call (.glb n) (.k (.var j) .z))) (.lit .none) (.lit (.str s))) e=true->m (.k (.ret (.ite (.cmp2 (.lit (.int 0)) .LtE (.attr (.var v) 25) .LtE (.call (.glb n) (.k (.var j) .z))) (.lit .none) (.lit (.str s)))) .z) [.Return (some e) pos]):m h hb:=
 Id (m:=λh=>m h hb) q λp q=>MI (m:=λp=>m (.k p .z) hb) q λp q=>u7 (m:=λhb=>m (.k (.ret p) .z) hb) (an q).2 λst q4=>vy (ms:=λst=>m (.k (.ret p) .z) [st]) q4 λv pos q5=>
  pK (mo:=λv=>m (.k (.ret p) .z) [.Return v pos]) q5 λe q6=>UT (m:=λp=>mE kd ns [] p e=true->m (.k (.ret p) .z) [.Return (some e) pos]) (an q).1 (λn j s hj hn q6=>k n j s e pos hj hn q6) q6
def Em{c:Nat}(h:aR H (.exn c fs) 25=some r):c=285/\∃a,fs=[a,r]:=
 cw (m:=λc=>c=285/\∃a,fs=[a,r]) h (λh=>⟨rfl,uG (m:=λfs=>∃a,fs=[a,r]) h λa p h=>ae (m:=λr=>∃a',[a,p]=[a',r]) h ⟨a,rfl⟩⟩) λh=>nn h
section
variable{l:Loc}{s:Shared}{C:ba}
def vK(hm:mE (kdOf cx) cx.ns [] (.lit v) e=true)(a:At W fr pa cx l [] g J H s)(hk:K v H)(k:oZ W fr pa cx l [] g J H s K Q):wpAny W.M A (eval e cx.env) Q E s:=
 vf hm λy t r=>k.tok a t hk r
def Ix{n j:Nat}(hlen:af n=some (.blt .len))(hm:mE (kdOf cx) cx.ns [] (.call (.glb n) (.k (.var j) .z)) e=true)(a:At W fr pa cx l [] g J H s)(hh:wE C X (.call (.glb n) (.k (.var j) .z)) l [] H K)(k:oZ W fr pa cx l [] g J H s K Q):wpAny W.M A (eval e cx.env) Q E s:=by
 apply nT hm;intro fx fp as XA c1 c2;rw[GH,Cm,hlen,Cr,Cl,Cp]at hh;have c5:=c2;revert c5;apply cS c2;intro ej as c3 c4 c5
 cases fh c4
 refine wpAny_Call_NameR (Kp c1 a (λw hw y ry=>?_) ⟨_,hlen⟩);rw[hlen]at hw;injection hw;obtain rfl:=ry;refine cR (bf c5).1 ?_;rw[qT c3];refine spliced_cons (Ko (C:=C) c3 a hh λw y Ov X9 Si=>?_);refine spliced_nil ⟨⟨a.toBAt.kin,rfl⟩,?_⟩;rw[LA,GI,Lz,Ck,pu]at Ov;obtain⟨q8,XB,Ov⟩:=dm Ov;exact M0 a.toBAt XB Si (k.gives a Ov)
def As{v c:Nat}(hv:l[v]?=some (some (.exn c fs)))(hr:aR H (.exn c fs) 25=some r)(hm:mE (kdOf cx) cx.ns [] (.attr (.var v) 25) e=true)(a:At W fr pa cx l [] g J H s)(k:Gives W fr pa g J H s r H Q):wpAny W.M A (eval e cx.env) Q E s:=by
 apply nS hm;intro Yb apos Sw m7;rw[arm_eval_Attribute];refine zy (zY (mz Sw (Ko (l:=l) (H:=H) (C:=λ_ _ _ _ _=>False) (X:=λ_ _ _=>False) (K:=λu _=>u=.exn c fs) m7 a (by rw[mX,hv]) (Q:=λxo s1=>wpAny W.M A (getAttr xo (fT 25) true) Q E s1) λu y hu _ ru=>?_)) (λo s₁ h₁=>zy (zL (zy (zQ (zY h₁ (λr s₂ h₂=>zy (wpAny_letTemporaryGo (zq h₂))) λ_ _ x=>x))))) λ_ _ x=>x);subst hu;exact qJ a.toBAt hr ru k
def Iy{v n j c:Nat}{str:List Nat}(hu:A.units+100<cLine)(hlen:af n=some (.blt .len))(hv:l[v]?=some (some (.exn c fs)))(a:At W fr pa cx l [] g J H s)(hm:mE (kdOf cx) cx.ns [] (.ite (.cmp2 (.lit (.int 0)) .LtE (.attr (.var v) 25) .LtE (.call (.glb n) (.k (.var j) .z))) (.lit .none) (.lit (.str str))) e=true)(hw:wE C X (.ite (.cmp2 (.lit (.int 0)) .LtE (.attr (.var v) 25) .LtE (.call (.glb n) (.k (.var j) .z))) (.lit .none) (.lit (.str str))) l [] H K)(k:oZ W fr pa cx l [] g J H s K Q):wpAny W.M A (eval e cx.env) Q E s:=by
 apply xh hm;intro et ex ey XC m1 m2 m3;apply pI m1;intro el er Yc Su XD m4 m5 m6;rw[Cn,wN,uN,Cj,wM,mX,hv]at hw;dsimp only at hw;rw[wL]at hw;obtain⟨r,hr,hw⟩:=dm hw;rw[Ly]at hw;obtain⟨b1,XE,hw⟩:=iQ hw;refine wpAny_IfExp (lX (vf (v:=.int 0) (g:=g) (J:=J) m4 λy0 t5 XF=>As hv hr m5 (a.tok t5) λg7 J7 yr s7 Ww b7 VD sm7=>?_) XD);have a7:=(a.tok t5).step b7 VD;have sm7:bu s s7:=⟨sm7.1,sm7.2.1,sm7.2.2⟩;refine kR b7 hu XE (VD.rep XF) Ww λt8=>z9 ?_;have k8:=k.trans VD sm7
 cases b1 with
 |false=>exact vK m3 (a7.tok t8) hw (k8.trans (s':={ s7 with toks:=t8 }) Step.refl ⟨rfl,rfl,rfl⟩)
 |true=>
  refine Ix (C:=C) hlen m6 (a7.tok t8) hw λg9 J9 H9 vq yq s9 Sx XG a9 Wx VE=>?_;rw[Lx]at Sx;obtain⟨b2,Ss,Sx⟩:=iQ Sx;refine kR a9.toBAt hu Ss (Wx.rep Ww) XG λVF=>z9 ?_;have k9:=k8.trans (s':={ s9 with toks:=VF }) Wx ⟨VE.1,VE.2.1,VE.2.2⟩
  cases b2 with
  |true=>exact vK m2 (a9.tok VF) Sx k9
  |false=>exact vK m3 (a9.tok VF) Sx k9
def vL{e c:Nat}(a:At W fr pa cx l [] g J H s)(x:dh W g J H s.heap pa xb e c fs):∃g',At W fr pa cx l [] g' J H s/\ay W.P g' J (.exn c fs) (.ref e)/\∀{g0 J0 H0 h0},Step cx.pv g0 J0 H0 h0 g J H s.heap->fe J0 H0 h0 e->Step cx.pv g0 J0 H0 h0 g' J H s.heap:=by
 obtain⟨vs,da,od,r1,y1,XH,hsz,N5,Wy,KC,Wz⟩:=id x.obj;have ne:=x.new e x.mem;have up:∀b y,g b=some y->jP g e ⟨.ref c,some da,.fields vs,#[]⟩ b=some y:=λb y q=>by
  rw[bj λh=>by rw[h,ne.1]at q;cases q];exact q
 refine⟨jP g e ⟨.ref c,some da,.fields vs,#[]⟩,⟨a.toBAt.still XH ne.1 ne.2.1 ne.2.2.1,a.loc.mono up,a.pvs⟩,⟨e,da,vs,od,r1,y1,rfl,bN,up _ _ Wy,KC,aZ up (zO _) Wz⟩,λst dd=>⟨λa o q=>up a o (st.gsub a o q),λa o q=>?_,st.onew,st.keep,st.phi,st.live⟩⟩
 by_cases h:a=e
 .subst h;exact .inr dd.symm
 .rw[bj h]at q;exact st.gnew a o q
def Au{e:Nat}(b:BAt W fr pa g J H s)(x:dh W g J H s.heap pa xb e 285 fs){R:Bool->Shared->Prop}(k:R true s):wpAny W.M A (excMatches (.ref e) (.ref 285)) R E s:=by
 obtain⟨nm,q,N,bs,hd,sn,sub,ab,col,dd,k0,k1,k2,k3,k5,XI⟩:=(j1 b.top.facts.exn).cls;obtain⟨vs,da,od,r1,y1,Vj,hsz,N5,Wy,KC,Wz⟩:=id x.obj;exact wpAny_excMatches_sub_self (b.kin _ _ XI) Vj rfl (by decide +kernel) k
end
section
variable{d:Nat}
def M1(aG:eq d A fr)(pa:List Addr)(C:ba):xL W A fr pa C:=by
 intro cx l g0 g J0 J H0 H s0 s gk v c h hb x n p pos fs e xa K X Q E fm hx hv hk hh a xe dead st0 sm0 hc hw kk;revert hw;apply UU hh;intro n' j str e' pos' Yd hlen hm hw;have hvl:v<l.length:=by rw[a.loc.len];exact (zu.mp hv).1
 have hlv:(l.set v (some (.exn c fs)))[v]?=some (some (.exn c fs)):=z5 hvl;rw[sx,LD]at hw;have hc5:c=285:=by
  have hw:=hw;rw[Cn,wN,uN,Cj,wM,mX,hlv]at hw;dsimp only at hw;rw[wL]at hw;obtain⟨r,hr,hw⟩:=dm hw;exact (Em hr).1
 subst hc5;obtain⟨outer,ho⟩:=fm.top;obtain⟨L,hL⟩:=fm.frame;refine qZ fm.frames ho hL a.toBAt xe λh1 xb n0 n1 x1 t1 XJ st1=>?_;refine iW XJ x1 t1 λh2 x2 t2 b2 st2=>?_;have np:∀a∈xb,a∉pa:=λa m=>(x2.new a m).2.2.1;have st12:=(st1.weaken n0).trans st2;refine wpAny_handleBy_cons (codeAny_handlers_test (Kp hx (a.stepP (s':={ s with heap:=h2 }) b2 st12 np) (λw hw y ry=>?_) ⟨_,hc⟩)) (by intro q;injection q);rw[hc]at hw;injection hw;obtain⟨rfl,-⟩:=ry;refine Au b2 x2 ?_;show codeAny _ _ _ _ _;refine codeAny_handlers_suite_as ?_;refine iW b2 x2 t2 λh3 x3 t3 b3 st3=>?_;have st13:=st12.trans st3;have sA:=st0.over st13 λa m=>by
  rcases n1 a m with q | q
  .exact dead a q
  .exact st0.deadO (.inl q)
 obtain⟨g5,a4,VG,up⟩:=vL (a.stepP (s':={ s with heap:=h3 }) b3 st13 np) x3;have sB:=up sA (dead e xe.mem);refine jZ (loc:=false) a4 hv (.inl hk) VG λh4 Ye a5 st4=>?_;have sC:=sB.trans (st4.weaken λ_ m=>xt m);refine wpAny_execs_cons (wpAny_Return_some (Iy (C:=C) (by have:=aG.units;show A.units+100<cLine;omega) hlen hlv a5 hm hw λg' J' H' vr y s' hK ry aa ss sm=>?_));refine Iv aa hv hk λh6 t6 a6 VC=>?_;have hK:K (.ret vr) ((l.set v (some (.exn 285 fs))).set v none) H':=hK;rw[List.set_set]at hK a6;exact kk g' J' H' (.ret vr) _ (.ret y) _ hK ⟨y,rfl,ry⟩ a6 ((sC.trans (ss.weaken λ_ m=>by simp at m)).trans VC) (sm0.trans ⟨sm.1,sm.2.1,sm.2.2⟩)
end
noncomputable def En(f:Bool->Bool)(e:Value):Bool:=if h:e.ctorIdx=3 then Value.bool.elim (motive:=λ_=>Bool) e h f else false
def Eo{f}(h:En f e=true):∃b,e=.bool b/\f b=true:=
 if c:e.ctorIdx=3 then Value.bool.elim (motive:=λe=>En f e=true->∃b,e=.bool b/\f b=true) e c (λb h=>⟨b,rfl,h⟩) h else ff ((zX c).symm.trans h)
noncomputable def M2(f:Int->Tok->Bool)(e:Value):Bool:=if h:e.ctorIdx=4 then Value.int.elim (motive:=λ_=>Bool) e h f else false
def Iz{f}(h:M2 f e=true):∃i t,e=.int i t/\f i t=true:=
 if c:e.ctorIdx=4 then Value.int.elim (motive:=λe=>M2 f e=true->∃i t,e=.int i t/\f i t=true) e c (λi t h=>⟨i,t,rfl,h⟩) h else ff ((zX c).symm.trans h)
noncomputable def Ep(f:Str->Tok->Bool)(e:Value):Bool:=if h:e.ctorIdx=6 then Value.str.elim (motive:=λ_=>Bool) e h f else false
def rA{f}(h:Ep f e=true):∃x t,e=.str x t/\f x t=true:=
 if c:e.ctorIdx=6 then Value.str.elim (motive:=λe=>Ep f e=true->∃x t,e=.str x t/\f x t=true) e c (λx t h=>⟨x,t,rfl,h⟩) h else ff ((zX c).symm.trans h)
noncomputable def oe(f:String->Bool)(e:Value):Bool:=if h:e.ctorIdx=9 then Value.builtin.elim (motive:=λ_=>Bool) e h f else false
def tQ{f}(h:oe f e=true):∃i,e=.builtin i/\f i=true:=
 if c:e.ctorIdx=9 then Value.builtin.elim (motive:=λe=>oe f e=true->∃i,e=.builtin i/\f i=true) e c (λi h=>⟨i,rfl,h⟩) h else ff ((zX c).symm.trans h)
noncomputable def yref(f:Addr->Bool)(e:Value):Bool:=if h:e.ctorIdx=10 then Value.ref.elim (motive:=λ_=>Bool) e h f else false
def j3{f}(h:yref f e=true):∃a,e=.ref a/\f a=true:=
 if c:e.ctorIdx=10 then Value.ref.elim (motive:=λe=>yref f e=true->∃a,e=.ref a/\f a=true) e c (λa h=>⟨a,rfl,h⟩) h else ff ((zX c).symm.trans h)
noncomputable def IA(f:Array Value->Nat->Bool)(e:Data):Bool:=if h:e.ctorIdx=2 then Data.seq.elim (motive:=λ_=>Bool) e h f else false
def xP{f}{e:Data}(h:IA f e=true):∃xs n,e=.seq xs n/\f xs n=true:=
 if c:e.ctorIdx=2 then Data.seq.elim (motive:=λe=>IA f e=true->∃xs n,e=.seq xs n/\f xs n=true) e c (λxs n h=>⟨xs,n,rfl,h⟩) h else ff ((zX c).symm.trans h)
noncomputable def Er(f:Array DictEntry->Nat->Bool)(e:Data):Bool:=if h:e.ctorIdx=3 then Data.dict.elim (motive:=λ_=>Bool) e h f else false
def Es{f}{e:Data}(h:Er f e=true):∃es n,e=.dict es n/\f es n=true:=
 if c:e.ctorIdx=3 then Data.dict.elim (motive:=λe=>Er f e=true->∃es n,e=.dict es n/\f es n=true) e c (λes n h=>⟨es,n,rfl,h⟩) h else ff ((zX c).symm.trans h)
noncomputable def Et(f:FuncData->Bool)(e:Data):Bool:=if h:e.ctorIdx=7 then Data.func.elim (motive:=λ_=>Bool) e h f else false
def Eu{f}{e:Data}(h:Et f e=true):∃fd,e=.func fd/\f fd=true:=
 if c:e.ctorIdx=7 then Data.func.elim (motive:=λe=>Et f e=true->∃fd,e=.func fd/\f fd=true) e c (λfd h=>⟨fd,rfl,h⟩) h else ff ((zX c).symm.trans h)
noncomputable def rB(f:Array Value->Bool)(e:Data):Bool:=if h:e.ctorIdx=9 then Data.fields.elim (motive:=λ_=>Bool) e h f else false
def vM{f}{e:Data}(h:rB f e=true):∃vs,e=.fields vs/\f vs=true:=
 if c:e.ctorIdx=9 then Data.fields.elim (motive:=λe=>rB f e=true->∃vs,e=.fields vs/\f vs=true) e c (λvs h=>⟨vs,rfl,h⟩) h else ff ((zX c).symm.trans h)
noncomputable def xQ(x:Value):Bool:=match x with
 |.none=>true
 |_=>false
def og{x:Value}(h:xQ x=true):x=.none:=by induction x using Value.casesOn<;>first | rfl | exact ff h
def M3(K:Frag)(c:String)(a:Addr)(f:List Value->Bool):Bool:=(K.lookup a).any λo=>o.cls==.type c&&(o.dict==none&&(o.slots.size==0&&IA (λxs _=>f xs.toList) o.data))
mutual
noncomputable def Av(K:Frag):V->Value->Bool
 |.none,x=>xQ x
 |.bool b,x=>En (λc=>b==c) x
 |.int i,x=>M2 (λj _=>i==j) x
 |.str s,x=>Ep (λt _=>t==aH s) x
 |.tup vs,x=>yref (λa=>M3 K "tuple" a λxs=>pR K vs xs) x
 |.lst vs,x=>yref (λa=>M3 K "list" a λxs=>pR K vs xs) x
 |.base a,x=>yref (λb=>a==b&&(K.lookup a).any λo=>o.cls != .type "tuple") x
 |.blt b,x=>oe (λi=>i==b.id) x
 |.ty t,x=>wO (λi=>i==t.id) x
 |.undef,_=>false
 |.obj _ _,_=>false
 |.ref _,_=>false
 |.dct _ _,_=>false
 |.rng _ _ _,_=>false
 |.exn _ _,_=>false
noncomputable def pR(K:Frag):List V->List Value->Bool
 |[],xs=>xs.isEmpty
 |v::vs,xs=>match xs with
  |[]=>false
  |x::xs=>Av K v x&&pR K vs xs
end
def M4{o:Obj}{xs:Array Value}{n:Nat}(h1:(o.cls==c)=true)(h2:(o.dict==none)=true)(h3:(o.slots.size==0)=true)(h4:o.data=.seq xs n):o=⟨c,none,.seq xs.toList.toArray n,#[]⟩:=by
 obtain⟨oc,od,Vg,Vh⟩:=o;dsimp only at h1 h2 h3 h4;rw[ze]at h1 h2 h3;subst h1 h2 h4;rw[Array.size_eq_zero_iff]at h3;subst h3
 rfl
section
variable{K:Frag}{h:Heap}{P:Params}
def xR(X:K.In h){c:String}{a:Addr}{f:List Value->Bool}(q:M3 K c a f=true):∃xs n,h.get? a=some ⟨.type c,none,.seq xs.toArray n,#[]⟩/\f xs=true:=by
 obtain⟨o,ho,q⟩:=fo q;obtain⟨xs,n,hd,q4⟩:=xP (an (an (an q).2).2).2;exact⟨xs.toList,n,(X _ _ ho).trans (zi some (M4 (an q).1 (an (an q).2).1 (an (an (an q).2).2).1 hd)),q4⟩
def xS(X:K.In h){x:Value}:Av K v x=true->ay P h.get? [] v x:=
 V.rec (motive_1:=λv=>∀x,Av K v x=true->ay P h.get? [] v x) (motive_2:=λvs=>∀xs,pR K vs xs=true->ah P h.get? [] vs xs) (λ_ q=>ff q) (λ_ q=>dg.mpr (og q)) (λ_ _ q=>by obtain⟨_,e,q⟩:=Eo q;exact dL.mpr (by rw[e,ze.mp q])) (λ_ _ q=>by obtain⟨_,t,e,q⟩:=Iz q;exact aO.mpr ⟨t,by rw[e,ze.mp q]⟩) (λ_ _ q=>by obtain⟨_,t,e,q⟩:=rA q;exact bG.mpr ⟨t,by rw[e,ze.mp q]⟩) (λ_ ih _ q=>by
   obtain⟨a,e,q⟩:=j3 q;obtain⟨xs,n,e2,q⟩:=xR X q;exact cV.mpr ⟨a,xs,n,e,e2,ih _ q⟩)
  (λ_ ih _ q=>by
   obtain⟨a,e,q⟩:=j3 q;obtain⟨xs,n,e2,q⟩:=xR X q;exact cL.mpr ⟨a,xs,n,e,e2,ih _ q⟩)
  (λ_ _ _ _ q=>ff q) (λ_ _ q=>ff q)
  (λ_ _ q=>by
   obtain⟨b,e,q⟩:=j3 q;obtain⟨o,ho,q2⟩:=fo (an q).2;exact iJ.mpr ⟨by rw[e,ze.mp (an q).1],o,X _ _ ho,bne_iff_ne.mp q2⟩)
  (λ_ _ _ _ q=>ff q) (λ_ _ _ _ q=>ff q)
  (λ_ _ q=>by obtain⟨_,e,q⟩:=tQ q;exact e.trans (by rw[ze.mp q]))
  (λ_ _ q=>by obtain⟨_,e,q⟩:=sG q;exact e.trans (by rw[ze.mp q]))
  (λ_ _ _ _ q=>ff q)
  (λ_ q=>aB.mpr (isEmpty_iff.mp q))
  (λ_ _ i1 i2 xs=>by
   cases xs with
   |nil=>exact λq=>ff q
   |cons x xs=>exact λq=>ad.mpr ⟨x,xs,rfl,i1 _ (an q).1,i2 _ (an q).2⟩) v x
def Ev(X:K.In h):∀{xs:List Value},pR K vs xs=true->ah P h.get? [] vs xs:=by
 induction vs with
 |nil=>exact λq=>aB.mpr (isEmpty_iff.mp q)
 |cons v vs ih=>
  intro xs q
  cases xs with
  |nil=>exact ff q
  |cons x xs=>exact ad.mpr ⟨x,xs,rfl,xS X (an q).1,ih (an q).2⟩
noncomputable def oh(K:Frag)(a:Addr):Str->Option Value:=match K.lookup a with
 |some o=>(match o.data with | .dict es _=>nsFind es | _=>λ_=>none)
 |none=>λ_=>none
def RH(K:Frag)(a:Addr):Bool:=(K.lookup a).any λo=>Er (λes _=>es.toList.all λe=>Ep (λ_ _=>true) e.key) o.data
def rC(X:K.In h){a:Addr}(q:RH K a=true):h.Ns a (oh K a):=by
 obtain⟨o,ho,q⟩:=fo q;obtain⟨es,n,hd,q⟩:=Es q;refine⟨o,es,n,X _ _ ho,hd,λe m=>?_,λname=>?_⟩
 .obtain⟨x,t,e1,_⟩:=rA (zP.mp q e (Array.mem_toList_iff.mpr m))
  rw[e1];simp
 .unfold oh
  rw[ho];dsimp only;rw[hd]
def Kq(K:Frag)(cd:Value)(q:Str):Bool:=yref (λc=>(K.lookup c).any λo=>rB (λvs=>(vs[1]?:Option Value).any (Ep λt _=>t==q)) o.data) cd
def Ew(X:K.In h)(e:Kq K cd q=true):h.CodeRec cd q:=by
 obtain⟨c,rfl,e1⟩:=j3 e;obtain⟨o,ho,e2⟩:=fo e1;obtain⟨vs,hd,e3⟩:=vM e2;obtain⟨x,hv,e4⟩:=fo e3;obtain⟨t,tk,rfl,e5⟩:=rA e4
 cases ze.mp e5
 exact⟨c,o,vs,tk,rfl,X _ _ ho,hd,hv⟩
noncomputable def M5(names:List Str)(p:Arguments):Bool:=p.posonlyargs.isEmpty&&p.args.map (·.arg)==names&&p.vararg.isNone&&p.kwonlyargs.isEmpty&&p.kwarg.isNone
def IB{names:List Str}{p:Arguments}(e:M5 names p=true):tN names p:=by
 unfold M5 at e;simp only[and_eq_true,isEmpty_iff,Option.isNone_iff_eq_none,beq_iff_eq]at e;exact⟨e.1.1.1.1,e.1.1.1.2,e.1.1.2,e.1.2,e.2⟩
def RI(K:Frag)(dfl:List V)(x:Value):Bool:=(xQ x&&dfl.isEmpty)||yref (λT=>(K.lookup T).any λo=>IA (λys _=>pR K dfl ys.toList) o.data) x
noncomputable def jv:List Str->Bool
 |[]=>true
 |x::xs=>!xs.contains x&&jv xs
theorem RJ:jv []=(true):=rfl
theorem Ex:jv (x::xs)=(!xs.contains x&&jv xs):=rfl
def lj:∀{l:List Str},jv l=true->l.Nodup
 |[],_=>nodup_nil
 |x::xs,h=>by
  rw[Ex,zm,not_eq_true']at h;exact zS.mpr ⟨(λm=>by have q:=h.1;rw[zA.mpr m]at q;exact Bool.noConfusion q),lj h.2⟩
noncomputable def vO(F:FD):List Str:=F.locs.map Str.ofString
noncomputable def Kr(f:List Stmt->Bool)(x:FuncBody):Bool:=match x with
 |.stmts b=>f b
 |.expr _=>false
def Ey{f x}(h:Kr f x=true):∃b,x=.stmts b/\f b=true:=by
 cases x with
 |stmts b=>exact⟨b,rfl,h⟩
 |expr _=>exact ff h
def M6(K:Frag)(f:Nat)(names:List Str)(t:FuncData->List Stmt->Bool):Bool:=(K.lookup f).any λo=>Et (λfd=>Kr (λbody=>!fd.scope.isCoroutine&&(!fd.scope.isGenerator&&(fd.scope.kind==.function&&(fd.globals==mainGlobals&&(fd.builtins==builtinsNs&&(fd.closure.isEmpty&&(Kq K fd.code fd.qualname&&(M5 names fd.params&&t fd body)))))))) fd.body) o.data
def xT{W:Wd}(X:W.K.In W.base){f:Nat}{names:List Str}{t:FuncData->List Stmt->Bool}(e:M6 W.K f names t=true):∃o fd body,W.base.get? f=some o/\o.data=.func fd/\fd.body=.stmts body/\fd.scope.isCoroutine=false/\fd.scope.isGenerator=false/\fd.scope.kind=.function/\fd.globals=mainGlobals/\fd.builtins=builtinsNs/\fd.closure=[]/\W.base.CodeRec fd.code fd.qualname/\tN names fd.params/\t fd body=true:=by
 obtain⟨o,ho,e⟩:=fo e;obtain⟨fd,hd,e⟩:=Eu e;obtain⟨body,hb,e⟩:=Ey e;have e2:=an (an e).2;have e3:=an e2.2;have e4:=an e3.2;have e5:=an e4.2;have e6:=an e5.2;have e7:=an e6.2;have e8:=an e7.2;exact⟨o,fd,body,X _ _ ho,hd,hb,(not_eq_true' _).mp (an e).1,(not_eq_true' _).mp e2.1,ze.mp e3.1,ze.mp e4.1,ze.mp e5.1,isEmpty_iff.mp e6.1,Ew X e7.1,IB e8.1,e8.2⟩
def IC{W:Wd}(X:W.K.In W.base){x:Value}(e:RI W.K dfl x=true):(dfl=[]/\x=.none)\/∃T o ys n,x=.ref T/\W.base.get? T=some o/\o.data=.seq ys n/\ah W.P W.base.get? [] dfl ys.toList:=by
 rcases or_eq_true_iff.mp e with e | e
 .exact .inl ⟨isEmpty_iff.mp (an e).2,og (an e).1⟩
 .obtain⟨T,hT,e⟩:=j3 e
  obtain⟨o,ho,e⟩:=fo e;obtain⟨ys,n,hy,e⟩:=xP e;exact .inr ⟨T,o,ys,n,hT,X _ _ ho,hy,Ev X e⟩
def V4(K:Frag)(f:Nat)(F:FD):Bool:=M6 K f ((vO F).take F.n) λfd body=>RI K F.dfl fd.defaults&&(Nat.ble F.n (vO F).length&&(Nat.ble F.dfl.length F.n&&(jv (vO F)&&(((vO F).take F.n).all (λx=>fd.scope.names.lookup x==some .local||fd.scope.names.lookup x==some .cell)&&rZ (λx=>fd.scope.names.lookup x) (vO F) F.body body))))
def M7{W:Wd}(X:W.K.In W.base){f:Nat}(e:V4 W.K f F=true):∃fd body,FnAt W f F fd body (vO F):=by
 obtain⟨o,fd,body,ho,hd,hb,e1,e2,e3,e4,e5,e6,e7,e8,e⟩:=xT X e;have q2:=an (an e).2;have q3:=an q2.2;have q4:=an q3.2;have q5:=an q4.2;refine⟨fd,body,⟨o,ho,hd⟩,hb,e1,e2,e3,e4,e5,e6,e7,e8,IC X (an e).1,by simp[vO],Nat.le_of_ble_eq_true q2.1,Nat.le_of_ble_eq_true q3.1,lj q4.1,λx m=>?_,q5.2⟩;exact (or_eq_true_iff.mp (zP.mp q5.1 x m)).imp ze.mp ze.mp
end
def UV(K:Frag):Bool:=
 (sg.all λm=>findIn K (.ref m.1) (fT m.2.1)==some (some (.ref m.2.2))&&isFn K (.ref m.2.2))&&(dS.all λc=>nj K c)&&nq K&&(dS.all λc=>(cI c).all λk=>jO K c k)&&jO K 285 25 &&
 ((BV++dS).all λa=>keepIn K (.ref a))&&(dS.all λc=>makesIn K c&&(match eh c with | some (_,init,_)=>findIn K (.ref c) "__init__" == some (some (.ref init))&&isFn K (.ref init) | none=>false)) &&
 ((38::dS).all λc=>uQ K c)&&(QE.all λt=>To.all λc=>kitOne K t c==some (BD t c))
def M8{K:Frag}(h:UV K=true):KF K:=by
 unfold UV at h;rw[zm,zm,zm,zm,zm,zm,zm,zm]at h;obtain⟨⟨⟨⟨⟨⟨⟨⟨h1,h2⟩,h3⟩,h4⟩,h5⟩,h6⟩,h7⟩,h8⟩,h9⟩:=h;exact⟨h1,h2,h3,h4,h5,h6,h7,h8,h9⟩
noncomputable def M9(K:Frag)(a:Addr):Bool:=(K.lookup a).any λo=>o.cls==.ref 38&&(notCls o&&o.dict.any λd=>(K.lookup d).isSome)
def vP(K:Frag)(k:Nat):Bool:=match af k with
 |none=>true
 |some v=>match F3 k with
  |none=>true
  |some x=>match oh K mainGlobals x with
   |some y=>Av K v y
   |none=>(oh K builtinsNs x).any λy=>Av K v y
def Aw{K:Frag}{k:Nat}{x:Str}(hv:af k=some v)(hx:F3 k=some x)(h:vP K k=true):∃y,Av K v y=true/\(oh K mainGlobals x=some y\/oh K mainGlobals x=none/\oh K builtinsNs x=some y):=by
 unfold vP at h;rw[hv]at h;dsimp only at h;rw[hx]at h;dsimp only at h
 cases hn:oh K mainGlobals x with
 |some y=>rw[hn]at h;exact⟨y,h,.inl rfl⟩
 |none=>rw[hn]at h;obtain⟨y,hy,h⟩:=fo h;exact⟨y,h,.inr ⟨rfl,hy⟩⟩
def Na(K:Frag):Bool:=RH K mainGlobals&&RH K builtinsNs&&(List.range uJ.length).all (vP K)
def Nb(n:String)(e:Expr):Bool:=nP (λx=>x==Str.ofString n) e
def lk{n:String}(h:Nb n e=true):∃q,e=.Name (Str.ofString n) q:=fK (m:=λe=>∃q,e=.Name (Str.ofString n) q) h λ_ q h=>⟨q,by rw[ze.mp h]⟩
def tR(st:Stmt)(n:String):Bool:=Ae (λt v=>lT (λo w _=>Nb "self" o&&w==Str.ofString n) t&&Nb n v) st
def j4{st:Stmt}{n:String}(h:tR st n=true):∃a1 a2 a3 a4,st=.Assign [.Attribute (.Name (Str.ofString "self") a1) (Str.ofString n) a2] (.Name (Str.ofString n) a3) a4:=by
 apply nZ h;intro t v a4 h0;apply jX (an h0).1;intro o w a2 h1;obtain⟨a1,rfl⟩:=lk (an h1).1;obtain⟨a3,rfl⟩:=lk (an h0).2;exact⟨a1,a2,a3,a4,by rw[ze.mp (an h1).2]⟩
def Nc(b:List Stmt):Bool:=c2 (λx y=>tR x "word" && tR y "irritants") b
def c3{α:Type}(f:α->α->α->Bool):List α->Bool
 |[]=>false
 |x::r=>c2 (f x) r
def Ks{α:Type}{f:α->α->α->Bool}{l:List α}(h:c3 f l=true):∃x y z,l=[x,y,z]/\f x y z=true:=by
 cases l with
 |nil=>exact ff h
 |cons x r=>apply yV h;intro y z h0;exact⟨x,y,z,rfl,h0⟩
def Ez(e:Expr):Bool:=w7 (c2 λr p=>Nb "reason" r&&Nb "place" p) e
def Ax(h:Ez e=true):∃c6 c7 c8,e=.List [.Name (Str.ofString "reason") c6,.Name (Str.ofString "place") c7] c8:=by
 apply qQ h;intro vs c8 _ h0;apply yV h0;intro r p q;have q:=an q;obtain⟨c6,rfl⟩:=lk q.1;obtain⟨c7,rfl⟩:=lk q.2;exact⟨c6,c7,c8,rfl⟩
def EA(sc:Scope)(st:Stmt):Bool:=MH (nQ λg as c9=>lT (λx i c2=>Nb "SchemeError" x&&(i==Str.ofString "__init__" && (c2.endLine==c9.line&&sc.names.lookup (Str.ofString "SchemeError")==some .globalImplicit))) g&&c3 (λs t l=>Nb "self" s&&(o8 (Di (lw "ReadError")) t&&Ez l)) as) st
def Ay{sc:Scope}{st:Stmt}(h:EA sc st=true):∃c1 c2 c3 c4 n5 c6 c7 c8 c9 F6,st=.Expr (.Call (.Attribute (.Name (Str.ofString "SchemeError") c1) (Str.ofString "__init__") c2) [.Name (Str.ofString "self") c3,.Constant (.str (aH (lw "ReadError"))) n5 c4,.List [.Name (Str.ofString "reason") c6,.Name (Str.ofString "place") c7] c8] [] c9) F6/\(c2.endLine==c9.line)=true/\sc.names.lookup (Str.ofString "SchemeError")=some .globalImplicit:=by
 apply DX h;intro e F6 ha;apply mw ha;intro g as c9 hb;apply jX (an hb).1;intro x i c2 h1;obtain⟨s,t,l,rfl,h2⟩:=Ks (an hb).2;obtain⟨c1,rfl⟩:=lk (an h1).1;obtain⟨c3,rfl⟩:=lk (an h2).1;apply gD (an (an h2).2).1;intro c n5 c4 h3;obtain⟨c6,c7,c8,rfl⟩:=Ax (an (an h2).2).2;have h1:=an (an h1).2;exact⟨c1,c2,c3,c4,n5,c6,c7,c8,c9,F6,by rw[ze.mp h1.1,my h3],(an h1.2).1,ze.mp (an h1.2).2⟩
def Nd(sc:Scope)(b:List Stmt):Bool:=c3 (λx y z=>EA sc x&&(tR y "reason" && tR z "place")) b
def Nf(K:Frag)(f:Nat)(names:List Str)(t:Scope->List Stmt->Bool):Bool:=M6 K f names λfd body=>xQ fd.defaults&&(jv names&&(names.all (λx=>fd.scope.names.lookup x==some .local)&&t fd.scope body))
def xU{W:Wd}(X:W.K.In W.base){f:Nat}{me:Str}{names:List Str}{t:Scope->List Stmt->Bool}(e:Nf W.K f (me::names) t=true):∃fd body,xO W f fd body me names/\t fd.scope body=true:=by
 obtain⟨o,fd,body,ho,hd,hb,e1,e2,e3,e4,e5,e6,e7,e8,e⟩:=xT X e;have q2:=an (an e).2;have q3:=an q2.2;exact⟨fd,body,⟨⟨o,ho,hd⟩,hb,e1,e2,e3,e4,e5,e6,e7,e8,og (an e).1,lj q2.1,λx m=>ze.mp (zP.mp q3.1 x m)⟩,q3.2⟩
def pd(K:Frag):Bool:=
 UV K&&M9 K 44&&M9 K 47&&Na K&&vJ K&&oh K mainGlobals (Str.ofString "SchemeError")==some (.ref 246) &&
 Nf K 243 [Str.ofString "self",Str.ofString "word",Str.ofString "irritants"] (λ_=>Nc)&&Nf K 282 [Str.ofString "self",Str.ofString "reason",Str.ofString "place"] Nd &&
 (K.lookup 282).any λo=>o.cls==.type "function"
def EB(K:Frag):Bool:=BV.all λf=>match fdOf f with | some F=>V4 K f F | none=>false
def xV{W:Wd}(X:W.K.In W.base){a:Addr}(h:M9 W.K a=true):∃o od,InstAt W.base a o 38 (some od):=by
 obtain⟨o,ho,h⟩:=fo h;obtain⟨d,hd,h3⟩:=fo (an (an h).2).2;obtain⟨od,XK⟩:=isSome_iff_exists.mp h3;exact⟨o,od,X _ _ ho,ze.mp (an h).1,(an (an h).2).1,by rw[hd];exact X _ _ XK⟩
def Ng{k:Nat}{x:Str}(h:F3 k=some x):k<uJ.length:=by
 unfold F3 at h;obtain⟨y,hy,-⟩:=z7.mp h;exact (zu.mp hy).1
def ID{W:Wd}(X:W.K.In W.base)(N:W.base.NoLimit)(h:pd W.K=true):QF W:=by
 unfold pd at h;rw[zm,zm,zm,zm,zm,zm,zm,zm]at h;obtain⟨⟨⟨⟨⟨⟨⟨⟨h1,h2⟩,h3⟩,h4⟩,h5⟩,h6⟩,h7⟩,h8⟩,h9⟩:=h;refine⟨X,N,λa ha=>?_,M8 h1,?_⟩
 .rcases ha with rfl | rfl
  .exact xV X h2
  .exact xV X h3
 .unfold Na at h4
  rw[zm,zm]at h4;refine⟨_,_,rC X h4.1.1,rC X h4.1.2,λk v x hv hx=>?_⟩;have:=zP.mp h4.2 k (mem_range.mpr (Ng hx));obtain⟨y,h1,h2⟩:=Aw hv hx this;exact⟨y,xS X h1,h2⟩
def IE{W:Wd}(X:W.K.In W.base)(h:pd W.K=true):Iq W:=by
 unfold pd at h;rw[zm,zm,zm,zm,zm,zm,zm,zm]at h;obtain⟨⟨⟨⟨⟨⟨⟨⟨h1,h2⟩,h3⟩,h4⟩,h5⟩,h6⟩,h7⟩,h8⟩,h9⟩:=h;unfold Na at h4;rw[zm,zm]at h4;refine⟨h5,⟨_,rC X h4.1.1,ze.mp h6⟩,?_,?_,?_⟩
 .obtain⟨fd,body,hi,hb⟩:=xU X h7
  revert hi;apply yV hb;intro x y q hi;have q:=an q;obtain⟨a1,a2,a3,a4,rfl⟩:=j4 q.1;obtain⟨b1,b2,b3,b4,rfl⟩:=j4 q.2;exact⟨fd,a1,a2,a3,a4,b1,b2,b3,b4,hi⟩
 .obtain⟨fd,body,hi,hb⟩:=xU X h8
  obtain⟨x,y,z,rfl,q⟩:=Ks hb;have q:=an q;have q3:=an q.2;obtain⟨c1,c2,c3,c4,n5,c6,c7,c8,c9,F6,rfl,q1,q2⟩:=Ay q.1;obtain⟨a1,a2,a3,a4,rfl⟩:=j4 q3.1;obtain⟨b1,b2,b3,b4,rfl⟩:=j4 q3.2;exact⟨fd,c1,c2,c3,c4,n5,c6,c7,c8,c9,F6,a1,a2,a3,a4,b1,b2,b3,b4,hi,q1,q2⟩
 .obtain⟨o,ho,h9⟩:=fo h9
  exact⟨o,X _ _ ho,ze.mp h9⟩
def RK{W:Wd}(X:W.K.In W.base)(h:pd W.K=true)(hf:EB W.K=true){d f:Nat}{args:List V}{K:KP}(hm:f∈BV)(hF:fdOf f=some F)(hw:wF (Call W d) F args H K Xx):Call W (d+1) f args H K Xx:=by
 have q:=zP.mp hf f hm;rw[hF]at q;obtain⟨fd,body,hq⟩:=M7 X q;have T:=IE X h;exact Ef (λA fr pa aG=>MZ T aG pa) (λA fr pa aG=>El aG pa) (λA fr pa aG=>M1 aG pa _) hq hw
noncomputable def Nh:List Nat:=[3,0,65,64,128,127,149,148,170,169,191,190,212,211,400,399,462,461,568,567,702,701,723,722,808,807,38,37,246,245,285,284,323,2,43,44,46,47,61,62,82,83,89,90,110,111,145,146,166,167,187,188,208,209,220,221,222,228,229,242,243,281,282,396,397,410,411,417,418,424,425,432,433,437,438,444,445,458,459,472,473,479,480,498,499,519,520,526,527,533,534,535,541,542,543,547,548,549,550,551,564,565,578,579,585,586,599,600,606,607,614,622,628,629,635,636,649,650,656,657,663,664,670,671,677,678,684,685,691,692,698,699,719,720,735,741,742,748,749,755,756,762,763,769,770,776,777,783,784,790,791,797,798,804,805,813,819,820,821,827,828,829,835,836,842,843,849,850,856,857,861,862,866,867,873,874,880,881,887,888,892,893,897,898,902,903,907,908]
noncomputable abbrev prog:Program:=PySem.Challenge.pw_nt0259_01
noncomputable def vR:List Obj->Nat->BT->BT
 |[],_,t=>t
 |o::r,n,t=>vR r (n+1) (t.ins n o)
def EC(P:Params)(os:OsState):SharedT:=⟨vR (boot_heap P).objs.toList 0 .nil,11,(boot_heap P).life,#[],boot_drawn,boot_toks,os⟩
def Az(P:Params)(os:OsState):(EC P os).abs=⟨boot_heap P,#[],boot_drawn,boot_toks,os⟩:=by kernel_rfl
structure Gd(W:Wd):Prop where
 kin:W.K.In W.base
 top:pd W.K=true
 fns:EB W.K=true
section
variable{d f:Nat}{F:FD}{args:List V}
def WN(G:Gd W)(hm:BV.contains f=true)(hF:fdOf f=some F)(hw:wF (Call W d) F args H K X):Call W (d+1) f args H K X:=RK G.kin G.top G.fns (zA.mp hm) hF hw
end
theorem V5{i:Nat}{l lo:Loc}{K:KP}:wE C X (.var i) l lo H K=(match l[i]? with | some (some v)=>K v H | _=>False):=rfl
noncomputable def ip:V:=.lst [(.str [40]),(.str [41]),(.str [46]),(.str [39]),(.str [97]),(.str [49,50]),(.str [40]),(.str [41]),(.str [41]),(.str [35,40]),(.str [96]),(.str [44]),(.str [44,64]),(.str [35,116]),(.str [34,115,34]),(.str [35,92,40]),(.str [49,47,50])]
noncomputable def V6(F:FD)(args:List V):Option Loc:=if args.length<=F.n/\F.n<=args.length+F.dfl.length then some ((args++F.dfl.drop (F.dfl.length-(F.n-args.length))).map some++replicate (F.locs.length-F.n) none) else none
section
variable{d f:Nat}{F:FD}{args:List V}{l:Loc}
def cf(G:Gd W)(hm:BV.contains f=true)(hF:fdOf f=some F)(hl:V6 F args=some l)(hw:dT (Call W d) F.body l H (eM K) (br X)):Call W (d+1) f args H K X:=by
 refine WN G hm hF ?_;unfold V6 at hl;split at hl
 .rename_i q
  injection hl;exact⟨q.1,q.2,hw⟩
 .injection hl
end
theorem zg0:af 0=some (.blt .len):=rfl
theorem zg1:af 1=some (.base 65):=rfl
theorem zg2:af 2=some (.blt .ord):=rfl
theorem zg3:af 3=some (.base 191):=rfl
theorem zg4:af 4=some (.ty .range):=rfl
theorem zg5:af 5=some (.base 149):=rfl
theorem zg6:af 6=some (.blt .abs):=rfl
theorem zg7:af 7=some (.base 400):=rfl
theorem zg8:af 8=some (.base 418):=rfl
theorem zg9:af 9=some (.base 411):=rfl
theorem zg10:af 10=some (.str [48,49,50,51,52,53,54,55,56,57,97,98,99,100,101,102]):=rfl
theorem zg11:af 11=some (.blt .all):=rfl
theorem zg12:af 12=some (.base 433):=rfl
theorem zg13:af 13=some (.base 462):=rfl
theorem zg14:af 14=some (.base 438):=rfl
theorem zg15:af 15=some (.base 445):=rfl
theorem zg16:af 16=some (.base 473):=rfl
theorem zg17:af 17=some (.ty .enumerate):=rfl
theorem zg18:af 18=some (.str [101,115,102,100,108]):=rfl
theorem zg19:af 19=some (.base 499):=rfl
theorem zg20:af 20=some (.base 480):=rfl
theorem zg21:af 21=some (.base 425):=rfl
theorem zg22:af 22=some (.base 534):=rfl
theorem zg23:af 23=some (.base 520):=rfl
theorem zg24:af 24=some (.base 527):=rfl
theorem zg25:af 25=some (.str [97,98,99,100,101,102,103,104,105,106,107,108,109,110,111,112,113,114,115,116,117,118,119,120,121,122]):=rfl
theorem zg26:af 26=some (.str [65,66,67,68,69,70,71,72,73,74,75,76,77,78,79,80,81,82,83,84,85,86,87,88,89,90]):=rfl
theorem zg27:af 27=some (.str [33,36,37,38,42,47,58,60,61,62,63,94,95,126]):=rfl
theorem zg28:af 28=some (.base 586):=rfl
theorem zg29:af 29=some (.tup [(.str [43]),(.str [45]),(.str [46,46,46])]):=rfl
theorem zg30:af 30=some (.str [48,49,50,51,52,53,54,55,56,57]):=rfl
theorem zg31:af 31=some (.str [32,10,9,13,12]):=rfl
theorem zg32:af 32=some (.base 568):=rfl
theorem zg33:af 33=some (.str [32,10,9,13,12,40,41,34,59]):=rfl
theorem zg34:af 34=some (.str [91,93,123,125,124]):=rfl
theorem zg35:af 35=some (.base 607):=rfl
theorem zg36:af 36=some (.base 600):=rfl
theorem zg37:af 37=some (.base 579):=rfl
theorem zg38:af 38=some (.base 542):=rfl
theorem zg39:af 39=some (.base 170):=rfl
theorem zg40:af 40=some (.base 614):=rfl
theorem zg41:af 41=some (.base 221):=rfl
theorem zg42:af 42=some (.base 44):=rfl
theorem zg43:af 43=some (.int 0):=rfl
theorem zg44:af 44=some (.base 702):=rfl
theorem zg45:af 45=some (.base 285):=rfl
theorem zg46:af 46=some (.base 47):=rfl
theorem zg47:af 47=some (.base 229):=rfl
theorem zg48:af 48=some (.tup [(.tup [(.str [39]),(.str [113,117,111,116,101])]),(.tup [(.str [96]),(.str [113,117,97,115,105,113,117,111,116,101])]),(.tup [(.str [44]),(.str [117,110,113,117,111,116,101])]),(.tup [(.str [44,64]),(.str [117,110,113,117,111,116,101,45,115,112,108,105,99,105,110,103])])]):=rfl
theorem zg49:af 49=some (.base 723):=rfl
theorem zg50:af 50=some (.int 1):=rfl
theorem zg51:af 51=some (.base 212):=rfl
theorem zg52:af 52=some (.int 2):=rfl
theorem zg53:af 53=some (.base 808):=rfl
theorem zg54:af 54=some (.base 850):=rfl
theorem zg55:af 55=some (.ty .tuple):=rfl
theorem zg56:af 56=some (.base 867):=rfl
theorem zg57:af 57=some (.blt .isinstance):=rfl
theorem zg58:af 58=some (.base 323):=rfl
theorem zg59:af 59=some (.ty .int):=rfl
theorem zg60:af 60=some (.ty .bool):=rfl
theorem zg61:af 61=some (.base 843):=rfl
theorem zg62:af 62=some (.ty .str):=rfl
theorem zg63:af 63=some (.base 836):=rfl
theorem zg64:af 64=some (.base 874):=rfl
theorem zg65:af 65=some (.base 888):=rfl
theorem zg66:af 66=some (.base 893):=rfl
theorem zg67:af 67=some (.base 881):=rfl
theorem zg68:af 68=some (.base 828):=rfl
theorem zg69:af 69=some (.base 820):=rfl
theorem zg70:af 70=some (.base 128):=rfl
theorem zg71:af 71=some (.blt .min):=rfl
theorem zg72:af 72=some (.base 903):=rfl
theorem zg73:af 73=some (.base 898):=rfl
theorem zg74:af 74=some ip:=rfl
theorem zg75:af 75=some (.base 857):=rfl
theorem zg76:af 76=some (.blt .max):=rfl
theorem zg77:af 77=some (.base 862):=rfl
section
variable(C:ba)(X:XP)(args:List V)(H:Hp)(K:KP)
theorem zf0:ag C X (.base 221) args H K=C 221 args H K X:=rfl
theorem zf1:ag C X (.base 229) args H K=C 229 args H K X:=rfl
theorem zf2:ag C X (.base 397) args H K=C 397 args H K X:=rfl
theorem zf3:ag C X (.base 411) args H K=C 411 args H K X:=rfl
theorem zf4:ag C X (.base 418) args H K=C 418 args H K X:=rfl
theorem zf5:ag C X (.base 425) args H K=C 425 args H K X:=rfl
theorem zf6:ag C X (.base 433) args H K=C 433 args H K X:=rfl
theorem zf7:ag C X (.base 438) args H K=C 438 args H K X:=rfl
theorem zf8:ag C X (.base 445) args H K=C 445 args H K X:=rfl
theorem zf9:ag C X (.base 459) args H K=C 459 args H K X:=rfl
theorem zf10:ag C X (.base 473) args H K=C 473 args H K X:=rfl
theorem zf11:ag C X (.base 480) args H K=C 480 args H K X:=rfl
theorem zf12:ag C X (.base 499) args H K=C 499 args H K X:=rfl
theorem zf13:ag C X (.base 520) args H K=C 520 args H K X:=rfl
theorem zf14:ag C X (.base 527) args H K=C 527 args H K X:=rfl
theorem zf15:ag C X (.base 534) args H K=C 534 args H K X:=rfl
theorem zf16:ag C X (.base 542) args H K=C 542 args H K X:=rfl
theorem zf17:ag C X (.base 565) args H K=C 565 args H K X:=rfl
theorem zf18:ag C X (.base 579) args H K=C 579 args H K X:=rfl
theorem zf19:ag C X (.base 586) args H K=C 586 args H K X:=rfl
theorem zf20:ag C X (.base 600) args H K=C 600 args H K X:=rfl
theorem zf21:ag C X (.base 607) args H K=C 607 args H K X:=rfl
theorem zf22:ag C X (.base 629) args H K=C 629 args H K X:=rfl
theorem zf23:ag C X (.base 636) args H K=C 636 args H K X:=rfl
theorem zf24:ag C X (.base 650) args H K=C 650 args H K X:=rfl
theorem zf25:ag C X (.base 657) args H K=C 657 args H K X:=rfl
theorem zf26:ag C X (.base 664) args H K=C 664 args H K X:=rfl
theorem zf27:ag C X (.base 671) args H K=C 671 args H K X:=rfl
theorem zf28:ag C X (.base 678) args H K=C 678 args H K X:=rfl
theorem zf29:ag C X (.base 685) args H K=C 685 args H K X:=rfl
theorem zf30:ag C X (.base 692) args H K=C 692 args H K X:=rfl
theorem zf31:ag C X (.base 699) args H K=C 699 args H K X:=rfl
theorem zf32:ag C X (.base 720) args H K=C 720 args H K X:=rfl
theorem zf33:ag C X (.base 742) args H K=C 742 args H K X:=rfl
theorem zf34:ag C X (.base 749) args H K=C 749 args H K X:=rfl
theorem zf35:ag C X (.base 756) args H K=C 756 args H K X:=rfl
theorem zf36:ag C X (.base 763) args H K=C 763 args H K X:=rfl
theorem zf37:ag C X (.base 770) args H K=C 770 args H K X:=rfl
theorem zf38:ag C X (.base 777) args H K=C 777 args H K X:=rfl
theorem zf39:ag C X (.base 784) args H K=C 784 args H K X:=rfl
theorem zf40:ag C X (.base 791) args H K=C 791 args H K X:=rfl
theorem zf41:ag C X (.base 798) args H K=C 798 args H K X:=rfl
theorem zf42:ag C X (.base 805) args H K=C 805 args H K X:=rfl
theorem zf43:ag C X (.base 820) args H K=C 820 args H K X:=rfl
theorem zf44:ag C X (.base 828) args H K=C 828 args H K X:=rfl
theorem zf45:ag C X (.base 836) args H K=C 836 args H K X:=rfl
theorem zf46:ag C X (.base 843) args H K=C 843 args H K X:=rfl
theorem zf47:ag C X (.base 850) args H K=C 850 args H K X:=rfl
theorem zf48:ag C X (.base 857) args H K=C 857 args H K X:=rfl
theorem zf49:ag C X (.base 862) args H K=C 862 args H K X:=rfl
theorem zf50:ag C X (.base 867) args H K=C 867 args H K X:=rfl
theorem zf51:ag C X (.base 874) args H K=C 874 args H K X:=rfl
theorem zf52:ag C X (.base 881) args H K=C 881 args H K X:=rfl
theorem zf53:ag C X (.base 888) args H K=C 888 args H K X:=rfl
theorem zf54:ag C X (.base 893) args H K=C 893 args H K X:=rfl
theorem zf55:ag C X (.base 898) args H K=C 898 args H K X:=rfl
theorem zf56:ag C X (.base 903) args H K=C 903 args H K X:=rfl
theorem zf57:ag C X (.base 908) args H K=C 908 args H K X:=rfl
theorem zr0:ag C X (.base 149) args H K=C 146 (.ref H.length::args) (H++[.inst 149 []]) (so 149 [7,6] args H K) g6:=rfl
theorem zr1:ag C X (.base 170) args H K=C 167 (.ref H.length::args) (H++[.inst 170 []]) (so 170 [8] args H K) g6:=rfl
theorem zr2:ag C X (.base 191) args H K=C 188 (.ref H.length::args) (H++[.inst 191 []]) (so 191 [9] args H K) g6:=rfl
theorem zr3:ag C X (.base 212) args H K=C 209 (.ref H.length::args) (H++[.inst 212 []]) (so 212 [10] args H K) g6:=rfl
theorem zr4:ag C X (.base 400) args H K=C 397 (.ref H.length::args) (H++[.inst 400 []]) (so 400 [12,11] args H K) g6:=rfl
theorem zr5:ag C X (.base 462) args H K=C 459 (.ref H.length::args) (H++[.inst 462 []]) (so 462 [12,11,15] args H K) g6:=rfl
theorem zr6:ag C X (.base 568) args H K=C 565 (.ref H.length::args) (H++[.inst 568 []]) (so 568 [21,20,19,18] args H K) g6:=rfl
theorem zn0:ag C X (.base 65) args H K=C 62 (.ref H.length::args) (H++[.inst 65 []]) (uM 65 H.length K) g6:=rfl
theorem zn1:ag C X (.base 128) args H K=C 83 (.ref H.length::args) (H++[.inst 128 []]) (uM 128 H.length K) g6:=rfl
theorem zn2:ag C X (.base 702) args H K=C 629 (.ref H.length::args) (H++[.inst 702 []]) (uM 702 H.length K) g6:=rfl
theorem zn3:ag C X (.base 723) args H K=C 720 (.ref H.length::args) (H++[.inst 723 []]) (uM 723 H.length K) g6:=rfl
theorem zn4:ag C X (.base 808) args H K=C 742 (.ref H.length::args) (H++[.inst 808 []]) (uM 808 H.length K) g6:=rfl
end
theorem zl0(a:Option V)(l:Loc):(a::l)[0]?=some a:=rfl
theorem zl1(a b:Option V)(l:Loc):(a::b::l)[1]?=some b:=rfl
theorem zl2(a b c:Option V)(l:Loc):(a::b::c::l)[2]?=some c:=rfl
theorem zl3(a b c d:Option V)(l:Loc):(a::b::c::d::l)[3]?=some d:=rfl
theorem zl4(a b c d e:Option V)(l:Loc):(a::b::c::d::e::l)[4]?=some e:=rfl
theorem zl5(a b c d e f:Option V)(l:Loc):(a::b::c::d::e::f::l)[5]?=some f:=rfl
theorem zl6(a b c d e f g:Option V)(l:Loc):(a::b::c::d::e::f::g::l)[6]?=some g:=rfl
theorem zl7(a b c d e f g h:Option V)(l:Loc):(a::b::c::d::e::f::g::h::l)[7]?=some h:=rfl
theorem zl8(a x:Option V)(l:Loc):(a::l).set 0 x=x::l:=rfl
theorem zl9(a b x:Option V)(l:Loc):(a::b::l).set 1 x=a::x::l:=rfl
theorem zl10(a b c x:Option V)(l:Loc):(a::b::c::l).set 2 x=a::b::x::l:=rfl
theorem zl11(a b c d x:Option V)(l:Loc):(a::b::c::d::l).set 3 x=a::b::c::x::l:=rfl
theorem zl12(a b c d e x:Option V)(l:Loc):(a::b::c::d::e::l).set 4 x=a::b::c::d::x::l:=rfl
theorem zl13(a b c d e f x:Option V)(l:Loc):(a::b::c::d::e::f::l).set 5 x=a::b::c::d::e::x::l:=rfl
theorem zl14(a b c d e f g x:Option V)(l:Loc):(a::b::c::d::e::f::g::l).set 6 x=a::b::c::d::e::f::x::l:=rfl
theorem zl15(a b c d e f g h x:Option V)(l:Loc):(a::b::c::d::e::f::g::h::l).set 7 x=a::b::c::d::e::f::g::x::l:=rfl
def mqK(p:String)(n:Nat):List String:=(List.range n).map λi=>p++toString i
def mqM(x:mqS):List mqS:=
 let w:=match x[2].getId.toString with
  | "nk" => mqW "V5 Ql SI SJ Lx T0 T3 Ly Cj SK SL T4 T5 T6 SM SN wL SO SP SQ SR SS ST T7 SU Qm Qn SV SW SX Qo Qp Ck Cl Qq T8 SY Lz LA T9 VU VV VW Ua VX Ub LB uN Cm SZ Uc Ud S0 Cn wM Ue Uf Ug S1 Qr S2 Co S3 GH S4 Uh S5 GI Cp S6 Qs S7 Qt Ui S8 Uj Uk wN LC Cq S9 Ta Tc Td Qu Cr WL VY sq pt pu Te sx Ul hW Um Un Uo Up Tf Tg Qz Th QA QB Uq Ur LD LE Ti Us VZ V0 Ut Uu Tj Uv sz eN Tl Tm mm sD sE nc uP qv LF Uw Cv Ux hZ VT QC"
  | "gv" => mqK "zg" 78
  | "wfn" => mqK "zf" 58
  | "wrc" => mqK "zr" 7
  | "wnw" => mqK "zn" 5
  | "lc" => mqK "zl" 16
  |_=>[]
 if !x[2].isIdent||w.isEmpty then [x] else w.map λn=>mqT "(Tactic.simpLemma ( ) ( ) $0 )" [mqI n]
local macro_rules (kind:=Lean.Parser.Tactic.simp)
 |s=>do
  let y:=s[4][1].getSepArgs.toList
  let z:=y.flatMap mqM
  mqE (s[3].getNumArgs==1&&z.length != y.length) (s.setArg 4 (s[4].setArg 1 (Lean.mkNullNode (Lean.mkSepArray z.toArray (Lean.mkAtom ",")))))
section
def fu:(H++[o])[H.length]?=some o:=by simp
def oi:(H++[o]).set H.length o'=H++[o']:=by simp
def AA{c k:Nat}{fs:List (Nat×V)}(h:((cI c).contains k&&decide (fs.length<=100))=true):cP (H++[.inst c fs]) (.ref H.length) k v=some (H++[.inst c (hJ fs k v)]):=by
 rw[kK fu,if_pos h,oi]
def ao{c k:Nat}{fs:List (Nat×V)}{KS:KS}(h:((cI c).contains k&&decide (fs.length<=100))=true):fb k v l KS (.ref H.length) (H++[.inst c fs])=KS .next l (H++[.inst c (hJ fs k v)]):=by
 simp only[fb,AA h]
end
section
variable{d:Nat}{a b c e:V}
def Ni(G:Gd W)(k:K (.obj 149 [a,b]) H):ag (Call W (d+1)) X (.base 149) [a,b] H K:=by
 simp only[wrc];refine cf (l:=[some (.ref H.length),some a,some b]) G (by decide) rfl rfl ?_;simp only[OI,OH,nk,lc];rw[ao rfl];simp only[nk,lc];rw[ao rfl];simp only[nk];exact⟨rfl,[a,b],rfl,rfl,by simp,k⟩
def Nj(G:Gd W)(k:K (.obj 170 [a]) H):ag (Call W (d+1)) X (.base 170) [a] H K:=by
 simp only[wrc];refine cf (l:=[some (.ref H.length),some a]) G (by decide) rfl rfl ?_;simp only[OK,OJ,nk,lc];rw[ao rfl];simp only[nk];exact⟨rfl,[a],rfl,rfl,by simp,k⟩
def mkText(G:Gd W)(k:K (.obj 191 [a]) H):ag (Call W (d+1)) X (.base 191) [a] H K:=by
 simp only[wrc];refine cf (l:=[some (.ref H.length),some a]) G (by decide) rfl rfl ?_;simp only[OM,OL,nk,lc];rw[ao rfl];simp only[nk];exact⟨rfl,[a],rfl,rfl,by simp,k⟩
def ED(G:Gd W)(k:K (.obj 212 [a]) H):ag (Call W (d+1)) X (.base 212) [a] H K:=by
 simp only[wrc];refine cf (l:=[some (.ref H.length),some a]) G (by decide) rfl rfl ?_;simp only[OO,ON,nk,lc];rw[ao rfl];simp only[nk];exact⟨rfl,[a],rfl,rfl,by simp,k⟩
def IF(G:Gd W)(k:K (.obj 400 [a,b]) H):ag (Call W (d+1)) X (.base 400) [a,b] H K:=by
 simp only[wrc];refine cf (l:=[some (.ref H.length),some a,some b]) G (by decide) rfl rfl ?_;simp only[OT,OS,nk,lc];rw[ao rfl];simp only[nk,lc];rw[ao rfl];simp only[nk];exact⟨rfl,[a,b],rfl,rfl,by simp,k⟩
def pT(G:Gd W)(k:K (.obj 462 [a,b,c]) H):ag (Call W (d+1)) X (.base 462) [a,b,c] H K:=by
 simp only[wrc];refine cf (l:=[some (.ref H.length),some a,some b,some c]) G (by decide) rfl rfl ?_;simp only[OX,OW,nk,lc];rw[ao rfl];simp only[nk,lc];rw[ao rfl];simp only[nk,lc];rw[ao rfl];simp only[nk];exact⟨rfl,[a,b,c],rfl,rfl,by simp,k⟩
def xW(G:Gd W)(k:K (.obj 568 [a,b,c,e]) H):ag (Call W (d+1)) X (.base 568) [a,b,c,e] H K:=by
 simp only[wrc];refine cf (l:=[some (.ref H.length),some a,some b,some c,some e]) G (by decide) rfl rfl ?_;simp only[O9,O8,nk,lc];rw[ao rfl];simp only[nk,lc];rw[ao rfl];simp only[nk,lc];rw[ao rfl];simp only[nk,lc];rw[ao rfl];simp only[nk];exact⟨rfl,[a,b,c,e],rfl,rfl,by simp,k⟩
def EE(G:Gd W)(k:K (.ref H.length) (H++[.inst 65 [(1,a),(0,b)]])):ag (Call W (d+1)) X (.base 65) [a,b] H K:=by
 simp only[wnw];refine cf (l:=[some (.ref H.length),some a,some b]) G (by decide) rfl rfl ?_;simp only[VP,VO,nk,lc];rw[ao rfl];simp only[nk,lc];rw[ao rfl];simp only[nk];exact⟨trivial,k⟩
end
noncomputable def xX(s:List Nat):Bool:=s.all (· < 0x110000)
section
variable{a b:List Nat}{c:Nat}{x y:V}{l m:List V}{i j:Int}{n:Nat}
def cX(n:Nat):(V.str a).plain n=xX a:=by injection n<;>rfl
def iq(ha:xX a=true)(hb:xX b=true):ac H .Eq (.str a) (.str b)=some (decide (a=b)):=by
 exact wJ rfl rfl ((cX _).trans ha) ((cX _).trans hb)
theorem vT:ac H .In (.str [c]) (.str b)=some (decide (c∈b)):=rfl
theorem EF:ac H .NotIn (.str [c]) (.str b)=some (!decide (c∈b)):=rfl
theorem EG:ac H .Eq (.int i) (.int j)=some (decide (i=j)):=rfl
theorem oj:ac H .Lt (.int i) (.int j)=some (decide (i<j)):=rfl
theorem vU:ac H .Gt (.int i) (.int j)=some (decide (j<i)):=rfl
theorem EH:ac H .LtE (.int i) (.int j)=some (decide (i<=j)):=rfl
theorem Nk:ac H .GtE (.int i) (.int j)=some (decide (j<=i)):=rfl
def IG(h:aj a.length=true):aP H .len [.str a]=some (.int a.length):=if_pos h
def gI(h:aj l.length=true):aP H .len [.lst l]=some (.int l.length):=if_pos h
def eV(h:n<=2 ^ 40):aD (n:Int)=true:=by
 rw[dE]
 lia
def pU{k:Nat}(h:k<n)(hn:n<=2 ^ 40):dU n (k:Int)=some k:=by
 unfold dU;rw[if_pos (eV (by lia))];unfold seqIndex?;simp only;split<;>simp_all<;>lia
end
theorem e1:bY H (.tup [a,b]) (.int 0)=some a:=rfl
theorem e2:bY H (.tup [a,b]) (.int 1)=some b:=rfl
theorem e3:ac H .Eq (.str [1,2]) (.str [3])=some false:=rfl
def gJ{m:Fin 4->Prop}(h0:m 0)(h1:m 1)(h2:m 2)(h3:m 3)(k:Fin 4):m k:=
 Fin.cases (motive:=m) h0 (λk=>Fin.cases (motive:=λk=>m k.succ) h1 (λk=>Fin.cases (motive:=λk=>m k.succ.succ) h2 (λk=>Fin.cases (motive:=λk=>m k.succ.succ.succ) h3 (λk=>k.elim0) k) k) k) k
def fF{m:Fin 6->Prop}(h0:m 0)(h1:m 1)(h2:m 2)(h3:m 3)(h4:m 4)(h5:m 5)(k:Fin 6):m k:=
 Fin.cases (motive:=m) h0 (λk=>Fin.cases (motive:=λk=>m k.succ) h1 (λk=>gJ (m:=λk=>m k.succ.succ) h2 h3 h4 h5 k) k) k
set_option genCtorIdx false in
inductive Tk where
 |o | v | c | d
 |q (k:Fin 4)
 |a (k:Fin 6)
gen_injective_theorems% Tk
set_option genCtorIdx false in
inductive D where
 |at (k:Fin 6)
 |sy (k:Fin 4)
 |em
 |ch (cars:List D) (tail:D)
 |ve (l:List D)
gen_injective_theorems% D
set_option genCtorIdx false in
inductive It where
 |w (t:Tk)
 |dat (d:D)
gen_injective_theorems% It
noncomputable def qs(k:Fin 4):List Nat:=[[39],[96],[44],[44,64]].getD k.val []
noncomputable def qn(k:Fin 4):List Nat:=[[113,117,111,116,101],[113,117,97,115,105,113,117,111,116,101],[117,110,113,117,111,116,101],[117,110,113,117,111,116,101,45,115,112,108,105,99,105,110,103]].getD k.val []
noncomputable def tT(k:Fin 6):List Nat:=[[97],[49,50],[35,116],[34,115,34],[35,92,40],[49,47,50]].getD k.val []
def Tk.s:Tk->List Nat
 |.o=>[40] | .v=>[35,40] | .c=>[41] | .d=>[46]
 |.q k=>qs k
 |.a k=>tT k
noncomputable abbrev ol:V:=.str [115,121,109,98,111,108]
noncomputable abbrev eH:V:=.str [99,104,97,105,110]
noncomputable abbrev AB:V:=.str [118,101,99,116,111,114]
noncomputable abbrev V7:V:=.tup [.str [101,109,112,116,121],.int 0]
def o4(k:Fin 6):V:=[.tup [ol,.str [97]],.tup [.str [119,104,111,108,101],.int 12],.tup [.str [98,111,111,108,101,97,110],.int 1],.tup [.str [115,116,114,105,110,103],.tup [.int 115]],.tup [.str [99,104,97,114],.int 40],.tup [.str [114,97,116,105,111],.tup [.int 1,.int 2]]].getD k.val .undef
mutual
noncomputable def D.v:D->V
 |.at k=>o4 k
 |.sy k=>.tup [ol,.str (qn k)]
 |.em=>V7
 |.ch cs t=>.tup [eH,.tup [.tup (D.vs cs),D.v t]]
 |.ve l=>.tup [AB,.tup (D.vs l)]
noncomputable def D.vs:List D->List V
 |[]=>[]
 |d::r=>D.v d::D.vs r
end
theorem D.v_0:D.v (.at k)=(o4 k):=rfl
theorem D.v_1:D.v (.sy k)=(.tup [ol,.str (qn k)]):=rfl
theorem D.v_2:D.v (.em)=(V7):=rfl
theorem D.v_3:D.v (.ch cs t)=(.tup [eH,.tup [.tup (D.vs cs),D.v t]]):=rfl
theorem D.v_4:D.v (.ve l)=(.tup [AB,.tup (D.vs l)]):=rfl
theorem D.vs_0:D.vs []=([]):=rfl
theorem D.vs_1:D.vs (d::r)=(D.v d::D.vs r):=rfl
noncomputable def It.v:It->V
 |.w t=>.str t.s
 |.dat d=>d.v
noncomputable def bO(cars:List D)(tail:D):D:=match tail with
 |.ch cs t=>.ch (cars++cs) t
 |t=>match cars with | []=>t | _=>.ch cars t
def fO(k:Fin 4)(d:D):D:=bO [.sy k,d] .em
noncomputable def db(t:Tk):It:=match t with
 |.a k=>.dat (.at k)
 |.o=>.w .o | .v=>.w .v | .c=>.w .c | .d=>.w .d | .q k=>.w (.q k)
def eP(x:It)(acc:List It):Option (List It):=match x with
 |.dat d=>some (.dat d::acc)
 |.w t=>match t with
  |.q k=>(match acc with
   |[]=>none
   |y::r=>match y with
    |.dat d=>some (.dat (fO k d)::r)
    |.w _=>none)
  |.o=>some (.w .o::acc) | .v=>some (.w .v::acc) | .c=>some (.w .c::acc) | .d=>some (.w .d::acc) | .a k=>some (.w (.a k)::acc)
def ql:List It->List It->Option (List It)
 |[],acc=>some acc
 |x::xs,acc=>(eP x acc).bind (ql xs)
theorem UW:ql [] acc=(some acc):=rfl
theorem tU:ql (x::xs) acc=((eP x acc).bind (ql xs)):=rfl
def quo(items:List It):Option (List It):=ql items.reverse []
def om:∀l:List D,D.vs l=l.map D.v
 |[]=>rfl
 |d::r=>by rw[D.vs_1,om r];rfl
def Nl:∀l m:List D,D.vs (l++m)=D.vs l++D.vs m:=λl m=>by simp[om]
def rD(l:List D):(D.vs l).length=l.length:=by simp[om]
section
variable{d:Nat}
def ll(G:Gd W)(k:K (.dct [qs 0,qs 1,qs 2,qs 3] [.str (qn 0),.str (qn 1),.str (qn 2),.str (qn 3)]) H):Call W (d+1) 836 [] H K X:=by
 refine cf (l:=[]) G (by decide) rfl rfl ?_;simp only[PL,PK,nk];exact k
def EI(G:Gd W)(k:K (.dct [tT 0,tT 1,tT 2,tT 3] [o4 0,o4 1,o4 2,o4 3]) H):Call W (d+1) 843 [] H K X:=by
 refine cf (l:=[]) G (by decide) rfl rfl ?_;simp only[PN,PM,nk];exact k
def lm(h:∀cs u,t≠.ch cs u):bO [] t=t:=by
 injection t<;>first | rfl | exact absurd rfl (h _ _)
def jw{x:D}(h:∀cs u,t≠.ch cs u):bO (x::r) t=.ch (x::r) t:=by
 injection t<;>first | rfl | exact absurd rfl (h _ _)
def Nm{t:D}(h:∀cs u,t≠.ch cs u):∃a b,t.v=.tup [.str a,b]/\ac H .Eq (.str a) eH=some false:=by
 cases t with
 | «at» k=>
  dsimp only[D.v_0,D.v_1,D.v_2,D.v_3,D.v_4]
  induction k using fF<;>exact⟨_,_,rfl,rfl⟩
 |sy k=>dsimp only[D.v_0,D.v_1,D.v_2,D.v_3,D.v_4];exact⟨_,_,rfl,rfl⟩
 |em=>dsimp only[D.v_0,D.v_1,D.v_2,D.v_3,D.v_4];exact⟨_,_,rfl,rfl⟩
 |ch cs u=>exact absurd rfl (h cs u)
 |ve l=>dsimp only[D.v_0,D.v_1,D.v_2,D.v_3,D.v_4];exact⟨_,_,rfl,rfl⟩
def ln{n:Nat}{l:List V}:(∀x∈l,x.plain n=true)->V.plains n l=true:=by
 induction l with
 |nil=>
  intro _;injection n<;>rfl
 |cons x r ih=>
  intro h;have e:V.plains n (x::r)=(x.plain n&&V.plains n r):=by injection n<;>rfl
  rw[e,h x zw,ih λy m=>h y (zx _ m)];rfl
def j5{l:List V}(h:aj l.length=true):ag (Call W d) X (.ty .tuple) [.lst l] H K=K (.tup l) H:=by
 rw[hV _ _ _ _ trivial,wK rfl h,Cr]
def lq(G:Gd W){cars:List D}{t:D}(hf:aj cars.length=true)(hg:∀cs u,t=.ch cs u->aj cs.length=true)(hp:∀x∈D.vs cars,x.plain 59=true)(k:K (bO cars t).v H):Call W (d+1) 874 [.lst (D.vs cars),t.v] H K X:=by
 refine cf (l:=[some (.lst (D.vs cars)),some t.v]) G (by decide) rfl rfl ?_;have hf':aj (D.vs cars).length=true:=by rw[rD];exact hf
 by_cases q:∃cs u,t=.ch cs u
 .obtain⟨cs,u,rfl⟩:=q
  have e1:ac H .Eq eH eH=some true:=rfl;have e2:bY H (.tup [eH,.tup [.tup (D.vs cs),u.v]]) (.int 0)=some eH:=rfl;have e3:bY H (.tup [eH,.tup [.tup (D.vs cs),u.v]]) (.int 1)=some (.tup [.tup (D.vs cs),u.v]):=rfl;have e4:bY H (.tup [.tup (D.vs cs),u.v]) (.int 0)=some (.tup (D.vs cs)):=rfl;have e5:bY H (.tup [.tup (D.vs cs),u.v]) (.int 1)=some u.v:=rfl;have e6:aT H .Add (.tup (D.vs cars)) (.tup (D.vs cs))=some (.tup (D.vs cars++D.vs cs)):=by
   have:=hg cs u rfl;rw[<-rD]at this;exact if_pos (by rw[hf',this];rfl)
  simp only[GA,Gz,nk,lc,gv,D.v_0,D.v_1,D.v_2,D.v_3,D.v_4,e1,e2,e3,e4,e5,j5 hf',e6];rw[<-Nl];exact k
 .have q':∀cs u,t≠.ch cs u:=λcs u e=>q ⟨cs,u,e⟩
  obtain⟨a,b,ht,e1⟩:=Nm (H:=H) q';have e2:bY H (.tup [.str a,b]) (.int 0)=some (.str a):=rfl
  cases cars with
  |nil=>
   have e3:ac H .NotEq (.lst []) (.lst [])=some false:=rfl;simp only[GA,Gz,nk,lc,gv,ht,D.vs_0,D.vs_1,e2,e1,e3];rw[<-ht];rw[lm q']at k;exact k
  |cons x r=>
   have e3:ac H .NotEq (.lst (D.vs (x::r))) (.lst [])=some true:=by
    have e4:V.plain 60 (.lst (D.vs (x::r)))=true:=ln hp;have e5:V.plain 60 (.lst [])=true:=rfl;exact zi o5 (wJ (H:=H) (a:=.lst (D.vs (x::r))) (b:=.lst []) rfl rfl e4 e5)
   rw[ht];simp only[GA,Gz,nk,lc,gv,e2,e1,e3,j5 hf'];rw[<-ht];rw[jw q',D.v_3]at k;exact k
end
mutual
noncomputable def D.B:D->Nat
 |.at _=>1
 |.sy _=>1
 |.em=>1
 |.ch cs t=>2+D.Bs cs+D.B t
 |.ve l=>2+D.Bs l
noncomputable def D.Bs:List D->Nat
 |[]=>0
 |d::r=>D.B d+D.Bs r
end
theorem D.B_0:D.B (.at w1)=(1):=rfl
theorem D.B_1:D.B (.sy w1)=(1):=rfl
theorem D.B_2:D.B (.em)=(1):=rfl
theorem D.B_3:D.B (.ch cs t)=(2+D.Bs cs+D.B t):=rfl
theorem D.B_4:D.B (.ve l)=(2+D.Bs l):=rfl
theorem D.Bs_0:D.Bs []=(0):=rfl
theorem D.Bs_1:D.Bs (d::r)=(D.B d+D.Bs r):=rfl
def D.B_pos:∀d:D,1<=d.B
 |.at _=>zv _
 |.sy _=>zv _
 |.em=>zv _
 |.ch cs t=>by dsimp only[D.B_0,D.B_1,D.B_2,D.B_3,D.B_4];lia
 |.ve l=>by dsimp only[D.B_0,D.B_1,D.B_2,D.B_3,D.B_4];lia
mutual
def iX:∀(d:D) (n:Nat),d.B+1<=n->V.plain n d.v=true
 |.at k,n,h=>by
  dsimp only[D.B_0,D.B_1,D.B_2,D.B_3,D.B_4]at h
  match n,h with
  |n+2,_=>
   dsimp only[D.v_0,D.v_1,D.v_2,D.v_3,D.v_4]
   induction k using fF<;>rfl
 |.sy k,n,h=>by
  dsimp only[D.B_0,D.B_1,D.B_2,D.B_3,D.B_4]at h
  match n,h with
  |n+2,_=>
   dsimp only[D.v_0,D.v_1,D.v_2,D.v_3,D.v_4]
   induction k using gJ<;>rfl
 |.em,n,h=>by
  dsimp only[D.B_0,D.B_1,D.B_2,D.B_3,D.B_4]at h
  match n,h with
  |n+2,_=>rfl
 |.ch cs t,n,h=>by
  dsimp only[D.B_0,D.B_1,D.B_2,D.B_3,D.B_4]at h;have ht:=D.B_pos t;obtain⟨m,rfl⟩:∃m,n=m+3:=⟨n-3,(Nat.sub_add_cancel (show 3<=n by lia)).symm⟩;dsimp only[D.v_0,D.v_1,D.v_2,D.v_3,D.v_4];have e1:V.plain (m+3) (.tup [eH,.tup [.tup (D.vs cs),t.v]])=(V.plain (m+2) eH&&(V.plain (m+2) (.tup [.tup (D.vs cs),t.v])&&true)):=rfl;have e2:V.plain (m+2) (.tup [.tup (D.vs cs),t.v])=(V.plains m (D.vs cs)&&(V.plain (m+1) t.v&&true)):=rfl;rw[e1,e2,cX,oo cs m (by lia),iX t (m+1) (by lia)]
  rfl
 |.ve l,n,h=>by
  dsimp only[D.B_0,D.B_1,D.B_2,D.B_3,D.B_4]at h;obtain⟨m,rfl⟩:∃m,n=m+2:=⟨n-2,(Nat.sub_add_cancel (show 2<=n by lia)).symm⟩;dsimp only[D.v_0,D.v_1,D.v_2,D.v_3,D.v_4];have e1:V.plain (m+2) (.tup [AB,.tup (D.vs l)])=(V.plain (m+1) AB&&(V.plains m (D.vs l)&&true)):=rfl;rw[e1,cX,oo l m (by lia)]
  rfl
def oo:∀(l:List D) (n:Nat),D.Bs l+1<=n->V.plains n (D.vs l)=true
 |[],n,_=>by injection n<;>rfl
 |d::r,n,h=>by
  rw[D.Bs_1]at h;have hd:=D.B_pos d;have e:V.plains n (D.vs (d::r))=(V.plain n d.v&&V.plains n (D.vs r)):=by injection n<;>rfl
  rw[e,iX d n (by lia),oo r n (by lia)]
  rfl
end
def EJ:∀l m:List D,D.Bs (l++m)=D.Bs l+D.Bs m
 |[],m=>by simp[D.Bs_0,D.Bs_1]
 |d::r,m=>by simp only[cons_append,D.Bs_0,D.Bs_1,EJ r m];lia
def jx:∀l:List D,l.length<=D.Bs l
 |[]=>zv _
 |d::r=>by have:=D.B_pos d;have:=jx r;simp only[length_cons,D.Bs_0,D.Bs_1];lia
def xY{cars:List D}{t:D}:(bO cars t).B<=2+D.Bs cars+t.B:=by
 by_cases q:∃cs u,t=.ch cs u
 .obtain⟨cs,u,rfl⟩:=q
  show (D.ch (cars++cs) u).B<=_;simp only[D.B_0,D.B_1,D.B_2,D.B_3,D.B_4,EJ]
  lia
 .have q':∀cs u,t≠.ch cs u:=λcs u e=>q ⟨cs,u,e⟩
  cases cars with
  |nil=>rw[lm q'];lia
  |cons x r=>rw[jw q',D.B_3];exact zv _
def xZ{k:Fin 4}{d:D}:(fO k d).B=d.B+4:=by
 show (D.ch [.sy k,d] .em).B=_;simp only[D.B_0,D.B_1,D.B_2,D.B_3,D.B_4,D.Bs_0,D.Bs_1]
 lia
noncomputable def It.B:It->Nat
 |.w _=>4
 |.dat d=>d.B
noncomputable def iB:List It->Nat
 |[]=>0
 |x::r=>x.B+iB r
theorem pe:iB []=(0):=rfl
theorem iu:iB (x::r)=(x.B+iB r):=rfl
def bz(l:List It):List V:=l.map It.v
def It.B_pos(x:It):1<=x.B:=by
 cases x with
 |w t=>show 1<=4;lia
 |dat d=>exact D.B_pos d
def dX:∀l m:List It,iB (l++m)=iB l+iB m
 |[],m=>by simp[pe,iu]
 |d::r,m=>by simp only[cons_append,pe,iu,dX r m];lia
def fP:∀l:List It,l.length<=iB l
 |[]=>zv _
 |d::r=>by have:=It.B_pos d;have:=fP r;simp only[length_cons,pe,iu];lia
def vV(t:Tk):xX t.s=true:=by
 cases t with
 |o | v | c | d=>rfl
 |q k=>induction k using gJ<;>rfl
 |a k=>induction k using fF<;>rfl
def oq(x:It){n:Nat}(h:x.B+1<=n):x.v.plain n=true:=by
 cases x with
 |w t=>exact (cX n).trans (vV t)
 |dat d=>exact iX d n h
def gj:∀{n:Nat},iB l+1<=n->V.plains n (bz l)=true:=by
 induction l with
 |nil=>
  intro n _;injection n<;>rfl
 |cons x r ih=>
  intro n h;rw[iu]at h;have hd:=It.B_pos x;have e:V.plains n (bz (x::r))=(V.plain n x.v&&V.plains n (bz r)):=by injection n<;>rfl
  rw[e,oq x (by lia),ih (by lia)]
  rfl
def gK(d:D):∃l,d.v=.tup l:=by
 cases d with
 | «at» k=>dsimp only[D.v_0,D.v_1,D.v_2,D.v_3,D.v_4];induction k using fF<;>exact⟨_,rfl⟩
 |sy k=>dsimp only[D.v_0,D.v_1,D.v_2,D.v_3,D.v_4];exact⟨_,rfl⟩
 |em=>dsimp only[D.v_0,D.v_1,D.v_2,D.v_3,D.v_4];exact⟨_,rfl⟩
 |ch cs u=>dsimp only[D.v_0,D.v_1,D.v_2,D.v_3,D.v_4];exact⟨_,rfl⟩
 |ve l=>dsimp only[D.v_0,D.v_1,D.v_2,D.v_3,D.v_4];exact⟨_,rfl⟩
def RL:∀{acc r:List It},ql xs acc=some r->iB r<=iB xs+iB acc:=by
 induction xs with
 |nil=>
  intro acc r h;injection h;simp[pe,iu]
 |cons x xs ih=>
  intro acc r h;rw[tU]at h;obtain⟨a,ha,hr⟩:=bind_eq_some_iff.mp h;have:=ih hr;have:iB a<=x.B+iB acc:=by
   cases x with
   |dat d=>injection ha;exact zv _
   |w t=>cases t with
    |q k=>cases acc with
     |nil=>injection ha
     |cons y r=>cases y with
      |dat d=>
       injection ha;simp only[pe,iu,It.B,xZ]
       lia
      |w _=>injection ha
    |_=>injection ha;exact zv _
  simp only[pe,iu]
  lia
noncomputable def It.flat:It->Bool
 |.w .d=>true
 |.w (.q _)=>true
 |.w _=>false
 |.dat _=>true
section
variable{x:It}
def ya{y:V}(hx:x.B+1<=60)(hy:y.plain 60=true)(hr:y.res H=y):ac H .Eq x.v y=some (V.eqb x.v y):=by
 have e:x.v.res H=x.v:=by
  cases x with
  |w t=>rfl
  |dat d=>obtain⟨l,hl⟩:=gK d;show d.v.res H=d.v;rw[hl];rfl
 exact wJ e hr (oq x hx) hy
def ot:aP H .isinstance [x.v,.ty .str]=some (.bool (match x with | .w _=>true | .dat _=>false)):=by
 cases x with
 |w t=>rfl
 |dat d=>obtain⟨l,hl⟩:=gK d;show aP H .isinstance [d.v,_]=_;rw[hl];rfl
end
section
variable{C:ba}{X:XS}{l:Loc}{KS:KS}
theorem Nn(ts b xs):kFor C ts b l KS (.lst xs) H=fN (cr C ts b) xs l H KS:=rfl
theorem EK(ts b xs):kFor C ts b l KS (.tup xs) H=fN (cr C ts b) xs l H KS:=rfl
theorem dG(t b x):cr C [t] b x l H KS=dT C b (l.set t (some x)) H KS kJ:=rfl
theorem dH(t u b x y):cr C [t,u] b (.tup [x,y]) l H KS=dT C b ((l.set t (some x)).set u (some y)) H KS kJ:=rfl
end
section
variable{Z:Hp}{j:Nat}{o:O}{vs:List V}
def mC:(H++Z)[H.length+j]?=Z[j]?:=by
 rw[zk (le_add_right _ _),Nat.add_sub_cancel_left]
def rE:(H++Z).set (H.length+j) o=H++Z.set j o:=by
 rw[List.set_append_right _ _ (le_add_right _ _),Nat.add_sub_cancel_left]
def mD(h:Z[j]?=some (.list vs)):V.res (H++Z) (.ref (H.length+j))=.lst vs:=by
 exact hM (mC.trans h)
def ai{n m:Nat}(h:n<=m)(hm:m<=1000):aj n=true:=zb (zT h (zT hm (by decide)))
def aS(l:List It):(bz l).length=l.length:=by simp[bz]
end
noncomputable def kept(x:It):Bool:=match x with
 |.w t=>t.ctorIdx==3
 |.dat _=>true
section
variable{d:Nat}
def j6{a b:V}{l m:List V}(ha:a.res H=.lst l)(hb:b.res H=.lst m)(hl:aj l.length=true)(hm:aj m.length=true):aT H .Add a b=some (.lst (l++m)):=by
 exact Ln ha hb hl hm
def rF{a b:V}(ha:a.res H=.lst l)(hb:b.res H=.lst m)(hl:V.plains 59 l=true)(hm:V.plains 59 m=true):ac H .Eq a b=some (V.eqbs l m):=by
 exact wJ ha hb hl hm
def EL{a b:V}(ha:a.res H=.lst l)(hb:b.res H=.lst m)(hl:V.plains 59 l=true)(hm:V.plains 59 m=true):ac H .NotEq a b=some (!V.eqbs l m):=by
 rw[show ac H .NotEq a b=o5 (ac H .Eq a b)from rfl,rF ha hb hl hm];rfl
def jy{a:V}{l:List V}{k:Nat}(ha:a.res H=.lst l)(hk:k<l.length)(hl:l.length<=1000):bY H a (.int k)=l[k]?:=by
 rw[kM ha,pU hk (zT hl (by decide))];rfl
def EM{H Z:Hp}{j:Nat}{x y:V}(h:Z[j]?=some (.list (x::vs)))(hl:aj (x::vs).length=true):ek (H++Z) (.ref (H.length+j)) (.int 0) y=some (H++Z.set j (.list (y::vs))):=by
 rw[qr (mC.trans h)];refine (if_pos ⟨Int.le_refl _,Int.natCast_pos.mpr (Nat.succ_pos _),hl⟩).trans ?_;rw[rE];rfl
def AC{k:Fin 4}:ac H .NotIn (It.w (.q k)).v (.dct [qs 0,qs 1,qs 2,qs 3] [.str (qn 0),.str (qn 1),.str (qn 2),.str (qn 3)])=some false:=by induction k using gJ<;>rfl
def II{k:Fin 4}:bY H (.dct [qs 0,qs 1,qs 2,qs 3] [.str (qn 0),.str (qn 1),.str (qn 2),.str (qn 3)]) (It.w (.q k)).v=some (.str (qn k)):=by induction k using gJ<;>rfl
def EO(G:Gd W){kq:Fin 4}{acc:List It}{Z:Hp}{j:Nat}{KF:KS}(hj:Z[j]?=some (.list (bz acc)))(ha:∀x∈acc,kept x=true)(hB:iB acc<=50)(kn:eP (.w (.q kq)) acc=none->∀l Z',KF (.ret .none) l (H++Z'))(ks:∀r,eP (.w (.q kq)) acc=some r->∀Z' j' KD,Z'[j']?=some (.list (bz r))->KF .next [some i0,some (.ref (H.length+j')),KD] (H++Z')):dT (Call W (d+1)) bq [some i0,some (.ref (H.length+j)),some (It.w (.q kq)).v] (H++Z) KF kJ:=by
 have hla:=fP acc;have ff:aj (bz acc).length=true:=ai (m:=50) (by rw[aS];lia) (by lia);have e5:=rF (mD (H:=H) hj) (show V.res (H++Z) (.lst [])=.lst []from rfl) (gj (by lia)) rfl;simp only[bq,nk,lc,gv,wfn,ot,Bool.not_true,reduceCtorEq,reduceIte];refine ll G ?_;simp only[nk,lc,AC,e5,reduceIte]
 cases acc with
 |nil=>
  simp only[bz,map_nil,V.eqbs_0,V.eqbs_1,true_eq_false,reduceIte,Bool.not_false,nk];exact kn rfl _ _
 |cons y r=>
  have hy:=ha y zw;have e6:bY (H++Z) (.ref (H.length+j)) (.int 0)=some y.v:=jy (k:=0) (mD hj) (by simp[bz]) (by rw[aS];lia);rw[iu]at hB;have hyB:y.B+1<=60:=by lia
  have e7:=ya (H:=H++Z) (y:=.str [46]) hyB (cX 60) rfl;simp only[bz,map_cons,V.eqbs_0,V.eqbs_1,reduceIte,nk,lc,e6,e7]
  cases y with
  |w t=>
   injection t<;>try (injection hy;done)
   simp only[show V.eqb (It.w .d).v (.str [46])=true from rfl,true_eq_false,reduceIte,Bool.not_false,nk];exact kn rfl _ _
  |dat d1=>
   obtain⟨l1,XL⟩:=gK d1;have e8:V.eqb (It.dat d1).v (.str [46])=false:=by show V.eqb d1.v _=false;rw[XL];rfl
   simp only[e8,Bool.not_false,Bool.not_true,reduceIte,nk,lc,gv,wfn];refine ll G ?_;simp only[nk,lc,II,e6];simp only[wfn];have hpl:∀x∈D.vs [.sy kq,d1],x.plain 59=true:=λx m=>by
    simp only[D.vs_0,D.vs_1,mem_cons,not_mem_nil,or_false]at m
    rcases m with rfl | rfl
    .exact iX (.sy kq) 59 (by simp only[D.B_0,D.B_1,D.B_2,D.B_3,D.B_4];lia)
    .exact iX d1 59 (by have:d1.B<=50:=by { show (It.dat d1).B<=50;lia };lia)
   refine lq G (cars:=[.sy kq,d1]) (t:=.em) rfl (λ_ _ q=>by injection q) hpl ?_;have e9:=EM (H:=H) (y:=(bO [.sy kq,d1] .em).v) hj ff;simp only[nk,lc,jk,e9];exact ks _ rfl _ _ _ (by rw[z5 (zu.mp hj).1];rfl)
def tV(G:Gd W){x:It}{acc:List It}{Z:Hp}{j:Nat}{KF:KS}(hj:Z[j]?=some (.list (bz acc)))(hx0:x.flat=true)(ha:∀x∈acc,kept x=true)(hB:x.B+iB acc<=50)(kn:eP x acc=none->∀l Z',KF (.ret .none) l (H++Z'))(ks:∀r,eP x acc=some r->∀Z' j' KD,Z'[j']?=some (.list (bz r))->KF .next [some i0,some (.ref (H.length+j')),KD] (H++Z')):dT (Call W (d+1)) bq [some i0,some (.ref (H.length+j)),some x.v] (H++Z) KF kJ:=by
 have hla:=fP acc;have ff:aj (bz acc).length=true:=ai (m:=50) (by rw[aS];lia) (by lia);have e1:aT (H++Z) .Add (.lst [x.v]) (.ref (H.length+j))=some (.lst (x.v::bz acc)):=j6 (l:=[x.v]) rfl (mD hj) rfl ff;have e2:(H++Z)++[O.list (x.v::bz acc)]=H++(Z++[O.list (bz (x::acc))]):=zj ..;have grow:(eP x acc=some (x::acc))->KF .next [some i0,some (.ref (H++Z).length),some x.v] ((H++Z)++[O.list (x.v::bz acc)]):=λhq=>by
  rw[e2,zV];exact ks _ hq _ _ _ fu
 cases x with
 |dat d0=>
  simp only[bq,nk,lc,gv,ot,Bool.not_false,reduceCtorEq,reduceIte,e1];exact grow rfl
 |w t=>
  cases t with
  |o=>injection hx0
  |v=>injection hx0
  |c=>injection hx0
  |a k=>injection hx0
  |d=>
   have e3:ac (H++Z) .NotIn (It.w .d).v (.dct [qs 0,qs 1,qs 2,qs 3] [.str (qn 0),.str (qn 1),.str (qn 2),.str (qn 3)])=some true:=rfl;simp only[bq,nk,lc,gv,wfn,ot,Bool.not_true,reduceCtorEq,reduceIte];refine ll G ?_;simp only[nk,lc,e3,Bool.not_false,reduceCtorEq,reduceIte,e1];exact grow rfl
  |q kq=>exact EO G hj ha (by lia) kn ks
def j7{x:It}{acc r:List It}(h:eP x acc=some r)(hx0:x.flat=true)(ha:∀x∈acc,kept x=true):(∀y∈r,kept y=true)/\iB r<=x.B+iB acc:=by
 have cons:∀y:It,kept y=true->(∀z∈y::acc,kept z=true)/\iB (y::acc)<=y.B+iB acc:=λy hy=>⟨λz m=>by
  rcases zZ.mp m with rfl | m
  .exact hy
  .exact ha z m,zv _⟩
 cases x with
 |dat d0=>injection h;exact cons _ rfl
 |w t=>
  cases t with
  |o=>injection hx0
  |v=>injection hx0
  |c=>injection hx0
  |a k=>injection hx0
  |d=>injection h;exact cons _ rfl
  |q k=>
   cases acc with
   |nil=>injection h
   |cons y acc=>
    cases y with
    |w t=>injection h
    |dat d1=>
     injection h;refine⟨λz m=>?_,by simp only[pe,iu,It.B,xZ];lia⟩
     rcases zZ.mp m with rfl | m
     .rfl
     .exact ha z (zx _ m)
def tW(G:Gd W)(xs:List It):∀(acc:List It)  (Z:Hp) (j:Nat) (l2:Option V) (KS:KS),Z[j]?=some (.list (bz acc))->(∀x∈xs,x.flat=true)->(∀x∈acc,kept x=true)->iB xs+iB acc<=50->(ql xs acc=none->∀l Z',KS (.ret .none) l (H++Z'))->(∀r,ql xs acc=some r->∀Z' j' KD,Z'[j']?=some (.list (bz r))->KS .next [some i0,some (.ref (H.length+j')),KD] (H++Z'))->fN (cr (Call W (d+1)) [2] bq) (bz xs) [some i0,some (.ref (H.length+j)),l2] (H++Z) KS:=by
 induction xs with
 |nil=>
  intro acc Z j l2 KS hj hx ha hB kn ks;exact ks acc rfl Z j l2 hj
 |cons x xs ih=>
  intro acc Z j l2 KS hj hx ha hB kn ks;have hx0:=hx x zw;have hxs:∀y∈xs,y.flat=true:=λy m=>hx y (zx _ m);rw[iu]at hB;show fN _ (x.v::bz xs) _ _ _;rw[aY,dG];refine tV G hj hx0 ha (by lia) (λh l Z'=>?_) (λr h Z' j' KD Vy=>?_)
  .exact kn (by rw[tU,h];rfl) l Z'
  .have hr:(∀y∈r,kept y=true)/\iB r<=x.B+iB acc:=by
    exact j7 h hx0 ha
   exact ih r Z' j' KD KS Vy hxs hr.1 (by lia) (λq=>kn (by rw[tU,h];exact q)) (λr' q=>ks r' (by rw[tU,h];exact q))
def ou(G:Gd W){items:List It}(hx:∀x∈items,x.flat=true)(hB:iB items<=50)(k:∀Z,K (match quo items with | some r=>.lst (bz r) | none=>.none) (H++Z)):Call W (d+2) 888 [.lst (bz items)] H K X:=by
 refine cf (l:=[some (.lst (bz items)),none,none]) G (by decide) rfl rfl ?_;have hl:=fP items;have e1:eg (H++[O.list []]) (.lst (bz items)) .undef .undef (.int (-1))=some (.lst (bz items.reverse)):=by
  rw[Lq rfl (ai (m:=50) (show (bz items).length<=50 by rw[aS];lia) (by lia)),bz,bz,List.map_reverse]
 have hr:iB items.reverse=iB items:=by
  clear hl e1 hx hB k
  induction items with
  |nil=>rfl
  |cons x r ih=>rw[zB,dX,ih];simp only[pe,iu];lia
 simp only[PY,PX,nk,lc,e1,Nn];refine tW (acc:=[]) (j:=0) (Z:=[O.list []]) G items.reverse _ _ rfl (λx m=>hx x (List.mem_reverse.mp m)) (λ_ m=>by simp at m) (by rw[hr];simp only[pe,iu];lia) (λh l Z'=>?_) (λr h Z' j' KD hj=>?_)
 .simp only[nk]
  have:=k Z';rw[show quo items=none from h]at this;exact this
 .simp only[nk,lc]
  show ∃vs,_;refine⟨bz r,mC.trans hj,?_⟩;rw[rE];have:=k (Z'.set j' .gone);rw[show quo items=some r from h]at this;exact this
end
section
variable{C:ba}{l lo:Loc}{H1:Hp}{ks:List (List Nat)}{vs:List V}{s:List Nat}
def pV(args):cq C X l lo 5 args K (.dct ks vs) H=fQ C X args l lo H (cJ C X 5 (.dct ks vs) H K):=bK C X l lo H K rfl args
def AD(args):bD C X 5 (.dct ks vs) H1 args H K=F1 (kA H 5 (.dct ks vs) args) K:=by
 unfold bD;exact if_pos ⟨rfl,succ_ne_zero _⟩
def AE(args):cq C X l lo 13 args K (.lst vs) H=fQ C X args l lo H (cJ C X 13 (.lst vs) H K):=bK C X l lo H K rfl args
def AG(args):bD C X 13 (.lst vs) H1 args H K=F1 (kA H 13 (.lst vs) args) K:=by
 unfold bD;exact if_pos ⟨rfl,succ_ne_zero _⟩
def jz(args):cq C X l lo 22 args K (.str s) H=fQ C X args l lo H (cJ C X 22 (.str s) H K):=bK C X l lo H K rfl args
def jA(args):bD C X 22 (.str s) H1 args H K=F1 (kA H 22 (.str s) args) K:=by
 unfold bD;exact if_pos ⟨rfl,succ_ne_zero _⟩
def vW(args):cq C X l lo 23 args K (.str s) H=fQ C X args l lo H (cJ C X 23 (.str s) H K):=bK C X l lo H K rfl args
def vX(args):bD C X 23 (.str s) H1 args H K=F1 (kA H 23 (.str s) args) K:=by
 unfold bD;exact if_pos ⟨rfl,succ_ne_zero _⟩
end
section
variable{d:Nat}
def EP(G:Gd W){t:Tk}(k:K (db t).v H):Call W (d+2) 881 [.str t.s] H K X:=by
 refine cf (l:=[some (.str t.s)]) G (by decide) rfl rfl ?_;have e0:∀ks vs,sk [[35,92,40],[49,47,50]] [.tup [.str [99,104,97,114],.int 40],.tup [.str [114,97,116,105,111],.tup [.int 1,.int 2]]] ks vs=vs (.dct [[35,92,40],[49,47,50]] [o4 4,o4 5]) ks:=λ_ _=>rfl;have e1:kA H 5 (.dct [tT 0,tT 1,tT 2,tT 3] [o4 0,o4 1,o4 2,o4 3]) [.str t.s,.str t.s]=some ((dictGet [tT 0,tT 1,tT 2,tT 3] [o4 0,o4 1,o4 2,o4 3] t.s).getD (.str t.s),H):=rfl;have e2:kA H 5 (.dct [[35,92,40],[49,47,50]] [o4 4,o4 5]) [.str t.s,(dictGet [tT 0,tT 1,tT 2,tT 3] [o4 0,o4 1,o4 2,o4 3] t.s).getD (.str t.s)]=some ((db t).v,H):=by
  cases t with
  |o | v | c | d=>rfl
  |q kk=>induction kk using gJ<;>rfl
  |a kk=>induction kk using fF<;>rfl
 simp only[PW,PV,nk,lc,gv,wfn,e0,pV];refine EI G ?_;simp only[nk,lc,pV,AD,e1,e2];exact k
end
noncomputable def dM(x:It):Bool:=match x with
 |.w t=>t.ctorIdx==3
 |.dat _=>false
theorem yb:dM (.w .d)=true:=rfl
theorem IJ{k:Fin 4}:dM (.w (.q k))=false:=rfl
theorem IK:dM (.dat d)=false:=rfl
def aQ:Nat->List It->List Nat
 |_,[]=>[]
 |n,x::r=>if dM x then n::aQ (n+1) r else aQ (n+1) r
theorem IL:aQ w1 []=([]):=rfl
theorem j8:aQ n (x::r)=(if dM x then n::aQ (n+1) r else aQ (n+1) r):=rfl
noncomputable def j9(l:List It):List D:=l.filterMap λx=>match x with | .dat d=>some d | _=>none
noncomputable def pW(l:List It):D:=match l.getLast? with
 |some (.dat d)=>d
 |_=>.em
def brk(v:Bool)(r:List It):Option D:=
 if v then (if aQ 0 r=[] then some (.ve (j9 r)) else none)
 else if aQ 0 r=[] then some (bO (j9 r) .em)
 else if aQ 0 r≠[r.length-2]\/r.length<3 then none
 else some (bO (j9 (r.take (r.length-2))) (pW r))
def aw(v:Bool)(items:List It):Option D:=(quo items).bind (brk v)
def lu{r:List It}:∀{n:Nat},aQ n r=[]->(∀x∈r,kept x=true)->bz r=D.vs (j9 r)/\iB r=D.Bs (j9 r):=by
 induction r with
 |nil=>
  intro _ _ _;exact⟨rfl,rfl⟩
 |cons x r ih=>
  intro n h k;rw[j8]at h;split at h
  .injection h
  .rename_i q
   have kx:=k x zw
   cases x with
   |w t=>injection t<;>first | exact absurd rfl q | injection kx
   |dat d=>
    obtain⟨h1,h2⟩:=ih h λy m=>k y (zx _ m);refine⟨?_,?_⟩
    .show d.v::bz r=_
     rw[h1];rfl
    .show d.B+iB r=_
     rw[h2];rfl
section
variable{C:ba}{l:Loc}
def bi{f:V->Hp->(Option V->Hp->Prop)->Prop}{x:V}:cb f (x::xs) acc H K=f x H (qt f xs acc K):=mY ..
theorem ow{elt:PE}{aF:de}{x y:V}{k:Option V->Hp->Prop}:aX C l 2 elt aF (.tup [x,y]) H k=Br C g6 aF [some x,some y] l H (pq C g6 l elt [some x,some y] k):=rfl
theorem b9{elt:PE}{aF:de}{x:V}{k:Option V->Hp->Prop}:aX C l 1 elt aF x H k=Br C g6 aF [some x] l H (pq C g6 l elt [some x] k):=rfl
def AH{r:List It}:∀{n:Nat} {acc:List V},iB r<=50->(∀x∈r,kept x=true)->K (.lst (acc++(aQ n r).map λi=>V.int (i:Nat))) H->cb (aX C l 2 (.var 0) (.k (.cmp (.var 1) .Eq (.lit (.str [46]))) .z)) (eK n (bz r)) acc H K:=by
 induction r with
 |nil=>
  intro n acc hB hk k;rw[IL,map_nil,zJ]at k;exact k
 |cons x r ih=>
  intro n acc hB hk k;rw[iu]at hB;have kx:=hk x zw;have e1:=ya (H:=H) (y:=.str [46]) (x:=x) (by lia) (cX 60) rfl;have e2:V.eqb x.v (.str [46])=dM x:=by
   cases x with
   |w t=>injection t<;>first | rfl | injection kx
   |dat d=>obtain⟨l,hl⟩:=gK d;show V.eqb d.v _=_;rw[hl];rfl
  show cb _ (.tup [.int n,x.v]::eK (n+1) (bz r)) _ _ _;rw[bi,ow];rw[e2]at e1;simp only[nk,lc,e1];rw[j8]at k
  cases q:dM x with
  |true=>
   rw[q,if_pos rfl]at k;simp only[nk,lc];refine ih (by lia) (λy m=>hk y (zx _ m)) ?_;rw[zj];exact k
  |false=>
   rw[q,if_neg (by decide)]at k;simp only[nk];exact ih (by lia) (λy m=>hk y (zx _ m)) k
end
def gm:∀{a b:List Nat},V.eqbs (a.map λi=>V.int (i:Nat)) (b.map λi=>V.int (i:Nat))=decide (a=b)
 |[],[]=>rfl
 |[],_::_=>rfl
 |_::_,[]=>rfl
 |x::a,y::b=>by
  show (decide ((x:Int)=y)&&V.eqbs (a.map λi=>V.int (i:Nat)) (b.map λi=>V.int (i:Nat)))=_;rw[gm];simp[Int.ofNat_inj]
def ix{n:Nat}{a:List Nat}:V.plains n (a.map λi=>V.int (i:Nat))=true:=ln λx m=>by
 obtain⟨i,-,rfl⟩:=mem_map.mp m;injection n<;>rfl
def IM{xs:List It}:∀{acc r:List It},ql xs acc=some r->(∀x∈xs,x.flat=true)->(∀x∈acc,kept x=true)->∀x∈r,kept x=true:=by
 induction xs with
 |nil=>
  intro acc r h _ ha;injection h;exact ha
 |cons x xs ih=>
  intro acc r h hx ha;rw[tU]at h;obtain⟨a,h1,h2⟩:=bind_eq_some_iff.mp h;exact ih h2 (λy m=>hx y (zx _ m)) (j7 h1 (hx x zw) ha).1
def tX{items r:List It}(h:quo items=some r)(hx:∀x∈items,x.flat=true):∀x∈r,kept x=true:=IM h (λx m=>hx x (List.mem_reverse.mp m)) λ_ m=>by simp at m
def No(items:List It):iB items.reverse=iB items:=by
 induction items with
 |nil=>
  exact rfl
 |cons x r ih=>
  rw[zB,dX,ih];simp only[pe,iu];lia
def vY{items:List It}(h:quo items=some r):iB r<=iB items:=by
 have:=RL h;rw[No]at this;exact this
section
variable{C:ba}{l:Loc}
def AI:ag C X (.ty .enumerate) [.lst vs] H K=K (.ref H.length) (H++[.iter (eK 0 vs)]):=jj C X H K rfl
def oz{aF:de}{vs:List V}(h:aj vs.length=true):hU C l 2 elt aF K (.ref H.length) (H++[.iter vs])=cb (aX C l 2 elt aF) vs [] (H++[.gone]) K:=by
 have e:fG 2 (H++[.iter vs]) (.ref H.length)=some (vs,H++[.gone]):=by
  show (H++[O.iter vs])[H.length]?.elim none _=_;rw[fu];show (if 2=2 then some (vs,(H++[O.iter vs]).set H.length .gone) else none)=_;rw[if_pos rfl,oi]
 simp only[hU,e,h,if_true]
def gn{aF:de}{vs:List V}(h:aj vs.length=true):hU C l 1 elt aF K (.lst vs) H=cb (aX C l 1 elt aF) vs [] H K:=by
 have e:fG 1 H (.lst vs)=some (vs,H):=rfl;simp only[hU,e,h,if_true]
end
def Np{α:Type}{l:List α}{k:Nat}(hk:0<k)(h:k<=l.length):cut l none (some (-(k:Int)))=l.take (l.length-k):=by
 simp only[cut,elim_none,elim_some,drop_zero,clipAt];rw[if_pos (by lia)];exact zi (λn=>l.take n) (Oy h)
def Nq{vs:List V}{k:Nat}(XM:0<k)(h:k<=vs.length)(hk:k<=100)(hl:aj vs.length=true):eg H (.lst vs) .undef (.int (-(k:Int))) .undef=some (.lst (vs.take (vs.length-k))):=by
 have hs:aD (-(k:Int))=true:=by
  rw[dE]
  lia
 have hp:dB (.int (-(k:Int)))=some (some (-(k:Int))):=if_pos hs;rw[BX (x:=none) rfl rfl hp hl,Np XM h]
def oA{vs:List V}(h:0<vs.length)(hl:vs.length<=1000):bY H (.lst vs) (.int (-1))=vs.getLast?:=by
 have e:dU vs.length (-1)=some (vs.length-1):=by
  unfold dU;rw[if_pos (by decide)];unfold seqIndex?;have j:(if (-1:Int)<0 then -1+(vs.length:Int) else -1)=(vs.length:Int) - 1:=by rw[if_pos (by decide)];lia
  simp only[j];rw[if_pos (by rw[zm,zN,zN];lia)];exact zi some Oz
 rw[kM rfl,e,bind_some];rw[List.getLast?_eq_getElem?]
def RM{x:It}{m:It->Prop}(h:dM x=true)(k:m (.w .d)):m x:=by
 cases x with
 |dat _=>exact ff h
 |w t=>cases t with
  |d=>exact k
  |_=>exact ff h
def AJ{x:It}(h:dM x=false)(hk:kept x=true):∃t,x=.dat t:=by
 cases x with
 |dat t=>exact⟨t,rfl⟩
 |w t=>cases t with
  |d=>exact ff' h
  |_=>exact ff hk
def EQ{i:Nat}{r:List It}:∀{n:Nat},aQ n r=[i]->∃m s,r=m++.w .d::s/\i=n+m.length/\aQ n m=[]/\aQ (i+1) s=[]:=by
 induction r with
 |nil=>exact λh=>nomatch h
 |cons x r ih=>
  intro n h;have h:(if dM x then n::aQ (n+1) r else aQ (n+1) r)=[i]:=h
  by_cases q:dM x=true
  .rw[if_pos q]at h
   have h1:n=i:=(List.cons.inj h).1;subst h1;exact RM (m:=λx=>∃m s,x::r=m++.w .d::s/\n=n+m.length/\aQ n m=[]/\aQ (n+1) s=[]) q ⟨[],r,rfl,rfl,rfl,(List.cons.inj h).2⟩
  .rw[if_neg q]at h
   obtain⟨m,s,e,e1,e2,e3⟩:=ih h;exact⟨x::m,s,by rw[e];rfl,e1.trans (by rw[zd,Nat.add_assoc,Nat.add_comm 1]),(if_neg q).trans e2,e3⟩
def ER{r:List It}{n:Nat}(hl:3<=r.length)(hk:∀x∈r,kept x=true)(h:aQ n r=[n+(r.length-2)]):∃m t,r=m++[.w .d,.dat t]/\aQ n m=[]:=by
 obtain⟨m,s,rfl,e1,e2,e3⟩:=EQ h;have e1:(m++It.w .d::s).length-2=m.length:=Nat.add_left_cancel e1;rw[zV,zd]at e1 hl
 cases s with
 |nil=>
  rw[length_nil]at e1 hl
  lia
 |cons x s=>cases s with
  |cons y s=>
   rw[zd,zd]at e1
   lia
  |nil=>
   have q:dM x=false:=by
    cases z:dM x with
    |false=>rfl
    |true=>exact nomatch (if_pos z).symm.trans e3
   obtain⟨t,rfl⟩:=AJ q (hk x (by simp));exact⟨m,t,rfl,e2⟩
def tY(h:D.Bs l<=50):∀x∈D.vs l,x.plain 59=true:=λx m=>by
 rw[om]at m;obtain⟨x',m',rfl⟩:=mem_map.mp m;have:x'.B<=D.Bs l:=by
  clear h m
  induction l with
  |nil=>injection m'
  |cons y l ih=>
   rw[D.Bs_1]
   rcases zZ.mp m' with rfl | m'
   .lia
   .have:=ih m';lia
 exact iX x' 59 (by lia)
def yc(l m:List It):bz (l++m)=bz l++bz m:=map_append ..
section
variable{d:Nat}
noncomputable def ES:Option D->V
 |some d=>d.v
 |none=>.none
def tZ(G:Gd W){v:Bool}{items:List It}(hx:∀x∈items,x.flat=true)(hB:iB items<=50)(k:∀Z,K (ES (aw v items)) (H++Z)):Call W (d+3) 893 [.str (if v then [35,40] else [40]),.lst (bz items)] H K X:=by
 refine cf (l:=[some (.str (if v then [35,40] else [40])),some (.lst (bz items)),none]) G (by decide) rfl rfl ?_;simp only[P0,PZ,nk,lc,gv,wfn];refine ou G hx hB λZ=>?_;unfold aw at k
 cases hq:quo items with
 |none=>
  rw[hq]at k;have e1:ac (H++Z) .Is .none .none=some true:=rfl;simp only[nk,lc,e1];exact k Z
 |some r=>
  have hk:=tX hq hx;have hr:=vY hq;have hl:=fP r;have k:∀Z,K (ES (brk v r)) (H++Z):=by rw[hq]at k;exact k
  have hf:aj (bz r).length=true:=ai (m:=50) (by rw[aS];lia) (by lia);have hf2:aj (eK 0 (bz r)).length=true:=by rw[iU];exact hf
  have e1:ac (H++Z) .Is (.lst (bz r)) .none=some false:=rfl;simp only[nk,lc,e1,gv,AI,oz hf2];refine AH (by lia) hk ?_;have e2:∀H':Hp,ac H' .Eq (.str (if v then [35,40] else [40])) (.str [35,40])=some v:=λH'=>by injection v<;>rfl
  have e3:∀H':Hp,ac H' .Eq (.lst ((aQ 0 r).map λi=>V.int (i:Nat))) (.lst [])=some (decide (aQ 0 r=[])):=λH'=>by
   rw[rF rfl rfl ix rfl];exact zi some (gm (b:=[]))
  simp only[nk,lc,e2,nil_append];unfold brk at k
  cases v with
  |true=>
   rw[if_pos rfl]at k;simp only[nk,lc,e3]
   by_cases q:aQ 0 r=[]
   .rw[if_pos q]at k
    simp only[q,decide_true,nk,lc,gv,j5 hf];have:=k (Z++[O.gone]);rw[ES,D.v_4,<-(lu q hk).1,<-zj]at this;exact this
   .rw[if_neg q]at k
    simp only[q,decide_false,nk,lc];have:=k (Z++[O.gone]);rw[<-zj]at this;exact this
  |false=>
   rw[if_neg (by decide)]at k;simp only[nk,lc,e3]
   by_cases q:aQ 0 r=[]
   .rw[if_pos q]at k
    simp only[q,decide_true,nk,lc,gv,wfn];obtain⟨h1,h2⟩:=lu q hk;rw[h1];refine lq G (t:=.em) (ai (m:=50) (zT (jx _) (by lia)) (by lia)) (λ_ _ e=>by injection e) (tY (by lia)) ?_
    .simp only[nk]
     have:=k (Z++[O.gone]);rw[<-zj]at this;exact this
   .rw[if_neg q]at k
    have e4:∀H':Hp,aP H' .len [.lst (bz r)]=some (.int r.length):=λH'=>by rw[gI hf,aS]
    have e5:∀H':Hp,aT H' .Sub (.int (r.length:Nat)) (.int 2)=some (.int ((r.length:Int) - 2)):=λH'=>by
     have s1:aD ((r.length:Nat):Int)=true:=eV (by lia);exact if_pos (by rw[s1];rfl)
    have e6:∀H':Hp,ac H' .NotEq (.lst ((aQ 0 r).map λi=>V.int (i:Nat))) (.lst [.int ((r.length:Int) - 2)])=some (!V.eqbs ((aQ 0 r).map λi=>V.int (i:Nat)) [.int ((r.length:Int) - 2)]):=λH'=>EL rfl rfl ix rfl;simp only[q,decide_false,nk,lc,gv,e4,e5,e6]
    by_cases q2:aQ 0 r≠[r.length-2]\/r.length<3
    .rw[if_pos q2]at k
     have e7:(!V.eqbs ((aQ 0 r).map λi=>V.int (i:Nat)) [.int ((r.length:Int) - 2)])=true\/r.length<3:=by
      rcases q2 with q2 | q2
      .by_cases q3:r.length<3
       .exact .inr q3
       .refine .inl ?_
        have:=gm (a:=aQ 0 r) (b:=[r.length-2]);rw[show (([r.length-2]:List Nat).map λi=>V.int (i:Nat))=[V.int ((r.length:Int) - 2)] by simp only[map_cons,map_nil];congr 2;lia]at this;rw[this,za q2]
        rfl
      .exact .inr q2
     have fin:dT (Call W (d+2)) (.k (.ret (.lit .none)) .z) [some (.str [40]),some (.lst (bz r)),some (.lst ((aQ 0 r).map λi=>V.int (i:Nat)))] (H++Z++[O.gone]) (eM K) (br X):=by
      simp only[nk];have:=k (Z++[O.gone]);rw[<-zj]at this;exact this
     cases q4:(!V.eqbs ((aQ 0 r).map λi=>V.int (i:Nat)) [.int ((r.length:Int) - 2)])with
     |true=>
      simp only[nk,true_eq_false,reduceIte,Bool.not_false];simp only[nk]at fin ⊢;exact fin
     |false=>
      have q5:r.length<3:=e7.resolve_left (by rw[q4];decide);have e8:∀H':Hp,ac H' .Lt (.int (r.length:Nat)) (.int 3)=some true:=λH'=>by rw[oj];congr 1;exact zb (by omega)
      simp only[nk,lc,gv,reduceIte,e4,e8,true_eq_false,Bool.not_false];simp only[nk]at fin ⊢;exact fin
    .rw[if_neg q2]at k
     have q3:aQ 0 r=[r.length-2]:=Classical.byContradiction λh=>q2 (.inl h);have q4:3<=r.length:=Nat.not_lt.mp λh=>q2 (.inr h);have e7:(!V.eqbs ((aQ 0 r).map λi=>V.int (i:Nat)) [.int ((r.length:Int) - 2)])=false:=by
      have:=gm (a:=aQ 0 r) (b:=[r.length-2]);rw[show (([r.length-2]:List Nat).map λi=>V.int (i:Nat))=[V.int ((r.length:Int) - 2)] by simp only[map_cons,map_nil];congr 2;lia]at this;rw[this,zb q3]
      rfl
     have e8:∀H':Hp,ac H' .Lt (.int (r.length:Nat)) (.int 3)=some false:=λH'=>by rw[oj];congr 1;exact za (by lia)
     obtain⟨m,t,h1,h2⟩:=ER (n:=0) q4 hk (by rw[zero_add];exact q3);have hm:r.take (r.length-2)=m:=by rw[h1];simp
     have ht:pW r=t:=by rw[h1];simp[pW]
     have e9:∀H':Hp,eg H' (.lst (bz r)) .undef (.int (-2)) .undef=some (.lst (bz m)):=λH'=>by
      have:=Nq (H:=H') (vs:=bz r) (k:=2) (by lia) (by rw[aS];lia) (by lia) hf;rw[aS,bz,<-map_take,hm]at this;exact this
     have e10:∀H':Hp,bY H' (.lst (bz r)) (.int (-1))=some t.v:=λH'=>by
      rw[oA (by rw[aS];lia) (by rw[aS];lia),h1,yc];simp[bz,It.v]
     simp only[nk,lc,gv,e7,reduceIte,e4,e8,false_eq_true,wfn,e9,e10];have hkm:∀x∈m,kept x=true:=λx mx=>hk x (by rw[h1];exact zh _ mx);obtain⟨h3,h4⟩:=lu h2 hkm;have h5:iB r=iB m+(4+(t.B+0)):=by rw[h1,dX];rfl
     rw[h3];refine lq G (ai (m:=50) (zT (jx _) (by lia)) (by lia)) (λcs u e=>?_) (tY (by lia)) ?_
     .subst e
      dsimp only[D.B_0,D.B_1,D.B_2,D.B_3,D.B_4]at h5;exact ai (m:=50) (zT (jx _) (by lia)) (by lia)
     .simp only[nk]
      rw[hm,ht]at k;have:=k (Z++[O.gone]);rw[<-zj]at this;exact this
end
noncomputable def di(x:It):Bool:=match x with
 |.w t=>t.ctorIdx==2
 |.dat _=>false
theorem oB:di (.w .c)=true:=rfl
theorem oC:di (.dat d)=false:=rfl
theorem pX{k:Fin 4}:di (.w (.q k))=false:=rfl
noncomputable def gL(x:It):Option Bool:=match x with
 |.w t=>(match t with | .o=>some false | .v=>some true | .c=>none | .d=>none | .q _=>none | .a _=>none)
 |.dat _=>none
theorem RN:gL (.dat d)=none:=rfl
theorem RO{k:Fin 4}:gL (.w (.q k))=none:=rfl
def ca:List It->Option (List It×List It)
 |[]=>none
 |x::r=>if di x then some ([],r) else (ca r).map λp=>(x::p.1,p.2)
theorem RP:ca []=(none):=rfl
theorem gp:ca (x::r)=(if di x then some ([],r) else (ca r).map λp=>(x::p.1,p.2)):=rfl
def bF:List It->Option (List It×Bool×List It)
 |[]=>none
 |x::r=>match bF r with
  |some (p,v,s)=>some (x::p,v,s)
  |none=>(gL x).map λv=>([],v,r)
theorem Tu:bF []=(none):=rfl
def gM:bF (x::r)=(match bF r with
  |some (p,v,s)=>some (x::p,v,s)
  |none=>(gL x).map λv=>([],v,r)):=rfl
def cZ:Nat->List It->List Nat
 |_,[]=>[]
 |n,x::r=>if (gL x).isSome then n::cZ (n+1) r else cZ (n+1) r
theorem IN:cZ w1 []=([]):=rfl
theorem iY:cZ n (x::r)=(if (gL x).isSome then n::cZ (n+1) r else cZ (n+1) r):=rfl
def lp:Nat->List It->Option (List It)
 |0,items=>some items
 |n+1,items=>match ca items with
  |none=>some items
  |some (b,a)=>match bF b with
   |none=>none
   |some (p,v,s)=>(aw v s).bind λd=>lp n (p++.dat d::a)
theorem RQ:lp 0 items=(some items):=rfl
def IO:lp (n+1) items=(match ca items with
  |none=>some items
  |some (b,a)=>match bF b with
   |none=>none
   |some (p,v,s)=>(aw v s).bind λd=>lp n (p++.dat d::a)):=rfl
def fin(items:List It):Option (List It):=if (items.any λx=>(gL x).isSome)||items.any dM then none else quo items
def bH(words:List Tk):Option (List It):=(lp words.length (words.map db)).bind fin
def dY{items:List It}:∀{b a:List It},ca items=some (b,a)->items=b++.w .c::a/\∀x∈b,di x=false:=by
 induction items with
 |nil=>
  intro _ _ h;injection h
 |cons x r ih=>
  intro b a h;rw[gp]at h;split at h
  .rename_i q
   injection h
   cases x with
   |dat d=>injection q
   |w t=>injection t<;>first | exact⟨rfl,λ_ m=>by simp at m⟩ | injection q
  .rename_i q
   obtain⟨⟨b',a'⟩,h1,h2⟩:=z7.mp h;injection h2;obtain⟨e1,e2⟩:=ih h1;refine⟨by rw[e1];rfl,λy m=>?_⟩
   rcases zZ.mp m with rfl | m
   .simpa using q
   .exact e2 y m
def eA{items:List It}:ca items=none->∀x∈items,di x=false:=by
 induction items with
 |nil=>
  intro _ _ m;injection m
 |cons x r ih=>
  intro h y m;rw[gp]at h;split at h
  .injection h
  .rename_i q
   rcases zZ.mp m with rfl | m
   .simpa using q
   .exact ih (Option.map_eq_none_iff.mp h) y m
noncomputable def kD(v:Bool):Tk:=if v then .v else .o
def Nr{x:It}{v:Bool}(h:gL x=some v):x=.w (kD v):=by
 cases x with
 |dat d=>injection h
 |w t=>injection t<;>first | (injection h;rfl) | injection h
def jB{b:List It}:bF b=none->∀x∈b,gL x=none:=by
 induction b with
 |nil=>
  intro _ _ m;injection m
 |cons x r ih=>
  intro h y m;rw[gM]at h;split at h
  .injection h
  .rename_i q
   rcases zZ.mp m with rfl | m
   .exact Option.map_eq_none_iff.mp h
   .exact ih q y m
def dj:∀{p s:List It}  {v:Bool},bF b=some (p,v,s)->b=p++.w (kD v)::s/\∀x∈s,gL x=none:=by
 induction b with
 |nil=>
  intro _ _ _ h;injection h
 |cons x r ih=>
  intro p s v h;rw[gM]at h;split at h
  .rename_i p' v' s' q
   injection h;obtain⟨e1,e2⟩:=ih q;exact⟨by rw[e1];rfl,e2⟩
  .rename_i q
   obtain⟨v',h1,h2⟩:=z7.mp h;injection h2;exact⟨by rw[Nr h1];rfl,jB q⟩
def jC:∀{b:List It} {n:Nat},(∀x∈b,gL x=none)->cZ n b=[]
 |[],_,_=>rfl
 |x::r,n,h=>by
  rw[iY,h x zw];exact jC λy m=>h y (zx _ m)
def AK{b:List It}:∀{c:List It}  {n:Nat},cZ n (b++c)=cZ n b++cZ (n+b.length) c:=by
 induction b with
 |nil=>
  intro c n;exact rfl
 |cons x r ih=>
  intro c n;show cZ n (x::(r++c))=_;rw[iY,iY,ih,zd,show n+1+r.length=n+(r.length+1) by lia];split<;>rfl
def v3{p:List It}{v:Bool}{n:Nat}(h:bF b=some (p,v,s)):cZ n b=cZ n p++[n+p.length]:=by
 obtain⟨e1,e2⟩:=dj h;rw[e1,AK,iY];have:(gL (.w (kD v))).isSome=true:=by injection v<;>rfl
 rw[if_pos this,jC e2]
def pY{v:Bool}{s:List It}{d:D}(h:aw v s=some d)(hs:∀x∈s,x.flat=true):d.B<=iB s+8:=by
 unfold aw at h;obtain⟨r,hq,h⟩:=bind_eq_some_iff.mp h;have hr:=vY hq;have hk:=tX hq hs;unfold brk at h;split at h
 .split at h
  .rename_i q
   injection h;have:=(lu q hk).2;dsimp only[D.B_0,D.B_1,D.B_2,D.B_3,D.B_4];lia
  .injection h
 .split at h
  .rename_i q
   injection h;have:=(lu q hk).2;have:=xY (cars:=j9 r) (t:=.em);dsimp only[D.B_0,D.B_1,D.B_2,D.B_3,D.B_4]at this
   lia
  .split at h
   .injection h
   .rename_i q
    injection h;have q3:aQ 0 r=[r.length-2]:=Classical.byContradiction λh=>q (.inl h);have q4:3<=r.length:=Nat.not_lt.mp λh=>q (.inr h);obtain⟨m,t,h1,h2⟩:=ER (n:=0) q4 hk (by rw[zero_add];exact q3);have hm:r.take (r.length-2)=m:=by rw[h1];simp
    have ht:pW r=t:=by rw[h1];simp[pW]
    have hkm:∀x∈m,kept x=true:=λx mx=>hk x (by rw[h1];exact zh _ mx);have h4:=(lu h2 hkm).2;have h5:iB r=iB m+(4+(t.B+0)):=by
     have:=zi iB h1;rw[dX]at this;exact this
    rw[hm,ht];have:=xY (cars:=j9 m) (t:=t)
    lia
def rG{x:It}(h1:gL x=none)(h2:di x=false)(h3:∀k,x≠.w (.a k)):x.flat=true:=by
 cases x with
 |dat d=>rfl
 |w t=>injection t<;>first | rfl | (injection h1;done) | (injection h2;done) | exact absurd rfl (h3 _)
noncomputable def noA(x:It):Bool:=match x with
 |.w (.a _)=>false
 |_=>true
section
variable{C:ba}{l:Loc}
def rH{s:List Nat}{items:List It}(hs:xX s=true)(hB:iB items<=50):ac H .In (.str s) (.lst (bz items))=some ((bz items).any λy=>V.eqb y (.str s)):=by
 have e1:V.plains 60 (bz items)=true:=gj (by lia);have e2:Gc H (.str s) (.lst (bz items))=if (V.str s).plain 60&&V.plains 60 (bz items) then some ((bz items).any λy=>V.eqb y (.str s)) else none:=by
  match s with
  |[]=>rfl
  |[_]=>rfl
  |_::_::_=>rfl
 show Gc H (.str s) (.lst (bz items))=_;rw[e2,cX,hs,e1];rfl
def oD{s:List Nat}{f:It->Bool}(hf:∀x:It,V.eqb x.v (.str s)=f x):∀items:List It,((bz items).any λy=>V.eqb y (.str s))=items.any f
 |[]=>rfl
 |x::r=>by
  show (V.eqb x.v (.str s)||(bz r).any λy=>V.eqb y (.str s))=(f x||r.any f);rw[hf x,oD hf r]
def mF{d:D}{s:List Nat}:V.eqb d.v (.str s)=false:=by
 obtain⟨l,hl⟩:=gK d;rw[hl];rfl
def Kt(x:It):V.eqb x.v (.str [41])=di x:=by
 cases x with
 |dat d=>exact mF
 |w t=>cases t with
  |o | v | c | d=>rfl
  |q kk=>induction kk using gJ<;>rfl
  |a kk=>induction kk using fF<;>rfl
def RS(x:It):V.eqb x.v (.str [46])=dM x:=by
 cases x with
 |dat d=>exact mF
 |w t=>cases t with
  |o | v | c | d=>rfl
  |q kk=>induction kk using gJ<;>rfl
  |a kk=>induction kk using fF<;>rfl
def Ku(x:It):V.eqb x.v (.str [40])=(gL x==some false):=by
 cases x with
 |dat d=>exact mF
 |w t=>cases t with
  |o | v | c | d=>rfl
  |q kk=>induction kk using gJ<;>rfl
  |a kk=>induction kk using fF<;>rfl
def Kv(x:It):V.eqb x.v (.str [35,40])=(gL x==some true):=by
 cases x with
 |dat d=>exact mF
 |w t=>cases t with
  |o | v | c | d=>rfl
  |q kk=>induction kk using gJ<;>rfl
  |a kk=>induction kk using fF<;>rfl
def UX(items:List It):(items.any (λx=>gL x==some false)||items.any (λx=>gL x==some true))=items.any λx=>(gL x).isSome:=by
 induction items with
 |nil=>
  exact rfl
 |cons x r ih=>
  simp only[any_cons];rw[<-ih]
  cases gL x with
  |none=>rfl
  |some b=>injection b<;>cases r.any (λx=>gL x==some false)<;>cases r.any (λx=>gL x==some true)<;>rfl
def oE:∀{items:List It},items.any di=(ca items).isSome
 |[]=>rfl
 |x::r=>by
  rw[any_cons,gp]
  cases di x with
  |true=>rfl
  |false=>rw[if_neg (by decide),Option.isSome_map,Bool.false_or,oE]
def Nt{items:List It}:∀{b a:List It},ca items=some (b,a)->gu (.str [41]) (bz items)=some b.length:=by
 induction items with
 |nil=>
  intro _ _ h;injection h
 |cons x r ih=>
  intro b a h;show gu (.str [41]) (x.v::bz r)=_;rw[sf,Kt];rw[gp]at h;split at h
  .rename_i q
   injection h;rw[if_pos q];rfl
  .rename_i q
   obtain⟨⟨b',a'⟩,h1,h2⟩:=z7.mp h;injection h2;rw[if_neg q,ih h1]
   rfl
def ET{items b:List It}(h:ca items=some (b,a))(hB:iB items<=50):kA H 13 (.lst (bz items)) [.str [41]]=some (.int b.length,H):=by
 have hl:=fP items;have e1:V.plains 60 (bz items)=true:=gj (by lia);have hf:aj (bz items).length=true:=ai (m:=50) (by rw[aS];lia) (by lia);exact (if_pos (by rw[hf,e1];rfl)).trans (by rw[Nt h];rfl)
theorem IP{a:V}{vs:List V}:Gc H a (.tup vs)=if a.plain 60&&V.plains 60 vs then some (vs.any λy=>V.eqb y a) else none:=rfl
def yd{s:List Nat}(x:It):V.eqb (.str s) x.v=V.eqb x.v (.str s):=by
 cases x with
 |dat d=>obtain⟨l,hl⟩:=gK d;show V.eqb _ d.v=V.eqb d.v _;rw[hl];rfl
 |w t=>show decide (s=t.s)=decide (t.s=s);rw[Bool.eq_iff_iff,zN,zN];exact⟨Eq.symm,Eq.symm⟩
def Nu{x:It}(hB:x.B<=50):ac H .In x.v (.tup [.str [40],.str [35,40]])=some (gL x).isSome:=by
 have e1:x.v.plain 60=true:=oq x (by lia);have e3:V.plains 60 [V.str [40],.str [35,40]]=true:=ln λy m=>by
  simp only[mem_cons,not_mem_nil,or_false]at m
  rcases m with rfl | rfl<;>exact cX 60
 show Gc H x.v (.tup [.str [40],.str [35,40]])=some (gL x).isSome;rw[IP,e1,e3,Bool.and_self,if_pos rfl]
 congr 1
 rw[any_cons,any_cons,List.any_nil,yd,yd,Ku,Kv]
 cases gL x with
 |none=>rfl
 |some b=>injection b<;>rfl
def oG{n:Nat}(h:n<=1000):dJ (.rng 0 n 1)=some (rX 0 n):=by
 have s1:aD ((n:Nat):Int)=true:=eV (by lia);simp only[Gh,s1,show aD 0=true from rfl,Bool.and_self,if_true,Int.sub_zero,Int.toNat_natCast]
def EU{n:Nat}(h:n<=1000):fG 1 H (.rng 0 n 1)=some (rX 0 n,H):=by
 have e:fG 1 H (.rng 0 n 1)=(dJ (.rng 0 n 1)).map λvs=>(vs,H):=rfl;rw[e,oG h,map_some]
def iy{nt:Nat}{aF:de}{xs:List V}(h:fG nt H v=some (xs,H'))(hf:aj xs.length=true):hU C l nt elt aF K v H=cb (aX C l nt elt aF) xs [] H' K:=by
 simp only[hU,h,hf,if_true]
def v4:∀(k:Nat) (i:Int),(rX i k).length=k:=λk=>by
 induction k with
 |zero=>intro i;rfl
 |succ k ih=>intro i;rw[lL,zd,ih]
def pZ{aF:de}{n:Nat}(h:n<=1000):hU C l 1 elt aF K (.rng 0 n 1) H=cb (aX C l 1 elt aF) (rX 0 n) [] H K:=
 iy (EU h) (ai (m:=n) (by rw[v4];exact zv _) h)
def AM{l0:Option V}{lr:Loc}{items:List It}(hB:iB items<=50)(b:List It):∀(M rest:List It) (acc:List V) (i:Int),items=M++b++rest->i=(M.length:Nat)->K (.lst (acc++(cZ M.length b).map λi=>V.int (i:Nat))) H->cb (aX C (l0::some (.lst (bz items))::lr) 1 (.var 0) bo) (rX i b.length) acc H K:=by
 have hl:=fP items
 induction b with
 |nil=>
  intro M rest acc i e hi k;rw[IN,map_nil,zJ]at k;rw[length_nil,JR,pt];exact k
 |cons x b ih=>
  intro M rest acc i e hi k;have e0:items=(M++[x])++b++rest:=by rw[e];simp
  have hx:x.B<=50:=by
   rw[e,dX,dX,iu]at hB;lia
  have hlen:M.length<items.length:=by rw[e];simp only[length_append,length_cons];lia
  have e1:bY H (.lst (bz items)) (.int i)=some x.v:=by
   rw[hi,jy (l:=bz items) rfl (by rw[aS];exact hlen) (by rw[aS];lia)];rw[bz,getElem?_map,e,zj,zk (zv _),sub_self]
   rfl
  rw[zd,lL,bi,b9];have e2:=Nu (H:=H) hx;rw[iY]at k;have e3:i+1=((M++[x]).length:Nat):=by rw[hi];simp
  have e4:M.length+1=(M++[x]).length:=by simp
  rw[show (bo:de)=.k (.cmp (.idx (.fre 1) (.var 0)) .In (.tup (.k (.lit (.str [40])) (.k (.lit (.str [35,40])) .z)))) .z from rfl]at ih ⊢;generalize hF:aX C (l0::some (.lst (bz items))::lr) 1 (.var 0) _=F at ih ⊢;simp only[nk,lc,e1,e2]
  cases q:(gL x).isSome with
  |true=>
   rw[q,if_pos rfl,e4]at k;simp only[nk,lc];refine ih (M++[x]) rest _ (i+1) e0 e3 ?_;rw[zj,hi];exact k
  |false=>
   rw[q,if_neg (by decide),e4]at k;simp only[nk];exact ih (M++[x]) rest _ (i+1) e0 e3 k
end
def iz{n i:Nat}(h:i<=n):clipAt n (i:Int)=i:=by
 unfold clipAt;rw[if_neg (Int.not_lt.mpr (natCast_nonneg _))];exact ww h
def p4{i:Int}(h:aD i=true):dB (.int i)=some (some i):=if_pos h
section
variable{vs:List V}{i j:Nat}
def kg{v lo:V}{l u:Option Int}(h1:v.res H=.lst vs)(h2:dB lo=some l)(h3:dB hi=some u)(hf:aj vs.length=true):eg H v lo hi .undef=some (.lst (cut vs l u)):=by
 exact BX h1 h2 h3 hf
def IQ{α:Type}{l:List α}(h:i<=j)(hj:j<=l.length):cut l (some (i:Int)) (some (j:Int))=(l.drop i).take (j-i):=by
 simp only[cut,elim_some,iz (le_trans h hj),iz hj]
def EV{α:Type}{l:List α}(hj:i<=l.length):cut l (some (i:Int)) none=l.drop i:=by
 simp only[cut,elim_some,elim_none,iz hj];rw[take_of_length_le (by rw[length_drop];exact zv _)]
def EW{α:Type}{l:List α}(hj:i<=l.length):cut l none (some (i:Int))=l.take i:=by
 simp only[cut,elim_some,elim_none,iz hj,drop_zero,Nat.sub_zero]
def eW(h:i<=1000):dB (.int (i:Nat))=some (some ((i:Nat):Int)):=p4 (eV (by lia))
def IR(h:i<=j)(hj:j<=vs.length)(hl:vs.length<=1000):eg H (.lst vs) (.int i) (.int j) .undef=some (.lst ((vs.drop i).take (j-i))):=
 (kg rfl (eW (by lia)) (eW (by lia)) (ai (zv _) hl)).trans (by rw[IQ h hj])
def EX(hj:i<=vs.length)(hl:vs.length<=1000):eg H (.lst vs) (.int i) .undef .undef=some (.lst (vs.drop i)):=
 (kg rfl (eW (by lia)) rfl (ai (zv _) hl)).trans (by rw[EV hj])
def EY(hj:i<=vs.length)(hl:vs.length<=1000):eg H (.lst vs) .undef (.int i) .undef=some (.lst (vs.take i)):=
 (kg rfl rfl (eW (by lia)) (ai (zv _) hl)).trans (by rw[EW hj])
def UY{x y:Int}(h:(aD x&&aD y)=true):aT H .Add (.int x) (.int y)=some (.int (x+y)):=if_pos h
def RT{x y:Int}(h:(aD x&&aD y)=true):aT H .Sub (.int x) (.int y)=some (.int (x-y)):=if_pos h
def kh(h:i<=1000):aT H .Add (.int i) (.int 1)=some (.int ((i+1:Nat):Int)):=by
 rw[UY (by rw[eV (n:=i) (by lia)];rfl),Int.natCast_add]
 rfl
def AN{n:Int}(h:aD n=true):Bq H .range [.int n]=some (.rng 0 n 1):=if_pos h
def gN{K:KP}(h:i<=1000):ag C X (.ty .range) [.int i] H K=K (.rng 0 i 1) H:=by
 rw[hV C X H K trivial,AN (eV (by lia)),Cr]
end
def bl:bh:=(.k (.ite (.cmp (.lit (.str [41])) .NotIn (.var 1)) (.k .brk .z) .z) (.k (.asg 3 (.meth 13 (.var 1) (.k (.lit (.str [41])) .z))) (.k (.asg 4 (.comp 1 (.var 0) (.call (.glb 4) (.k (.var 3) .z)) bo)) (.k (.ite (.cmp (.var 4) .Eq (.list .z)) (.k (.ret (.lit .none)) .z) .z) (.k (.asg 5 (.idx (.var 4) (.lit (.int (-1))))) (.k (.asg 6 (.call (.glb 66) (.k (.idx (.var 1) (.var 5)) (.k (.slc (.var 1) (.bin (.var 5) .Add (.lit (.int 1))) (.var 3) (.lit .undef)) .z)))) (.k (.ite (.cmp (.var 6) .Is (.lit .none)) (.k (.ret (.lit .none)) .z) .z) (.k (.asg 1 (.bin (.bin (.slc (.var 1) (.lit .undef) (.var 5) (.lit .undef)) .Add (.list (.k (.var 6) .z))) .Add (.slc (.var 1) (.bin (.var 3) .Add (.lit (.int 1))) (.lit .undef) (.lit .undef)))) .z))))))))
set_option genCtorIdx false in
inductive RU where
 |stop
 |fail
 |go (items:List It)
gen_injective_theorems% RU
def turn(items:List It):RU:=match ca items with
 |none=>.stop
 |some (b,a)=>match bF b with
  |none=>.fail
  |some (p,v,s)=>match aw v s with
   |none=>.fail
   |some d=>.go (p++.dat d::a)
def ki{n:Nat}{items:List It}:lp (n+1) items=match turn items with
  |.stop=>some items
  |.fail=>none
  |.go r=>lp n r:=by
 rw[IO,turn]
 cases ca items with
 |none=>rfl
 |some q=>
  obtain⟨b,a⟩:=q;dsimp only
  cases bF b with
  |none=>rfl
  |some q=>
   obtain⟨p,v,s⟩:=q;dsimp only
   cases aw v s<;>rfl
section
variable{d:Nat}{w0:V}{t a3 a4 a5 a6:Option V}{KF:KS}{items:List It}
def EZ{d:D}:ac H .Is d.v .none=some false:=by
 obtain⟨l,hl⟩:=gK d;rw[hl];rfl
def RV(v:Bool):(It.w (kD v)).v=.str (if v then [35,40] else [40]):=by injection v<;>rfl
def AP(G:Gd W)(hB:iB items<=50)(hA:∀x∈items,noA x=true)(kb:turn items=.stop->∀l2,KF .brk (some w0::some (.lst (bz items))::l2) H)(kn:turn items=.fail->∀l Z,KF (.ret .none) l (H++Z))(ks:∀r,turn items=.go r->iB r<=iB items->(∀x∈r,noA x=true)->∀t' b3 b4 b5 b6 Z,KF .next [some w0,some (.lst (bz r)),t',b3,b4,b5,b6] (H++Z)):dT (Call W (d+3)) bl [some w0,some (.lst (bz items)),t,a3,a4,a5,a6] H KF kJ:=by
 have hl:=fP items;have e1:ac H .NotIn (.str [41]) (.lst (bz items))=some (!(ca items).isSome):=by
  rw[show ac H .NotIn (.str [41]) (.lst (bz items))=o5 (ac H .In (.str [41]) (.lst (bz items)))from rfl,rH rfl hB,oD Kt,oE]
  rfl
 unfold turn at kb kn ks
 cases hs:ca items with
 |none=>
  rw[hs]at kb e1;simp only[bl,nk,lc,e1,isSome_none,Bool.not_false];exact kb rfl _
 |some q=>
  obtain⟨b,a⟩:=q;rw[hs]at kn ks e1;dsimp only at kn ks;obtain⟨hi,VH⟩:=dY hs;have hbl:b.length<items.length:=by rw[hi];simp only[length_append,length_cons];lia
  have e2:=ET (H:=H) hs hB;have hbB:iB items=iB b+(4+iB a):=by rw[hi,dX];rfl
  simp only[bl,nk,lc,e1,Option.isSome_some,Bool.not_true,AE,AG,e2,gv,gN (show b.length<=1000 by lia),pZ (show b.length<=1000 by lia)];have q1:items=[]++b++It.w .c::a:=by rw[nil_append];exact hi
  have q2:(0:Int)=(([]:List It).length:Nat):=by simp
  have q:=λ(KK:KP)=>AM (C:=Call W (d+3)) (H:=H) (K:=KK) (l0:=some w0) (lr:=[t,some (V.int (b.length:Nat)),a4,a5,a6]) hB b [] (.w .c::a) [] 0 q1 q2;refine q _ ?_;have e3:ac H .Eq (.lst ((cZ 0 b).map λi=>V.int (i:Nat))) (.lst [])=some (decide (cZ 0 b=[])):=by
   rw[rF rfl rfl ix rfl];exact zi some (gm (b:=[]))
  simp only[nk,lc,length_nil,nil_append,e3]
  cases ho:bF b with
  |none=>
   rw[ho]at kn;simp only[jC (jB ho),decide_true,nk];have:=kn rfl;exact (zJ H)▸this _ []
  |some q=>
   obtain⟨p,v,s⟩:=q;rw[ho]at kn ks;dsimp only at kn ks;obtain⟨hb,VI⟩:=dj ho;have hol:cZ 0 b=cZ 0 p++[p.length]:=by rw[v3 ho,zero_add]
   have hlo:(cZ 0 b).length<=b.length:=by
    clear e3 hol kn ks;have:∀(l:List It) (n:Nat),(cZ n l).length<=l.length:=λl=>by
     induction l with
     |nil=>intro n;exact zv _
     |cons y l ih=>
      intro n;rw[iY];split
      .simp only[length_cons];have:=ih (n+1);lia
      .simp only[length_cons];have:=ih (n+1);lia
    exact this b 0
   have hpb:b.length=p.length+1+s.length:=by rw[hb];simp only[length_append,length_cons];lia
   have e4:bY H (.lst ((cZ 0 b).map λi=>V.int (i:Nat))) (.int (-1))=some (.int p.length):=by
    rw[oA (by rw[zM,hol];simp) (by rw[zM];lia),hol,map_append];simp
   have e5:bY H (.lst (bz items)) (.int p.length)=some (.str (if v then [35,40] else [40])):=by
    rw[jy (l:=bz items) rfl (by rw[aS];lia) (by rw[aS];lia),bz,getElem?_map,hi,hb,zj,zk (zv _),sub_self,<-RV]
    rfl
   have hsl:(items.drop (p.length+1)).take (b.length-(p.length+1))=s:=by
    rw[hi,hb,zj,drop_append,z8 (by lia),show p.length+1-p.length=1 by lia,<-hb,hpb,show p.length+1+s.length-(p.length+1)=s.length by lia];simp
   have e6:eg H (.lst (bz items)) (.int ((p.length+1:Nat):Int)) (.int b.length) .undef=some (.lst (bz s)):=by
    rw[IR (by lia) (by rw[aS];lia) (by rw[aS];lia),bz,<-List.map_drop,<-map_take,hsl,bz]
   have hne:cZ 0 b≠[]:=by rw[hol];simp
   simp only[decide_eq_false hne,nk,lc,e4,gv,wfn,e5,kh (show p.length<=1000 by lia),e6];have hsf:∀x∈s,x.flat=true:=λx m=>rG (VI x m) (VH x (by rw[hb];exact zU _ (zx _ m))) λk q=>by
    have:=hA x (by rw[hi,hb];exact zh _ (zU _ (zx _ m)));rw[q]at this;injection this
   have hsB:iB b=iB p+(4+iB s):=by rw[hb,dX];rfl
   refine tZ G hsf (by lia) λZ=>?_
   cases hd:aw v s with
   |none=>
    rw[hd]at kn;have e7:ac (H++Z) .Is .none .none=some true:=rfl;simp only[ES,nk,lc,e7];exact kn rfl _ Z
   |some d0=>
    rw[hd]at ks;have hdB:=pY hd hsf;have e8:eg (H++Z) (.lst (bz items)) .undef (.int p.length) .undef=some (.lst (bz p)):=by
     rw[EY (by rw[aS];lia) (by rw[aS];lia),bz,<-map_take,hi,hb];simp[bz]
    have e9:eg (H++Z) (.lst (bz items)) (.int ((b.length+1:Nat):Int)) .undef .undef=some (.lst (bz a)):=by
     rw[EX (by rw[aS];lia) (by rw[aS];lia),bz,<-List.map_drop,hi,drop_append,z8 (by lia),show b.length+1-b.length=1 by lia]
     rfl
    have e10:aT (H++Z) .Add (.lst (bz p)) (.lst [d0.v])=some (.lst (bz p++[d0.v])):=j6 rfl rfl (ai (m:=50) (by rw[aS];lia) (by lia)) rfl;have hla:=fP a;have e11:aT (H++Z) .Add (.lst (bz p++[d0.v])) (.lst (bz a))=some (.lst (bz (p++.dat d0::a))):=by
     rw[j6 rfl rfl (ai (m:=51) (by rw[zV,aS,List.length_singleton];lia) (by lia)) (ai (m:=50) (by rw[aS];lia) (by lia)),yc,zj]
     rfl
    simp only[ES,nk,lc,EZ,e8,e10,kh (show b.length<=1000 by lia),e9,e11];refine ks _ rfl ?_ (λx m=>?_) _ _ _ _ _ Z
    .rw[dX]
     show iB p+(d0.B+iB a)<=_
     lia
    .rcases zH.mp m with m | m
     .exact hA x (by rw[hi,hb];exact zh _ (zh _ m))
     .rcases zZ.mp m with rfl | m
      .rfl
      .exact hA x (by rw[hi];exact zU _ (zx _ m))
end
def ye{items r:List It}(h:turn items=.go r):r.countP di<items.countP di:=by
 unfold turn at h;split at h
 .injection h
 .rename_i b a hs
  split at h
  .injection h
  .rename_i p v s ho
   split at h
   .injection h
   .injection h
    obtain⟨hi,-⟩:=dY hs;obtain⟨hb,-⟩:=dj ho;rw[hi,hb];simp only[countP_append,countP_cons,oB,oC];simp
    lia
def AQ{items:List It}(h:turn items=.stop):∀x∈items,di x=false:=by
 unfold turn at h;split at h
 .rename_i hs;exact eA hs
 .split at h
  .injection h
  .split at h<;>injection h
def Nv{n:Nat}:∀{items r:List It},items.countP di<=n->lp n items=some r->∀x∈r,di x=false:=by
 induction n with
 |zero=>
  intro items r hc h;injection h;have:items.countP di=0:=le_zero.mp hc;rw[List.countP_eq_zero]at this;exact λx m=>by simpa using this x m
 |succ n ih=>
  intro items r hc h;rw[ki]at h;split at h
  .rename_i q;injection h;exact AQ q
  .injection h
  .rename_i r' q
   exact ih (by have:=ye q;lia) h
section
variable{d:Nat}{w0:V}
def AR(G:Gd W)(n:Nat):∀(i:Int) (items:List It) (t a3 a4 a5 a6:Option V) (Z:Hp) (KS:KS),iB items<=50->(∀x∈items,noA x=true)->(lp n items=none->∀l Z,KS (.ret .none) l (H++Z))->(∀r,lp n items=some r->iB r<=50->(∀x∈r,noA x=true)->∀l2 Z,KS .next (some w0::some (.lst (bz r))::l2) (H++Z))->fN (cr (Call W (d+3)) [2] bl) (rX i n) [some w0,some (.lst (bz items)),t,a3,a4,a5,a6] (H++Z) KS:=by
 induction n with
 |zero=>
  intro i items t a3 a4 a5 a6 Z KS hB hA kn ks;exact ks items rfl hB hA _ Z
 |succ n ih=>
  intro i items t a3 a4 a5 a6 Z KS hB hA kn ks;rw[lL,aY,dG];rw[ki]at kn ks;refine AP G hB hA (λq l2=>?_) (λq l Z'=>?_) (λr q hr XN t' b3 b4 b5 b6 Z'=>?_)
  .rw[q]at ks
   exact ks items rfl hB hA l2 Z
  .rw[q]at kn
   rw[zj];exact kn rfl l _
  .rw[q]at kn ks
   rw[zj];exact ih (i+1) r t' b3 b4 b5 b6 (Z++Z') KS (by lia) XN kn ks
def AS(G:Gd W){words:List Tk}:∀{acc:List V},K (.lst (acc++bz (words.map db))) H->cb (aX (Call W (d+2)) l 1 (.call (.glb 67) (.k (.var 0) .z)) .z) (words.map λt=>.str t.s) acc H K:=by
 induction words with
 |nil=>
  intro acc k;rw[map_nil,bz,map_nil,zJ]at k;exact k
 |cons t r ih=>
  intro acc k;rw[z0,bi,b9];simp only[nk,lc,gv,wfn];refine EP G ?_;simp only[nk];refine ih ?_;rw[zj];exact k
def rI:∀{words:List Tk},iB (words.map db)<=4*words.length
 |[]=>zv _
 |t::r=>by
  have:=rI (words:=r);have h:(db t).B<=4:=by
   injection t<;>first | exact zv _ | (show 1<=4;lia)
  rw[z0,iu,zd]
  lia
def ua:∀{words:List Tk},∀x∈words.map db,noA x=true:=λx m=>by
 obtain⟨t,-,rfl⟩:=mem_map.mp m;injection t<;>rfl
def i9:Option (List It)->V
 |some r=>.lst (bz r)
 |none=>.none
def E0(G:Gd W){words:List Tk}(hw:words.length<=12)(k:∀Z,K (i9 (bH words)) (H++Z)):Call W (d+4) 898 [.lst (words.map λt=>.str t.s)] H K X:=by
 refine cf (l:=[some (.lst (words.map λt=>.str t.s)),none,none,none,none,none,none]) G (by decide) rfl rfl ?_;have hlen:(words.map λt=>V.str t.s).length=words.length:=zM _;have hf:aj (words.map λt=>V.str t.s).length=true:=ai (m:=12) (by rw[hlen];exact hw) (by lia);have e1:aP H .len [.lst (words.map λt=>.str t.s)]=some (.int words.length):=by rw[gI hf,hlen]
 have hB:iB (words.map db)<=50:=zT rI (by lia);simp only[P2,P1,nk,lc,gn hf];refine AS G ?_;simp only[nk,lc,gv,e1,gN (show words.length<=1000 by lia),nil_append];rw[hY _ _ _ _ (oG (show words.length<=1000 by lia))];unfold bH at k;have h0:=AR (d:=d) (H:=H) (w0:=.lst (words.map λt=>.str t.s)) G words.length 0 (words.map db) none none none none none [] (jM (Call W (d+3)) (.k (.ite (.bool false (.k (.cmp (.lit (.str [40])) .In (.var 1)) (.k (.cmp (.lit (.str [35,40])) .In (.var 1)) (.k (.cmp (.lit (.str [46])) .In (.var 1)) .z)))) (.k (.ret (.lit .none))
 .z) .z)
 (.k (.ret (.call (.glb 65) (.k (.var 1) .z)))
 .z)) (eM K) (br X)) hB ua (λq l Z=>?_) (λr q hr hA l2 Z=>?_)
 .rw[zJ]at h0
  exact h0
 .rw[q]at k
  exact k Z
 .have hc:∀x∈r,di x=false:=Nv (by have:=List.countP_le_length (p:=di) (l:=words.map db);rw[zM]at this;exact this) q
  rw[q]at k;have k:∀Z,K (i9 (fin r)) (H++Z):=k;have i1:=rH (H:=H++Z) (s:=[40]) rfl hr;have i2:=rH (H:=H++Z) (s:=[35,40]) rfl hr;have i3:=rH (H:=H++Z) (s:=[46]) rfl hr;rw[oD Ku]at i1;rw[oD Kv]at i2;rw[oD RS]at i3;have ho:=UX r;unfold fin at k;simp only[nk,lc,i1,i2,i3];have stop:((r.any λx=>(gL x).isSome)||r.any dM)=true->dT (Call W (d+3)) (.k (.ret (.lit .none)) .z) (some (.lst (words.map λt=>.str t.s))::some (.lst (bz r))::l2) (H++Z) (jM (Call W (d+3)) (.k (.ret (.call (.glb 65) (.k (.var 1) .z))) .z) (eM K) (br X)) (br X):=λq=>by
   rw[if_pos q]at k;simp only[nk];exact k Z
  cases c1:r.any λx=>gL x==some false with
  |true=>
   rw[c1,Bool.true_or]at ho;have:=stop (by rw[<-ho];rfl);simp only[true_eq_false,reduceIte,Bool.not_false,nk]at this ⊢;exact this
  |false=>
   rw[c1,Bool.false_or]at ho
   cases c2:r.any λx=>gL x==some true with
   |true=>
    rw[c2]at ho;have:=stop (by rw[<-ho];rfl);simp only[true_eq_false,reduceIte,Bool.not_false,nk,i2,c2,lc]at this ⊢;exact this
   |false=>
    rw[c2]at ho
    cases c3:r.any dM with
    |true=>
     have:=stop (by rw[c3,Bool.or_true]);simp only[true_eq_false,reduceIte,Bool.not_false,nk,i2,c2,lc,i3,c3]at this ⊢;exact this
    |false=>
     rw[if_neg (by rw[<-ho,c3];decide)]at k;simp only[reduceIte,nk,i2,c2,lc,i3,c3,Bool.not_false,Bool.not_true,gv,wfn];refine ou G (λx m=>rG ?_ (hc x m) (λkk q=>?_)) hr λZ'=>?_
     .have:=List.any_eq_false.mp ho.symm x m
      simpa using this
     .have:=hA x m
      rw[q]at this;injection this
     .simp only[nk]
      have:=k (Z++Z');rw[<-zj]at this;unfold i9 at this;exact this
end
def sm{x:Int}(h1 : -(2 ^ 62)<x)(h2:x<2 ^ 62):aD x=true:=by
 rw[dE];exact⟨h1,h2⟩
section
variable{x y:Int}
def fz(h1:aD x=true)(h2:aD y=true):(aD x&&aD y)=true:=by rw[h1,h2];rfl
def RW(h1:aD x=true)(h2:aD y=true):aT H .Mult (.int x) (.int y)=some (.int (x*y)):=if_pos (fz h1 h2)
def RX(h1:aD x=true)(h2:0<y)(h3:y<1073741824):aT H .FloorDiv (.int x) (.int y)=some (.int (x/y)):=if_pos (by rw[h1,zb h2,zb h3];rfl)
def Nw(h1:aD y=true)(h2:0<y):aT H .Mod (.int x) (.int y)=some (.int (x%y)):=if_pos (by rw[h1,zb h2];rfl)
def l4(h1:aD x=true)(h2:aD y=true):aT H .Add (.int x) (.int y)=some (.int (x+y)):=if_pos (fz h1 h2)
end
section
variable{n:Nat}{a b c x:V}
def Nx(h:H[n]?=some (.list [a,b,c])):ek H (.ref n) (.int 1) x=some (H.set n (.list [a,x,c])):=qr h
def Ny(h:H[n]?=some (.list [a,b,c])):ek H (.ref n) (.int 2) x=some (H.set n (.list [a,b,x])):=qr h
def d6(h:H[n]?=some (.list vs)):V.res H (.ref n)=.lst vs:=hM h
def Nz(h:H[n]?=some (.list [a,b,c])):bY H (.ref n) (.int 0)=some a:=by rw[kM (hM h)];rfl
def NA(h:H[n]?=some (.list [a,b,c])):bY H (.ref n) (.int 1)=some b:=by rw[kM (hM h)];rfl
def NB(h:H[n]?=some (.list [a,b,c])):bY H (.ref n) (.int 2)=some c:=by rw[kM (hM h)];rfl
def bp(h:H[n]?=some o):(H.set n o')[n]?=some o':=z5 (zu.mp h).1
end
section
variable{d:Nat}{n t many:Nat}{sd:Int}{cells:List Int}
def ub(G:Gd W)(h:H[n]?=some (.list [.lst (cells.map .int),.int (t:Nat),.int sd]))(ht:t<=900)(h0:0<=sd)(h1:sd<2 ^ 32)(hc:cells.length<=1000)(hm:0<many)(Sz:many<=1000)(k:∀(r:Nat) (yw:Int),r<many->0<=yw->yw<2 ^ 32->K (.int (r:Nat)) (H.set n (.list [.lst (cells.map .int),.int ((t+1:Nat):Int),.int yw]))):Call W (d+1) 850 [.ref n,.int (many:Nat)] H K X:=by
 refine cf (l:=[some (.ref n),some (.int (many:Nat)),none,none]) G (by decide) rfl rfl ?_;have e1:=NA h;have e2:=Nx (x:=.int ((t+1:Nat):Int)) h;have h2:=bp (o':=.list [.lst (cells.map .int),.int ((t+1:Nat):Int),.int sd]) h;generalize hH2:H.set n (.list [.lst (cells.map .int),.int ((t+1:Nat):Int),.int sd])=H2 at e2 h2;have e3:=Nz h2;have e4:=NB h2;have hlen:(cells.map V.int).length=cells.length:=zM _;have e5:aP H2 .len [.lst (cells.map .int)]=some (.int (cells.length:Nat)):=by rw[gI (ai (m:=cells.length) (by rw[hlen];exact zv _) hc),hlen]
 have e6:ac H2 .Lt (.int (t:Nat)) (.int (cells.length:Nat))=some (decide (t<cells.length)):=by rw[oj];congr 1;rw[decide_eq_decide];lia
 have e7:aT H2 .FloorDiv (.int sd) (.int 512)=some (.int (sd/512)):=RX (sm (by lia) (by lia)) (by lia) (by lia);have rest:∀c:Int,dT (Call W d) (.k (.seti (.var 0) (.lit (.int 2)) (.bin (.bin (.bin (.bin (.bin (.idx (.var 0) (.lit (.int 2))) .Mult (.lit (.int 69069))) .Add (.bin (.var 3) .Mod (.lit (.int 1000003)))) .Add (.bin (.lit (.int 11)) .Mult (.var 2))) .Add (.lit (.int 1))) .Mod (.lit (.int 4294967296))))
 (.k (.ret (.bin (.var 3) .Mod (.var 1)))
 .z)) [some (.ref n),some (.int (many:Nat)),some (.int (t:Nat)),some (.int c)] H2 (eM K) (br X):=λc=>by
  have m1:=Int.emod_nonneg c (b:=1000003) (by lia);have m2:=Int.emod_lt_of_pos c (b:=1000003) (by lia);have f1:aT H2 .Mult (.int sd) (.int 69069)=some (.int (sd*69069)):=RW (sm (by lia) (by lia)) (by decide);have f2:aT H2 .Mod (.int c) (.int 1000003)=some (.int (c%1000003)):=Nw (by decide) (by decide);have f3:aT H2 .Add (.int (sd*69069)) (.int (c%1000003))=some (.int (sd*69069+c%1000003)):=l4 (sm (by lia) (by lia)) (sm (by lia) (by lia));have f4:aT H2 .Mult (.int 11) (.int (t:Nat))=some (.int (11*(t:Nat))):=RW (by decide) (sm (by lia) (by lia));have f5:aT H2 .Add (.int (sd*69069+c%1000003)) (.int (11*(t:Nat)))=some (.int (sd*69069+c%1000003+11*(t:Nat))):=l4 (sm (by lia) (by lia)) (sm (by lia) (by lia));have f6:aT H2 .Add (.int (sd*69069+c%1000003+11*(t:Nat))) (.int 1)=some (.int (sd*69069+c%1000003+11*(t:Nat)+1)):=l4 (sm (by lia) (by lia)) (by decide);generalize sd*69069+c%1000003+11*(t:Nat)+1=y at f6;have f7:aT H2 .Mod (.int y) (.int 4294967296)=some (.int (y%4294967296)):=Nw (by decide) (by decide);have m3:=Int.emod_nonneg y (b:=4294967296) (by lia);have m4:=Int.emod_lt_of_pos y (b:=4294967296) (by lia);have f8:=Ny (x:=.int (y%4294967296)) h2;have f9:∀H',aT H' .Mod (.int c) (.int (many:Nat))=some (.int (c%(many:Nat))):=λH'=>Nw (sm (by lia) (by lia)) (by lia);have m5:=Int.emod_nonneg c (b:=(many:Nat)) (by lia);have m6:=Int.emod_lt_of_pos c (b:=(many:Nat)) (by lia);simp only[nk,lc,e4,f1,f2,f3,f4,f5,f6,f7,jk,f8,f9];have:=k (c%(many:Nat)).toNat (y%4294967296) (by lia) m3 m4;rw[Int.toNat_of_nonneg m5]at this;rw[<-hH2,List.set_set];exact this
 simp only[PP,PO,nk,lc,e1,kh (show t<=1000 by lia),jk,e2,gv,e3,e5,e6]
 by_cases q:t<cells.length
 .have e8:bY H2 (.lst (cells.map .int)) (.int (t:Nat))=some (.int cells[t]):=by
   rw[jy (l:=cells.map .int) rfl (by rw[hlen];exact q) (by rw[hlen];exact hc),getElem?_map,zo q]
   rfl
  have:=rest cells[t];simp only[nk,lc]at this;simp only[decide_eq_true q,nk,lc,e3,e8];exact this
 .have:=rest (sd/512)
  simp only[nk,lc,e4]at this;simp only[decide_eq_false q,nk,lc,e4,e7];exact this
noncomputable def p5:List Tk:=[.o,.c,.d,.q 0,.a 0,.a 1,.o,.c,.c,.v,.q 1,.q 2,.q 3,.a 2,.a 3,.a 4,.a 5]
theorem AT:ip=.lst (p5.map λt=>V.str t.s):=rfl
def E1(G:Gd W)(h:H[n]?=some (.list [.lst (cells.map .int),.int (t:Nat),.int sd]))(ht:t<=900)(h0:0<=sd)(h1:sd<2 ^ 32)(hc:cells.length<=1000)(k:∀(w:Tk) (yw:Int),0<=yw->yw<2 ^ 32->K (.str w.s) (H.set n (.list [.lst (cells.map .int),.int ((t+1:Nat):Int),.int yw]))):Call W (d+2) 857 [.ref n,ip] H K X:=by
 refine cf (l:=[some (.ref n),some ip]) G (by decide) rfl rfl ?_;have e1:aP H .len [.lst (p5.map λt=>V.str t.s)]=some (.int ((17:Nat):Int)):=rfl;simp only[PR,PQ,nk,lc,AT,gv,wfn,e1];refine ub G h ht h0 h1 hc (by lia) (by lia) λr yw hr a b=>?_;have hl:(p5.map λt=>V.str t.s).length=17:=rfl;have e2:bY (H.set n (.list [.lst (cells.map .int),.int ((t+1:Nat):Int),.int yw])) (.lst (p5.map λt=>V.str t.s)) (.int (r:Nat))=some (.str (p5[r]'hr).s):=by
  rw[jy (l:=p5.map λt=>V.str t.s) rfl (by rw[hl];exact hr) (by rw[hl];lia),getElem?_map,zo hr]
  rfl
 simp only[nk,e2];exact k _ yw a b
def AU{cs:List Int}:∀{acc:List V},K (.lst (acc++(cs.map λi=>((i.natAbs:Nat):Int)).map .int)) H->cb (aX C l 1 (.call (.glb 6) (.k (.var 0) .z)) .z) (cs.map .int) acc H K:=by
 induction cs with
 |nil=>
  intro acc k;rw[map_nil,map_nil,zJ]at k;exact k
 |cons c r ih=>
  intro acc k;rw[z0,bi,b9];have e:aP H .abs [.int c]=some (.int (c.natAbs:Nat)):=rfl;simp only[nk,lc,gv,e];refine ih ?_;rw[zj];exact k
def AV{cs:List Int}:∀{acc:List V},(∀r:List V,r.length<=cs.length->K (.lst (acc++r)) H)->cb (aX C l 1 (.var 0) (.k (.cmp (.var 0) .Lt (.lit (.int 0))) .z)) (cs.map .int) acc H K:=by
 induction cs with
 |nil=>
  intro acc k;have:=k [] (zv _);rw[zJ]at this;exact this
 |cons c r ih=>
  intro acc k;rw[z0,bi,b9];simp only[nk,lc,oj]
  by_cases q:c<0
  .simp only[decide_eq_true q,nk,lc]
   refine ih λr' h=>?_;rw[zj];exact k (.int c::r') (by simp only[length_cons];lia)
  .simp only[decide_eq_false q,nk]
   exact ih λr' h=>k r' (by simp only[length_cons];lia)
def E2(G:Gd W){script:List Int}(hs:script.length<=1000)(k:∀(cells:List Int) (sd:Int),cells.length<=1000->0<=sd->sd<2 ^ 32->K (.ref H.length) (H++[.list [.lst (cells.map .int),.int ((0:Nat):Int),.int sd]])):Call W (d+1) 862 [.lst (script.map .int),.int 40] H K X:=by
 refine cf (l:=[some (.lst (script.map .int)),some (.int 40)]) G (by decide) rfl rfl ?_;have hlen:(script.map V.int).length=script.length:=zM _;have e1:eg H (.lst (script.map .int)) .undef (.int 40) .undef=some (.lst ((script.take 40).map .int)):=by
  have:=kg (H:=H) (v:=.lst (script.map .int)) (lo:=.undef) (hi:=.int 40) rfl rfl (p4 (by decide)) (ai (m:=script.length) (by rw[hlen];exact zv _) hs);rw[this,cut];simp only[elim_none,elim_some,drop_zero,Nat.sub_zero,map_take]
  congr 2
  by_cases q:40<=script.length
  .rw[hlen]
   have:=iz (n:=script.length) (i:=40) q;rw[show ((40:Nat):Int)=40 from rfl]at this;rw[this]
  .rw[take_of_length_le,take_of_length_le]
   .rw[hlen];lia
   .rw[hlen]
    unfold clipAt;rw[if_neg (by lia)]
    omega
 have hl2:((script.take 40).map V.int).length<=script.length:=by rw[zM,length_take];lia
 have hf:aj ((script.take 40).map V.int).length=true:=ai hl2 hs;simp only[PU,PT,nk,lc,e1,gn hf];refine AU ?_;simp only[nk,lc,e1,gn hf,gv];refine AV λr hr=>?_;have hr2:r.length<=1000:=by rw[length_take]at hr;lia
 have e2:aP H .len [.lst r]=some (.int (r.length:Nat)):=gI (l:=r) (ai hr2 (zv _));have e3:aT H .Add (.int 977) (.int (r.length:Nat))=some (.int (977+(r.length:Nat))):=l4 (by decide) (sm (by lia) (by lia));simp only[nk,e2,e3,nil_append];exact k ((script.take 40).map λi=>((i.natAbs:Nat):Int)) (977+(r.length:Nat)) (by rw[zM,length_take];lia) (by lia) (by lia)
end
def kj(s:List Nat):V.eqb (.str s) (.str s)=true:=zb rfl
mutual
def E3:∀d:D,V.eqb d.v d.v=true
 |.at k=>by dsimp only[D.v_0,D.v_1,D.v_2,D.v_3,D.v_4];induction k using fF<;>rfl
 |.sy k=>by
  dsimp only[D.v_0,D.v_1,D.v_2,D.v_3,D.v_4];show (V.eqb ol ol&&(V.eqb (.str (qn k)) (.str (qn k))&&true))=true;rw[kj,kj];rfl
 |.em=>rfl
 |.ch cs t=>by
  dsimp only[D.v_0,D.v_1,D.v_2,D.v_3,D.v_4];show (V.eqb eH eH&&((V.eqbs (D.vs cs) (D.vs cs)&&(V.eqb t.v t.v&&true))&&true))=true;rw[kj,v5 cs,E3 t];rfl
 |.ve l=>by
  dsimp only[D.v_0,D.v_1,D.v_2,D.v_3,D.v_4];show (V.eqb AB AB&&(V.eqbs (D.vs l) (D.vs l)&&true))=true;rw[kj,v5 l];rfl
def v5:∀l:List D,V.eqbs (D.vs l) (D.vs l)=true
 |[]=>rfl
 |d::r=>by
  show (V.eqb d.v d.v&&V.eqbs (D.vs r) (D.vs r))=true;rw[E3 d,v5 r];rfl
end
def NC(x:It):V.eqb x.v x.v=true:=by
 cases x with
 |w t=>exact kj _
 |dat d=>exact E3 d
def yf:∀l:List It,V.eqbs (bz l) (bz l)=true
 |[]=>rfl
 |x::r=>by
  show (V.eqb x.v x.v&&V.eqbs (bz r) (bz r))=true;rw[NC x,yf r];rfl
def E4{r:Option (List It)}(h:∀l,r=some l->iB l<=50):ac H .NotEq (i9 r) (i9 r)=some false:=by
 cases r with
 |none=>rfl
 |some l=>
  have hl:=h l rfl;show ac H .NotEq (.lst (bz l)) (.lst (bz l))=_;rw[EL rfl rfl (gj (by lia)) (gj (by lia)),yf]
  rfl
def ND{items r:List It}(h:turn items=.go r)(hA:∀x∈items,noA x=true):iB r<=iB items/\∀x∈r,noA x=true:=by
 unfold turn at h;split at h
 .injection h
 .rename_i b a hs
  split at h
  .injection h
  .rename_i p v s ho
   split at h
   .injection h
   .rename_i d0 hd
    injection h;obtain⟨hi,VH⟩:=dY hs;obtain⟨hb,VI⟩:=dj ho;have hsf:∀x∈s,x.flat=true:=λx m=>rG (VI x m) (VH x (by rw[hb];exact zU _ (zx _ m))) λk q=>by
     have:=hA x (by rw[hi,hb];exact zh _ (zU _ (zx _ m)));rw[q]at this;injection this
    have hdB:=pY hd hsf;have hsB:iB b=iB p+(4+iB s):=by rw[hb,dX];rfl
    have hbB:iB items=iB b+(4+iB a):=by rw[hi,dX];rfl
    refine⟨?_,λx m=>?_⟩
    .rw[dX]
     show iB p+(d0.B+iB a)<=_
     lia
    .rcases zH.mp m with m | m
     .exact hA x (by rw[hi,hb];exact zh _ (zh _ m))
     .rcases zZ.mp m with rfl | m
      .rfl
      .exact hA x (by rw[hi];exact zU _ (zx _ m))
def UZ{n:Nat}:∀{items r:List It},(∀x∈items,noA x=true)->lp n items=some r->iB r<=iB items:=by
 induction n with
 |zero=>intro items r _ h;injection h;exact zv _
 |succ n ih=>
  intro items r hA h;rw[ki]at h;split at h
  .injection h;exact zv _
  .injection h
  .rename_i r' q
   have:=ND q hA;exact zT (ih this.2 h) this.1
def p6{words:List Tk}(h:bH words=some r):iB r<=4*words.length:=by
 unfold bH at h;obtain⟨i,h1,h2⟩:=bind_eq_some_iff.mp h;have a:=UZ ua h1;have b:=rI (words:=words);unfold fin at h2;split at h2
 .injection h2
 .have:=vY h2
  lia
noncomputable def one(r:Option (List It)):Option (List It):=r.bind λl=>match l with
 |[]=>none
 |x::r=>match r with
  |[]=>some [x]
  |_::_=>none
def cK(words:List Tk):List Nat:=lK [32] (words.map Tk.s)
def yg:∀l:List Tk,eY (l.map λt=>V.str t.s)=some (l.map Tk.s)
 |[]=>rfl
 |t::r=>by
  show (eY (r.map λt=>V.str t.s)).map _=_;rw[yg r];rfl
def NF(t:Tk):t.s.length<=3:=by
 cases t with
 |o | v | c | d=>decide
 |q k=>induction k using gJ<;>decide
 |a k=>induction k using fF<;>decide
def E5:∀l:List Tk,((l.map Tk.s).map length).sum<=3*l.length
 |[]=>zv _
 |t::r=>by
  have:=E5 r;have:=NF t;simp only[map_cons,List.sum_cons,length_cons]
  lia
def IS{l:List Tk}(h:l.length<=12):kA H 22 (.str [32]) [.lst (l.map λt=>V.str t.s)]=some (.str (cK l),H):=by
 have e:((l.map Tk.s).map length).sum+(l.map Tk.s).length*([32]:List Nat).length<=100:=by
  have:=E5 l;rw[zM];simp only[length_cons,length_nil]
  lia
 exact BY rfl (yg _) (ai e (by lia))
section
variable{d:Nat}
structure gq(H:Hp)(n T:Nat):Prop where
 ex:∃(cells:List Int) (t:Nat) (sd:Int),H[n]?=some (.list [.lst (cells.map .int),.int (t:Nat),.int sd])/\t<=T/\cells.length<=1000/\0<=sd/\sd<2 ^ 32
def gq.app{H Z:Hp}{n T:Nat}(h:gq H n T):gq (H++Z) n T:=by
 obtain⟨cells,t,sd,h1,h2⟩:=h.ex;exact⟨cells,t,sd,by rw[zK (zu.mp h1).1];exact h1,h2⟩
def yh(G:Gd W){n T many:Nat}(h:gq H n T)(hT:T<=900)(hm:0<many)(Sz:many<=1000)(k:∀(r:Nat) H',r<many->gq H' n (T+1)->K (.int (r:Nat)) H'):Call W (d+1) 850 [.ref n,.int (many:Nat)] H K X:=by
 obtain⟨cells,t,sd,h1,h2,h3,h4,h5⟩:=h.ex;refine ub G h1 (by lia) h4 h5 h3 hm Sz λr yw hr a b=>k r _ hr ⟨cells,t+1,yw,bp h1,by lia,h3,a,b⟩
def IT(G:Gd W){n T:Nat}(h:gq H n T)(hT:T<=900)(k:∀(w:Tk) H',gq H' n (T+1)->K (.str w.s) H'):Call W (d+2) 857 [.ref n,ip] H K X:=by
 obtain⟨cells,t,sd,h1,h2,h3,h4,h5⟩:=h.ex;refine E1 G h1 (by lia) h4 h5 h3 λw yw a b=>k w _ ⟨cells,t+1,yw,bp h1,by lia,h3,a,b⟩
def v6(G:Gd W){n:Nat}{l0:Option V}{lr:Loc}{m:Nat}:∀{i:Int} {acc:List Tk} {T:Nat} {H:Hp},gq H n T->T+m<=900->(∀(ws:List Tk) H',ws.length=acc.length+m->gq H' n (T+m)->K (.lst (ws.map λt=>.str t.s)) H')->cb (aX (Call W (d+2)) (l0::some (.ref n)::lr) 1 (.call (.glb 75) (.k (.fre 1) (.k (.glb 74) .z))) .z) (rX i m) (acc.map λt=>.str t.s) H K:=by
 induction m with
 |zero=>
  intro i acc T H h hT k;exact k acc H rfl h
 |succ m ih=>
  intro i acc T H h hT k;rw[lL,bi,b9];simp only[nk,lc,gv,wfn];refine IT G h (by lia) λw H' h'=>?_;simp only[nk];have:=ih (i:=i+1) (acc:=acc++[w]) (T:=T+1) (H:=H') h' (by lia) (λws H2 hl h2=>k ws H2 (by rw[hl];simp;lia) (by rw[show T+(m+1)=T+1+m by lia];exact h2));rw[map_append]at this;exact this
end
def km:Bool->Option (List It)->Option (List It)
 |false,r=>r
 |true,r=>one r
def lx(W:Wd)(D:Nat):Prop:=∀(words:List Tk) (b:Bool) (H:Hp) (K:KP) (X:XP),words≠[]->words.length<=12->(∀Z,K (i9 (km b (bH words))) (H++Z))->Call W D 903 [.str (cK words),.bool b] H K X
section
variable{d:Nat}{KF:KS}{xs:XS}
def RY{r l:_}(h:one r=some l)(hr:∀l,r=some l->iB l<=50):iB l<=50:=by
 obtain⟨a,ha,hb⟩:=bind_eq_some_iff.mp h
 cases a with
 |nil=>injection hb
 |cons x r=>cases r with
  |nil=>injection hb;exact hr _ ha
  |cons=>injection hb
def yj(G:Gd W)(T:lx W (d+4)){n Tn:Nat}{s0:V}{t:Option V}{ws:List Tk}(hn:ws≠[])(hw:ws.length<=12)(hd:gq H n Tn)(k:∀b2 b3 b4 b5 b6 b7 H',gq H' n Tn->KF .next [some s0,some (.ref n),b2,b3,b4,b5,b6,b7] H'):dT (Call W (d+4)) TX [some s0,some (.ref n),some (.lst (ws.map λt=>.str t.s)),t,a4,a5,a6,a7] H KF xs:=by
 have hB:∀l,bH ws=some l->iB l<=50:=λl h=>by have:=p6 h;lia
 have hB1:∀l,one (bH ws)=some l->iB l<=50:=λl h=>RY h hB;simp only[TX,nk,lc,gv,wfn];refine E0 G hw λZ=>?_;simp only[nk,lc,jz,jA,IS hw,gv,wfn];refine T ws false _ _ _ hn hw λZ2=>?_;have e1:ac (H++Z++Z2) .NotEq (i9 (km false (bH ws))) (i9 (bH ws))=some false:=E4 hB;simp only[nk,lc,e1];have fin:dT (Call W (d+4)) (.k (.ite (.cmp (.call (.glb 72) (.k (.var 6) (.k (.lit (.bool true)) .z))) .NotEq (.var 7)) (.k .bad
 .z) .z)
 .z) [some s0,some (.ref n),some (.lst (ws.map λt=>.str t.s)),t,a4,some (i9 (bH ws)),some (.str (cK ws)),some (i9 (one (bH ws)))] (H++Z++Z2) KF xs:=by
  simp only[nk,lc,gv,wfn];refine T ws true _ _ _ hn hw λZ3=>?_;have e2:ac (H++Z++Z2++Z3) .NotEq (i9 (km true (bH ws))) (i9 (one (bH ws)))=some false:=E4 hB1;simp only[nk,lc,e2];exact k _ _ _ _ _ _ _ hd.app.app.app
 simp only[nk,lc,gv,wfn]at fin
 cases hr:bH ws with
 |none=>
  rw[hr]at fin;have e3:ac (H++Z++Z2) .IsNot .none .none=some false:=rfl;simp only[i9,nk,lc,e3,reduceIte,Bool.not_true,false_eq_true];exact fin
 |some r=>
  have hrB:=hB r hr;have hrl:=fP r;rw[hr]at fin;have e3:ac (H++Z++Z2) .IsNot (.lst (bz r)) .none=some true:=rfl;have e4:aP (H++Z++Z2) .len [.lst (bz r)]=some (.int (r.length:Nat)):=by rw[gI (ai (m:=50) (by rw[aS];lia) (by lia)),aS]
  have e5:ac (H++Z++Z2) .Eq (.int (r.length:Nat)) (.int 1)=some (decide (r.length=1)):=by rw[EG];congr 1;rw[decide_eq_decide];lia
  simp only[i9,nk,lc,e3,reduceIte,gv,e4,e5]
  match r,fin with
  |[],fin=>
   simp only[length_nil,Nat.zero_ne_one,decide_false,false_eq_true,reduceIte,Bool.not_true,nk,lc];exact fin
  |[x],fin=>
   simp only[length_cons,length_nil,zero_add,decide_true,reduceIte,nk,lc];exact fin
  |x::y::r,fin=>
   have q:decide ((x::y::r).length=1)=false:=za (by simp);simp only[q,false_eq_true,reduceIte,Bool.not_true,nk,lc];exact fin
def E6:∀m:Nat,qk [V.str [41]] m=(replicate m Tk.c).map λt=>V.str t.s
 |0=>rfl
 |m+1=>by rw[BS,E6 m];rfl
def gq.le{n T1 T2:Nat}(h:gq H n T1)(le:T1<=T2):gq H n T2:=by
 obtain⟨cells,t,sd,h1,h2,h3⟩:=h.ex;exact⟨cells,t,sd,h1,zT h2 le,h3⟩
def uc(G:Gd W)(T:lx W (d+4)){n Tn i m:Nat}{s0:V}(hi:i<=100)(hT:Tn<=800)(h0:0<m)(h9:m<=9)(h1:gq H1 n (Tn+1))(k:∀b2 b4 b5 b6 b7 b8 H',gq H' n (Tn+11)->KF .next [some s0,some (.ref n),b2,b4,b5,b6,b7,b8] H'):dT (Call W (d+4)) SH [some s0,some (.ref n),a2,some (.int (i:Nat)),some (.int (m:Nat)),a5,a6,a7] H1 KF xs:=by
 simp only[SH,nk,lc,gv,gN (show m<=1000 by lia),pZ (show m<=1000 by lia)];refine v6 G (acc:=[]) (T:=Tn+1) h1 (by lia) λws H2 hl h2=>?_;have hwl:ws.length=m:=by rw[hl,length_nil,zero_add]
 have e2:∀H',ac H' .Gt (.int (i:Nat)) (.int 1)=some (decide (1<i)):=λH'=>by rw[vU];congr 1;rw[decide_eq_decide];lia
 simp only[nk,lc,e2]
 by_cases q:1<i
 .have e3:aT H2 .Add (.lst [.str [40]]) (.lst (ws.map λt=>.str t.s))=some (.lst ((Tk.o::ws).map λt=>.str t.s)):=by
   rw[j6 (l:=[V.str [40]]) rfl rfl rfl (ai (m:=9) (by rw[zM];lia) (by lia))]
   rfl
  simp only[decide_eq_true q,nk,lc,e3,gv,wfn];refine yh G (many:=2) h2 (by lia) (by lia) (by lia) λr H3 hr h3=>?_;have e4:aT H3 .Add (.int 1) (.int (r:Nat))=some (.int ((r+1:Nat):Int)):=by
   rw[l4 (by decide) (sm (by lia) (by lia))]
   congr 2
   lia
  have e5:aT H3 .Mult (.lst [.str [41]]) (.int ((r+1:Nat):Int))=some (.lst ((replicate (r+1) Tk.c).map λt=>V.str t.s)):=by
   have:aT H3 .Mult (.lst [.str [41]]) (.int ((r+1:Nat):Int))=some (.lst (qk [.str [41]] (((r+1:Nat):Int)).toNat)):=if_pos (by
    rw[zb (show (0:Int)<=((r+1:Nat):Int) by lia),zb (show ((r+1:Nat):Int)<=1000 by lia)];rfl)
   rw[this,Int.toNat_natCast,E6]
  have e6:aT H3 .Add (.lst ((Tk.o::ws).map λt=>.str t.s)) (.lst ((replicate (r+1) Tk.c).map λt=>V.str t.s))=some (.lst ((Tk.o::ws++replicate (r+1) Tk.c).map λt=>.str t.s)):=by
   rw[j6 rfl rfl (ai (m:=10) (by rw[zM,zd];lia) (by lia)) (ai (m:=3) (by rw[zM,List.length_replicate];lia) (by lia)),map_append]
  simp only[nk,lc,e4,e5,e6];refine yj G T (by simp) (by simp only[length_append,length_cons,List.length_replicate];lia) (h3.le (show Tn+1+m+1<=Tn+11 by lia)) λb2 b3 b4 b5 b6 b7 H' h'=>?_;exact k _ _ _ _ _ _ _ h'
 .simp only[decide_eq_false q,nk,lc]
  refine yj G T (by rintro rfl;simp at hwl;lia) (by lia) (h2.le (show Tn+1+m<=Tn+11 by lia)) λb2 b3 b4 b5 b6 b7 H' h'=>?_;exact k _ _ _ _ _ _ _ h'
def E7(G:Gd W)(T:lx W (d+4)){n Tn i:Nat}{script:List Int}(hs:script.length<=1000)(hi:i<=100)(hd:gq H n Tn)(hT:Tn<=800)(k:∀b2 b4 b5 b6 b7 b8 H',gq H' n (Tn+11)->KF .next [some (.lst (script.map .int)),some (.ref n),b2,b4,b5,b6,b7,b8] H'):dT (Call W (d+4)) bw [some (.lst (script.map .int)),some (.ref n),a2,some (.int (i:Nat)),a4,a5,a6,a7] H KF kJ:=by
 have hlen:(script.map V.int).length=script.length:=zM _;have e1:ac H .Gt (.int (i:Nat)) (.int 0)=some (decide (0<i)):=by rw[vU];congr 1;rw[decide_eq_decide];lia
 rw[show bw=(.k (.asg 4 (.ite (.cmp (.var 3) .Gt (.lit (.int 0))) (.bin (.lit (.int 1)) .Add (.call (.glb 54) (.k (.var 1) (.k (.lit (.int 9)) .z)))) (.call (.glb 71) (.k (.lit (.int 9)) (.k (.call (.glb 76) (.k (.lit (.int 1)) (.k (.call (.glb 0) (.k (.var 0) .z)) .z))) .z)))))
 SH)from rfl]
 by_cases q:0<i
 .simp only[nk,lc,e1,decide_eq_true q,gv,wfn]
  refine yh G (many:=9) hd (by lia) (by lia) (by lia) λr H1 hr h1=>?_;have e4:aT H1 .Add (.int 1) (.int (r:Nat))=some (.int ((r+1:Nat):Int)):=by
   rw[l4 (by decide) (sm (by lia) (by lia))]
   congr 2
   lia
  simp only[nk,lc,e4];exact uc G T hi hT (Nat.succ_pos r) hr h1 k
 .have e5:aP H .len [.lst (script.map .int)]=some (.int (script.length:Nat)):=by rw[gI (ai (m:=script.length) (by rw[hlen];exact zv _) hs),hlen]
  have e6:aP H .max [.int 1,.int (script.length:Nat)]=some (.int ((max 1 script.length:Nat):Int)):=by
   show some (V.int (if (1:Int)<(script.length:Nat) then _ else 1))=_
   congr 2
   split<;>lia
  have e7:aP H .min [.int 9,.int ((max 1 script.length:Nat):Int)]=some (.int ((min 9 (max 1 script.length):Nat):Int)):=by
   show some (V.int (if ((max 1 script.length:Nat):Int)<9 then _ else 9))=_
   congr 2
   split<;>lia
  simp only[nk,lc,e1,decide_eq_false q,gv,e5,e6,e7];exact uc G T hi hT (Nat.lt_min.mpr ⟨by decide,Nat.lt_of_lt_of_le Nat.one_pos (Nat.le_max_left _ _)⟩) (Nat.min_le_left _ _) (hd.le (le_succ _)) k
def E8(G:Gd W)(T:lx W (d+4)){n:Nat}{script:List Int}(hs:script.length<=1000)(m:Nat):∀(i Tn:Nat)  (a2 a3 a4 a5 a6 a7:Option V) (H:Hp) (KS:KS),i+m<=100->Tn+11*m<=800->gq H n Tn->(∀l H',KS .next l H')->fN (cr (Call W (d+4)) [3] bw) (rX (i:Nat) m) [some (.lst (script.map .int)),some (.ref n),a2,a3,a4,a5,a6,a7] H KS:=by
 induction m with
 |zero=>
  intro i Tn a2 a3 a4 a5 a6 a7 H KS hi hT hd k;exact k _ _
 |succ m ih=>
  intro i Tn a2 a3 a4 a5 a6 a7 H KS hi hT hd k;rw[lL,aY,dG];simp only[lc];refine E7 G T hs (by lia) hd (by lia) λb2 b4 b5 b6 b7 b8 H' h'=>?_;exact ih (i+1) (Tn+11) _ _ _ _ _ _ H' KS (by lia) (by lia) h' k
def NG(G:Gd W)(T:lx W (d+4)){script:List Int}(hs:script.length<=1000)(k:∀H',K (.bool true) H'):Call W (d+5) 908 [.lst (script.map .int)] H K X:=by
 refine cf (l:=[some (.lst (script.map .int)),none,none,none,none,none,none,none]) G (by decide) rfl rfl ?_;have hlen:(script.map V.int).length=script.length:=zM _;simp only[P6,P5,nk,lc,gv,wfn];refine E2 G hs λcells sd h1 h2 h3=>?_;generalize hH:H++[O.list [.lst (cells.map .int),.int ((0:Nat):Int),.int sd]]=H1;have hd:gq H1 H.length 0:=⟨cells,0,sd,by rw[<-hH];exact fu,zv _,h1,h2,h3⟩;have e5:aP H1 .len [.lst (script.map .int)]=some (.int (script.length:Nat)):=by rw[gI (ai (m:=script.length) (by rw[hlen];exact zv _) hs),hlen]
 have e7:aP H1 .min [.int (script.length:Nat),.int 30]=some (.int ((min 30 script.length:Nat):Int)):=by
  show some (V.int (if (30:Int)<(script.length:Nat) then 30 else (script.length:Nat)))=_
  congr 2
  split<;>lia
 have m30:min 30 script.length<=30:=Nat.min_le_left ..;have q3:(min 30 script.length)/10<=3:=Nat.div_le_div_right (c:=10) m30;have e8:aT H1 .FloorDiv (.int ((min 30 script.length:Nat):Int)) (.int 10)=some (.int (((min 30 script.length)/10:Nat):Int)):=by
  rw[RX (sm (by lia) (by lia)) (by lia) (by lia)]
  congr 2
 generalize (min 30 script.length)/10=q at e8 q3;have e9:aT H1 .Add (.int 1) (.int ((q:Nat):Int))=some (.int ((1+q:Nat):Int)):=by
  rw[l4 (by decide) (sm (by lia) (by lia))]
  congr 2
 simp only[nk,lc,gv,e5,e7,e8,e9,gN (show 1+q<=1000 by lia)];rw[hY _ _ _ _ (oG (show 1+q<=1000 by lia))];have:=E8 (d:=d) (n:=H.length) G T hs (1+q) 0 0 (some (.lst [])) none none none none none H1 (jM (Call W (d+4)) (.k (.ret (.lit (.bool true))) .z) (eM K) (br X)) (by lia) (by lia) hd (λl H'=>by simp only[nk];exact k H');exact this
end
noncomputable abbrev ja(U:List Nat)(p:Nat):List (Nat×V):=[(0,.str U),(26,.int 53),(25,.int (p:Nat)),(24,.bool true)]
abbrev bX(U:List Nat)(p:Nat):O:=.inst 702 (ja U p)
section
variable{C:ba}{l lo:Loc}{H1:Hp}{L p q:Nat}{U:List Nat}
def bI(h:H[L]?=some (bX U p)):aR H (.ref L) 0=some (.str U):=dq h
def IU(h:H[L]?=some (bX U p)):aR H (.ref L) 26=some (.int 53):=dq h
def cg(h:H[L]?=some (bX U p)):aR H (.ref L) 25=some (.int (p:Nat)):=dq h
def IV(h:H[L]?=some (bX U p)):aR H (.ref L) 24=some (.bool true):=dq h
def oH(h:H[L]?=some (bX U p)):cP H (.ref L) 25 (.int (q:Nat))=some (H.set L (bX U q)):=kK h
def E9(h:H[L]?=some o):H.set L o=H:=by
 obtain⟨hl,e⟩:=zu.mp h;rw[<-e];exact List.set_getElem_self hl
def aJ{k:Nat}(h:H[L]?=some (bX U p))(hk:((ax 702 k).isSome&&decide (k<51)&&(ja U p).all λf=>f.1 != k)=true)(args):cq C X l lo k args K (.ref L) H=fQ C X args l lo H (cJ C X k (.ref L) H K):=by
 refine bK C X l lo H K ?_ args;exact (mU h).trans hk
def aK{k a:Nat}(h:H1[L]?=some (bX U p))(hk:ax 702 k=some a)(args):bD C X k (.ref L) H1 args H K=C a (.ref L::args) H K X:=by
 exact iI C X H K (mV h) hk
def gO(hp:p<U.length)(hl:U.length<=1000):bY H (.str U) (.int (p:Nat))=some (.str [U[p]]):=by
 show (dU U.length _).bind _=_;rw[pU hp (zT hl (by decide)),bind_some,zo hp];rfl
def len_str(hl:U.length<=1000):aP H .len [.str U]=some (.int (U.length:Nat)):=IG (ai (zv _) hl)
def ltN{a b:Nat}:ac H .Lt (.int (a:Nat)) (.int (b:Nat))=some (decide (a<b)):=by rw[oj];congr 1;rw[decide_eq_decide];lia
def Tv{a b:Nat}:ac H .Eq (.int (a:Nat)) (.int (b:Nat))=some (decide (a=b)):=by rw[EG];congr 1;rw[decide_eq_decide];lia
end
noncomputable def iA:List Nat:=[32,10,9,13,12]
section
variable{d:Nat}{L p s:Nat}{U:List Nat}{C:ba}{x1 x2:Option V}{xs:XS}{KF:KS}
def WO{c:Nat}(h:c<1000):xX [c]=true:=by
 show (decide (c<0x110000)&&true)=true;rw[zb (by lia)];rfl
def p7(h:H[L]?=some (bX U p))(hl:U.length<=1000)(hp:p<U.length)(hc:U[p]<1000)(Oi:U[p]≠59)(kb:U[p]∈iA->KF .next [some (.ref L),some (.str [U[p]]),x2] (H.set L (bX U (p+1))))(kr:U[p]∉iA->KF (.ret .none) [some (.ref L),some (.str [U[p]]),x2] H):dT C Pg [some (.ref L),x1,x2] H KF xs:=by
 have e1:ac H .Eq (.str [U[p]]) (.str [59])=some false:=by
  rw[iq (WO hc) rfl,za];intro e;exact Oi (List.cons.inj e).1
 have e2:ac H .In (.str [U[p]]) (.str [32,10,9,13,12])=some (decide (U[p]∈iA)):=vT;simp only[Pg,nk,lc,bI h,cg h,gO hp hl,e1,gv,e2]
 by_cases q:U[p]∈iA
 .simp only[decide_eq_true q,nk,lc,cg h,kh (show p<=1000 by lia),fb,oH h]
  exact kb q
 .simp only[decide_eq_false q,nk]
  exact kr q
def ly(h:H[L]?=some (bX U p))(hl:U.length<=1000){KB:Bool->Hp->Prop}(k:KB (decide (p<U.length)) H):oY C Ph xs [some (.ref L),x1,x2] H KB:=by
 rw[sD];simp only[Ph,nk,lc,bI h,cg h,gv,len_str hl,ltN];exact k
def iC(U:List Nat)(p s:Nat):Prop:=(p=s/\(s=U.length\/∃c,U[s]?=some c/\c<1000/\c≠59/\c∉iA))\/(U[p]?=some 32/\s=p+1/\∃c,U[s]?=some c/\c<1000/\c≠59/\c∉iA)
def ud(h:H[L]?=some (bX U s))(hl:U.length<=1000){c:Nat}(hc:U[s]?=some c)(h1:c<1000)(Oi:c≠59)(hb:c∉iA){n:Nat}(k:∀l,KF (.ret .none) l H):bZ (oY C Ph xs) (qu C Pg xs) (n+1) [some (.ref L),x1,x2] H KF:=by
 obtain⟨hs,e⟩:=zu.mp hc;rw[av];refine ly h hl ?_;rw[zb hs,nc,sE];refine p7 h hl hs (by rw[e];exact h1) (by rw[e];exact Oi) (λq=>absurd (e▸q) hb) λ_=>?_;rw[Cv];exact k _
def ue(G:Gd W)(h:H[L]?=some (bX U p))(hl:U.length<=1000)(hL:iC U p s)(k:K .none (H.set L (bX U s))):Call W (d+1) 636 [.ref L] H K X:=by
 refine cf (l:=[some (.ref L),none,none]) G (by decide) rfl rfl ?_;rw[show Pi.body=.k (.whil Ph Pg) .z from rfl];simp only[nk];refine⟨2,?_⟩
 rcases hL with ⟨rfl,hL⟩ |⟨hp,rfl,c,hc,h1,Oi,hb⟩
 .rw[E9 h]at k
  rcases hL with rfl |⟨c,hc,h1,Oi,hb⟩
  .rw[av]
   refine ly h hl ?_;rw[za (lt_irrefl _),uP];simp only[nk];exact k
  .refine ud (n:=1) h hl hc h1 Oi hb λl=>?_
   simp only[nk];exact k
 .obtain⟨hs,e⟩:=zu.mp hp
  rw[av];refine ly h hl ?_;rw[zb hs,nc,sE];refine p7 h hl hs (by rw[e];lia) (by rw[e];lia) (λ_=>?_) λq=>absurd (by rw[e];exact zw) q;rw[qv];refine ud (n:=0) (bp h) hl hc h1 Oi hb λl=>?_;simp only[nk];exact k
def cB(G:Gd W)(h:H[L]?=some (bX U p)){e:Nat}(k:K (.obj 568 [w,v,.int (p:Nat),.int (e:Nat)]) (H.set L (bX U e))):Call W (d+2) 657 [.ref L,w,v,.int (e:Nat)] H K X:=by
 refine cf (l:=[some (.ref L),some w,some v,some (.int (e:Nat)),none]) G (by decide) rfl rfl ?_;simp only[Pk,Pj,nk,lc,cg h,fb,oH h,gv];refine xW G ?_;simp only[nk];exact k
end
section
variable{C:ba}{l lo:Loc}{H1:Hp}{n:Nat}{vs ws:List V}{x:V}
def cD(h:H[n]?=some (.list vs))(args):cq C X l lo 4 args K (.ref n) H=fQ C X args l lo H (cJ C X 4 (.ref n) H K):=by
 refine bK C X l lo H K ?_ args;exact mU h
def cF(h1:H1[n]?=some (.list ws))(h:H[n]?=some (.list vs))(hf:aj vs.length=true):bD C X 4 (.ref n) H1 [x] H K=K .none (H.set n (.list (vs++[x]))):=by
 exact kP C X H K (mV h1) ((jL h1).trans (jL h).symm) (by rw[jL h];exact succ_ne_zero _) (BZ h hf)
end
noncomputable def dN(cs:List Nat):List V:=cs.map λc=>.str [c]
def l6:∀cs:List Nat,eY (dN cs)=some (cs.map λc=>[c])
 |[]=>rfl
 |c::r=>by
  show (eY (dN r)).map _=_;rw[l6 r];rfl
def l7:∀cs:List Nat,lK [] (cs.map λc=>[c])=cs
 |[]=>rfl
 |[c]=>rfl
 |c::d::r=>by
  show [c]++[]++lK [] ((d::r).map λc=>[c])=_;rw[l7]
  rfl
def oJ:∀cs:List Nat,((cs.map λc=>[c]).map length).sum=cs.length
 |[]=>rfl
 |c::r=>by
  simp only[map_cons,List.sum_cons,oJ r,length_cons,length_nil]
  lia
def uf{v:V}{cs:List Nat}(hr:v.res H=.lst (dN cs))(h:cs.length<=1000):kA H 22 (.str []) [v]=some (.str cs,H):=by
 have e:((cs.map λc=>[c]).map length).sum+(cs.map λc=>[c]).length*([]:List Nat).length<=1000:=by
  rw[oJ,length_nil,Nat.mul_zero];exact h
 rw[BY hr (l6 _) (ai e (zv _)),l7]
noncomputable def pf:List Nat:=[65,66,67,68,69,70,71,72,73,74,75,76,77,78,79,80,81,82,83,84,85,86,87,88,89,90]
section
variable{d:Nat}
def AW{C:ba}{t0:V}{j:Nat}{cs:List Nat}:∀{acc:List Nat}  {Z:Hp} {l2 l3:Option V} {KS:KS},(∀c∈cs,Txt.find (aH pf) (aH [c])=-1)->Z[j]?=some (.list (dN acc))->acc.length+cs.length<=1000->(∀l2 l3 Z',Z'[j]?=some (.list (dN (acc++cs)))->KS .next [some t0,some (.ref (H.length+j)),l2,l3] (H++Z'))->fN (cr C [2] Pa) (dN cs) [some t0,some (.ref (H.length+j)),l2,l3] (H++Z) KS:=by
 induction cs with
 |nil=>
  intro acc Z l2 l3 KS hc hj hl k;exact k _ _ Z (by rw[zJ];exact hj)
 |cons c r ih=>
  intro acc Z l2 l3 KS hc hj hl k;have e1:kA (H++Z) 23 (.str pf) [.str [c]]=some (.int (-1),H++Z):=by
   have:=hc c zw;show some (V.int (Txt.find (aH pf) (aH [c])),_)=_;rw[this]
  have e2:ac (H++Z) .Lt (.int (-1)) (.int 0)=some true:=rfl;have hjo:(H++Z)[H.length+j]?=some (.list (dN acc)):=mC.trans hj;have hf:aj (dN acc).length=true:=ai (m:=1000) (by rw[dN,zM];rw[zd]at hl;lia) (zv _);show fN _ (.str [c]::dN r) _ _ _;rw[aY,dG];generalize hKF:m9 (cr C [2] Pa) (dN r) KS=KF;have g26:af 26=some (.str pf):=rfl;simp only[Pa,nk,lc,g26,vW,vX,e1,cD hjo,e2,cF hjo hjo hf,rE];rw[<-hKF,eN];refine ih (acc:=acc++[c]) (λb m=>hc b (zx _ m)) ?_ (by rw[zV];rw[zd]at hl;simp only[length_cons,length_nil];lia) λl2 l3 Z' hz=>k l2 l3 Z' (by rw[zj]at hz;exact hz);rw[z5 (zu.mp hj).1];simp[dN]
def gP(G:Gd W){cs:List Nat}(hc:∀c∈cs,Txt.find (aH pf) (aH [c])=-1)(hl:cs.length<=1000)(k:∀Z,K (.str cs) (H++Z)):Call W (d+1) 579 [.str cs] H K X:=by
 refine cf (l:=[some (.str cs),none,none,none]) G (by decide) rfl rfl ?_;rw[show Pb.body=.k (.asg 1 (.listO .z)) (.k (.for_ [2] (.var 0) Pa) (.k (.ret (.meth 22 (.lit (.str [])) (.k (.var 1) .z))) .z))from rfl];simp only[nk,lc];rw[hY _ _ _ _ (show dJ (.str cs)=some (dN cs)from rfl)];refine AW (j:=0) (acc:=[]) (Z:=[O.list []]) hc rfl (by simpa using hl) λl2 l3 Z' hz=>?_;simp only[nk,lc,jz,jA,uf (mD hz) (by simpa using hl)];exact k Z'
noncomputable def Oo:PE:=.bool true (.k (.cmp (.var 2) .Lt (.call (.glb 0) (.k (.attr (.var 0) 0) .z))) (.k (.cmp (.idx (.attr (.var 0) 0) (.var 2)) .NotIn (.glb 33)) .z))
noncomputable def dZ:List Nat:=[32,10,9,13,12,40,41,34,59]
noncomputable def IW:List Nat:=[91,93,123,125,124]
def yk{xs:XS}{L p at_:Nat}{U:List Nat}{KB:Bool->Hp->Prop}(h:H[L]?=some (bX U p))(hl:U.length<=1000)(k:KB (match U[at_]? with | some c=>!decide (c∈dZ) | none=>false) H):oY C Oo xs [some (.ref L),x1,some (.int (at_:Nat))] H KB:=by
 rw[sD]
 by_cases q:at_<U.length
 .rw[zo q]at k
  have k:KB (!decide (U[at_]∈dZ)) H:=k;have e1:ac H .NotIn (.str [U[at_]]) (.str [32,10,9,13,12,40,41,34,59])=some (!decide (U[at_]∈dZ)):=EF;simp only[Oo,nk,lc,bI h,gv,len_str hl,ltN,decide_eq_true q,reduceIte,gO q hl,e1]
  cases hq:(!decide (U[at_]∈dZ))with
  |true=>rw[hq]at k;simp only[reduceIte];exact k
  |false=>rw[hq]at k;simp only[false_eq_true,reduceIte,Bool.not_true];exact k
 .rw[getElem?_eq_none (Nat.not_lt.mp q)]at k
  simp only[Oo,nk,lc,bI h,gv,len_str hl,ltN,decide_eq_false q,false_eq_true,reduceIte,Bool.not_true];exact k
def IX{L p:Nat}{U B:List Nat}{KF:KS}(h:H[L]?=some (bX U p))(hl:U.length<=1000)(bC:B=[]\/∃r,B=32::r){cs:List Nat}:∀{M:List Nat}  {at_:Nat},U=M++cs++B->at_=M.length->(∀c∈cs,c∉dZ/\c∉IW)->KF .next [some (.ref L),x1,some (.int ((at_+cs.length:Nat):Int))] H->bZ (oY C Oo xs) (qu C Pl xs) (cs.length+1) [some (.ref L),x1,some (.int (at_:Nat))] H KF:=by
 induction cs with
 |nil=>
  intro M at_ ht ha hc k;rw[av];refine yk h hl ?_;have:(match U[at_]? with | some c=>!decide (c∈dZ) | none=>false)=false:=by
   rw[ht,ha,zJ,zk (zv _),sub_self]
   rcases bC with rfl |⟨r,rfl⟩<;>rfl
  rw[this,uP];exact k
 |cons c cs ih=>
  intro M at_ ht ha hc k;have hat:at_<U.length:=by rw[ht,ha];simp only[length_append,length_cons];lia
  have hget:U[at_]?=some c:=by
   rw[ht,ha,zj,zk (zv _),sub_self]
   rfl
  have hge:U[at_]=c:=by rw[zo hat]at hget;exact Option.some.inj hget
  obtain⟨c1,c2⟩:=hc c zw;rw[zd,av];refine yk h hl ?_;rw[hget];dsimp only;rw[za c1,Bool.not_false,nc,sE];have e1:ac H .In (.str [U[at_]]) (.str [91,93,123,125,124])=some (decide (U[at_]∈IW)):=vT;rw[za (by rw[hge];exact c2)]at e1;generalize hKF:sw (oY C Oo xs) (qu C Pl xs) (cs.length+1) KF=KG;simp only[Pl,nk,lc,bI h,gO hat hl,gv,e1,kh (show at_<=1000 by lia)];rw[<-hKF,qv];refine ih (M:=M++[c]) (by rw[ht];simp) (by rw[ha];simp) (λb m=>hc b (zx _ m)) ?_;rw[show at_+1+cs.length=at_+(cs.length+1) by lia];exact k
def IY(G:Gd W){L p:Nat}{M cs B:List Nat}(h:H[L]?=some (bX (M++cs++B) p))(hl:(M++cs++B).length<=1000)(bC:B=[]\/∃r,B=32::r)(hc:∀c∈cs,c∉dZ/\c∉IW)(k:K (.int ((M.length+cs.length:Nat):Int)) H):Call W (d+1) 664 [.ref L,.int (M.length:Nat)] H K X:=by
 refine cf (l:=[some (.ref L),some (.int (M.length:Nat)),none]) G (by decide) rfl rfl ?_;rw[show Pm.body=.k (.asg 2 (.var 1)) (.k (.whil Oo Pl) (.k (.ret (.var 2)) .z))from rfl];simp only[nk,lc];refine⟨cs.length+1,IX h hl bC rfl rfl hc ?_⟩;simp only[nk,lc];exact k
end
section
variable{C:ba}{l lo:Loc}{H1:Hp}{s:List Nat}
def AX(args):cq C X l lo 14 args K (.str s) H=fQ C X args l lo H (cJ C X 14 (.str s) H K):=bK C X l lo H K rfl args
def AY(args):bD C X 14 (.str s) H1 args H K=F1 (kA H 14 (.str s) args) K:=by
 unfold bD;exact if_pos ⟨rfl,succ_ne_zero _⟩
def lz(args):cq C X l lo 13 args K (.str s) H=fQ C X args l lo H (cJ C X 13 (.str s) H K):=bK C X l lo H K rfl args
def lA(args):bD C X 13 (.str s) H1 args H K=F1 (kA H 13 (.str s) args) K:=by
 unfold bD;exact if_pos ⟨rfl,succ_ne_zero _⟩
def AZ(args):cq C X l lo 16 args K (.str s) H=fQ C X args l lo H (cJ C X 16 (.str s) H K):=bK C X l lo H K rfl args
def A0(args):bD C X 16 (.str s) H1 args H K=F1 (kA H 16 (.str s) args) K:=by
 unfold bD;exact if_pos ⟨rfl,succ_ne_zero _⟩
def A2(args):cq C X l lo 17 args K (.str s) H=fQ C X args l lo H (cJ C X 17 (.str s) H K):=bK C X l lo H K rfl args
def A3(args):bD C X 17 (.str s) H1 args H K=F1 (kA H 17 (.str s) args) K:=by
 unfold bD;exact if_pos ⟨rfl,succ_ne_zero _⟩
end
noncomputable def kt:List (List Nat):=[[49,50],[49],[50]]
noncomputable def jf(s:List Nat):Int:=if s=[49,50] then 12 else if s=[49] then 1 else 2
section
variable{d:Nat}{s:List Nat}
def v7(G:Gd W)(hs:s∈kt)(k:K (.tup [.str s,.int 0]) H):Call W (d+1) 445 [.str s] H K X:=by
 refine cf (l:=[some (.str s),none]) G (by decide) rfl rfl ?_;have e1:kA H 14 (.str s) [.str [35]]=some (.str s,H):=by
  simp only[kt,mem_cons,not_mem_nil,or_false]at hs
  rcases hs with rfl | rfl | rfl<;>kernel_rfl
 have e2:aP H .len [.str s]=some (.int (s.length:Nat)):=len_str (by
  simp only[kt,mem_cons,not_mem_nil,or_false]at hs
  rcases hs with rfl | rfl | rfl<;>decide)
 have e3:aT H .Sub (.int (s.length:Nat)) (.int (s.length:Nat))=some (.int 0):=by
  simp only[kt,mem_cons,not_mem_nil,or_false]at hs
  rcases hs with rfl | rfl | rfl<;>rfl
 simp only[OV,OU,nk,lc,AX,AY,e1,gv,e2,e3];exact k
def IZ(G:Gd W)(hs:s∈kt)(k:K (.bool true) H):Call W (d+1) 438 [.str s,.int 10] H K X:=by
 refine cf (l:=[some (.str s),some (.int 10)]) G (by decide) rfl rfl ?_;have e1:∀xs:List V,aj xs.length=true->dJ (.str s)=some xs->fG 1 H (.str s)=some (xs,H):=λxs _ h=>by
  have e:fG 1 H (.str s)=(dJ (.str s)).map λvs=>(vs,H):=rfl;rw[e,h];rfl
 have e2:eg H (.str [48,49,50,51,52,53,54,55,56,57,97,98,99,100,101,102]) .undef (.int 10) .undef=some (.str [48,49,50,51,52,53,54,55,56,57]):=rfl;have e3:ac H .In (.str [49]) (.str [48,49,50,51,52,53,54,55,56,57])=some true:=rfl;have e4:ac H .In (.str [50]) (.str [48,49,50,51,52,53,54,55,56,57])=some true:=rfl;simp only[kt,mem_cons,not_mem_nil,or_false]at hs
 rcases hs with rfl | rfl | rfl
 .have e5:aP H .all [.lst [.bool true,.bool true]]=some (.bool true):=rfl
  simp only[Gu,Gs,nk,lc,gv,iy (xs:=[.str [49],.str [50]]) (e1 _ rfl rfl) rfl,bi,b9,e2,e3,e4,nil_append,cons_append,e5];exact k
 .have e5:aP H .all [.lst [.bool true]]=some (.bool true):=rfl
  simp only[Gu,Gs,nk,lc,gv,iy (xs:=[.str [49]]) (e1 _ rfl rfl) rfl,bi,b9,e2,e3,e4,nil_append,cons_append,e5];exact k
 .have e5:aP H .all [.lst [.bool true]]=some (.bool true):=rfl
  simp only[Gu,Gs,nk,lc,gv,iy (xs:=[.str [50]]) (e1 _ rfl rfl) rfl,bi,b9,e2,e3,e4,nil_append,cons_append,e5];exact k
def A4(G:Gd W)(hs:s∈kt)(k:K (.int (jf s)) H):Call W (d+1) 433 [.str s,.int 10] H K X:=by
 refine cf (l:=[some (.str s),some (.int 10),none,none]) G (by decide) rfl rfl ?_;have e1:kA H 13 (.str [48,49,50,51,52,53,54,55,56,57,97,98,99,100,101,102]) [.str [49]]=some (.int 1,H):=by kernel_rfl
 have e2:kA H 13 (.str [48,49,50,51,52,53,54,55,56,57,97,98,99,100,101,102]) [.str [50]]=some (.int 2,H):=by kernel_rfl
 have m0:aT H .Mult (.int 0) (.int 10)=some (.int 0):=rfl;have m1:aT H .Mult (.int 1) (.int 10)=some (.int 10):=rfl;have a1:aT H .Add (.int 0) (.int 1)=some (.int 1):=rfl;have a2:aT H .Add (.int 0) (.int 2)=some (.int 2):=rfl;have a3:aT H .Add (.int 10) (.int 2)=some (.int 12):=rfl;simp only[kt,mem_cons,not_mem_nil,or_false]at hs
 rcases hs with rfl | rfl | rfl
 .simp only[Gr,Gq,nk,lc]
  rw[hY _ _ _ _ (show dJ (.str [49,50])=some [.str [49],.str [50]]from rfl)];simp only[aY,dG,nk,lc,gv,lz,lA,e1,e2,m0,m1,a1,a2,a3];exact k
 .simp only[Gr,Gq,nk,lc]
  rw[hY _ _ _ _ (show dJ (.str [49])=some [.str [49]]from rfl)];simp only[aY,dG,nk,lc,gv,lz,lA,e1,e2,m0,m1,a1,a2,a3];exact k
 .simp only[Gr,Gq,nk,lc]
  rw[hY _ _ _ _ (show dJ (.str [50])=some [.str [50]]from rfl)];simp only[aY,dG,nk,lc,gv,lz,lA,e1,e2,m0,m1,a1,a2,a3];exact k
def lB(G:Gd W)(hs:s∈kt)(k:K (.obj 462 [.int (jf s),.int 1,.bool true]) H):Call W (d+2) 473 [.str s,.int 10] H K X:=by
 refine cf (l:=[some (.str s),some (.int 10),none,none]) G (by decide) rfl rfl ?_;have e1:∀x y:V,∀(l:Loc) (KS:KS),lM [2,3] (some (.str s)::some (.int 10)::none::none::[]) KS (.tup [x,y]) H=KS .next [some (.str s),some (.int 10),some x,some y] H:=λ_ _ _ _=>rfl;have e2:ac H .Eq (.str s) (.str [])=some false:=by
  simp only[kt,mem_cons,not_mem_nil,or_false]at hs
  rcases hs with rfl | rfl | rfl<;>rfl
 have e3:aT H .Pow (.int 10) (.int 0)=some (.int 1):=rfl;have e4:aT H .Mult (.int (jf s)) (.int 1)=some (.int (jf s)):=by
  simp only[kt,mem_cons,not_mem_nil,or_false]at hs
  rcases hs with rfl | rfl | rfl<;>rfl
 have e5:ac H .Eq (.int 0) (.int 0)=some true:=rfl;simp only[OZ,OY,nk,lc,gv,wfn];refine v7 G hs ?_;rw[e1 _ _ []];simp only[nk,lc,gv,wfn,e2,reduceIte,false_eq_true];refine IZ G hs ?_;simp only[nk,lc,gv,wfn,reduceIte,Bool.not_true,Bool.not_false];refine A4 G hs ?_;simp only[nk,lc,e3,e4,e5];refine pT G ?_;simp only[nk];exact k
def yl(G:Gd W){a b:Int}(XO:(a=12/\b=1)\/(a=1/\b=2))(k:K (.int 1) H):Call W (d+1) 411 [.int a,.int b] H K X:=by
 refine cf (l:=[some (.int a),some (.int b)]) G (by decide) rfl rfl ?_;have e1:∀(x y x0 y0:V) (KS:KS),lM [0,1] [some x0,some y0] KS (.tup [x,y]) H=KS .next [some x,some y] H:=λ_ _ _ _ _=>rfl;have q:∀(tt:PE) (bb:bh) (n:Nat) (l:Loc) (KS:KS),bZ (oY (Call W d) tt (br X)) (qu (Call W d) bb (br X)) (n+1) l H KS=wT (Call W d) ((br X) l) tt l [] H (yE (oY (Call W d) tt (br X)) (qu (Call W d) bb (br X)) n l KS):=λtt bb n l KS=>av ..;have n0:ac H .NotEq (.int 0) (.int 0)=some false:=rfl;have n1:ac H .NotEq (.int 1) (.int 0)=some true:=rfl;have n2:ac H .NotEq (.int 2) (.int 0)=some true:=rfl;have b1:aP H .abs [.int 12]=some (.int 12):=rfl;have b2:aP H .abs [.int 1]=some (.int 1):=rfl;have b3:aP H .abs [.int 2]=some (.int 2):=rfl;have m1:aT H .Mod (.int 12) (.int 1)=some (.int 0):=rfl;have m2:aT H .Mod (.int 1) (.int 2)=some (.int 1):=rfl;have m3:aT H .Mod (.int 2) (.int 1)=some (.int 0):=rfl
 rcases XO with ⟨rfl,rfl⟩ |⟨rfl,rfl⟩
 .simp only[KZ,KY,nk,lc,gv,b1,b2,e1]
  refine⟨2,?_⟩;simp only[q,nk,lc,n1,n0,m1,e1];exact k
 .simp only[KZ,KY,nk,lc,gv,b2,b3,e1]
  refine⟨3,?_⟩;simp only[q,nk,lc,n2,n1,n0,m2,m3,e1];exact k
end
section
variable{d:Nat}{s:List Nat}
def A5(G:Gd W){a:Int}(k:K (.int a) H):Call W (d+1) 418 [.int a,.int 1] H K X:=by
 refine cf (l:=[some (.int a),some (.int 1)]) G (by decide) rfl rfl ?_;have e:ac H .Eq (.int 1) (.int 1)=some true:=rfl;simp only[K2,K0,nk,lc,e];exact k
def A6(G:Gd W)(k:K (.obj 400 [.int 1,.int 2]) H):Call W (d+2) 418 [.int 1,.int 2] H K X:=by
 refine cf (l:=[some (.int 1),some (.int 2)]) G (by decide) rfl rfl ?_;have e:ac H .Eq (.int 2) (.int 1)=some false:=rfl;simp only[K2,K0,nk,lc,e,gv];refine IF G ?_;simp only[nk];exact k
def v8(G:Gd W)(k:K (.int 12) H):Call W (d+3) 425 [.int 12,.int 1] H K X:=by
 refine cf (l:=[some (.int 12),some (.int 1),none]) G (by decide) rfl rfl ?_;have e1:ac H .Lt (.int 1) (.int 0)=some false:=rfl;have e2:aT H .FloorDiv (.int 12) (.int 1)=some (.int 12):=rfl;have e3:aT H .FloorDiv (.int 1) (.int 1)=some (.int 1):=rfl;simp only[K4,K3,nk,lc,e1,gv,wfn];refine yl G (.inl ⟨rfl,rfl⟩) ?_;simp only[nk,lc,gv,wfn,e2,e3];refine A5 G ?_;simp only[nk];exact k
def v9(G:Gd W)(k:K (.obj 400 [.int 1,.int 2]) H):Call W (d+3) 425 [.int 1,.int 2] H K X:=by
 refine cf (l:=[some (.int 1),some (.int 2),none]) G (by decide) rfl rfl ?_;have e1:ac H .Lt (.int 2) (.int 0)=some false:=rfl;have e2:aT H .FloorDiv (.int 1) (.int 1)=some (.int 1):=rfl;have e3:aT H .FloorDiv (.int 2) (.int 1)=some (.int 2):=rfl;simp only[K4,K3,nk,lc,e1,gv,wfn];refine yl G (.inr ⟨rfl,rfl⟩) ?_;simp only[nk,lc,gv,wfn,e2,e3];refine A6 G ?_;simp only[nk];exact k
def Fa(G:Gd W)(k:K (.int 12) H):Call W (d+4) 534 [.int 53,.int 12,.int 1,.bool true] H K X:=by
 refine cf (l:=[some (.int 53),some (.int 12),some (.int 1),some (.bool true)]) G (by decide) rfl rfl ?_;simp only[K8,K7,nk,lc,gv,wfn];refine v8 G ?_;simp only[nk];exact k
def Fb(G:Gd W)(k:K (.obj 400 [.int 1,.int 2]) H):Call W (d+4) 534 [.int 53,.int 1,.int 2,.bool true] H K X:=by
 refine cf (l:=[some (.int 53),some (.int 1),some (.int 2),some (.bool true)]) G (by decide) rfl rfl ?_;simp only[K8,K7,nk,lc,gv,wfn];refine v9 G ?_;simp only[nk];exact k
def Fc(G:Gd W)(k:∀Z,K (.int 2) (H++Z)):Call W (d+1) 499 [.str [49,50]] H K X:=by
 refine cf (l:=[some (.str [49,50]),none]) G (by decide) rfl rfl ?_;have c1:ag (Call W d) ((br X) [some (.str [49,50]),none]) (.ty .enumerate) [.str [49,50]] H=λK=>K (.ref H.length) (H++[.iter [.tup [.int 0,.str [49]],.tup [.int 1,.str [50]]]]):=funext λK=>jj _ _ H K rfl;have c2:∀(C:ba) (l:Loc) (elt:PE) (aF:de) (K:KP),hU C l 2 elt aF K (.ref H.length) (H++[.iter [.tup [.int 0,.str [49]],.tup [.int 1,.str [50]]]])=cb (aX C l 2 elt aF) [.tup [.int 0,.str [49]],.tup [.int 1,.str [50]]] [] (H++[.gone]) K:=λC l elt aF K=>oz rfl;have e1:ac (H++[O.gone]) .In (.str [49]) (.str [101,115,102,100,108])=some false:=rfl;have e2:ac (H++[O.gone]) .In (.str [50]) (.str [101,115,102,100,108])=some false:=rfl;have e3:ac (H++[O.gone]) .NotEq (.lst []) (.lst [])=some false:=rfl;have e4:aP (H++[O.gone]) .len [.str [49,50]]=some (.int 2):=rfl;simp only[O3,O2,nk,lc,gv,c1,c2,bi,ow,e1,e2,e3,e4];exact k [.gone]
def pg(G:Gd W)(k:∀Z,K (.obj 462 [.int 12,.int 1,.bool true]) (H++Z)):Call W (d+3) 520 [.str [49,50],.int 10] H K X:=by
 refine cf (l:=[some (.str [49,50]),some (.int 10)]) G (by decide) rfl rfl ?_;have e1:ac H .In (.str [47]) (.str [49,50])=some false:=rfl;have e2:ac H .Eq (.int 10) (.int 10)=some true:=rfl;have e3:ac H .In (.str [46]) (.str [49,50])=some false:=rfl;simp only[K6,K5,nk,lc,e1,e2,e3,reduceIte,true_eq_false,false_eq_true,gv,wfn];refine Fc G λZ=>?_;have e4:aP (H++Z) .len [.str [49,50]]=some (.int 2):=rfl;have e5:ac (H++Z) .Lt (.int 2) (.int 2)=some false:=rfl;simp only[nk,lc,gv,wfn,e4,e5,reduceIte,Bool.not_true,Bool.not_false,false_eq_true];refine lB G (by simp[kt]) ?_;simp only[nk];exact k Z
def Fd(G:Gd W)(k:K (.obj 462 [.int 1,.int 2,.bool true]) H):Call W (d+3) 480 [.str [49,47,50],.int 10] H K X:=by
 refine cf (l:=[some (.str [49,47,50]),some (.int 10),none,none,none]) G (by decide) rfl rfl ?_;have e1:kA H 16 (.str [49,47,50]) [.str [47]]=some (.lst [.str [49],.str [50]],H):=by kernel_rfl
 have e2:aP H .len [.lst [.str [49],.str [50]]]=some (.int 2):=rfl;have e3:ac H .NotEq (.int 2) (.int 2)=some false:=rfl;have e4:bY H (.lst [.str [49],.str [50]]) (.int 0)=some (.str [49]):=rfl;have e5:bY H (.lst [.str [49],.str [50]]) (.int 1)=some (.str [50]):=rfl;have e6:∀(x y:V) (a b c p q:Option V) (KS:KS),lM [3,4] [a,b,c,p,q] KS (.tup [x,y]) H=KS .next [a,b,c,some x,some y] H:=λ_ _ _ _ _ _ _ _=>rfl;have e7:ac H .Is (.obj 462 [.int (jf [49]),.int 1,.bool true]) .none=some false:=rfl;have e8:ac H .Is (.obj 462 [.int (jf [50]),.int 1,.bool true]) .none=some false:=rfl;have e9:aR H (.obj 462 [.int (jf [50]),.int 1,.bool true]) 12=some (.int 2):=rfl;have e10:ac H .Eq (.int 2) (.int 0)=some false:=rfl;have e11:aR H (.obj 462 [.int (jf [49]),.int 1,.bool true]) 12=some (.int 1):=rfl;have e12:aR H (.obj 462 [.int (jf [49]),.int 1,.bool true]) 15=some (.bool true):=rfl;have e13:aR H (.obj 462 [.int (jf [50]),.int 1,.bool true]) 15=some (.bool true):=rfl;simp only[O1,O0,nk,lc,AZ,A0,e1,e2,e3,e4,gv,wfn];refine lB G (by simp[kt]) ?_;simp only[nk,lc,e5,gv,wfn];refine lB G (by simp[kt]) ?_;simp only[nk,e6,lc,e7,e8,e9,e10,e11,e12,e13,reduceIte,Bool.not_false,false_eq_true,true_eq_false,Bool.not_true,gv];refine pT G ?_;simp only[nk];exact k
def ph(G:Gd W)(k:K (.obj 462 [.int 1,.int 2,.bool true]) H):Call W (d+4) 520 [.str [49,47,50],.int 10] H K X:=by
 refine cf (l:=[some (.str [49,47,50]),some (.int 10)]) G (by decide) rfl rfl ?_;have e1:ac H .In (.str [47]) (.str [49,47,50])=some true:=rfl;simp only[K6,K5,nk,lc,e1,gv,wfn];refine Fd G ?_;simp only[nk];exact k
def A7(G:Gd W)(hs:s=[49,50]\/s=[49,47,50])(k:K (.tup [.str s,.int 10,.str []]) H):Call W (d+1) 527 [.str s,.int 10] H K X:=by
 refine cf (l:=[some (.str s),some (.int 10),none,none,none,none]) G (by decide) rfl rfl ?_;have e1:∀(x y z:V) (a b c p q r:Option V) (KS:KS),lM [2,3,4] [a,b,c,p,q,r] KS (.tup [x,y,z]) H=KS .next [a,b,some x,some y,some z,r] H:=λ_ _ _ _ _ _ _ _ _ _=>rfl;have e2:aT H .Add (.int 0) (.int 1)=some (.int 1):=rfl;have e3:eg H (.str s) (.int 0) (.int 1) .undef=some (.str [49]):=by rcases hs with rfl | rfl<;>rfl
 have e4:ac H .Eq (.str [49]) (.str [35])=some false:=rfl;have e5:eg H (.str s) (.int 0) .undef .undef=some (.str s):=by rcases hs with rfl | rfl<;>rfl
 have q:∀(tt:PE) (bb:bh) (n:Nat) (l:Loc) (KS:KS),bZ (oY (Call W d) tt (br X)) (qu (Call W d) bb (br X)) (n+1) l H KS=wT (Call W d) ((br X) l) tt l [] H (yE (oY (Call W d) tt (br X)) (qu (Call W d) bb (br X)) n l KS):=λtt bb n l KS=>av ..;simp only[O5,O4,nk,lc,e1];refine⟨1,?_⟩;simp only[q,nk,lc,e2,e3,e4,e5];exact k
def Fe(G:Gd W)(hs:(s=[49,50]/\v=.int 12)\/(s=[49,47,50]/\v=.obj 400 [.int 1,.int 2]))(k:∀Z,K v (H++Z)):Call W (d+5) 542 [.int 53,.str s,.int 10] H K X:=by
 refine cf (l:=[some (.int 53),some (.str s),some (.int 10),none,none,none,none,none,none]) G (by decide) rfl rfl ?_;have hs':s=[49,50]\/s=[49,47,50]:=hs.imp And.left And.left;have e1:kA H 17 (.str s) []=some (.str s,H):=by rcases hs' with rfl | rfl<;>kernel_rfl
 have e2:ac H .Is (.tup [.str s,.int 10,.str []]) .none=some false:=rfl;have e3:∀(x y z:V) (a b c a4 a5 a6 a7 a8:Option V) (KS:KS),lM [4,2,5] [a,b,c,some (.tup [.str s,.int 10,.str []]),a4,a5,a6,a7,a8] KS (.tup [x,y,z]) H=KS .next [a,b,some y,some (.tup [.str s,.int 10,.str []]),some x,some z,a6,a7,a8] H:=λ_ _ _ _ _ _ _ _ _ _ _ _=>rfl;have e4:eg H (.str s) .undef (.int 1) .undef=some (.str [49]):=by rcases hs' with rfl | rfl<;>rfl
 have e5:ac H .Eq (.str [49]) (.str [45])=some false:=rfl;have e6:ac H .In (.str [49]) (.tup [.str [43],.str [45]])=some false:=rfl;simp only[O7,O6,nk,lc,A2,A3,e1,gv,wfn];refine A7 G hs' ?_;simp only[nk,lc,e2,e3,e4,e5,e6,gv,wfn]
 rcases hs with ⟨rfl,rfl⟩ |⟨rfl,rfl⟩
 .refine pg G λZ=>?_
  have f1:ac (H++Z) .Is (.obj 462 [.int 12,.int 1,.bool true]) .none=some false:=rfl;have f2:ac (H++Z) .Eq (.str []) (.str [101])=some false:=rfl;have f3:ac (H++Z) .Eq (.str []) (.str [])=some true:=rfl;have f4:aR (H++Z) (.obj 462 [.int 12,.int 1,.bool true]) 15=some (.bool true):=rfl;have f5:aR (H++Z) (.obj 462 [.int 12,.int 1,.bool true]) 12=some (.int 12):=rfl;have f6:aR (H++Z) (.obj 462 [.int 12,.int 1,.bool true]) 11=some (.int 1):=rfl;have f7:aT (H++Z) .Mult (.int 1) (.int 12)=some (.int 12):=rfl;simp only[nk,lc,f1,f2,f3,f4,f5,f6,f7,reduceIte,false_eq_true,gv,wfn];refine Fa G ?_;simp only[nk];exact k Z
 .refine ph G ?_
  have f1:ac H .Is (.obj 462 [.int 1,.int 2,.bool true]) .none=some false:=rfl;have f2:ac H .Eq (.str []) (.str [101])=some false:=rfl;have f3:ac H .Eq (.str []) (.str [])=some true:=rfl;have f4:aR H (.obj 462 [.int 1,.int 2,.bool true]) 15=some (.bool true):=rfl;have f5:aR H (.obj 462 [.int 1,.int 2,.bool true]) 12=some (.int 1):=rfl;have f6:aR H (.obj 462 [.int 1,.int 2,.bool true]) 11=some (.int 2):=rfl;have f7:aT H .Mult (.int 1) (.int 1)=some (.int 1):=rfl;simp only[nk,lc,f1,f2,f3,f4,f5,f6,f7,reduceIte,false_eq_true,gv,wfn];refine Fb G ?_;simp only[nk];have:=k [];rw[zJ]at this;exact this
end
noncomputable def I0:V:=.str [101,110,100]
section
variable{d:Nat}{L p s:Nat}{U:List Nat}
def fL:(H.set L o).set L o'=H.set L o':=List.set_set _
def iZ{Z:Hp}{o':O}(h:H[L]?=some o):(H++Z).set L o'=H.set L o'++Z:=List.set_append_left _ _ (zu.mp h).1
def aW{Z:Hp}(h:H[L]?=some o):(H++Z)[L]?=some o:=by rw[zK (zu.mp h).1];exact h
def I1(G:Gd W)(h:H[L]?=some (bX U p))(hl:U.length<=1000)(hL:iC U p U.length)(k:K (.obj 568 [I0,.none,.int (U.length:Nat),.int (U.length:Nat)]) (H.set L (bX U U.length))):Call W (d+2) 650 [.ref L] H K X:=by
 refine cf (l:=[some (.ref L),none,none,none]) G (by decide) rfl rfl ?_;have e1:=aJ (C:=Call W (d+1)) (X:=br X [some (.ref L),none,none,none]) (l:=[some (.ref L),none,none,none]) (lo:=[]) (K:=GJ [some (.ref L),none,none,none] (jM (Call W (d+1)) (.k (.asg 1 (.attr (.var 0) 25)) (.k (.ite (.cmp (.var 1) .Eq (.call (.glb 0) (.k (.attr (.var 0) 0) .z))) (.k (.ret (.call (.glb 32) (.k (.lit (.str [101,110,100])) (.k (.lit .none) (.k (.var 1) (.k (.var 1) .z))))))
 .z) .z) (.k (.asg 2 (.idx (.attr (.var 0) 0) (.var 1))) uI))) (eM K) (br X))) (k:=31) h rfl .z
 rw[show Ld.body=.k (.exp (.meth 31 (.var 0) .z)) (.k (.asg 1 (.attr (.var 0) 25)) (.k (.ite (.cmp (.var 1) .Eq (.call (.glb 0) (.k (.attr (.var 0) 0) .z))) (.k (.ret (.call (.glb 32) (.k (.lit (.str [101,110,100])) (.k (.lit .none) (.k (.var 1) (.k (.var 1) .z))))))
 .z) .z) (.k (.asg 2 (.idx (.attr (.var 0) 0) (.var 1))) uI)))from rfl]
 simp only[nk,lc,e1,aK h (show ax 702 31=some 636 from rfl)];refine ue G h hl hL ?_;have h1:=bp (o':=bX U U.length) h;generalize H.set L (bX U U.length)=H1 at k h1;simp only[nk,lc,bI h1,cg h1,gv,len_str hl,Tv,decide_true];refine xW G ?_;simp only[nk];exact k
def fM(G:Gd W)(h:H[L]?=some (bX U p))(hl:U.length<=1000)(hL:iC U p s){c:Nat}(hc:U[s]?=some c)(k:dT (Call W (d+1)) uI [some (.ref L),some (.int (s:Nat)),some (.str [c]),none] (H.set L (bX U s)) (eM K) (br X)):Call W (d+2) 650 [.ref L] H K X:=by
 refine cf (l:=[some (.ref L),none,none,none]) G (by decide) rfl rfl ?_;have e1:=aJ (C:=Call W (d+1)) (X:=br X [some (.ref L),none,none,none]) (l:=[some (.ref L),none,none,none]) (lo:=[]) (K:=GJ [some (.ref L),none,none,none] (jM (Call W (d+1)) (.k (.asg 1 (.attr (.var 0) 25)) (.k (.ite (.cmp (.var 1) .Eq (.call (.glb 0) (.k (.attr (.var 0) 0) .z))) (.k (.ret (.call (.glb 32) (.k (.lit (.str [101,110,100])) (.k (.lit .none) (.k (.var 1) (.k (.var 1) .z))))))
 .z) .z) (.k (.asg 2 (.idx (.attr (.var 0) 0) (.var 1))) uI))) (eM K) (br X))) (k:=31) h rfl .z
 rw[show Ld.body=.k (.exp (.meth 31 (.var 0) .z)) (.k (.asg 1 (.attr (.var 0) 25)) (.k (.ite (.cmp (.var 1) .Eq (.call (.glb 0) (.k (.attr (.var 0) 0) .z))) (.k (.ret (.call (.glb 32) (.k (.lit (.str [101,110,100])) (.k (.lit .none) (.k (.var 1) (.k (.var 1) .z))))))
 .z) .z) (.k (.asg 2 (.idx (.attr (.var 0) 0) (.var 1))) uI)))from rfl]
 simp only[nk,lc,e1,aK h (show ax 702 31=some 636 from rfl)];refine ue G h hl hL ?_;have h1:=bp (o':=bX U s) h;generalize H.set L (bX U s)=H1 at k h1;obtain⟨hs,e⟩:=zu.mp hc;have hne:s≠U.length:=ne_of_lt hs;simp only[nk,lc,bI h1,cg h1,gv,len_str hl,Tv,decide_eq_false hne,gO hs hl,e];exact k
end
section
variable{i j:Nat}{U:List Nat}
def Ff{v lo:V}{l u:Option Int}{t:List Nat}(h1:v.res H=.str t)(h2:dB lo=some l)(h3:dB hi=some u)(hf:aj t.length=true):eg H v lo hi .undef=some (.str (cut t l u)):=by
 exact Lo h1 h2 h3 hf
def Fg{α:Type}{l:List α}:cut l (some (i:Int)) (some (j:Int))=(l.drop i).take (j-i):=by
 have cl:∀(n k:Nat),clipAt n (k:Int)=min k n:=λn k=>by
  unfold clipAt;rw[if_neg (Int.not_lt.mpr (natCast_nonneg _))];exact Ox n k
 simp only[cut,elim_some,cl]
 by_cases h:i<=l.length
 .rw[Nat.min_eq_left h]
  by_cases h2:j<=l.length
  .rw[Nat.min_eq_left h2]
  .rw[Nat.min_eq_right (by lia),take_of_length_le (by rw[length_drop];exact zv _),take_of_length_le (by rw[length_drop];lia)]
 .have a1:l.drop (min i l.length)=[]:=z8 (by lia)
  have a2:l.drop i=[]:=z8 (by lia);rw[a1,a2,List.take_nil,List.take_nil]
def gQ(hi:i<=1000)(hj:j<=1000)(hl:U.length<=1000):eg H (.str U) (.int (i:Nat)) (.int (j:Nat)) .undef=some (.str ((U.drop i).take (j-i))):=
 (Ff rfl (eW hi) (eW hj) (ai (zv _) hl)).trans (by rw[Fg])
def I2{k:Nat}(h:i<=1000)(hk:k<=1000):aT H .Add (.int (i:Nat)) (.int (k:Nat))=some (.int ((i+k:Nat):Int)):=by
 rw[l4 (sm (by lia) (by lia)) (sm (by lia) (by lia))]
 congr 2
def rJ(h:i<=1000):aT H .Add (.int (i:Nat)) (.int 2)=some (.int ((i+2:Nat):Int)):=I2 (k:=2) h (by lia)
end
section
variable{d:Nat}{L p:Nat}{M B:List Nat}
def d8{cs:List Nat}{i c:Nat}(h:cs[i]?=some c):(M++cs++B)[M.length+i]?=some c:=by
 rw[zj,zk (le_add_right _ _),Nat.add_sub_cancel_left,zK (zu.mp h).1];exact h
def NH{c:Nat}(bC:B=[]\/∃r,B=32::r):((M++[c]++B).drop (M.length+1)).take (M.length+2-(M.length+1))=[]\/((M++[c]++B).drop (M.length+1)).take (M.length+2-(M.length+1))=[32]:=by
 rw[drop_append,z8 (by simp),show M.length+1-(M++[c]).length=0 by simp,show M.length+2-(M.length+1)=1 by lia]
 rcases bC with rfl |⟨r,rfl⟩
 .exact .inl rfl
 .exact .inr rfl
def mG(G:Gd W){c:Nat}(h:H[L]?=some (bX (M++[c]++B) p))(hl:(M++[c]++B).length<=900)(hL:iC (M++[c]++B) p M.length)(hc:c∈[40,41,39,96])(k:K (.obj 568 [.str [c],.none,.int (M.length:Nat),.int ((M.length+1:Nat):Int)]) (H.set L (bX (M++[c]++B) (M.length+1)))):Call W (d+4) 650 [.ref L] H K X:=by
 have hlen:M.length<(M++[c]++B).length:=by simp
 refine fM G h (by lia) hL (d8 (i:=0) rfl) ?_;have h1:=bp (o':=bX (M++[c]++B) M.length) h;have e1:∀H':Hp,ac H' .In (.str [c]) (.str [40,41,39,96])=some true:=λH'=>by rw[vT,zb hc]
 have hk:((ax 702 30).isSome&&decide (30<51)&&(ja (M++[c]++B) M.length).all λf=>f.1 != 30)=true:=rfl;rw[<-fL (o:=bX (M++[c]++B) M.length)]at k;generalize H.set L (bX (M++[c]++B) M.length)=H1 at k h1;simp only[uI,nk,lc,e1,aJ h1 hk,kh (show M.length<=1000 by lia),aK h1 (show ax 702 30=some 657 from rfl)];refine cB G h1 ?_;simp only[nk];exact k
def A8(G:Gd W)(h:H[L]?=some (bX (M++[44]++B) p))(hl:(M++[44]++B).length<=900)(hL:iC (M++[44]++B) p M.length)(bC:B=[]\/∃r,B=32::r)(k:K (.obj 568 [.str [44],.none,.int (M.length:Nat),.int ((M.length+1:Nat):Int)]) (H.set L (bX (M++[44]++B) (M.length+1)))):Call W (d+4) 650 [.ref L] H K X:=by
 have hlen:M.length<(M++[44]++B).length:=by simp
 refine fM G h (by lia) hL (d8 (i:=0) rfl) ?_;have h1:=bp (o':=bX (M++[44]++B) M.length) h;have ha:=NH (M:=M) (c:=44) bC;rw[<-fL (o:=bX (M++[44]++B) M.length)]at k;generalize M++[44]++B=U at *;generalize H.set L (bX U M.length)=H1 at k h1;have e1:ac H1 .In (.str [44]) (.str [40,41,39,96])=some false:=rfl;have e2:ac H1 .Eq (.str [44]) (.str [44])=some true:=rfl;have e3:ac H1 .Eq (.str ((U.drop (M.length+1)).take (M.length+2-(M.length+1)))) (.str [64])=some false:=by
  rcases ha with ha | ha<;>rw[ha]<;>rfl
 have e4:aP H1 .len [.str [44]]=some (.int ((1:Nat):Int)):=rfl;have hk:((ax 702 30).isSome&&decide (30<51)&&(ja U M.length).all λf=>f.1 != 30)=true:=rfl;simp only[uI,nk,lc,e1,e2,bI h1,kh (show M.length<=1000 by lia),rJ (show M.length<=1000 by lia),gQ (show M.length+1<=1000 by lia) (show M.length+2<=1000 by lia) (show U.length<=1000 by lia),e3,aJ h1 hk,gv,e4,I2 (show M.length<=1000 by lia) (show 1<=1000 by lia),aK h1 (show ax 702 30=some 657 from rfl)];refine cB G h1 ?_;simp only[nk];exact k
def wa(G:Gd W)(h:H[L]?=some (bX (M++[44,64]++B) p))(hl:(M++[44,64]++B).length<=900)(hL:iC (M++[44,64]++B) p M.length)(k:K (.obj 568 [.str [44,64],.none,.int (M.length:Nat),.int ((M.length+2:Nat):Int)]) (H.set L (bX (M++[44,64]++B) (M.length+2)))):Call W (d+4) 650 [.ref L] H K X:=by
 have hlen:M.length<(M++[44,64]++B).length:=by simp
 refine fM G h (by lia) hL (d8 (i:=0) rfl) ?_;have h1:=bp (o':=bX (M++[44,64]++B) M.length) h;have ha:((M++[44,64]++B).drop (M.length+1)).take (M.length+2-(M.length+1))=[64]:=by
  rw[zj,drop_append,z8 (by lia),show M.length+1-M.length=1 by lia,show M.length+2-(M.length+1)=1 by lia]
  rfl
 rw[<-fL (o:=bX (M++[44,64]++B) M.length)]at k;generalize M++[44,64]++B=U at *;generalize H.set L (bX U M.length)=H1 at k h1;have e1:ac H1 .In (.str [44]) (.str [40,41,39,96])=some false:=rfl;have e2:ac H1 .Eq (.str [44]) (.str [44])=some true:=rfl;have e3:ac H1 .Eq (.str [64]) (.str [64])=some true:=rfl;have e4:aP H1 .len [.str [44,64]]=some (.int ((2:Nat):Int)):=rfl;have hk:((ax 702 30).isSome&&decide (30<51)&&(ja U M.length).all λf=>f.1 != 30)=true:=rfl;simp only[uI,nk,lc,e1,e2,bI h1,kh (show M.length<=1000 by lia),rJ (show M.length<=1000 by lia),gQ (show M.length+1<=1000 by lia) (show M.length+2<=1000 by lia) (show U.length<=1000 by lia),ha,e3,aJ h1 hk,gv,e4,I2 (show M.length<=1000 by lia) (show 2<=1000 by lia),aK h1 (show ax 702 30=some 657 from rfl)];refine cB G h1 ?_;simp only[nk];exact k
end
section
variable{d:Nat}{H1:Hp}{L p s c:Nat}{U M B:List Nat}
def lC(h:H1[L]?=some (bX U s))(k:Call W d 685 [.ref L] H1 K g6):dT (Call W d) uI [some (.ref L),some (.int (s:Nat)),some (.str [35]),none] H1 (eM K) (br X):=by
 have e1:ac H1 .In (.str [35]) (.str [40,41,39,96])=some false:=rfl;have e2:ac H1 .Eq (.str [35]) (.str [44])=some false:=rfl;have e3:ac H1 .Eq (.str [35]) (.str [34])=some false:=rfl;have e4:ac H1 .Eq (.str [35]) (.str [35])=some true:=rfl;have hk:((ax 702 28).isSome&&decide (28<51)&&(ja U s).all λf=>f.1 != 28)=true:=rfl;simp only[uI,nk,lc,e1,e2,e3,e4,aJ h hk,aK h (show ax 702 28=some 685 from rfl)];exact k.mono (λv H hv=>by simp only[nk];exact hv) λ_ _ _ q=>q.elim
def wb(h:H1[L]?=some (bX U s))(k:Call W d 699 [.ref L] H1 K g6):dT (Call W d) uI [some (.ref L),some (.int (s:Nat)),some (.str [34]),none] H1 (eM K) (br X):=by
 have e1:ac H1 .In (.str [34]) (.str [40,41,39,96])=some false:=rfl;have e2:ac H1 .Eq (.str [34]) (.str [44])=some false:=rfl;have e3:ac H1 .Eq (.str [34]) (.str [34])=some true:=rfl;have hk:((ax 702 29).isSome&&decide (29<51)&&(ja U s).all λf=>f.1 != 29)=true:=rfl;simp only[uI,nk,lc,e1,e2,e3,aJ h hk,aK h (show ax 702 29=some 699 from rfl)];exact k.mono (λv H hv=>by simp only[nk];exact hv) λ_ _ _ q=>q.elim
def Fh(h:H1[L]?=some (bX U s))(hc:c∈[46,97,49])(k:Call W d 671 [.ref L] H1 K g6):dT (Call W d) uI [some (.ref L),some (.int (s:Nat)),some (.str [c]),none] H1 (eM K) (br X):=by
 have e:ac H1 .In (.str [c]) (.str [40,41,39,96])=some false/\ac H1 .Eq (.str [c]) (.str [44])=some false/\ac H1 .Eq (.str [c]) (.str [34])=some false/\ac H1 .Eq (.str [c]) (.str [35])=some false:=by
  simp only[mem_cons,not_mem_nil,or_false]at hc
  rcases hc with rfl | rfl | rfl<;>exact⟨rfl,rfl,rfl,rfl⟩
 have hk:((ax 702 27).isSome&&decide (27<51)&&(ja U s).all λf=>f.1 != 27)=true:=rfl;simp only[uI,nk,lc,e.1,e.2.1,e.2.2.1,e.2.2.2,aJ h hk,aK h (show ax 702 27=some 671 from rfl)];exact k.mono (λv H hv=>by simp only[nk];exact hv) λ_ _ _ q=>q.elim
def second{c1 c2:Nat}{r:List Nat}:((M++(c1::c2::r)++B).drop (M.length+1)).take (M.length+2-(M.length+1))=[c2]:=by
 rw[zj,drop_append,z8 (by lia),show M.length+1-M.length=1 by lia,show M.length+2-(M.length+1)=1 by lia]
 rfl
def I3(G:Gd W)(h:H[L]?=some (bX (M++[35,40]++B) p))(hl:(M++[35,40]++B).length<=900)(hL:iC (M++[35,40]++B) p M.length)(k:∀Z,K (.obj 568 [.str [35,40],.none,.int (M.length:Nat),.int ((M.length+2:Nat):Int)]) (H.set L (bX (M++[35,40]++B) (M.length+2))++Z)):Call W (d+5) 650 [.ref L] H K X:=by
 have hlen:M.length<(M++[35,40]++B).length:=by simp
 refine fM G h (by lia) hL (d8 (i:=0) rfl) ?_;have h1:=bp (o':=bX (M++[35,40]++B) M.length) h;have ha:=second (M:=M) (B:=B) (c1:=35) (c2:=40) (r:=[]);rw[<-fL (o:=bX (M++[35,40]++B) M.length)]at k;generalize M++[35,40]++B=U at *;generalize H.set L (bX U M.length)=H1 at k h1;refine lC h1 ?_;refine cf (l:=[some (.ref L),none,none,none]) G (by decide) rfl rfl ?_;simp only[Gw,Gv,nk,lc,cg h1,bI h1,kh (show M.length<=1000 by lia),rJ (show M.length<=1000 by lia),gQ (show M.length+1<=1000 by lia) (show M.length+2<=1000 by lia) (show U.length<=1000 by lia),ha,gv,wfn];refine gP G (cs:=[40]) (λb m=>by rw[zp.mp m];kernel_rfl) (by decide) λZ=>?_;have h2:=aW (Z:=Z) h1;have e1:ac (H1++Z) .Eq (.str [40]) (.str [40])=some true:=rfl;have hk:((ax 702 30).isSome&&decide (30<51)&&(ja U M.length).all λf=>f.1 != 30)=true:=rfl;simp only[nk,lc,e1,aJ h2 hk,rJ (show M.length<=1000 by lia),aK h2 (show ax 702 30=some 657 from rfl)];refine cB G h2 ?_;simp only[nk];rw[iZ h1];exact k Z
def Fi(G:Gd W)(h:H[L]?=some (bX (M++[35,116]++B) p))(hl:(M++[35,116]++B).length<=900)(hL:iC (M++[35,116]++B) p M.length)(k:∀Z,K (.obj 568 [.str [98,111,111,108,101,97,110],.bool true,.int (M.length:Nat),.int ((M.length+2:Nat):Int)]) (H.set L (bX (M++[35,116]++B) (M.length+2))++Z)):Call W (d+5) 650 [.ref L] H K X:=by
 have hlen:M.length<(M++[35,116]++B).length:=by simp
 refine fM G h (by lia) hL (d8 (i:=0) rfl) ?_;have h1:=bp (o':=bX (M++[35,116]++B) M.length) h;have ha:=second (M:=M) (B:=B) (c1:=35) (c2:=116) (r:=[]);rw[<-fL (o:=bX (M++[35,116]++B) M.length)]at k;generalize M++[35,116]++B=U at *;generalize H.set L (bX U M.length)=H1 at k h1;refine lC h1 ?_;refine cf (l:=[some (.ref L),none,none,none]) G (by decide) rfl rfl ?_;simp only[Gw,Gv,nk,lc,cg h1,bI h1,kh (show M.length<=1000 by lia),rJ (show M.length<=1000 by lia),gQ (show M.length+1<=1000 by lia) (show M.length+2<=1000 by lia) (show U.length<=1000 by lia),ha,gv,wfn];refine gP G (cs:=[116]) (λb m=>by rw[zp.mp m];kernel_rfl) (by decide) λZ=>?_;have h2:=aW (Z:=Z) h1;have e1:ac (H1++Z) .Eq (.str [116]) (.str [40])=some false:=rfl;have e2:ac (H1++Z) .Eq (.str [116]) (.str [116])=some true:=rfl;have hk:((ax 702 30).isSome&&decide (30<51)&&(ja U M.length).all λf=>f.1 != 30)=true:=rfl;simp only[nk,lc,e1,e2,reduceIte,true_eq_false,Bool.not_false,aJ h2 hk,rJ (show M.length<=1000 by lia),aK h2 (show ax 702 30=some 657 from rfl)];refine cB G h2 ?_;simp only[nk];rw[iZ h1];exact k Z
end
section
variable{d:Nat}{H1:Hp}{L p s c:Nat}{U M B cs:List Nat}
def ug(G:Gd W)(hc:c∈[97,49])(k:K (.bool (c==97)) H):Call W (d+1) 586 [.str [c]] H K X:=by
 refine cf (l:=[some (.str [c])]) G (by decide) rfl rfl ?_;simp only[mem_cons,not_mem_nil,or_false]at hc
 rcases hc with rfl | rfl
 .have e1:ac H .In (.str [97]) (.str [97,98,99,100,101,102,103,104,105,106,107,108,109,110,111,112,113,114,115,116,117,118,119,120,121,122])=some true:=rfl
  simp only[La,K9,nk,lc,gv,e1,true_eq_false,reduceIte];exact k
 .have e1:ac H .In (.str [49]) (.str [97,98,99,100,101,102,103,104,105,106,107,108,109,110,111,112,113,114,115,116,117,118,119,120,121,122])=some false:=rfl
  have e2:ac H .In (.str [49]) (.str [33,36,37,38,42,47,58,60,61,62,63,94,95,126])=some false:=rfl;simp only[La,K9,nk,lc,gv,e1,e2,reduceIte];exact k
noncomputable def gR:List (List Nat):=[[49,50],[49,47,50]]
def I4(G:Gd W)(k:K (.bool true) H):Call W (d+2) 600 [.str [97]] H K X:=by
 refine cf (l:=[some (.str [97]),none]) G (by decide) rfl rfl ?_;have e1:ac H .In (.str [97]) (.tup [.str [43],.str [45],.str [46,46,46]])=some false:=rfl;have e2:ac H .Eq (.str [97]) (.str [])=some false:=rfl;have e3:bY H (.str [97]) (.int 0)=some (.str [97]):=rfl;have e4:eg H (.str [97]) (.int 1) .undef .undef=some (.str []):=rfl;simp only[Lc,Lb,nk,lc,gv,wfn,e1,e2,e3,reduceIte];refine ug G (by simp) ?_;simp only[nk,lc,show ((97:Nat)==97)=true from rfl,reduceIte,Bool.not_true,e4,Bool.not_false];rw[hY _ _ _ _ (show dJ (.str [])=some []from rfl)];simp only[nk];exact k
def I5(G:Gd W)(hs:cs∈gR)(k:K (.bool false) H):Call W (d+2) 600 [.str cs] H K X:=by
 refine cf (l:=[some (.str cs),none]) G (by decide) rfl rfl ?_;have e:ac H .In (.str cs) (.tup [.str [43],.str [45],.str [46,46,46]])=some false/\ac H .Eq (.str cs) (.str [])=some false/\bY H (.str cs) (.int 0)=some (.str [49]):=by
  simp only[gR,mem_cons,not_mem_nil,or_false]at hs
  rcases hs with rfl | rfl<;>exact⟨rfl,rfl,rfl⟩
 simp only[Lc,Lb,nk,lc,gv,wfn,e.1,e.2.1,e.2.2,reduceIte];refine ug G (by simp) ?_;simp only[nk,lc,show ((49:Nat)==97)=false from rfl,reduceIte,Bool.not_false,true_eq_false];exact k
def NI(G:Gd W)(hs:cs∈gR)(k:K (.bool true) H):Call W (d+1) 607 [.str cs] H K X:=by
 refine cf (l:=[some (.str cs)]) G (by decide) rfl rfl ?_;have e:bY H (.str cs) (.int 0)=some (.str [49]):=by
  simp only[gR,mem_cons,not_mem_nil,or_false]at hs
  rcases hs with rfl | rfl<;>rfl
 have e2:ac H .In (.str [49]) (.str [48,49,50,51,52,53,54,55,56,57])=some true:=rfl;simp only[Pd,Pc,nk,lc,gv,e,e2,reduceIte,true_eq_false];exact k
noncomputable def I6(cs:List Nat):V:=if cs=[49,50] then .int 12 else .obj 400 [.int 1,.int 2]
def number_in(G:Gd W)(h:H[L]?=some (bX U s))(hs:cs∈gR){x:V}(k:∀Z,K (I6 cs) (H++Z)):Call W (d+6) 678 [.ref L,.str cs,x] H K X:=by
 refine cf (l:=[some (.ref L),some (.str cs),some x,none]) G (by decide) rfl rfl ?_;simp only[Pq,Pp,nk,lc,IU h,gv,wfn];refine Fe G (v:=I6 cs) ?_ λZ=>?_
 .simp only[gR,mem_cons,not_mem_nil,or_false]at hs
  rcases hs with rfl | rfl
  .exact .inl ⟨rfl,rfl⟩
  .exact .inr ⟨rfl,rfl⟩
 .have e:ac (H++Z) .Is (I6 cs) .none=some false:=by
   simp only[gR,mem_cons,not_mem_nil,or_false]at hs
   rcases hs with rfl | rfl<;>rfl
  simp only[nk,lc,e];exact k Z
def A9:((M++cs++B).drop M.length).take (M.length+cs.length-M.length)=cs:=by
 rw[zj,drop_append,z8 (zv _),sub_self,Nat.add_sub_cancel_left];simp
def mH(cs:List Nat):V×V:=if cs=[46] then (.str [46],.none) else if cs=[97] then (ol,.str [97]) else (.str [110,117,109,98,101,114],I6 cs)
noncomputable def lE:List (List Nat):=[[46],[97],[49,50],[49,47,50]]
def I7(G:Gd W)(h:H[L]?=some (bX (M++cs++B) M.length))(hl:(M++cs++B).length<=900)(bC:B=[]\/∃r,B=32::r)(hs:cs∈lE)(k:∀Z,K (.obj 568 [(mH cs).1,(mH cs).2,.int (M.length:Nat),.int ((M.length+cs.length:Nat):Int)]) (H.set L (bX (M++cs++B) (M.length+cs.length))++Z)):Call W (d+7) 671 [.ref L] H K X:=by
 refine cf (l:=[some (.ref L),none,none,none,none]) G (by decide) rfl rfl ?_;have hcs:cs.length<=3:=by
  simp only[lE,mem_cons,not_mem_nil,or_false]at hs
  rcases hs with rfl | rfl | rfl | rfl<;>decide
 have hplen:M.length<=900:=by rw[zV,zV]at hl;lia
 have hd:∀c∈cs,c∉dZ/\c∉IW:=by
  simp only[lE,mem_cons,not_mem_nil,or_false]at hs
  rcases hs with rfl | rfl | rfl | rfl<;>decide
 have hk33:((ax 702 33).isSome&&decide (33<51)&&(ja (M++cs++B) M.length).all λf=>f.1 != 33)=true:=rfl;have hk30:((ax 702 30).isSome&&decide (30<51)&&(ja (M++cs++B) M.length).all λf=>f.1 != 30)=true:=rfl;have hk32:((ax 702 32).isSome&&decide (32<51)&&(ja (M++cs++B) M.length).all λf=>f.1 != 32)=true:=rfl;simp only[Po,Pn,nk,lc,cg h,aJ h hk33,aK h (show ax 702 33=some 664 from rfl)];refine IY G h (by lia) bC hd ?_;have own:=A9 (M:=M) (cs:=cs) (B:=B);simp only[nk,lc,bI h,gQ (show M.length<=1000 by lia) (show M.length+cs.length<=1000 by lia) (show (M++cs++B).length<=1000 by lia),own];generalize M++cs++B=U at *;simp only[lE,mem_cons,not_mem_nil,or_false]at hs
 rcases hs with rfl | hs
 .have e1:ac H .Eq (.str [46]) (.str [46])=some true:=rfl
  simp only[nk,lc,e1,aJ h hk30,aK h (show ax 702 30=some 657 from rfl)];refine cB G h ?_;simp only[nk];have:=k [];rw[zJ]at this;exact this
 .have e1:ac H .Eq (.str cs) (.str [46])=some false:=by rcases hs with rfl | rfl | rfl<;>rfl
  have hf:∀c∈cs,Txt.find (aH pf) (aH [c])=-1:=by
   have f1:Txt.find (aH pf) (aH [97])=-1:=by kernel_rfl
   have f2:Txt.find (aH pf) (aH [49])=-1:=by kernel_rfl
   have f3:Txt.find (aH pf) (aH [50])=-1:=by kernel_rfl
   have f4:Txt.find (aH pf) (aH [47])=-1:=by kernel_rfl
   intro c m
   rcases hs with rfl | rfl | rfl<;>simp only[mem_cons,not_mem_nil,or_false]at m
   .subst m;exact f1
   .rcases m with rfl | rfl<;>assumption
   .rcases m with rfl | rfl | rfl<;>assumption
  simp only[nk,lc,e1,gv,wfn];refine gP G hf (by lia) λZ=>?_;have h2:=aW (Z:=Z) h;simp only[nk,lc,gv,wfn]
  rcases hs with rfl | hs
  .refine I4 G ?_
   simp only[nk,lc,IV h2,aJ h2 hk30,aK h2 (show ax 702 30=some 657 from rfl)];refine cB G h2 ?_;simp only[nk];rw[iZ h];exact k Z
  .have hs':cs∈gR:=by rcases hs with rfl | rfl<;>simp[gR]
   refine I5 G hs' ?_;simp only[nk,lc,gv,wfn];refine NI G hs' ?_;simp only[nk,lc,Bool.not_true,aJ h2 hk30,aJ h2 hk32,aK h2 (show ax 702 32=some 678 from rfl)];refine number_in G h2 hs' λZ2=>?_;have h3:=aW (Z:=Z2) h2;simp only[nk,lc,aK h2 (show ax 702 30=some 657 from rfl)];refine cB G h3 ?_;simp only[nk];rw[zj,iZ h];have:=k (Z++Z2)
   rcases hs with rfl | rfl<;>exact this
end
section
variable{d:Nat}{H1:Hp}{L p s c:Nat}{U M B cs:List Nat}
def ku(G:Gd W)(h:H[L]?=some (bX (M++cs++B) p))(hl:(M++cs++B).length<=900)(hL:iC (M++cs++B) p M.length)(bC:B=[]\/∃r,B=32::r)(hs:cs∈lE)(k:∀Z,K (.obj 568 [(mH cs).1,(mH cs).2,.int (M.length:Nat),.int ((M.length+cs.length:Nat):Int)]) (H.set L (bX (M++cs++B) (M.length+cs.length))++Z)):Call W (d+8) 650 [.ref L] H K X:=by
 obtain⟨c,hc,hm⟩:∃c,cs[0]?=some c/\c∈[46,97,49]:=by
  simp only[lE,mem_cons,not_mem_nil,or_false]at hs
  rcases hs with rfl | rfl | rfl | rfl<;>exact⟨_,rfl,by decide⟩
 refine fM G h (by lia) hL (d8 (i:=0) hc) ?_;have h1:=bp (o':=bX (M++cs++B) M.length) h;rw[<-fL (o:=bX (M++cs++B) M.length)]at k;generalize H.set L (bX (M++cs++B) M.length)=H1 at k h1;exact Fh h1 hm (I7 G h1 hl bC hs k)
noncomputable def Tw:PE:=.bool true (.k (.cmp (.var 2) .Lt (.call (.glb 0) (.k (.attr (.var 0) 0) .z))) (.k (.cmp (.idx (.attr (.var 0) 0) (.var 2)) .NotIn (.glb 33)) .z))
def I8{xs:XS}{at_:Nat}{KB:Bool->Hp->Prop}(h:H[L]?=some (bX U p))(hl:U.length<=1000)(k:KB (match U[at_]? with | some c=>!decide (c∈dZ) | none=>false) H):oY C Tw xs [some (.ref L),x1,some (.int (at_:Nat)),x3,x4] H KB:=by
 rw[sD]
 by_cases q:at_<U.length
 .rw[zo q]at k
  have k:KB (!decide (U[at_]∈dZ)) H:=k;have e1:ac H .NotIn (.str [U[at_]]) (.str [32,10,9,13,12,40,41,34,59])=some (!decide (U[at_]∈dZ)):=EF;simp only[Tw,nk,lc,bI h,gv,len_str hl,ltN,decide_eq_true q,reduceIte,gO q hl,e1]
  cases hq:(!decide (U[at_]∈dZ))with
  |true=>rw[hq]at k;simp only[reduceIte];exact k
  |false=>rw[hq]at k;simp only[false_eq_true,reduceIte,Bool.not_true];exact k
 .rw[getElem?_eq_none (Nat.not_lt.mp q)]at k
  simp only[Tw,nk,lc,bI h,gv,len_str hl,ltN,decide_eq_false q,false_eq_true,reduceIte,Bool.not_true];exact k
def Ba(bC:B=[]\/∃r,B=32::r):(match (M++cs++B)[M.length+cs.length]? with | some c=>!decide (c∈dZ) | none=>false)=false:=by
 rw[zk (by rw[zV];exact zv _),zV,sub_self]
 rcases bC with rfl |⟨r,rfl⟩<;>rfl
def Fj(G:Gd W)(h:H[L]?=some (bX (M++[35,92,40]++B) p))(hl:(M++[35,92,40]++B).length<=900)(hL:iC (M++[35,92,40]++B) p M.length)(bC:B=[]\/∃r,B=32::r)(k:∀Z,K (.obj 568 [.str [99,104,97,114],.obj 170 [.int 40],.int (M.length:Nat),.int ((M.length+3:Nat):Int)]) (H.set L (bX (M++[35,92,40]++B) (M.length+3))++Z)):Call W (d+6) 650 [.ref L] H K X:=by
 have hlen:M.length+3<=(M++[35,92,40]++B).length:=by simp
 refine fM G h (by lia) hL (d8 (i:=0) rfl) ?_;have h1:=bp (o':=bX (M++[35,92,40]++B) M.length) h;have ha:=second (M:=M) (B:=B) (c1:=35) (c2:=92) (r:=[40]);have hst:=Ba (M:=M) (cs:=[35,92,40]) bC;have hown:((M++[35,92,40]++B).drop (M.length+2)).take (M.length+3-(M.length+2))=[40]:=by
  rw[zj,drop_append,z8 (by lia),show M.length+2-M.length=2 by lia,show M.length+3-(M.length+2)=1 by lia]
  rfl
 rw[<-fL (o:=bX (M++[35,92,40]++B) M.length)]at k;generalize M++[35,92,40]++B=U at *;generalize H.set L (bX U M.length)=H1 at k h1;refine lC h1 ?_;refine cf (l:=[some (.ref L),none,none,none]) G (by decide) rfl rfl ?_;simp only[Gw,Gv,nk,lc,cg h1,bI h1,kh (show M.length<=1000 by lia),rJ (show M.length<=1000 by lia),gQ (show M.length+1<=1000 by lia) (show M.length+2<=1000 by lia) (show U.length<=1000 by lia),ha,gv,wfn];refine gP G (cs:=[92]) (λb m=>by rw[zp.mp m];kernel_rfl) (by decide) λZ=>?_;have h2:=aW (Z:=Z) h1;have e1:ac (H1++Z) .Eq (.str [92]) (.str [40])=some false:=rfl;have e2:ac (H1++Z) .Eq (.str [92]) (.str [116])=some false:=rfl;have e3:ac (H1++Z) .Eq (.str [92]) (.str [102])=some false:=rfl;have e4:ac (H1++Z) .Eq (.str [92]) (.str [92])=some true:=rfl;have hk:((ax 702 34).isSome&&decide (34<51)&&(ja U M.length).all λf=>f.1 != 34)=true:=rfl;have hk30:((ax 702 30).isSome&&decide (30<51)&&(ja U M.length).all λf=>f.1 != 30)=true:=rfl;simp only[nk,lc,e1,e2,e3,e4,reduceIte,Bool.not_false,aJ h2 hk,aK h2 (show ax 702 34=some 692 from rfl)];refine cf (l:=[some (.ref L),none,none,none,none]) G (by decide) rfl rfl ?_;have e5:ac (H1++Z) .Eq (.int ((M.length+2:Nat):Int)) (.int (U.length:Nat))=some false:=by rw[Tv,za (by lia)]
 have e6:aT (H1++Z) .Add (.int (M.length:Nat)) (.int 3)=some (.int ((M.length+3:Nat):Int)):=I2 (k:=3) (by lia) (by lia);rw[show Pr.body=(.k (.asg 1 (.attr (.var 0) 25))
 (.k (.ite (.cmp (.bin (.var 1) .Add (.lit (.int 2))) .Eq (.call (.glb 0) (.k (.attr (.var 0) 0) .z))) (.k .bad
 .z) .z)
 (.k (.asg 2 (.bin (.var 1) .Add (.lit (.int 3))))
 (.k (.whil Tw (.k .bad .z))
 (.k (.asg 3 (.slc (.attr (.var 0) 0) (.bin (.var 1) .Add (.lit (.int 2))) (.var 2) (.lit .undef)))
 (.k (.asg 4 (.ite (.cmp (.call (.glb 0) (.k (.var 3) .z)) .Eq (.lit (.int 1))) (.var 3) (.call (.glb 40) (.k (.var 3) .z))))
 (.k (.ite (.cmp (.var 4) .Is (.lit .none)) (.k .bad
 .z) .z)
 (.k (.ret (.meth 30 (.var 0) (.k (.lit (.str [99,104,97,114])) (.k (.call (.glb 39) (.k (.call (.glb 2) (.k (.var 4) .z)) .z)) (.k (.var 2) .z)))))
 .z))))))))from rfl]
 simp only[nk,lc,cg h2,bI h2,rJ (show M.length<=1000 by lia),gv,len_str (show U.length<=1000 by lia),e5,e6];refine⟨1,?_⟩;rw[av];refine I8 h2 (by lia) ?_;rw[show M.length+3=M.length+([35,92,40]:List Nat).length from rfl,hst,uP];have e7:aP (H1++Z) .len [.str [40]]=some (.int 1):=rfl;have e8:ac (H1++Z) .Eq (.int 1) (.int 1)=some true:=rfl;have e9:ac (H1++Z) .Is (.str [40]) .none=some false:=rfl;have e10:aP (H1++Z) .ord [.str [40]]=some (.int 40):=rfl;rw[show M.length+([35,92,40]:List Nat).length=M.length+3 from rfl];simp only[nk,lc,bI h2,rJ (show M.length<=1000 by lia),gQ (show M.length+2<=1000 by lia) (show M.length+3<=1000 by lia) (show U.length<=1000 by lia),hown,gv,e7,e8,e9,aJ h2 hk30,e10];refine Nj G ?_;simp only[nk,lc,aK h2 (show ax 702 30=some 657 from rfl)];refine cB G h2 ?_;simp only[nk];rw[iZ h1];exact k Z
end
section
variable{d:Nat}{H1:Hp}{L p s c:Nat}{U M B cs:List Nat}
def V8{a b:Nat}:ac H .GtE (.int (a:Nat)) (.int (b:Nat))=some (decide (b<=a)):=by rw[Nk];congr 1;rw[decide_eq_decide];lia
def NJ(G:Gd W)(k:K (.obj 191 [.lst [.int 115]]) H):Call W (d+2) 221 [.str [115]] H K X:=by
 refine cf (l:=[some (.str [115])]) G (by decide) rfl rfl ?_;have e1:fG 1 H (.str [115])=some ([.str [115]],H):=rfl;have e2:aP H .ord [.str [115]]=some (.int 115):=rfl;simp only[OQ,OP,nk,lc,gv,iy e1 rfl,bi,b9,e2,nil_append];refine mkText G ?_;simp only[nk];exact k
def wc(G:Gd W)(h:H[L]?=some (bX (M++[34,115,34]++B) p))(hl:(M++[34,115,34]++B).length<=900)(hL:iC (M++[34,115,34]++B) p M.length)(k:∀Z,K (.obj 568 [.str [115,116,114,105,110,103],.obj 191 [.lst [.int 115]],.int (M.length:Nat),.int ((M.length+3:Nat):Int)]) (H.set L (bX (M++[34,115,34]++B) (M.length+3))++Z)):Call W (d+6) 650 [.ref L] H K X:=by
 have hlen:M.length+3<=(M++[34,115,34]++B).length:=by simp
 refine fM G h (by lia) hL (d8 (i:=0) rfl) ?_;have h1:=bp (o':=bX (M++[34,115,34]++B) M.length) h;have g1:=d8 (M:=M) (B:=B) (cs:=[34,115,34]) (i:=1) (c:=115) rfl;have g2:=d8 (M:=M) (B:=B) (cs:=[34,115,34]) (i:=2) (c:=34) rfl;rw[<-fL (o:=bX (M++[34,115,34]++B) M.length)]at k;generalize M++[34,115,34]++B=U at *;generalize H.set L (bX U M.length)=H1 at k h1;refine wb h1 ?_;refine cf (l:=[some (.ref L),none,none,none,none]) G (by decide) rfl rfl ?_;rw[show Pt.body=(.k (.asg 1 (.attr (.var 0) 25))
 (.k (.asg 2 (.listO .z))
 (.k (.asg 3 (.bin (.var 1) .Add (.lit (.int 1))))
 (.k (.whil (.lit (.bool true)) Ps)
 .z))))from rfl]
 simp only[nk,lc,cg h1];have h2:=aW (Z:=[O.list []]) h1;have hj:(H1++[O.list []])[H1.length]?=some (.list []):=fu;have hsl:(H1++[O.list []]).set H1.length (.list [.str [115]])=H1++[O.list [.str [115]]]:=oi;simp only[kh (show M.length<=1000 by lia),nk,lc];have hs1:M.length+1<U.length:=by lia
 have hs2:M.length+2<U.length:=by lia
 have t1:U[M.length+1]=115:=by rw[zo hs1]at g1;exact Option.some.inj g1
 have t2:U[M.length+2]=34:=by rw[zo hs2]at g2;exact Option.some.inj g2
 have i1:∀H':Hp,bY H' (.str U) (.int ((M.length+1:Nat):Int))=some (.str [115]):=λH'=>by rw[gO hs1 (by lia),t1]
 have i2:∀H':Hp,bY H' (.str U) (.int ((M.length+2:Nat):Int))=some (.str [34]):=λH'=>by rw[gO hs2 (by lia),t2]
 have e1:∀H':Hp,ac H' .GtE (.int ((M.length+1:Nat):Int)) (.int (U.length:Nat))=some false:=λH'=>by rw[V8,za (by lia)]
 have e2:∀H':Hp,ac H' .GtE (.int ((M.length+2:Nat):Int)) (.int (U.length:Nat))=some false:=λH'=>by rw[V8,za (by lia)]
 have e3:∀H':Hp,ac H' .Eq (.str [115]) (.str [34])=some false:=λ_=>rfl;have e4:∀H':Hp,ac H' .Eq (.str [115]) (.str [92])=some false:=λ_=>rfl;have e5:∀H':Hp,ac H' .Eq (.str [34]) (.str [34])=some true:=λ_=>rfl;have a1:∀H':Hp,aT H' .Add (.int ((M.length+1:Nat):Int)) (.int 1)=some (.int ((M.length+2:Nat):Int)):=λH'=>kh (i:=M.length+1) (by lia);have a2:∀H':Hp,aT H' .Add (.int ((M.length+2:Nat):Int)) (.int 1)=some (.int ((M.length+3:Nat):Int)):=λH'=>kh (i:=M.length+2) (by lia);have h3:=aW (Z:=[O.list [.str [115]]]) h1;have hj3:(H1++[O.list [.str [115]]])[H1.length]?=some (.list [.str [115]]):=fu;have hr3:V.res (H1++[O.list [.str [115]]]) (.ref H1.length)=.lst (dN [115]):=d6 hj3;have hk30:((ax 702 30).isSome&&decide (30<51)&&(ja U M.length).all λf=>f.1 != 30)=true:=rfl;refine⟨2,?_⟩;rw[av,sD,Cq,sq,nc,sE];generalize hKF:sw (oY (Call W (d+4)) (.lit (.bool true)) (br g6)) (qu (Call W (d+4)) Ps (br g6)) 1 _=KF;simp only[Ps,nk,lc,bI h2,gv,len_str (show U.length<=1000 by lia),e1,i1,e3,e4,cD hj,cF hj hj rfl,nil_append,hsl,a1];rw[<-hKF,qv,av,sD,Cq,sq,nc,sE];simp only[Ps,nk,lc,bI h3,gv,wfn,len_str (show U.length<=1000 by lia),e2,i2,e5,aJ h3 hk30,jz,jA,uf hr3 (by decide)];refine NJ G ?_;simp only[nk,lc,a2,aK h3 (show ax 702 30=some 657 from rfl)];refine cB G h3 ?_;simp only[nk];rw[iZ h1];exact k _
end
def Fn:Tk->V×V
 |.o=>(.str [40],.none)
 |.v=>(.str [35,40],.none)
 |.c=>(.str [41],.none)
 |.d=>(.str [46],.none)
 |.q k=>(.str (qs k),.none)
 |.a k=>match k with
  |0=>(ol,.str [97])
  |1=>(.str [110,117,109,98,101,114],.int 12)
  |2=>(.str [98,111,111,108,101,97,110],.bool true)
  |3=>(.str [115,116,114,105,110,103],.obj 191 [.lst [.int 115]])
  |4=>(.str [99,104,97,114],.obj 170 [.int 40])
  |5=>(.str [110,117,109,98,101,114],.obj 400 [.int 1,.int 2])
def gr(t:Tk)(s:Nat):V:=.obj 568 [(Fn t).1,(Fn t).2,.int (s:Nat),.int ((s+t.s.length:Nat):Int)]
section
variable{d:Nat}{L p:Nat}{M B:List Nat}
def U0(W:Wd)(d:Nat)(t:Tk):Prop:=∀{K:KP} {X:XP} {H:Hp} {L p:Nat} {M B:List Nat},H[L]?=some (bX (M++t.s++B) p)->(M++t.s++B).length<=900->iC (M++t.s++B) p M.length->(B=[]\/∃r,B=32::r)->(∀Z,K (gr t M.length) (H.set L (bX (M++t.s++B) (M.length+t.s.length))++Z))->Call W (d+8) 650 [.ref L] H K X
def p8{K:KP}{H:Hp}(k:∀Z,K v (H++Z)):K v H:=by
 have:=k []
 rwa [zJ]at this
def RZ(G:Gd W)(t:Tk):U0 W d t:=by
 cases t with
 |o=>exact λh hl hL _ k=>mG G h hl hL (by decide) (p8 k)
 |v=>exact λh hl hL _ k=>I3 G h hl hL k
 |c=>exact λh hl hL _ k=>mG G h hl hL (by decide) (p8 k)
 |d=>exact λh hl hL bC k=>ku G h hl hL bC (by decide) k
 |q kk=>
  induction kk using gJ with
  |h0=>exact λh hl hL _ k=>mG G h hl hL (by decide) (p8 k)
  |h1=>exact λh hl hL _ k=>mG G h hl hL (by decide) (p8 k)
  |h2=>exact λh hl hL bC k=>A8 G h hl hL bC (p8 k)
  |h3=>exact λh hl hL _ k=>wa G h hl hL (p8 k)
 |a kk=>
  induction kk using fF with
  |h0=>exact λh hl hL bC k=>ku G h hl hL bC (by decide) k
  |h1=>exact λh hl hL bC k=>ku G h hl hL bC (by decide) k
  |h2=>exact λh hl hL _ k=>Fi G h hl hL k
  |h3=>exact λh hl hL _ k=>wc G h hl hL k
  |h4=>exact λh hl hL bC k=>Fj G h hl hL bC k
  |h5=>exact λh hl hL bC k=>ku G h hl hL bC (by decide) k
def I9(G:Gd W)(t:Tk)(h:H[L]?=some (bX (M++t.s++B) p))(hl:(M++t.s++B).length<=900)(hL:iC (M++t.s++B) p M.length)(bC:B=[]\/∃r,B=32::r)(k:∀Z,K (gr t M.length) (H.set L (bX (M++t.s++B) (M.length+t.s.length))++Z)):Call W (d+8) 650 [.ref L] H K X:=RZ G t h hl hL bC k
end
def Keeps(S:List Nat)(H H':Hp):Prop:=∀a o,a∉S->H[a]?=some o->H'[a]?=some o
def Keeps.refl{S:List Nat}:Keeps S H H:=λ_ _ _ h=>h
def Keeps.trans{S:List Nat}(a:Keeps S H H')(b:Keeps S H' H''):Keeps S H H'':=λx o n h=>b x o n (a x o n h)
def Keeps.app{S:List Nat}{H Z:Hp}:Keeps S H (H++Z):=λ_ _ _ h=>aW h
def Keeps.set{S:List Nat}{H:Hp}{n:Nat}(h:n∈S):Keeps S H (H.set n o):=λa _ na e=>by
 rw[zD (λq=>na (by rw[<-q];exact h))];exact e
def Keeps.mono{S S':List Nat}(a:Keeps S H H')(h:∀x∈S,x∈S'):Keeps S' H H':=λx o n e=>a x o (λq=>n (h x q)) e
structure g8(H:Hp)(T R Dc:Nat)(ks:List (List Nat))(ms:List Nat):Prop where
 t:H[T]?=some (.inst 128 [(3,.ref R),(2,.ref Dc)])
 r:∃vs,H[R]?=some (.list vs)/\vs.length=ks.length
 d:H[Dc]?=some (.dict ks (ms.map V.ref))
 l:ks.length=ms.length
 s:∀(i:Nat) (k:List Nat) (m:Nat),ks[i]?=some k->ms[i]?=some m->∃n:V,H[m]?=some (O.inst 65 [(1,n),(0,V.str k)])
def ym{ks:List (List Nat)}:∀{ms:List Nat} {k:List Nat},ks.length=ms.length->(dictGet ks (ms.map .ref) k=none/\k∉ks/\∀v,dictPut ks (ms.map .ref) k v=(ks++[k],ms.map .ref++[v]))\/∃(i m:Nat),dictGet ks (ms.map V.ref) k=some (V.ref m)/\ks[i]?=some k/\ms[i]?=some m:=by
 induction ks with
 |nil=>
  intro l2
  cases l2 with
  |nil=>
   intro k _;exact .inl ⟨rfl,by simp,λ_=>rfl⟩
  |cons _ _=>
   intro _ h;simp at h
 |cons a ks ih=>
  intro l2
  cases l2 with
  |nil=>
   intro _ h;simp at h
  |cons m ms=>
   intro k h
   by_cases q:a=k
   .subst q
    exact .inr ⟨0,m,by simp[dy,dz],rfl,rfl⟩
   .rcases ih (ms:=ms) (k:=k) (by simpa using h)with ⟨h1,h2,h3⟩ |⟨i,m',h1,h2,h3⟩
    .refine .inl ⟨by simp[dy,dz,q,h1],by simp[h2,Ne.symm q],λv=>?_⟩
     have:=h3 v;simp only[map_cons,cU,if_neg q,this,cons_append]
    .exact .inr ⟨i+1,m',by simp[dy,dz,q,h1],h2,h3⟩
def Sy(ks:List (List Nat))(ms:List Nat)(k:List Nat)(v:V):Prop:=∃m,v=.ref m/\dictGet ks (ms.map V.ref) k=some (.ref m)
def Fo{ks:List (List Nat)}:∀{ms:List V} {k k2:List Nat} {v w:V},dictGet ks ms k=some v->dictGet (ks++[k2]) (ms++[w]) k=some v:=by
 induction ks with
 |nil=>
  intro l2
  cases l2 with
  |nil=>
   intro _ _ _ _ h;injection h
  |cons _ _=>
   intro _ _ _ _ h;injection h
 |cons a ks ih=>
  intro l2
  cases l2 with
  |nil=>
   intro _ _ _ _ h;injection h
  |cons m ms=>
   intro k k2 v w h
   by_cases q:a=k
   .simpa[dy,dz,q]using h
   .simp only[dy,dz,if_neg q,cons_append]at h ⊢
    exact ih h
def Ja{ks:List (List Nat)}:∀{ms:List V} {k:List Nat} {w:V},ks.length=ms.length->dictGet ks ms k=none->dictGet (ks++[k]) (ms++[w]) k=some w:=by
 induction ks with
 |nil=>
  intro l2
  cases l2 with
  |nil=>
   intro _ _ _ _;simp[dy,dz]
  |cons _ _=>
   intro _ _ h _;simp at h
 |cons a ks ih=>
  intro l2
  cases l2 with
  |nil=>
   intro _ _ h _;simp at h
  |cons m ms=>
   intro k w h e
   by_cases q:a=k
   .simp[dy,dz,q]at e
   .simp only[dy,dz,if_neg q,cons_append]at e ⊢
    exact ih (by simpa using h) e
section
variable{C:ba}{l lo:Loc}{H1:Hp}{T R Dc:Nat}{ks:List (List Nat)}{ms:List Nat}{vs:List V}
def lF(h:H[Dc]?=some (.dict ks vs))(args):cq C X l lo 5 args K (.ref Dc) H=fQ C X args l lo H (cJ C X 5 (.ref Dc) H K):=by
 refine bK C X l lo H K ?_ args;exact mU h
def lG{k:List Nat}{x:V}(h:H[Dc]?=some (.dict ks vs)):bD C X 5 (.ref Dc) H [.str k,x] H K=K ((dictGet ks vs k).getD x) H:=by
 exact kP C X H K (mV h) rfl (by rw[jL h];exact succ_ne_zero _) (P9 h)
def yn(h:H[T]?=some (.inst 128 [(3,.ref R),(2,.ref Dc)])):aR H (.ref T) 3=some (.ref R):=dq h
def mI(h:H[T]?=some (.inst 128 [(3,.ref R),(2,.ref Dc)])):aR H (.ref T) 2=some (.ref Dc):=dq h
end
section
variable{d:Nat}{T R Dc:Nat}{ks:List (List Nat)}{ms:List Nat}
def Fp(G:Gd W)(h:g8 H T R Dc ks ms){k:List Nat}(c:K ((dictGet ks (ms.map .ref) k).getD .none) H):Call W (d+1) 111 [.ref T,.str k] H K X:=by
 refine cf (l:=[some (.ref T),some (.str k)]) G (by decide) rfl rfl ?_;simp only[OG,OF,nk,lc,mI h.t,lF h.d,lG h.d,LE];exact c
end
section
variable{d:Nat}{T R Dc:Nat}{ks:List (List Nat)}{ms:List Nat}
def g8.ne(h:g8 H T R Dc ks ms):T≠R/\T≠Dc/\R≠Dc:=by
 obtain⟨vs,hr,-⟩:=h.r;refine⟨?_,?_,?_⟩
 .rintro rfl;have:=h.t;rw[hr]at this;injection this
 .rintro rfl;have:=h.t;rw[h.d]at this;injection this
 .rintro rfl;have:=h.d;rw[hr]at this;injection this
def g8.sym_ne(h:g8 H T R Dc ks ms){i:Nat}{k:List Nat}{m:Nat}(h1:ks[i]?=some k)(h2:ms[i]?=some m):m≠R/\m≠Dc:=by
 obtain⟨n,hs⟩:=h.s i k m h1 h2;obtain⟨vs,hr,-⟩:=h.r;refine⟨?_,?_⟩
 .rintro rfl;rw[hr]at hs;injection hs
 .rintro rfl;rw[h.d]at hs;injection hs
def g8.keeps{S:List Nat}(h:g8 H T R Dc ks ms)(kp:Keeps S H H')(hT:T∉S)(hR:R∉S)(hD:Dc∉S)(hm:∀m∈ms,m∉S):g8 H' T R Dc ks ms:=by
 obtain⟨vs,hr,hl⟩:=h.r;refine⟨kp _ _ hT h.t,⟨vs,kp _ _ hR hr,hl⟩,kp _ _ hD h.d,h.l,λi k m h1 h2=>?_⟩;obtain⟨n,hs⟩:=h.s i k m h1 h2;exact⟨n,kp _ _ (hm m (mem_of_getElem? h2)) hs⟩
def oK(G:Gd W)(h:g8 H T R Dc ks ms)(hk:ks.length<=900){k:List Nat}(c:∀(H':Hp) (bQ:List (List Nat)) (bU:List Nat) (v:V),g8 H' T R Dc bQ bU->(∀k v,Sy ks ms k v->Sy bQ bU k v)->bQ.length<=ks.length+1->Sy bQ bU k v->Keeps [R,Dc] H H'->K v H'):Call W (d+2) 90 [.ref T,.str k] H K X:=by
 refine cf (l:=[some (.ref T),some (.str k),none]) G (by decide) rfl rfl ?_;obtain⟨vs,hr,hrl⟩:=h.r;obtain⟨n1,n2,n3⟩:=h.ne
 rcases ym (k:=k) h.l with ⟨g1,g2,g3⟩ |⟨i,m,g1,g2,g3⟩
 .have e1:ac H .Is .none .none=some true:=rfl
  have hlen:aP H .len [.ref R]=some (.int (vs.length:Nat)):=BW (hM hr) (ai (show vs.length<=900 by lia) (by lia));simp only[TL,TK,nk,lc,mI h.t,lF h.d,lG h.d,g1,Option.getD_none,e1,yn h.t,gv,hlen];refine EE G ?_;have t1:=aW (Z:=[O.inst 65 [(1,.int (vs.length:Nat)),(0,.str k)]]) h.t;have r1:=aW (Z:=[O.inst 65 [(1,.int (vs.length:Nat)),(0,.str k)]]) hr;have d1:=aW (Z:=[O.inst 65 [(1,.int (vs.length:Nat)),(0,.str k)]]) h.d;have s1:(H++[O.inst 65 [(1,.int (vs.length:Nat)),(0,.str k)]])[H.length]?=some (O.inst 65 [(1,.int (vs.length:Nat)),(0,.str k)]):=fu;have kp1:Keeps [R,Dc] H (H++[O.inst 65 [(1,.int (vs.length:Nat)),(0,.str k)]]):=Keeps.app;have lR:=(zu.mp hr).1;have lD:=(zu.mp h.d).1;generalize H++[O.inst 65 [(1,.int (vs.length:Nat)),(0,.str k)]]=H1 at *;have hf:aj vs.length=true:=ai (show vs.length<=900 by lia) (by lia);have t2:(H1.set R (.list (vs++[.ref H.length])))[T]?=some (.inst 128 [(3,.ref R),(2,.ref Dc)]):=by rw[zD (z6 n1)];exact t1
  have d2:(H1.set R (.list (vs++[.ref H.length])))[Dc]?=some (.dict ks (ms.map V.ref)):=by rw[zD n3];exact d1
  have r2:(H1.set R (.list (vs++[.ref H.length])))[R]?=some (.list (vs++[.ref H.length])):=bp r1;have s2:(H1.set R (.list (vs++[.ref H.length])))[H.length]?=some (O.inst 65 [(1,.int (vs.length:Nat)),(0,.str k)]):=by rw[zD (by lia)];exact s1
  have kp2:=kp1.trans (Keeps.set (S:=[R,Dc]) (H:=H1) (n:=R) (o:=.list (vs++[.ref H.length])) (by simp));simp only[nk,lc,yn t1,cD r1,cF r1 r1 hf];generalize H1.set R (.list (vs++[.ref H.length]))=H2 at *;have e2:ek H2 (.ref Dc) (.str k) (.ref H.length)=some (H2.set Dc (.dict (ks++[k]) ((ms++[H.length]).map V.ref))):=by
   rw[qr d2];refine (if_pos (by lia)).trans ?_;rw[g3,map_append]
   rfl
  simp only[nk,lc,mI t2,jk,e2];have kp3:=kp2.trans (Keeps.set (S:=[R,Dc]) (H:=H2) (n:=Dc) (o:=.dict (ks++[k]) ((ms++[H.length]).map V.ref)) (by simp));refine c _ (ks++[k]) (ms++[H.length]) (.ref H.length) ⟨?_,⟨vs++[V.ref H.length],?_,?_⟩,bp d2,?_,λi k' m' q1 q2=>?_⟩ (λk' v q=>?_) (by simp) ⟨H.length,rfl,?_⟩ kp3
  .rw[zD (z6 n2)];exact t2
  .rw[zD (z6 n3)];exact r2
  .simp[hrl]
  .simp[h.l]
  .by_cases q:i<ks.length
   .rw[zK q]at q1
    rw[zK (by rw[<-h.l];exact q)]at q2;obtain⟨n,hs⟩:=h.s i k' m' q1 q2;obtain⟨z1,z2⟩:=h.sym_ne q1 q2;exact⟨n,kp3 _ _ (by simp[z1,z2]) hs⟩
   .have hi:i<(ks++[k]).length:=(zu.mp q1).1
    have:i=ks.length:=by simp at hi;lia
    subst this;simp only[getElem?_append_right (Nat.le_refl _),sub_self,List.getElem?_cons_zero,Option.some.injEq]at q1;rw[h.l,zk (zv _),sub_self]at q2;simp only[List.getElem?_cons_zero,Option.some.injEq]at q2;subst q1 q2;exact⟨_,by rw[zD (by lia)];exact s2⟩
  .obtain⟨m,rfl,q2⟩:=q
   refine⟨m,rfl,?_⟩;rw[map_append];exact Fo q2
  .rw[map_append]
   exact Ja (by rw[zM];exact h.l) g1
 .have e1:ac H .Is (.ref m) .none=some false:=rfl
  simp only[TL,TK,nk,lc,mI h.t,lF h.d,lG h.d,g1,getD_some,e1];exact c H ks ms (.ref m) h (λ_ _ q=>q) (by lia) ⟨m,rfl,g1⟩ Keeps.refl
def iD{c k:Nat}{fs:List (Nat×V)}{KS:KS}(h:((cI c).contains k&&decide (fs.length<=100))=true):fb k v l KS (.ref H.length) (H++.inst c fs::Z)=KS .next l (H++.inst c (hJ fs k v)::Z):=by
 have g:(H++O.inst c fs::Z)[H.length]?=some (.inst c fs):=by rw[zk (zv _),sub_self];rfl
 have e:cP (H++.inst c fs::Z) (.ref H.length) k v=some (H++.inst c (hJ fs k v)::Z):=by
  rw[kK g,if_pos h,List.set_append_right _ _ (zv _),sub_self]
  rfl
 simp only[fb,e]
def Jb(G:Gd W)(c:K (.ref H.length) (H++[.inst 128 [(3,.ref (H.length+1)),(2,.ref (H.length+2))],.list [],.dict [] []])):ag (Call W (d+1)) X (.base 128) [] H K:=by
 simp only[wnw];refine cf (l:=[some (.ref H.length)]) G (by decide) rfl rfl ?_;simp only[VR,VQ,nk,lc,append_assoc,cons_append,nil_append,length_append,length_cons,length_nil];rw[iD rfl];simp only[nk,lc,append_assoc,cons_append,nil_append,length_append,length_cons,length_nil];rw[iD rfl];simp only[nk];exact⟨trivial,c⟩
end
noncomputable abbrev oM(w:V)(s:Nat)(th:V)(st:Int)(tl:V):O:=.inst 723 [(21,w),(19,.int (s:Nat)),(10,th),(36,.int st),(35,tl)]
section
variable{d:Nat}
def rK(G:Gd W){s:Nat}(c:K (.ref H.length) (H++[oM w s th 0 (.base 44)])):ag (Call W (d+1)) X (.base 723) [w,.int (s:Nat),th] H K:=by
 simp only[wnw];refine cf (l:=[some (.ref H.length),some w,some (.int (s:Nat)),some th]) G (by decide) rfl rfl ?_;simp only[Pv,Pu,nk,lc];rw[ao rfl];simp only[nk,lc];rw[ao rfl];simp only[nk,lc];rw[ao rfl];simp only[nk,lc,gv];rw[ao rfl];simp only[nk,lc,gv];rw[ao rfl];simp only[nk];exact⟨trivial,c⟩
def Jc(G:Gd W){U:List Nat}(c:K (.ref H.length) (H++[bX U 0])):ag (Call W (d+1)) X (.base 702) [.str U,.int 53,.bool true] H K:=by
 simp only[wnw];refine cf (l:=[some (.ref H.length),some (.str U),some (.int 53),some (.bool true)]) G (by decide) rfl rfl ?_;simp only[Pf,Pe,nk,lc];rw[ao rfl];simp only[nk,lc];rw[ao rfl];simp only[nk,lc];rw[ao rfl];simp only[nk,lc];rw[ao rfl];simp only[nk];exact⟨trivial,c⟩
def uh(G:Gd W){U:List Nat}{T:Nat}(c:K (.ref H.length) (H++[.inst 808 [(39,.ref (H.length+1)),(38,.ref T),(37,.ref (H.length+2))],bX U 0,.list []])):ag (Call W (d+2)) X (.base 808) [.str U,.ref T,.int 53,.bool true] H K:=by
 simp only[wnw];refine cf (l:=[some (.ref H.length),some (.str U),some (.ref T),some (.int 53),some (.bool true)]) G (by decide) rfl rfl ?_;simp only[Px,Pw,nk,lc,gv];refine Jc G ?_;simp only[nk,lc,append_assoc,cons_append,nil_append,length_append,length_cons,length_nil];rw[iD rfl];simp only[nk,lc];rw[iD rfl];simp only[nk,lc,append_assoc,cons_append,nil_append,length_append,length_cons,length_nil];rw[iD rfl];simp only[nk];exact⟨trivial,c⟩
end
noncomputable def bJ:List V->V->V
 |[],t=>t
 |v::r,t=>.obj 149 [v,bJ r t]
theorem Jd:bJ [] t=(t):=rfl
theorem rL:bJ (v::r) t=(.obj 149 [v,bJ r t]):=rfl
section
variable{d:Nat}{v t:V}{vs:List V}
def wd{i:Int}{n:Nat}(h1:aD i=true)(hn:(i+1).toNat=n):dJ (.rng i (-1) (-1))=some (gW i n):=by
 subst hn;have s2:aD (-1)=true:=by decide
 have e:dJ (.rng i (-1) (-1))=if aD i&&aD (-1) then (if (-1:Int)=1 then some (rX i (-1-i).toNat) else if (-1:Int)=-1 then some (gW i (i - -1).toNat) else none) else none:=rfl;rw[e,if_pos (by rw[h1,s2];rfl),if_neg (by decide),if_pos rfl,show i - -1=i+1 by lia]
def Bb(G:Gd W)(hv:v.res H=.lst vs)(hl:vs.length<=900)(n:Nat):∀(i:Int) (a1 a3:Option V) (KS:KS),i+1=(n:Nat)->n<=vs.length->(∀b3,KS .next [some v,a1,some (bJ vs t),b3] H)->fN (cr (Call W (d+1)) [3] OR) (gW i n) [some v,a1,some (bJ (vs.drop n) t),a3] H KS:=by
 induction n with
 |zero=>
  intro i a1 a3 KS hi hn k;exact k a3
 |succ n ih=>
  intro i a1 a3 KS hi hn k;have hin:i=(n:Nat):=by lia
  subst hin;rw[ml,aY,dG];have e:bY H v (.int (n:Nat))=some (vs[n]'(by lia)):=by rw[jy hv (by lia) (by lia),zo (by lia)]
  generalize hKF:m9 (cr (Call W (d+1)) [3] OR) _ KS=KF;simp only[OR,nk,lc,gv,e];refine Ni G ?_;simp only[nk,lc];rw[<-hKF,eN];have:=ih ((n:Int) - 1) a1 (some (.int (n:Nat))) KS (by lia) (by lia) k;rw[List.drop_eq_getElem_cons (show n<vs.length by lia)]at this;exact this
def p9(G:Gd W)(hv:v.res H=.lst vs)(hl:vs.length<=900)(c:K (bJ vs t) H):dT (Call W (d+1)) KX.body [some v,some t,none,none] H (eM K) (br X):=by
 have e1:aP H .len [v]=some (.int (vs.length:Nat)):=BW hv (ai hl (by lia));have e2:aT H .Sub (.int (vs.length:Nat)) (.int 1)=some (.int ((vs.length:Int) - 1)):=RT (fz (sm (by lia) (by lia)) (by decide));have s1:aD ((vs.length:Int) - 1)=true:=sm (by lia) (by lia);have e3:∀(C:ba) (X:XP) (K:KP),ag C X (.ty .range) [.int ((vs.length:Int) - 1),.int (-1),.int (-1)] H K=K (.rng ((vs.length:Int) - 1) (-1) (-1)) H:=λC X K=>by
  have:Bq H .range [.int ((vs.length:Int) - 1),.int (-1),.int (-1)]=some (.rng ((vs.length:Int) - 1) (-1) (-1)):=if_pos (by rw[s1];rfl);rw[hV C X H K trivial,this,Cr]
 rw[show KX.body=.k (.asg 2 (.var 1)) (.k (.for_ [3] (.call (.glb 4) (.k (.bin (.call (.glb 0) (.k (.var 0) .z)) .Sub (.lit (.int 1))) (.k (.lit (.int (-1))) (.k (.lit (.int (-1))) .z)))) OR) (.k (.ret (.var 2)) .z))from rfl];simp only[nk,lc,gv,e1,e2,e3];rw[hY _ _ _ _ (wd s1 (n:=vs.length) (by lia))];have:=Bb (d:=d) (t:=t) G hv hl vs.length ((vs.length:Int) - 1) (some t) none (jM (Call W (d+1)) (.k (.ret (.var 2)) .z) (eM K) (br X)) (by lia) (zv _) (λb3=>by simp only[nk,lc];exact c);rw[z8 (zv _)]at this;exact this
def oN(G:Gd W)(hv:v.res H=.lst vs)(hl:vs.length<=900)(c:K (bJ vs t) H):Call W (d+2) 229 [v,t] H K X:=cf G (by decide) rfl rfl (p9 G hv hl c)
def Bc(G:Gd W)(hv:v.res H=.lst vs)(hl:vs.length<=900)(c:K (bJ vs (.base 44)) H):Call W (d+2) 229 [v] H K X:=cf (l:=[some v,some (.base 44),none,none]) G (by decide) rfl rfl (p9 G hv hl c)
end
noncomputable abbrev we(L T F:Nat):O:=.inst 808 [(39,.ref L),(38,.ref T),(37,.ref F)]
inductive Fk where
 |lst | vec | quo
def Fk.w:Fk->List Nat
 |.lst=>[108,105,115,116]
 |.vec=>[118,101,99,116,111,114]
 |.quo=>[113,117,111,116,97,116,105,111,110]
structure Fr where
 fa:Nat
 th:Nat
 k:Fk
 s:Nat
 things:List V
 st:Int
 tail:V
structure pi(H:Hp)(f:Fr):Prop where
 o:H[f.fa]?=some (oM (.str f.k.w) f.s (.ref f.th) f.st f.tail)
 t:H[f.th]?=some (.list f.things)
def bP{H:Hp}{a b:Nat}{x y:O}(h1:H[a]?=some x)(h2:H[b]?=some y)(h:x≠y):a≠b:=by
 rintro rfl
 rw[h1]at h2;exact h (Option.some.inj h2)
def aC{H:Hp}{a m:Nat}{x:O}(h:H[a]?=some x)(n:a≠m):(H.set m o)[a]?=some x:=by rw[zD (z6 n)];exact h
def dO{H:Hp}{a:Nat}{x:O}(h:H[a]?=some x):a<H.length:=(zu.mp h).1
structure St(E:Nat->O->Prop)(H:Hp)(A L T F R Dc:Nat)(U:List Nat)(p n:Nat)(gs:List Fr)(ks:List (List Nat))(ms:List Nat):Prop where
 r:H[A]?=some (we L T F)
 l:H[L]?=some (bX U p)
 f:H[F]?=some (.list (gs.reverse.map λg=>V.ref g.fa))
 fr:∀g∈gs,pi H g
 nd:(F::R::gs.map Fr.th).Nodup
 nf:(gs.map Fr.fa).Nodup
 tb:g8 H T R Dc ks ms
 en:∀a o,E a o->H[a]?=some o/\(a≠A/\a≠L/\a≠F/\a≠R/\a≠Dc)/\∀g∈gs,a≠g.fa/\a≠g.th
 bk:ks.length<=n
 bg:gs.length<=n
 bt:∀g∈gs,g.things.length<=n/\g.s<=U.length
section
variable{C:ba}{l lo:Loc}{H1:Hp}{A L T F p:Nat}{U:List Nat}
def oO(h:H[A]?=some (we L T F)):aR H (.ref A) 39=some (.ref L):=dq h
def ui(h:H[A]?=some (we L T F)):aR H (.ref A) 38=some (.ref T):=dq h
def aL(h:H[A]?=some (we L T F)):aR H (.ref A) 37=some (.ref F):=dq h
def NK{F':Nat}(h:H[A]?=some (we L T F)):cP H (.ref A) 37 (.ref F')=some (H.set A (we L T F')):=kK h
def ci{k:Nat}(h:H[A]?=some (we L T F))(hk:((ax 808 k).isSome&&decide (k<51)&&[39,38,37].all λf=>f != k)=true)(args):cq C X l lo k args K (.ref A) H=fQ C X args l lo H (cJ C X k (.ref A) H K):=by
 refine bK C X l lo H K ?_ args;exact (mU h).trans hk
def cj{k a:Nat}(h:H1[A]?=some (we L T F))(hk:ax 808 k=some a)(args):bD C X k (.ref A) H1 args H K=C a (.ref A::args) H K X:=by
 exact iI C X H K (mV h) hk
end
section
variable{d:Nat}{A L T F p:Nat}{U:List Nat}
def Fq(G:Gd W)(h:H[A]?=some (we L T F))(hl:H[L]?=some (bX U p))(c:K (.int (p:Nat)) H):Call W (d+1) 749 [.ref A] H K X:=by
 refine cf (l:=[some (.ref A)]) G (by decide) rfl rfl ?_;simp only[Pz,Py,nk,lc,oO h,cg hl];exact c
end
noncomputable abbrev eQ(w v:V)(s e:Nat):V:=.obj 568 [w,v,.int (s:Nat),.int (e:Nat)]
section
variable{w v:V}{s e:Nat}
theorem eR:aR H (eQ w v s e) 21=some w:=rfl
theorem uj:aR H (eQ w v s e) 20=some v:=rfl
theorem cz:aR H (eQ w v s e) 19=some (.int (s:Nat)):=rfl
end
section
variable{d:Nat}{A L T F p:Nat}{U:List Nat}
def qa{lo:Loc}{args:de}(h:H[T]?=some (.inst 128 [(3,.ref L),(2,.ref F)])):cq C X l lo 49 args K (.ref T) H=fQ C X args l lo H (cJ C X 49 (.ref T) H K):=by
 refine bK C X l lo H K ?_ args;exact mU h
def qb{H1:Hp}{args:List V}(h:H1[T]?=some (.inst 128 [(3,.ref L),(2,.ref F)])):bD C X 49 (.ref T) H1 args H K=C 90 (.ref T::args) H K X:=by
 exact iI C X H K (mV h) rfl
def Je(G:Gd W){w:List Nat}{s e:Nat}(hw:xX w=true)(hn:w≠[115,121,109,98,111,108])(c:K v H):Call W (d+1) 798 [.ref A,eQ (.str w) v s e] H K X:=by
 refine cf (l:=[some (.ref A),some (eQ (.str w) v s e)]) G (by decide) rfl rfl ?_;have e1:ac H .Eq (.str w) (.str [115,121,109,98,111,108])=some false:=by rw[iq hw rfl,za hn]
 simp only[Ll,Lk,nk,lc,eR,uj,e1];exact c
def uk(G:Gd W){R Dc:Nat}{ks:List (List Nat)}{ms:List Nat}{k:List Nat}{s e:Nat}(h:H[A]?=some (we L T F))(ht:g8 H T R Dc ks ms)(hk:ks.length<=900)(c:∀(H':Hp) (bQ:List (List Nat)) (bU:List Nat) (v:V),g8 H' T R Dc bQ bU->(∀k v,Sy ks ms k v->Sy bQ bU k v)->bQ.length<=ks.length+1->Sy bQ bU k v->Keeps [R,Dc] H H'->K v H'):Call W (d+3) 798 [.ref A,eQ ol (.str k) s e] H K X:=by
 refine cf (l:=[some (.ref A),some (eQ ol (.str k) s e)]) G (by decide) rfl rfl ?_;have e1:ac H .Eq ol (.str [115,121,109,98,111,108])=some true:=rfl;simp only[Ll,Lk,nk,lc,eR,uj,e1,ui h,qa ht.t,qb ht.t];refine oK G ht hk λH' bQ bU v a1 a2 a3 a4 a5=>?_;simp only[nk];exact c H' bQ bU v a1 a2 a3 a4 a5
end
set_option genCtorIdx false in
inductive AF where
 |q (k:Fin 4)
 |v (l:List D)
 |l (l:List D)
 |ld (x:D) (l:List D)
 |lt (x:D) (l:List D) (t:D)
gen_injective_theorems% AF
noncomputable def AF.its:AF->List It
 |.q k=>[.w (.q k)]
 |.v xs=>.w .v::xs.map .dat
 |.l xs=>.w .o::xs.map .dat
 |.ld x xs=>.w .o::((x::xs).map .dat++[.w .d])
 |.lt x xs t=>.w .o::((x::xs).map .dat++[.w .d,.dat t])
noncomputable def jg:List AF->List It
 |[]=>[]
 |a::as=>jg as++a.its
theorem dk:jg []=([]):=rfl
theorem dl:jg (a::as)=(jg as++a.its):=rfl
def ul:List AF->D->List AF×D
 |.q k::r,d=>ul r (fO k d)
 |as,d=>(as,d)
noncomputable def WP:List AF->D->Option (List AF)
 |.v l::r,d=>some (.v (l++[d])::r)
 |.l l::r,d=>some (.l (l++[d])::r)
 |.ld x l::r,d=>some (.lt x l d::r)
 |_,_=>none
set_option genCtorIdx false in
inductive Re where
 |err
 |cont (as:List AF)
 |done (d:D)
gen_injective_theorems% Re
def NL(as:List AF)(d:D):Re:=match WP as d with
 |some as=>.cont as
 |none=>.err
def um(as:List AF)(d:D):Re:=match ul as d with
 |([],d)=>.done d
 |(a::as,d)=>NL (a::as) d
def step(as:List AF):Tk->Re
 |.o=>.cont (.l []::as)
 |.v=>.cont (.v []::as)
 |.q k=>.cont (.q k::as)
 |.a k=>um as (.at k)
 |.d=>match as with
  |.l (x::l)::r=>.cont (.ld x l::r)
  |_=>.err
 |.c=>match as with
  |.v l::r=>um r (.ve l)
  |.l l::r=>um r (bO l .em)
  |.lt x l t::r=>um r (bO (x::l) t)
  |_=>.err
def run:List Tk->List AF->List D->Option (List D)
 |[],[],out=>some out
 |[],_::_,_=>none
 |t::ts,as,out=>match step as t with
  |.err=>none
  |.cont eI=>run ts eI out
  |.done d=>run ts [] (out++[d])
theorem V9:run [] [] out=(some out):=rfl
theorem Wa:run [] (w1::w2) w3=(none):=rfl
def Fs:run (t::ts) as out=(match step as t with
  |.err=>none
  |.cont eI=>run ts eI out
  |.done d=>run ts [] (out++[d])):=rfl
def lH:∀{items:List It},(∀x∈items,di x=false)->ca items=none
 |[],_=>rfl
 |x::r,h=>by
  rw[gp,if_neg (by rw[h x zw];decide),lH λy m=>h y (zx _ m)]
  rfl
def qc:∀{b a:List It},(∀x∈b,di x=false)->ca (b++.w .c::a)=some (b,a)
 |[],_,_=>rfl
 |x::r,a,h=>by
  rw[cons_append,gp,if_neg (by rw[h x zw];decide),qc λy m=>h y (zx _ m)]
  rfl
def dP{items:List It}(h:∀x∈items,di x=false):items.countP di=0:=List.countP_eq_zero.mpr λx m=>by rw[h x m];decide
def gt{items:List It}(h:items.countP di=0):∀x∈items,di x=false:=λx m=>by
 have:=List.countP_eq_zero.mp h x m;simpa using this
def Jf:∀{n m:Nat} {items:List It},items.countP di<=n->items.countP di<=m->lp n items=lp m items:=by
 intro n
 induction n with
 |zero=>
  intro m items h h2
  cases m with
  |zero=>rfl
  |succ m=>rw[RQ,IO,lH (gt (le_zero.mp h))]
 |succ n ih=>
  intro m items h1 h2
  cases m with
  |zero=>rw[IO,RQ,lH (gt (le_zero.mp h2))]
  |succ m=>
   rw[ki,ki]
   cases q:turn items with
   |stop=>rfl
   |fail=>rfl
   |go r=>
    have:=ye q;exact ih (m:=m) (by lia) (by lia)
def G(items:List It):Option (List It):=(lp (items.countP di) items).bind fin
def Bd{items:List It}(h:∀x∈items,di x=false):G items=fin items:=by
 unfold G;rw[dP h]
 rfl
def NM{b:List It}(h:∀x∈b,di x=false):G (b++.w .c::a)=match bF b with
  |none=>none
  |some (p,v,s)=>(aw v s).bind λd=>G (p++.dat d::a):=by
 unfold G;have hc:(b++It.w .c::a).countP di=a.countP di+1:=by
  rw[countP_append,countP_cons,dP h];simp[oB,oC,pX]
 rw[hc,IO,qc h];simp only
 cases q:bF b with
 |none=>simp only[q];rfl
 |some t=>
  obtain⟨p,v,s⟩:=t;simp only[q]
  cases aw v s with
  |none=>rfl
  |some d=>
   simp only[bind_some];have hb:=(dj q).1;have hp:p.countP di=0:=dP λx m=>h x (by rw[hb];exact zh _ m);have h2:(p++It.dat d::a).countP di=a.countP di:=by
    rw[countP_append,countP_cons,hp];simp[oB,oC,pX]
   rw[h2]
def eX{x:List It}:∀{y:List It},bF (x++y)=match bF y with
  |some (p,v,s)=>some (x++p,v,s)
  |none=>match bF x with
   |some (p,v,s)=>some (p,v,s++y)
   |none=>none:=by
 induction x with
 |nil=>
  intro y;rw[nil_append]
  cases bF y with
  |none=>rfl
  |some t=>rfl
 |cons a x ih=>
  intro y;rw[cons_append,gM,ih]
  cases bF y with
  |some t=>rfl
  |none=>
   simp only;rw[gM]
   cases bF x with
   |some t=>rfl
   |none=>
    simp only
    cases gL a with
    |none=>rfl
    |some v=>rfl
def kv:∀{b:List It},(∀x∈b,gL x=none)->bF b=none
 |[],_=>rfl
 |x::r,h=>by
  rw[gM,kv λy m=>h y (zx _ m),h x zw]
  rfl
def jD{x:It}(h:gL x=none):bF (x::r)=match bF r with
  |some (p,v,s)=>some (x::p,v,s)
  |none=>none:=by
 rw[gM,h]
 cases bF r with
 |none=>rfl
 |some t=>rfl
def iE{v:Bool}{r:List It}(h:∀x∈r,gL x=none):bF (.w (kD v)::r)=some ([],v,r):=by
 rw[gM,kv h];injection v<;>rfl
def lI:∀{xs ys acc:List It},ql (xs++ys) acc=(ql xs acc).bind (ql ys)
 |[],_,_=>rfl
 |x::xs,ys,acc=>by
  rw[cons_append,tU,tU]
  cases eP x acc with
  |none=>rfl
  |some a=>exact lI
def Kw{p:List It}{k:Fin 4}:quo (p++.w (.q k)::.dat d::a)=quo (p++.dat (fO k d)::a):=by
 unfold quo;rw[show (p++It.w (.q k)::.dat d::a).reverse=a.reverse++([It.dat d,.w (.q k)]++p.reverse) by simp,show (p++It.dat (fO k d)::a).reverse=a.reverse++([It.dat (fO k d)]++p.reverse) by simp,lI,lI]
 congr 1
def WQ:∀(n:Nat) {p a:List It} {k:Fin 4} {d:D},p.countP di+a.countP di<=n->G (p++.w (.q k)::.dat d::a)=G (p++.dat (fO k d)::a):=λn=>by
 induction n with
 |zero=>
  intro p a k d h;have hp:=gt (le_zero.mp (zT (le_add_right _ _) h));have ha:=gt (le_zero.mp (zT (Nat.le_add_left _ _) h));rw[Bd,Bd,fin,fin,Kw]
  .simp only[any_append,any_cons,RN,RO,IJ,IK,isSome_none,Bool.false_or]
  .intro x m
   rcases zH.mp m with m | m
   .exact hp x m
   .rcases zZ.mp m with rfl | m
    .rfl
    .exact ha x m
  .intro x m
   rcases zH.mp m with m | m
   .exact hp x m
   .rcases zZ.mp m with rfl | m
    .rfl
    .rcases zZ.mp m with rfl | m
     .rfl
     .exact ha x m
 |succ n ih=>
  intro p a k d h
  cases sp:ca p with
  |some t=>
   obtain⟨b,p'⟩:=t;obtain⟨rfl,hb⟩:=dY sp;rw[zj,cons_append,zj,cons_append,NM hb,NM hb]
   cases ob:bF b with
   |none=>rfl
   |some t=>
    obtain⟨p1,v,s⟩:=t;simp only
    cases aw v s with
    |none=>rfl
    |some d'=>
     simp only[bind_some];have hb':=(dj ob).1;have hp1:p1.countP di=0:=dP λx m=>hb x (by rw[hb'];exact zh _ m);have:=ih (p:=p1++.dat d'::p') (a:=a) (k:=k) (d:=d) (by
      rw[countP_append,countP_cons]at h;rw[countP_append,countP_cons,hp1];simp only[oB,oC,pX,if_true,false_eq_true,if_false]at h ⊢
      lia)
     rw[zj,zj,cons_append,cons_append]at this;exact this
  |none=>
   have hp:=eA sp
   cases sa:ca a with
   |none=>exact ih (by rw[dP hp,dP (eA sa)];lia)
   |some t=>
    obtain⟨a1,a2⟩:=t;obtain⟨rfl,ha⟩:=dY sa;have e1:p++It.w (.q k)::.dat d::(a1++.w .c::a2)=(p++.w (.q k)::.dat d::a1)++.w .c::a2:=by simp
    have e2:p++It.dat (fO k d)::(a1++.w .c::a2)=(p++.dat (fO k d)::a1)++.w .c::a2:=by simp
    rw[e1,e2,NM,NM]
    .rw[eX,eX,jD rfl,jD rfl,jD rfl]
     cases oa:bF a1 with
     |some t=>
      obtain⟨p1,v,s⟩:=t;simp only
      cases aw v s with
      |none=>rfl
      |some d'=>
       simp only[bind_some];have hb':=(dj oa).1;have hp1:p1.countP di=0:=dP λx m=>ha x (by rw[hb'];exact zh _ m);have:=ih (p:=p) (a:=p1++.dat d'::a2) (k:=k) (d:=d) (by
        rw[countP_append,countP_cons]at h;rw[countP_append,countP_cons,hp1];simp only[oB,oC,pX,if_true,false_eq_true,if_false]at h ⊢
        lia)
       simp only[append_assoc,cons_append]at this ⊢;exact this
     |none=>
      simp only
      cases op:bF p with
      |none=>rfl
      |some t=>
       obtain⟨p1,v,s⟩:=t;simp only[aw,Kw]
    .intro x m
     rcases zH.mp m with m | m
     .exact hp x m
     .rcases zZ.mp m with rfl | m
      .rfl
      .exact ha x m
    .intro x m
     rcases zH.mp m with m | m
     .exact hp x m
     .rcases zZ.mp m with rfl | m
      .rfl
      .rcases zZ.mp m with rfl | m
       .rfl
       .exact ha x m
def qd:∀(n:Nat) {p M rest:List It} {v:Bool},rest.countP di<=n->(∀x∈p,di x=false)->(∀x∈M,di x=false)->(∀x∈M,gL x=none)->(∀B,aw v (M++B)=none)->G (p++.w (kD v)::(M++rest))=none:=λn=>by
 have all:∀{p M r:List It} {v:Bool},(∀x∈p,di x=false)->(∀x∈M,di x=false)->(∀x∈r,di x=false)->∀x∈p++.w (kD v)::(M++r),di x=false:=λ{p M r v} h1 h2 h3 x m=>by
  rcases zH.mp m with m | m
  .exact h1 x m
  .rcases zZ.mp m with rfl | m
   .injection v<;>rfl
   .rcases zH.mp m with m | m
    .exact h2 x m
    .exact h3 x m
 have stop:∀{p M rest:List It} {v:Bool},(∀x∈rest,di x=false)->(∀x∈p,di x=false)->(∀x∈M,di x=false)->G (p++.w (kD v)::(M++rest))=none:=λ{p M rest v} h hp gV=>by
  rw[Bd (all hp gV h),fin,if_pos];rw[any_append,any_cons,show (gL (.w (kD v))).isSome=true by injection v<;>rfl];simp
 induction n with
 |zero=>exact λh hp gV _ _=>stop (gt (le_zero.mp h)) hp gV
 |succ n ih=>
  intro p M rest v h hp gV hO SA
  cases sr:ca rest with
  |none=>exact stop (eA sr) hp gV
  |some t=>
   obtain⟨r1,r2⟩:=t;obtain⟨rfl,hr⟩:=dY sr;have e1:p++It.w (kD v)::(M++(r1++.w .c::r2))=(p++.w (kD v)::(M++r1))++.w .c::r2:=by simp
   rw[e1,NM (all hp gV hr)];have e2:p++It.w (kD v)::(M++r1)=(p++.w (kD v)::M)++r1:=by simp
   rw[e2,eX]
   cases o1:bF r1 with
   |some t=>
    obtain⟨p1,v',s⟩:=t;simp only
    cases aw v' s with
    |none=>rfl
    |some d'=>
     simp only[bind_some];have hb':=(dj o1).1;have hp1:p1.countP di=0:=dP λx m=>hr x (by rw[hb'];exact zh _ m);have:=ih (p:=p) (M:=M) (rest:=p1++.dat d'::r2) (v:=v) (by
      rw[countP_append,countP_cons]at h;rw[countP_append,countP_cons,hp1];simp only[oB,oC,pX,if_true,false_eq_true,if_false]at h ⊢
      lia) hp gV hO SA
     simp only[append_assoc,cons_append]at this ⊢;exact this
   |none=>
    simp only;rw[eX,iE hO];simp only[SA r1,bind_none]
def Kx:∀(n:Nat) {M rest:List It},rest.countP di<=n->(∀x∈M,di x=false)->(∀x∈M,gL x=none)->M.any dM=true->G (M++rest)=none:=λn=>by
 have stop:∀{M rest:List It},(∀x∈rest,di x=false)->(∀x∈M,di x=false)->M.any dM=true->G (M++rest)=none:=λ{M rest} h gV hd=>by
  rw[Bd,fin,if_pos]
  .simp[any_append,hd]
  .intro x m
   rcases zH.mp m with m | m
   .exact gV x m
   .exact h x m
 induction n with
 |zero=>exact λh gV _ hd=>stop (gt (le_zero.mp h)) gV hd
 |succ n ih=>
  intro M rest h gV hO hd
  cases sr:ca rest with
  |none=>exact stop (eA sr) gV hd
  |some t=>
   obtain⟨r1,r2⟩:=t;obtain⟨rfl,hr⟩:=dY sr;rw[<-zj,NM,eX]
   .cases o1:bF r1 with
    |some t=>
     obtain⟨p1,v',s⟩:=t;simp only
     cases aw v' s with
     |none=>rfl
     |some d'=>
      simp only[bind_some];have hb':=(dj o1).1;have hp1:p1.countP di=0:=dP λx m=>hr x (by rw[hb'];exact zh _ m);have:=ih (M:=M) (rest:=p1++.dat d'::r2) (by
       rw[countP_append,countP_cons]at h;rw[countP_append,countP_cons,hp1];simp only[oB,oC,pX,if_true,false_eq_true,if_false]at h ⊢
       lia) gV hO hd
      rw[<-zj]at this;exact this
    |none=>
     simp only;rw[kv hO]
   .intro x m
    rcases zH.mp m with m | m
    .exact gV x m
    .exact hr x m
def Jg{xs:List It}:∀{acc:List It},(∀x∈xs,kept x=true)->ql xs.reverse acc=some (xs++acc):=by
 induction xs with
 |nil=>
  intro _ _;exact rfl
 |cons x xs ih=>
  intro acc h;rw[zB,lI,ih λy m=>h y (zx _ m)];have hx:=h x zw
  cases x with
  |dat d=>rfl
  |w t=>injection t<;>first | rfl | (injection hx;done)
def iF{xs B:List It}(h:∀x∈xs,kept x=true):quo (xs++B)=(quo B).map (xs++·):=by
 unfold quo;rw[reverse_append,lI]
 cases ql B.reverse []with
 |none=>rfl
 |some r=>exact Jg h
def dQ{xs:List It}(h:∀x∈xs,kept x=true):quo xs=some xs:=by
 have:=iF (B:=[]) h;rw[zJ]at this;rw[this];simp[quo,UW,tU]
def d5{a:List It}:∀{b:List It}  {n:Nat},aQ n (a++b)=aQ n a++aQ (n+a.length) b:=by
 induction a with
 |nil=>
  intro _ _;exact rfl
 |cons x a ih=>
  intro b n;rw[cons_append,j8,j8,ih,zd,show n+1+a.length=n+(a.length+1) by lia];split<;>rfl
def dI:∀{l:List D} {n:Nat},aQ n (l.map It.dat)=[]
 |[],_=>rfl
 |x::l,n=>by
  rw[z0,j8,dI]
  rfl
def eB{l:List D}:∀x∈l.map It.dat,kept x=true:=λx m=>by
 obtain⟨d,-,rfl⟩:=mem_map.mp m
 rfl
def dR{l:List D}:∀x∈l.map It.dat,di x=false:=λx m=>by
 obtain⟨d,-,rfl⟩:=mem_map.mp m
 rfl
def d9{l:List D}:∀x∈l.map It.dat,gL x=none:=λx m=>by
 obtain⟨d,-,rfl⟩:=mem_map.mp m
 rfl
def aI{l m:List It}{P:It->Prop}(h1:∀x∈l,P x)(h2:∀x∈m,P x):∀x∈l++m,P x:=λx h=>by
 rcases zH.mp h with h | h
 .exact h1 x h
 .exact h2 x h
def dw{l:List It}(h:l.all kept=true):∀x∈l,kept x=true:=λx m=>zP.mp h x m
def ck{l:List It}(h:(l.all λx=>!di x)=true):∀x∈l,di x=false:=λx m=>by simpa using zP.mp h x m
def cG{l:List It}(h:(l.all λx=>(gL x).isNone)=true):∀x∈l,gL x=none:=λx m=>by simpa using zP.mp h x m
def ky(as:List AF):∀x∈jg as,di x=false:=by
 induction as with
 |nil=>
  intro _ m;injection m
 |cons a as ih=>
  intro x m;refine aI (P:=λx=>di x=false) (ih) (λy m=>?_) x m
  cases a with
  |q k=>exact ck (l:=[.w (.q k)]) rfl y m
  |v l=>
   rcases zZ.mp m with rfl | m
   .rfl
   .exact dR y m
  |l l=>
   rcases zZ.mp m with rfl | m
   .rfl
   .exact dR y m
  |ld z l=>
   rcases zZ.mp m with rfl | m
   .rfl
   .exact aI dR (ck (by rfl)) y m
  |lt z l t=>
   rcases zZ.mp m with rfl | m
   .rfl
   .exact aI dR (ck (by rfl)) y m
def Jh{l:List D}{B:List It}:aw true (l.map It.dat++[.w .d]++B)=none:=by
 unfold aw;rw[iF (aI eB (dw (by rfl)))]
 cases quo B with
 |none=>rfl
 |some r=>
  simp only[map_some,bind_some,brk,if_true];rw[if_neg];rw[zj,d5,dI];intro h;injection h
def Be{B:List It}:aw false ([.w .d]++B)=none:=by
 unfold aw;rw[iF (dw (by rfl))]
 cases quo B with
 |none=>rfl
 |some r=>
  simp only[map_some,bind_some,brk,false_eq_true,if_false,cons_append,nil_append];have e:aQ 0 (It.w .d::r)=0::aQ 1 r:=rfl;rw[e,if_neg (by simp),if_pos]
  by_cases q:(It.w .d::r).length<3
  .exact .inr q
  .refine .inl λh=>?_
   have:=(List.cons.inj h).1;rw[zd]at q this
   lia
def yp{l:List D}{m B:List It}(hm:∀x∈m,kept x=true)(h2:∃(a b:Nat) (r:Nat->List Nat),∀n,aQ n m=(n+a)::(n+b)::r n):aw false (l.map It.dat++m++B)=none:=by
 unfold aw;rw[iF (aI eB hm)]
 cases quo B with
 |none=>rfl
 |some r=>
  obtain⟨a,b,f,h2⟩:=h2;simp only[map_some,bind_some,brk,false_eq_true,if_false];rw[d5,d5,dI,h2,if_neg (by simp),if_pos (.inl (by simp))]
def Ft{l:List D}{B:List It}:aw false (l.map It.dat++[.w .d,.dat t,.dat d]++B)=none:=by
 unfold aw;rw[iF (aI eB (dw (by rfl)))]
 cases quo B with
 |none=>rfl
 |some r=>
  simp only[map_some,bind_some,brk,false_eq_true,if_false];rw[d5,d5,dI];have e:∀n,aQ n [It.w .d,.dat t,.dat d]=[n]:=λ_=>rfl;rw[e,if_neg (by simp),if_pos];refine .inl λh=>?_;have h:=(List.cons.inj h).1;simp only[length_append,length_map,length_cons,length_nil]at h
  lia
def wf{x:D}:aw false ((x::l).map It.dat++[.w .d])=none:=by
 unfold aw;rw[dQ (aI eB (dw (by rfl)))];simp only[bind_some,brk,false_eq_true,if_false];rw[d5,dI];have e:∀n,aQ n [It.w .d]=[n]:=λ_=>rfl;rw[e,if_neg (by simp),if_pos];refine .inl λh=>?_;have h:=(List.cons.inj h).1;simp only[length_append,length_map,length_cons,length_nil]at h
 lia
def Ji{v:Bool}{s:List It}{k:Fin 4}:aw v (s++[.w (.q k)])=none:=by
 unfold aw quo;rw[reverse_append]
 rfl
def Fu{v:Bool}{s B:List It}{k:Fin 4}:aw v (s++[.w (.q k),.w .d]++B)=none:=by
 unfold aw quo;rw[reverse_append,reverse_append,lI]
 cases ql B.reverse []with
 |none=>rfl
 |some r=>rfl
def i7:∀{l:List D},j9 (l.map It.dat)=l
 |[]=>rfl
 |x::l=>by
  have:=i7 (l:=l);unfold j9 at this ⊢;rw[z0,List.filterMap_cons,this]
def NN{l:List D}:aw true (l.map It.dat)=some (.ve l):=by
 unfold aw;rw[dQ eB];simp only[bind_some,brk,if_true,dI,i7]
def NO{l:List D}:aw false (l.map It.dat)=some (bO l .em):=by
 unfold aw;rw[dQ eB];simp only[bind_some,brk,false_eq_true,if_false,if_true,dI,i7]
def Jj{x:D}:aw false ((x::l).map It.dat++[.w .d,.dat t])=some (bO (x::l) t):=by
 unfold aw;rw[dQ (aI eB (dw (by rfl)))];simp only[bind_some,brk,false_eq_true,if_false];have e:∀n,aQ n [It.w .d,.dat t]=[n]:=λ_=>rfl;have hl:((x::l).map It.dat++[It.w .d,It.dat t]).length-2=((x::l).map It.dat).length:=by
  simp only[length_append,length_map,length_cons,length_nil];lia
 rw[d5,dI,e,hl,if_neg (by simp),if_neg,List.take_left,i7]
 .congr 1
  unfold pW;rw[show (x::l).map It.dat++[It.w .d,It.dat t]=((x::l).map It.dat++[It.w .d])++[It.dat t] by simp,List.getLast?_concat]
 .intro h
  rcases h with h | h
  .exact h (by simp)
  .simp only[length_append,length_map,length_cons,length_nil]at h
   lia
def NP{as:List AF}:∀{d:D} {o rest:List It},G (o++jg as++.dat d::rest)=G (o++jg (ul as d).1++.dat (ul as d).2::rest):=by
 induction as with
 |nil=>intros;rfl
 |cons a r ih=>
  intro d o rest
  cases a with
  |q k=>
   have e:o++jg (AF.q k::r)++It.dat d::rest=(o++jg r)++.w (.q k)::.dat d::rest:=by simp[dk,dl,AF.its]
   rw[e,WQ _ (zv _)];exact ih
  |v _=>rfl
  |l _=>rfl
  |ld _ _=>rfl
  |lt _ _ _=>rfl
def Jk:∀{as r:List AF} {d d':D} {k:Fin 4},ul as d≠(.q k::r,d'):=by
 intro as
 induction as with
 |nil=>intro r d d' k h;injection h
 |cons a as ih=>
  intro r d d' k h
  cases a with
  |q _=>exact ih h
  |_=>injection h
def rM(o rest:List It):Re->Option (List It)
 |.err=>none
 |.cont as=>G (o++jg as++rest)
 |.done d=>G (o++.dat d::rest)
def Jl{a:AF}{o rest:List It}(ho:∀x∈o,di x=false)(hq:∀k,a≠.q k):G (o++jg (a::as)++.dat d::rest)=rM o rest (NL (a::as) d):=by
 cases a with
 |q k=>exact absurd rfl (hq k)
 |v l=>exact zi G (by simp[dk,dl,AF.its])
 |l l=>exact zi G (by simp[dk,dl,AF.its])
 |ld x l=>exact zi G (by simp[dk,dl,AF.its])
 |lt x l t=>
  have e:o++jg (AF.lt x l t::as)++It.dat d::rest=(o++jg as)++.w (kD false)::(((x::l).map It.dat++[.w .d,.dat t,.dat d])++rest):=by simp[dk,dl,AF.its,kD]
  rw[e];exact qd _ (zv _) (aI ho (ky as)) (aI dR (ck (by rfl))) (aI d9 (cG (by rfl))) λB=>Ft
def rN{as:List AF}{d:D}{o rest:List It}(ho:∀x∈o,di x=false):G (o++jg as++.dat d::rest)=rM o rest (um as d):=by
 rw[NP];unfold um
 cases q:ul as d with
 |mk eI d'=>
  cases eI with
  |nil=>simp[dk,dl,rM]
  |cons a r=>exact Jl ho λk e=>Jk (e▸q)
def Jm{as:List AF}{t:Tk}{o rest:List It}(ho:∀x∈o,di x=false)(hO:∀x∈o,gL x=none):G (o++jg as++db t::rest)=rM o rest (step as t):=by
 cases t with
 |o=>exact zi G (by simp[dk,dl,AF.its,db])
 |v=>exact zi G (by simp[dk,dl,AF.its,db])
 |q k=>exact zi G (by simp[dk,dl,AF.its,db])
 |a k=>exact rN ho
 |d=>
  cases as with
  |nil=>
   have e:o++jg []++db .d::rest=(o++[.w .d])++rest:=by simp[dk,dl,db]
   rw[e];exact Kx _ (zv _) (aI ho (ck (by rfl))) (aI hO (cG (by rfl))) (by simp[yb])
  |cons a r=>
   have hr:=aI ho (ky r)
   cases a with
   |q k=>
    cases s:bF (jg r)with
    |none=>
     have e:o++jg (AF.q k::r)++db .d::rest=(o++jg r++[.w (.q k),.w .d])++rest:=by simp[dk,dl,AF.its,db]
     rw[e];exact Kx _ (zv _) (aI hr (ck (by rfl))) (aI (aI hO (jB s)) (cG (by rfl))) (by simp[yb])
    |some t=>
     obtain⟨p,v,s'⟩:=t;obtain⟨h1,h2⟩:=dj s;have hc:=ky r;rw[h1]at hc;have e:o++jg (AF.q k::r)++db .d::rest=(o++p)++.w (kD v)::((s'++[.w (.q k),.w .d])++rest):=by simp[dk,dl,AF.its,db,h1]
     rw[e];exact qd _ (zv _) (aI ho λx m=>hc x (zh _ m)) (aI (λx m=>hc x (zU _ (zx _ m))) (ck (by rfl))) (aI h2 (cG (by rfl))) λB=>Fu
   |v l=>
    have e:o++jg (AF.v l::r)++db .d::rest=(o++jg r)++.w (kD true)::((l.map It.dat++[.w .d])++rest):=by simp[dk,dl,AF.its,db,kD]
    rw[e];exact qd _ (zv _) hr (aI dR (ck (by rfl))) (aI d9 (cG (by rfl))) λB=>Jh
   |l l=>
    cases l with
    |nil=>
     have e:o++jg (AF.l []::r)++db .d::rest=(o++jg r)++.w (kD false)::([.w .d]++rest):=by simp[dk,dl,AF.its,db,kD]
     rw[e];exact qd _ (zv _) hr (ck (by rfl)) (cG (by rfl)) λB=>Be
    |cons x l=>exact zi G (by simp[dk,dl,AF.its,db])
   |ld x l=>
    have e:o++jg (AF.ld x l::r)++db .d::rest=(o++jg r)++.w (kD false)::(((x::l).map It.dat++[.w .d,.w .d])++rest):=by simp[dk,dl,AF.its,db,kD]
    rw[e];exact qd _ (zv _) hr (aI dR (ck (by rfl))) (aI d9 (cG (by rfl))) λB=>yp (dw (by rfl)) ⟨0,1,λ_=>[],λ_=>rfl⟩
   |lt x l t=>
    have e:o++jg (AF.lt x l t::r)++db .d::rest=(o++jg r)++.w (kD false)::(((x::l).map It.dat++[.w .d,.dat t,.w .d])++rest):=by simp[dk,dl,AF.its,db,kD]
    rw[e];exact qd _ (zv _) hr (aI dR (ck (by rfl))) (aI d9 (cG (by rfl))) λB=>yp (dw (by rfl)) ⟨0,2,λ_=>[],λ_=>rfl⟩
 |c=>
  have hc:=aI ho (ky as);rw[show db .c=It.w .c from rfl,NM hc]
  cases as with
  |nil=>
   rw[dk,zJ,kv hO]
   rfl
  |cons a r=>
   rw[dl,<-zj,eX]
   cases a with
   |q k=>
    have e:bF (AF.its (.q k))=none:=rfl;rw[e]
    cases bF (o++jg r)with
    |none=>rfl
    |some t=>
     obtain⟨p,v,s⟩:=t;simp only[AF.its,Ji,bind_none]
     rfl
   |v l=>
    rw[show AF.its (.v l)=.w (kD true)::l.map It.dat from rfl,iE d9];simp only[NN,bind_some,append_nil];exact rN ho
   |l l=>
    rw[show AF.its (.l l)=.w (kD false)::l.map It.dat from rfl,iE d9];simp only[NO,bind_some,append_nil];exact rN ho
   |ld x l=>
    rw[show AF.its (.ld x l)=.w (kD false)::((x::l).map It.dat++[.w .d])from rfl,iE (aI d9 (cG (by rfl)))];simp only[wf,bind_none]
    rfl
   |lt x l t=>
    rw[show AF.its (.lt x l t)=.w (kD false)::((x::l).map It.dat++[.w .d,.dat t])from rfl,iE (aI d9 (cG (by rfl)))];simp only[Jj,bind_some,append_nil];exact rN ho
def NQ:∀{ts:List Tk} {as:List AF} {out:List D},G (out.map It.dat++jg as++ts.map db)=(run ts as out).map (·.map It.dat):=by
 intro ts
 induction ts with
 |nil=>
  intro as out
  cases as with
  |nil=>
   rw[dk,map_nil,zJ,zJ,Bd dR,fin,dQ eB,if_neg]
   .rfl
   .rw[or_eq_true,not_or]
    refine⟨λh=>?_,λh=>?_⟩
    .obtain⟨x,m,e⟩:=List.any_eq_true.mp h
     rw[d9 x m]at e;injection e
    .obtain⟨x,m,e⟩:=List.any_eq_true.mp h
     obtain⟨d,-,rfl⟩:=mem_map.mp m;injection e
  |cons a as=>
   rw[map_nil,zJ,Bd (aI dR (ky _)),fin];split
   .rfl
   .rename_i h
    rw[or_eq_true,not_or,any_append,dl,any_append,or_eq_true,or_eq_true,not_or,not_or]at h;have h:=h.1.2.2
    cases a with
    |q k=>
     have e:out.map It.dat++jg (AF.q k::as)=(out.map It.dat++jg as)++[.w (.q k)]:=by simp[dk,dl,AF.its]
     rw[e];unfold quo;rw[reverse_append]
     rfl
    |v l=>exact absurd rfl h
    |l l=>exact absurd rfl h
    |ld x l=>exact absurd rfl h
    |lt x l t=>exact absurd rfl h
 |cons t ts ih=>
  intro as out;rw[z0,Jm dR d9,Fs]
  cases step as t with
  |err=>rfl
  |cont eI=>exact ih
  |done d=>
   have:=ih (as:=[]) (out:=out++[d]);rw[<-this];exact zi G (by simp[dk,dl])
def un(words:List Tk):bH words=(run words [] []).map (·.map It.dat):=by
 rw[<-NQ];unfold bH G;rw[Jf (m:=(words.map db).countP di) (by have:=List.countP_le_length (p:=di) (l:=words.map db);rw[zM]at this;exact this) (zv _)]
 rfl
section
variable{E:Nat->O->Prop}{A L T F R Dc:Nat}{U:List Nat}{p n:Nat}{gs:List Fr}{ks:List (List Nat)}{ms:List Nat}
def g8.setm(h:g8 H T R Dc ks ms){m:Nat}{x:O}(ho:H[m]?=some o)(n1:∀fs,o≠.inst 128 fs)(n2:∀k v,o≠.dict k v)(n3:∀fs,o≠.inst 65 fs)(hR:R≠m):g8 (H.set m x) T R Dc ks ms:=by
 refine h.keeps (S:=[m]) (Keeps.set (zp.mpr rfl)) ?_ ?_ ?_ λk hk=>?_
 .rw[zp];exact bP h.t ho (z6 (n1 _))
 .rw[zp];exact hR
 .rw[zp];exact bP h.d ho (z6 (n2 _ _))
 .rw[zp]
  obtain⟨i,hi,e⟩:=List.getElem_of_mem hk;have hi':i<ks.length:=by rw[h.l];exact hi
  obtain⟨v,hs⟩:=h.s i _ _ (zo hi') (zo hi);rw[e]at hs;exact bP hs ho (z6 (n3 _))
def St.mono(h:St E H A L T F R Dc U p n gs ks ms){m:Nat}(hm:n<=m):St E H A L T F R Dc U p m gs ks ms:=
 ⟨h.r,h.l,h.f,h.fr,h.nd,h.nf,h.tb,h.en,zT h.bk hm,zT h.bg hm,λg m=>⟨zT (h.bt g m).1 hm,(h.bt g m).2⟩⟩
def St.app(h:St E H A L T F R Dc U p n gs ks ms){Z:Hp}:St E (H++Z) A L T F R Dc U p n gs ks ms:=
 ⟨aW h.r,aW h.l,aW h.f,λg m=>⟨aW (h.fr g m).o,aW (h.fr g m).t⟩,h.nd,h.nf,h.tb.keeps (S:=[]) Keeps.app (by simp) (by simp) (by simp) (by simp),λa o e=>⟨aW (h.en a o e).1,(h.en a o e).2⟩,h.bk,h.bg,h.bt⟩
def St.lex(h:St E H A L T F R Dc U p n gs ks ms){q:Nat}:St E (H.set L (bX U q)) A L T F R Dc U q n gs ks ms:=
 ⟨aC h.r (bP h.r h.l (by simp)),bp h.l,aC h.f (bP h.f h.l (by simp)),λg m=>⟨aC (h.fr g m).o (bP (h.fr g m).o h.l (by simp)),aC (h.fr g m).t (bP (h.fr g m).t h.l (by simp))⟩,h.nd,h.nf,h.tb.setm h.l (by simp) (by simp) (by simp) (by obtain⟨vs,hr,-⟩:=h.tb.r;exact bP hr h.l (by simp)),λa o e=>⟨aC (h.en a o e).1 (h.en a o e).2.1.2.1,(h.en a o e).2⟩,h.bk,h.bg,h.bt⟩
def St.setf(h:St E H A L T F R Dc U p n gs ks ms){gs':List Fr}(uE:∀g∈gs',pi H g)(nd:(F::R::gs'.map Fr.th).Nodup)(nf:(gs'.map Fr.fa).Nodup)(en:∀a o,E a o->∀g∈gs',a≠g.fa/\a≠g.th){m:Nat}(hm:n<=m)(bg:gs'.length<=m)(bt:∀g∈gs',g.things.length<=m/\g.s<=U.length):St E (H.set F (.list (gs'.reverse.map λg=>V.ref g.fa))) A L T F R Dc U p m gs' ks ms:=by
 have hnd:=zS.mp nd;refine⟨aC h.r (bP h.r h.f (by simp)),aC h.l (bP h.l h.f (by simp)),bp h.f,λg m=>⟨aC (uE g m).o (bP (uE g m).o h.f (by simp)),aC (uE g m).t λq=>?_⟩,nd,nf,h.tb.setm h.f (by simp) (by simp) (by simp) λq=>?_,λa o e=>⟨aC (h.en a o e).1 (h.en a o e).2.1.2.2.1,(h.en a o e).2.1,en a o e⟩,zT h.bk hm,bg,bt⟩
 .exact hnd.1 (zx _ (q▸mem_map_of_mem m))
 .exact hnd.1 (q▸zw)
def St.push(h:St E H A L T F R Dc U p n gs ks ms){g:Fr}(h1:g.th=H.length)(h2:g.fa=H.length+1)(hs:g.s<=U.length)(hn:g.things.length<=n+1):St E ((H++[.list g.things,oM (.str g.k.w) g.s (.ref g.th) g.st g.tail]).set F (.list ((gs.reverse.map λg=>V.ref g.fa)++[.ref g.fa]))) A L T F R Dc U p (n+1) (g::gs) ks ms:=by
 have old:=h.app (Z:=[O.list g.things,oM (.str g.k.w) g.s (.ref g.th) g.st g.tail]);have hR:R<H.length:=by obtain⟨vs,hr,-⟩:=h.tb.r;exact dO hr
 have nd:=zS.mp h.nd;have nd2:=zS.mp nd.2;have q:=old.setf (gs':=g::gs) (m:=n+1) (λg' m=>?_) ?_ ?_ (λa o e g' m=>?_) (le_succ n) (by simp only[length_cons];exact Nat.succ_le_succ h.bg) (λg' m=>?_)
 .rw[zB,map_append]at q
  exact q
 .rcases zZ.mp m with rfl | m
  .refine⟨?_,?_⟩
   .rw[h2,zk (by lia),show H.length+1-H.length=1 by lia];rfl
   .rw[h1,zk (zv _),sub_self];rfl
  .exact old.fr g' m
 .have hF:=dO h.f
  refine zS.mpr ⟨λm=>?_,zS.mpr ⟨λm=>?_,zS.mpr ⟨λm=>?_,nd2.2⟩⟩⟩
  .simp only[map_cons,mem_cons]at m
   rcases m with m | m | m
   .exact nd.1 (m▸zw)
   .lia
   .exact nd.1 (zx _ m)
  .simp only[map_cons,mem_cons]at m
   rcases m with m | m
   .lia
   .exact nd2.1 m
  .obtain⟨g',m',e⟩:=mem_map.mp m
   have:=dO (h.fr g' m').t
   lia
 .refine zS.mpr ⟨λm=>?_,h.nf⟩
  obtain⟨g',m',e⟩:=mem_map.mp m;have:=dO (h.fr g' m').o
  lia
 .rcases zZ.mp m with rfl | m
  .have:=dO (h.en a o e).1
   exact⟨by lia,by lia⟩
  .exact (h.en a o e).2.2 g' m
 .rcases zZ.mp m with rfl | m
  .exact⟨hn,hs⟩
  .exact⟨le_succ_of_le (h.bt g' m).1,(h.bt g' m).2⟩
def St.pop{g:Fr}(h:St E H A L T F R Dc U p n (g::gs) ks ms):St E (H.set F (.list (gs.reverse.map λg=>V.ref g.fa))) A L T F R Dc U p n gs ks ms:=by
 have nd:=zS.mp h.nd;have nd2:=zS.mp nd.2;have bg:=h.bg;rw[zd]at bg;refine h.setf (λg m=>h.fr g (zx _ m)) (zS.mpr ⟨λm=>nd.1 ?_,zS.mpr ⟨λm=>nd2.1 (zx _ m),(zS.mp nd2.2).2⟩⟩) (zS.mp h.nf).2 (λa o e g m=>(h.en a o e).2.2 g (zx _ m)) (zv _) (by lia) λg m=>h.bt g (zx _ m)
 rcases zZ.mp m with m | m
 .rw[m];exact zw
 .exact zx _ (zx _ m)
def St.top{g g':Fr}(h:St E H A L T F R Dc U p n (g::gs) ks ms)(e1:g'.fa=g.fa)(e2:g'.th=g.th)(e3:g'.s=g.s)(e4:g'.things=g.things):St E (H.set g.fa (oM (.str g'.k.w) g'.s (.ref g'.th) g'.st g'.tail)) A L T F R Dc U p n (g'::gs) ks ms:=by
 have ho:=(h.fr g zw).o;have nf:=zS.mp h.nf;refine⟨aC h.r (bP h.r ho (by simp)),aC h.l (bP h.l ho (by simp)),?_,λx m=>?_,?_,?_,h.tb.setm ho (by simp) (by simp) (by simp) (by obtain⟨vs,hr,-⟩:=h.tb.r;exact bP hr ho (by simp)),λa o e=>⟨aC (h.en a o e).1 ((h.en a o e).2.2 g zw).1,(h.en a o e).2.1,λx m=>?_⟩,h.bk,h.bg,λx m=>?_⟩
 .have:=aC (o:=oM (.str g'.k.w) g'.s (.ref g'.th) g'.st g'.tail) h.f (bP h.f ho (by simp))
  rw[zB,map_append,z0]at this ⊢;rw[e1];exact this
 .rcases zZ.mp m with rfl | m
  .refine⟨?_,?_⟩
   .rw[e1];exact bp ho
   .rw[e2,e4]
    exact aC (h.fr g zw).t (bP (h.fr g zw).t ho (by simp))
  .have:=h.fr x (zx _ m)
   exact⟨aC this.o λq=>nf.1 (q▸mem_map_of_mem m),aC this.t (bP this.t ho (by simp))⟩
 .rw[z0,e2];exact h.nd
 .rw[z0,e1];exact h.nf
 .rcases zZ.mp m with rfl | m
  .rw[e1,e2];exact (h.en a o e).2.2 g zw
  .exact (h.en a o e).2.2 x (zx _ m)
 .rcases zZ.mp m with rfl | m
  .rw[e4,e3];exact h.bt g zw
  .exact h.bt x (zx _ m)
def St.add{g g':Fr}(h:St E H A L T F R Dc U p n (g::gs) ks ms)(e:g'={ g with things:=g.things++[v] }):St E (H.set g.th (.list (g.things++[v]))) A L T F R Dc U p (n+1) (g'::gs) ks ms:=by
 subst e;have ht:=(h.fr g zw).t;have nd:=zS.mp h.nd;have nd2:=zS.mp nd.2;have nd3:=zS.mp nd2.2;refine⟨aC h.r (bP h.r ht (by simp)),aC h.l (bP h.l ht (by simp)),?_,λx m=>?_,h.nd,h.nf,h.tb.setm ht (by simp) (by simp) (by simp) λq=>?_,λa o e=>⟨aC (h.en a o e).1 ((h.en a o e).2.2 g zw).2,(h.en a o e).2.1,λx m=>?_⟩,le_succ_of_le h.bk,le_succ_of_le h.bg,λx m=>?_⟩
 .have:=aC (o:=O.list (g.things++[v])) h.f λq=>nd.1 (by rw[q];exact zx _ zw)
  rw[zB,map_append]at this ⊢;exact this
 .rcases zZ.mp m with rfl | m
  .exact⟨aC (h.fr g zw).o (bP (h.fr g zw).o ht (by simp)),bp ht⟩
  .have:=h.fr x (zx _ m)
   exact⟨aC this.o (bP this.o ht (by simp)),aC this.t λq=>nd3.1 (q▸mem_map_of_mem m)⟩
 .exact nd2.1 (by rw[q];exact zw)
 .rcases zZ.mp m with rfl | m
  .exact (h.en a o e).2.2 g zw
  .exact (h.en a o e).2.2 x (zx _ m)
 .rcases zZ.mp m with rfl | m
  .have:=h.bt g zw
   refine⟨?_,this.2⟩;simp only[length_append,length_cons,length_nil]
   lia
  .exact⟨le_succ_of_le (h.bt x (zx _ m)).1,(h.bt x (zx _ m)).2⟩
def St.tbl(h:St E H A L T F R Dc U p n gs ks ms){bQ:List (List Nat)}{bU:List Nat}(tb:g8 H' T R Dc bQ bU)(hk:bQ.length<=ks.length+1)(kp:Keeps [R,Dc] H H'):St E H' A L T F R Dc U p (n+1) gs bQ bU:=by
 have nd:=zS.mp h.nd;have nd2:=zS.mp nd.2;obtain⟨vs,hr,-⟩:=h.tb.r;have ps:∀{a x},H[a]?=some x->a≠R->(∀k v,x≠.dict k v)->H'[a]?=some x:=λ{a x} e n1 n2=>kp _ _ (by simp only[mem_cons,not_mem_nil,or_false,not_or];exact⟨n1,bP e h.tb.d (n2 _ _)⟩) e;have bk:=h.bk;refine⟨ps h.r (bP h.r hr (by simp)) (by simp),ps h.l (bP h.l hr (by simp)) (by simp),ps h.f (λq=>nd.1 (q▸zw)) (by simp),λg m=>⟨ps (h.fr g m).o (bP (h.fr g m).o hr (by simp)) (by simp),ps (h.fr g m).t (λq=>nd2.1 (q▸mem_map_of_mem m)) (by simp)⟩,h.nd,h.nf,tb,λa o e=>⟨kp _ _ ?_ (h.en a o e).1,(h.en a o e).2⟩,by lia,le_succ_of_le h.bg,λg m=>⟨le_succ_of_le (h.bt g m).1,(h.bt g m).2⟩⟩;have:=(h.en a o e).2.1;simp only[mem_cons,not_mem_nil,or_false,not_or];exact⟨this.2.2.2.1,this.2.2.2.2⟩
def St.fresh(h:St E H A L T F R Dc U p n gs ks ms):St E ((H++[O.list []]).set A (we L T H.length)) A L T H.length R Dc U p n [] ks ms:=by
 have h0:=h.app (Z:=[O.list []]);obtain⟨vs,hr,-⟩:=h.tb.r;have hR:=dO hr;refine⟨bp h0.r,aC h0.l (bP h0.l h0.r (by simp)),?_,λg m=>absurd m (by simp),?_,nodup_nil,h0.tb.setm h0.r (by simp) (by simp) (by simp) ?_,λa o e=>⟨aC (h0.en a o e).1 (h0.en a o e).2.1.1,?_,λg m=>absurd m (by simp)⟩,h.bk,zero_le _,λg m=>absurd m (by simp)⟩
 .have hA:=dO h.r
  refine aC ?_ (by lia);rw[zk (zv _),sub_self];rfl
 .refine zS.mpr ⟨?_,zS.mpr ⟨by simp,nodup_nil⟩⟩
  simp only[map_nil,mem_cons,not_mem_nil,or_false]
  lia
 .obtain⟨vs,hr,-⟩:=h0.tb.r
  exact bP hr h0.r (by simp)
 .have q:=(h.en a o e).2.1
  have:=dO (h.en a o e).1;exact⟨q.1,q.2.1,by lia,q.2.2.2.1,q.2.2.2.2⟩
end
mutual
noncomputable def Dv(P:List Nat->V->Prop):D->V->Prop
 |.at k,v=>if k=0 then P [97] v else v=(Fn (.a k)).2
 |.sy k,v=>P (qn k) v
 |.em,v=>v=.base 44
 |.ch cs t,v=>(cs≠[]/\∀c u,t≠.ch c u)/\∃vs tv,fA P cs vs/\Dv P t tv/\v=bJ vs tv
 |.ve l,v=>∃vs,fA P l vs/\v=.obj 212 [.lst vs]
noncomputable def fA(P:List Nat->V->Prop):List D->List V->Prop
 |[],vs=>vs=[]
 |d::r,vs=>∃v ws,vs=v::ws/\Dv P d v/\fA P r ws
end
theorem iG{P:List Nat->V->Prop}:Dv P (.at k) v=(if k=0 then P [97] v else v=(Fn (.a k)).2):=rfl
theorem jE:Dv P (.sy k) v=(P (qn k) v):=rfl
theorem jF:Dv P (.em) v=(v=.base 44):=rfl
theorem jb:Dv P (.ch cs t) v=((cs≠[]/\∀c u,t≠.ch c u)/\∃vs tv,fA P cs vs/\Dv P t tv/\v=bJ vs tv):=rfl
theorem jG:Dv P (.ve l) v=(∃vs,fA P l vs/\v=.obj 212 [.lst vs]):=rfl
theorem uo{P:List Nat->V->Prop}:fA P [] vs=(vs=[]):=rfl
theorem l8:fA P (d::r) vs=(∃v ws,vs=v::ws/\Dv P d v/\fA P r ws):=rfl
section
variable{P P':List Nat->V->Prop}
def fA.mono'{l:List D}(ih:∀d∈l,∀v,Dv P d v->Dv P' d v):∀{vs:List V},fA P l vs->fA P' l vs:=by
 induction l with
 |nil=>exact λx=>x
 |cons d r k=>
  intro vs x;rw[l8]at x ⊢;obtain⟨v,ws,e,h1,h2⟩:=x;exact⟨v,ws,e,ih _ zw _ h1,k (λd m=>ih d (zx _ m)) h2⟩
def Dv.mono(h:∀k v,P k v->P' k v)(x:Dv P d v):Dv P' d v:=by
 refine D.rec (motive_1:=λd=>∀v,Dv P d v->Dv P' d v) (motive_2:=λl=>∀d∈l,∀v,Dv P d v->Dv P' d v) ?_ ?_ ?_ ?_ ?_ ?_ ?_ d v x
 .intro k v x
  dsimp only[iG,jE,jF,jb,jG]at x ⊢;split at x
  .rename_i q;rw[if_pos q];exact h _ _ x
  .rename_i q;rw[if_neg q];exact x
 .exact λk v x=>h _ _ x
 .exact λv x=>x
 .intro cs t ic it v x
  dsimp only[iG,jE,jF,jb,jG]at x ⊢;obtain⟨nf,vs,tv,h1,h2,e⟩:=x;exact⟨nf,vs,tv,fA.mono' ic h1,it _ h2,e⟩
 .intro l il v x
  dsimp only[iG,jE,jF,jb,jG]at x ⊢;obtain⟨vs,h1,e⟩:=x;exact⟨vs,fA.mono' il h1,e⟩
 .exact λd m=>by simp at m
 .intro d r id ir e m
  rcases zZ.mp m with m | m
  .rw[m];exact id
  .exact ir e m
def fA.mono(h:∀k v,P k v->P' k v)(x:fA P l vs):fA P' l vs:=fA.mono' (λ_ _ _=>Dv.mono h) x
def fA.app{l:List D}:∀{m:List D}  {vs ws:List V},fA P l vs->fA P m ws->fA P (l++m) (vs++ws):=by
 induction l with
 |nil=>
  intro m vs ws h k;rw[uo]at h;subst h;exact k
 |cons d r ih=>
  intro m vs ws h k;rw[l8]at h;obtain⟨v,us,rfl,h1,h2⟩:=h;rw[cons_append,l8];exact⟨v,us++ws,rfl,h1,ih h2 k⟩
def fA.one(h:Dv P d v):fA P [d] [v]:=by
 rw[l8];exact⟨v,[],rfl,h,rfl⟩
def fA.len:∀{l:List D} {vs:List V},fA P l vs->vs.length=l.length
 |[],vs,h=>by rw[uo]at h;subst h;rfl
 |d::r,vs,h=>by
  rw[l8]at h;obtain⟨v,ws,rfl,-,h2⟩:=h;rw[zd,zd,h2.len]
def qf:∀{a b:List V} {t:V},bJ (a++b) t=bJ a (bJ b t)
 |[],_,_=>rfl
 |x::a,b,t=>by rw[cons_append,rL,rL,qf]
def Dv.chain(h:fA P cs vs)(k:Dv P t tv):Dv P (bO cs t) (bJ vs tv):=by
 by_cases q:∃c u,t=.ch c u
 .obtain⟨c,u,rfl⟩:=q
  dsimp only[iG,jE,jF,jb,jG]at k;obtain⟨nf,ws,uv,h1,h2,rfl⟩:=k;show Dv P (.ch (cs++c) u) _;dsimp only[iG,jE,jF,jb,jG];exact⟨⟨λe=>nf.1 (List.append_eq_nil_iff.mp e).2,nf.2⟩,vs++ws,uv,h.app h1,h2,qf.symm⟩
 .have q':∀c u,t≠.ch c u:=λc u e=>q ⟨c,u,e⟩
  cases cs with
  |nil=>
   rw[uo]at h;subst h;rw[lm q'];exact k
  |cons x r=>
   rw[jw q',jb];exact⟨⟨by simp,q'⟩,vs,tv,h,k,rfl⟩
def Jn(P:List Nat->V->Prop)(g:Fr):AF->Prop
 |.q k=>g.k=.quo/\∃v,g.things=[v]/\P (qn k) v
 |.v l=>g.k=.vec/\fA P l g.things/\g.st=0
 |.l l=>g.k=.lst/\fA P l g.things/\g.st=0/\g.tail=.base 44
 |.ld x l=>g.k=.lst/\fA P (x::l) g.things/\g.st=1
 |.lt x l t=>g.k=.lst/\fA P (x::l) g.things/\g.st=2/\Dv P t g.tail
def uq(P:List Nat->V->Prop):List Fr->List AF->Prop
 |[],[]=>True
 |g::gs,a::as=>Jn P g a/\uq P gs as
 |_,_=>False
def Jn.mono(h:∀k v,P k v->P' k v){g:Fr}(x:Jn P g a):Jn P' g a:=by
 cases a with
 |q k=>obtain⟨e,v,h1,h2⟩:=x;exact⟨e,v,h1,h _ _ h2⟩
 |v l=>exact⟨x.1,x.2.1.mono h,x.2.2⟩
 |l l=>exact⟨x.1,x.2.1.mono h,x.2.2⟩
 |ld y l=>exact⟨x.1,x.2.1.mono h,x.2.2⟩
 |lt y l t=>exact⟨x.1,x.2.1.mono h,x.2.2.1,x.2.2.2.mono h⟩
def uq.mono(h:∀k v,P k v->P' k v):∀{gs:List Fr} {as:List AF},uq P gs as->uq P' gs as
 |[],[],_=>trivial
 |_::_,_::_,x=>⟨x.1.mono h,x.2.mono h⟩
 |[],_::_,x=>x.elim
 |_::_,[],x=>x.elim
def uq.len:∀{gs:List Fr} {as:List AF},uq P gs as->gs.length=as.length
 |[],[],_=>rfl
 |_::_,_::_,x=>by rw[zd,zd,x.2.len]
 |[],_::_,x=>x.elim
 |_::_,[],x=>x.elim
end
def Sm(E:Nat->O->Prop)(H:Hp)(A L T F R Dc:Nat)(U:List Nat)(p n:Nat)(as:List AF)(ks:List (List Nat))(ms:List Nat):Prop:=
 ∃gs,St E H A L T F R Dc U p n gs ks ms/\uq (Sy ks ms) gs as
section
variable{E:Nat->O->Prop}{A L T F R Dc:Nat}{U:List Nat}{p n:Nat}{as:List AF}{gs:List Fr}{ks:List (List Nat)}{ms:List Nat}{C:ba}{l lo:Loc}{g:Fr}{H1:Hp}
def gT(h:pi H g):aR H (.ref g.fa) 21=some (.str g.k.w):=dq h.o
def Fv(h:pi H g):aR H (.ref g.fa) 19=some (.int (g.s:Nat)):=dq h.o
def cH(h:pi H g):aR H (.ref g.fa) 10=some (.ref g.th):=dq h.o
def cT(h:pi H g):aR H (.ref g.fa) 36=some (.int g.st):=dq h.o
def yt(h:pi H g):aR H (.ref g.fa) 35=some g.tail:=dq h.o
def qg(h:pi H g){st:Int}:cP H (.ref g.fa) 36 (.int st)=some (H.set g.fa (oM (.str g.k.w) g.s (.ref g.th) st g.tail)):=kK h.o
def Bf(h:pi H g):cP H (.ref g.fa) 35 tl=some (H.set g.fa (oM (.str g.k.w) g.s (.ref g.th) g.st tl)):=kK h.o
def NR(k:Fk):xX k.w=true:=by injection k<;>rfl
def rO{a:V}{m:List V}(ha:a.res H=.lst m):ac H .Eq a (.lst [])=some m.isEmpty:=by
 have e:Gb H a (.lst [])=if (V.lst m).plain 60&&(V.lst []).plain 60 then some (V.eqb (.lst m) (.lst [])) else mj (.lst m) (.lst []):=by
  unfold Gb;rw[ha]
  rfl
 show Gb H a (.lst [])=_;rw[e]
 cases m with
 |nil=>rfl
 |cons x r=>
  split
  .rfl
  .rfl
def St.eqE(h:St E H A L T F R Dc U p n gs ks ms):ac H .Eq (.ref F) (.lst [])=some gs.isEmpty:=by
 rw[rO (d6 h.f)]
 cases gs with
 |nil=>rfl
 |cons g r=>rw[zB,map_append];simp
def St.neE(h:St E H A L T F R Dc U p n gs ks ms):ac H .NotEq (.ref F) (.lst [])=some (!gs.isEmpty):=by
 rw[show ac H .NotEq (.ref F) (.lst [])=o5 (ac H .Eq (.ref F) (.lst []))from rfl,h.eqE]
 rfl
def Bg{v:V}{vs:List V}{x:V}(hv:v.res H=.lst (vs++[x]))(hl:vs.length<=900):bY H v (.int (-1))=some x:=by
 have e:=oA (H:=H) (vs:=vs++[x]) (by simp) (by simp;lia);rw[List.getLast?_concat]at e;rw[<-e];unfold bY;rw[hv]
 rfl
def St.top_at(h:St E H A L T F R Dc U p n (g::gs) ks ms)(hn:n<=900):bY H (.ref F) (.int (-1))=some (.ref g.fa):=by
 have:=h.f;rw[zB,map_append]at this;have bg:=h.bg;exact Bg (d6 this) (by rw[zM,length_reverse];rw[zd]at bg;lia)
def i8(h:H[F]?=some (.list vs))(args):cq C X l lo 48 args K (.ref F) H=fQ C X args l lo H (cJ C X 48 (.ref F) H K):=by
 refine bK C X l lo H K ?_ args;exact mU h
def Bh{vs:List V}{x:V}(h1:H[F]?=some (.list (vs++[x])))(hf:vs.length<=900):bD C X 48 (.ref F) H [] H K=K x (H.set F (.list vs)):=by
 have hf':aj (vs++[x]).length=true:=ai (m:=901) (by simp;lia) (by lia);exact kP C X H K (mV h1) rfl (by rw[jL h1];exact succ_ne_zero _) (P8 h1 hf')
def St.popM(h:St E H A L T F R Dc U p n (g::gs) ks ms)(hn:n<=900):bD C X 48 (.ref F) H [] H K=K (.ref g.fa) (H.set F (.list (gs.reverse.map λg=>V.ref g.fa))):=by
 have:=h.f;rw[zB,map_append]at this;have bg:=h.bg;exact Bh this (by rw[zM,length_reverse];rw[zd]at bg;lia)
def St.lenF(h:St E H A L T F R Dc U p n gs ks ms)(hn:n<=900):aP H .len [.ref F]=some (.int (gs.length:Nat)):=by
 have bg:=h.bg;rw[BW (d6 h.f) (ai (m:=900) (by rw[zM,length_reverse];lia) (by lia)),zM,length_reverse]
end
section
variable{C:ba}{X:XS}{K:KS}{l:Loc}
def cY(args):wS C (.raise 45 args) l H K X=fQ C (X l) args l [] H (mZ 285 l X):=Cu _ _ _ _ _ _ _ rfl
def wg{n:Nat}{K:KP}(h:H[n]?=some (.list vs)):GE (.ref n) H K=K (.lst vs) (H.set n .gone):=propext ⟨λ⟨JK,e,k⟩=>by rw[h]at e;injection e;exact k,λk=>⟨vs,h,k⟩⟩
def rP(k:Fin 4):xX (qs k)=true:=vV (.q k)
end
section
variable{d:Nat}{E:Nat->O->Prop}{A L T F R Dc:Nat}{U:List Nat}{p n:Nat}{as:List AF}{gs:List Fr}{ks:List (List Nat)}{ms:List Nat}{g:Fr}
def St.pop_fr(h:St E H A L T F R Dc U p n (g::gs) ks ms){x:O}:pi (H.set F x) g:=by
 have fr:=h.fr g zw;have nd:=zS.mp h.nd;exact⟨aC fr.o (bP fr.o h.f (by simp)),aC fr.t λq=>nd.1 (by rw[<-q];exact zx _ zw)⟩
def St.things(h:St E H A L T F R Dc U p n (g::gs) ks ms)(hn:n<=900):g.things.length<=900:=zT (h.bt g zw).1 hn
def qh(G:Gd W){k:Fin 4}{dd:D}(h:Sm E H A L T F R Dc U p n (.q k::as) ks ms)(hn:n<=900)(hv:Dv (Sy ks ms) dd v)(c:∀H' v',Sm E H' A L T F R Dc U p n as ks ms->Dv (Sy ks ms) (fO k dd) v'->K v' H'):Call W (d+3) 770 [.ref A,v] H K X:=by
 obtain⟨gs,st,rel⟩:=h
 cases gs with
 |nil=>exact rel.elim
 |cons g r=>
  obtain⟨⟨hk,s,ht,hs⟩,rel⟩:=rel;refine cf (l:=[some (.ref A),some v,none]) G (by decide) rfl rfl ?_;simp only[PD,PC,nk,lc,aL st.r,i8 st.f,st.popM hn];have st2:=st.pop;have fr2:=st.pop_fr (x:=.list (r.reverse.map λg=>V.ref g.fa));generalize H.set F _=H2 at st2 fr2 ⊢;have e0:bY H2 (.ref g.th) (.int 0)=some s:=by
   have:=fr2.t;rw[ht]at this;rw[kM (hM this)]
   rfl
  simp only[nk,lc,cH fr2,e0,gv,wfn];refine Bc G (vs:=[s,v]) rfl (by simp) ?_;simp only[nk];refine c H2 _ ⟨r,st2,rel⟩ (Dv.chain (cs:=[.sy k,dd]) (t:=.em) ?_ rfl);rw[l8];exact⟨s,[v],rfl,by exact hs,fA.one hv⟩
def NS(G:Gd W){s e:Nat}(h:Sm E H A L T F R Dc U p n as ks ms)(hn:n<=900)(c:∀H' eI,step as .d=.cont eI->Sm E H' A L T F R Dc U p n eI ks ms->K .none H')(x:step as .d=.err->∀r:V,X 285 [r,.int (s:Nat)] H):Call W (d+1) 784 [.ref A,eQ w v s e] H K X:=by
 obtain⟨gs,st,rel⟩:=h;refine cf (l:=[some (.ref A),some (eQ w v s e),none]) G (by decide) rfl rfl ?_
 cases gs with
 |nil=>
  cases as with
  |cons a as=>exact rel.elim
  |nil=>
   simp only[Lh,Lg,nk,lc,aL st.r,st.eqE,isEmpty_nil,cY,cz,cc];exact⟨rfl,x rfl _⟩
 |cons g r=>
  cases as with
  |nil=>exact rel.elim
  |cons a as=>
   obtain⟨ra,rel⟩:=rel;have fr:=st.fr g zw;simp only[Lh,Lg,nk,lc,aL st.r,st.eqE,isEmpty_cons,st.top_at hn,gT fr]
   cases a with
   |q k=>
    have e2:ac H .NotEq (.str g.k.w) (.str [108,105,115,116])=some true:=by rw[ra.1];rfl
    simp only[e2,nk,true_eq_false,reduceIte,Bool.not_false,cY,cz,cc,lc];exact⟨rfl,x rfl _⟩
   |v l=>
    have e2:ac H .NotEq (.str g.k.w) (.str [108,105,115,116])=some true:=by rw[ra.1];rfl
    simp only[e2,nk,true_eq_false,reduceIte,Bool.not_false,cY,cz,cc,lc];exact⟨rfl,x rfl _⟩
   |l l=>
    obtain⟨hk,hth,hs,htl⟩:=ra;have e2:ac H .NotEq (.str g.k.w) (.str [108,105,115,116])=some false:=by rw[hk];rfl
    have e3:ac H .Eq (.ref g.th) (.lst [])=some g.things.isEmpty:=rO (d6 fr.t);have hl:=hth.len
    cases l with
    |nil=>
     have e4:g.things.isEmpty=true:=by
      rw[List.isEmpty_iff_length_eq_zero,hl];rfl
     rw[e4]at e3;simp only[e2,nk,lc,cH fr,e3,reduceIte,Bool.not_false,true_eq_false,cY,cz,cc];exact⟨rfl,x rfl _⟩
    |cons y l=>
     have e4:g.things.isEmpty=false:=by
      cases q:g.things with
      |nil=>rw[q]at hl;injection hl
      |cons _ _=>rfl
     rw[e4]at e3;have e5:ac H .NotEq (.int g.st) (.int 0)=some false:=by rw[hs];rfl
     simp only[e2,nk,lc,cH fr,e3,reduceIte,cT fr,e5,gv,Bool.not_false];rw[jN _ _ _ (qg fr)];simp only[nk];exact c _ _ rfl ⟨{ g with st:=1 }::r,st.top (g':={ g with st:=1 }) rfl rfl rfl rfl,⟨hk,hth,rfl⟩,rel⟩
   |ld y l=>
    obtain⟨hk,hth,hs⟩:=ra;have e2:ac H .NotEq (.str g.k.w) (.str [108,105,115,116])=some false:=by rw[hk];rfl
    have e3:ac H .Eq (.ref g.th) (.lst [])=some g.things.isEmpty:=rO (d6 fr.t);have hl:=hth.len;have e4:g.things.isEmpty=false:=by
     cases q:g.things with
     |nil=>rw[q]at hl;injection hl
     |cons _ _=>rfl
    rw[e4]at e3;have e5:ac H .NotEq (.int g.st) (.int 0)=some true:=by rw[hs];rfl
    simp only[e2,nk,lc,cH fr,e3,reduceIte,cT fr,e5,gv,Bool.not_false,true_eq_false,cY,cz,cc];exact⟨rfl,x rfl _⟩
   |lt y l t=>
    obtain⟨hk,hth,hs,htl⟩:=ra;have e2:ac H .NotEq (.str g.k.w) (.str [108,105,115,116])=some false:=by rw[hk];rfl
    have e3:ac H .Eq (.ref g.th) (.lst [])=some g.things.isEmpty:=rO (d6 fr.t);have hl:=hth.len;have e4:g.things.isEmpty=false:=by
     cases q:g.things with
     |nil=>rw[q]at hl;injection hl
     |cons _ _=>rfl
    rw[e4]at e3;have e5:ac H .NotEq (.int g.st) (.int 0)=some true:=by rw[hs];rfl
    simp only[e2,nk,lc,cH fr,e3,reduceIte,cT fr,e5,gv,Bool.not_false,true_eq_false,cY,cz,cc];exact⟨rfl,x rfl _⟩
end
section
variable{d:Nat}{E:Nat->O->Prop}{A L T F R Dc:Nat}{U:List Nat}{p n:Nat}{as:List AF}{gs:List Fr}{ks:List (List Nat)}{ms:List Nat}{g:Fr}
def Tx:bh:=(.k (.ite (.cmp (.attr (.var 1) 21) .Eq (.lit (.str [40]))) (.k (.exp (.meth 4 (.attr (.var 0) 37) (.k (.call (.glb 49) (.k (.lit (.str [108,105,115,116])) (.k (.attr (.var 1) 19) (.k (.listO .z) .z)))) .z))) (.k (.ret (.lit (.bool true))) .z)) .z) (.k (.ite (.cmp (.attr (.var 1) 21) .Eq (.lit (.str [35,40]))) (.k (.exp (.meth 4 (.attr (.var 0) 37) (.k (.call (.glb 49) (.k (.lit (.str [118,101,99,116,111,114])) (.k (.attr (.var 1) 19) (.k (.listO .z) .z)))) .z))) (.k (.ret (.lit (.bool true))) .z)) .z) (.k (.for_ [2,3] (.glb 48) Gx) (.k (.ret (.lit (.bool false))) .z))))
theorem ur:af 48=some (.tup [.tup [.str (qs 0),.str (qn 0)],.tup [.str (qs 1),.str (qn 1)],.tup [.str (qs 2),.str (qn 2)],.tup [.str (qs 3),.str (qn 3)]]):=rfl
def iH(G:Gd W){w:List Nat}{s e:Nat}(hw:xX w=true)(h1:w≠[40])(h2:w≠[35,40])(hq:∀k,w≠qs k)(c:K (.bool false) H):Call W (d+1) 777 [.ref A,eQ (.str w) v s e] H K X:=by
 refine cf (l:=[some (.ref A),some (eQ (.str w) v s e),none,none]) G (by decide) rfl rfl ?_;have e1:ac H .Eq (.str w) (.str [40])=some false:=by rw[iq hw rfl,za h1]
 have e2:ac H .Eq (.str w) (.str [35,40])=some false:=by rw[iq hw rfl,za h2]
 have e3:∀k,ac H .Eq (.str (qs k)) (.str w)=some false:=λk=>by rw[iq (show xX (qs k)=true from vV (.q k)) hw,za (z6 (hq k))]
 rw[show BU.body=Tx from rfl];have st:∀(k:Fin 4) (KF:KS),KF .next [some (.ref A),some (eQ (.str w) v s e),some (.str (qs k)),some (.str (qn k))] H->dT (Call W d) Gx [some (.ref A),some (eQ (.str w) v s e),some (.str (qs k)),some (.str (qn k))] H KF kJ:=λk KF c=>by
  simp only[Gx,nk,lc,eR,e3];exact c
 simp only[Tx,nk,lc,eR,e1,e2,ur,EK];rw[aY,dH];refine st 0 _ ?_;rw[eN,aY,dH];refine st 1 _ ?_;rw[eN,aY,dH];refine st 2 _ ?_;rw[eN,aY,dH];refine st 3 _ ?_;rw[eN,sz];simp only[nk];exact c
def St.framesF(h:St E H A L T F R Dc U p n gs ks ms)(hn:n<=900):aj (gs.reverse.map λg=>V.ref g.fa).length=true:=by
 have bg:=h.bg;rw[zM,length_reverse];exact ai (m:=900) (by lia) (by lia)
def ut(G:Gd W)(h:Sm E H A L T F R Dc U p n as ks ms)(hn:n<=900){b:Bool}{s e:Nat}(hs:s<=U.length)(c:∀H',Sm E H' A L T F R Dc U p (n+1) ((if b then .v [] else .l [])::as) ks ms->K (.bool true) H'):Call W (d+2) 777 [.ref A,eQ (.str (if b then [35,40] else [40])) .none s e] H K X:=by
 obtain⟨gs,st,rel⟩:=h;refine cf (l:=[some (.ref A),some (eQ (.str (if b then [35,40] else [40])) .none s e),none,none]) G (by decide) rfl rfl ?_;have hF:=st.f;have hff:=st.framesF hn;have hF1:=aW (Z:=[O.list []]) hF
 cases b with
 |false=>
  have e1:ac H .Eq (.str [40]) (.str [40])=some true:=rfl;simp only[BU,Lf,nk,lc,eR,false_eq_true,reduceIte,e1,aL st.r,cD hF,cz,gv];refine rK G ?_;have hF2:=aW (Z:=[oM (.str [108,105,115,116]) s (.ref H.length) 0 (.base 44)]) hF1;simp only[nk,lc,cF hF hF2 hff];rw[zj,zV];refine c _ ⟨_,st.push (g:=⟨H.length+1,H.length,.lst,s,[],0,.base 44⟩) rfl rfl hs (zero_le _),⟨rfl,?_,rfl,rfl⟩,rel⟩;exact rfl
 |true=>
  have e1:ac H .Eq (.str [35,40]) (.str [40])=some false:=rfl;have e2:ac H .Eq (.str [35,40]) (.str [35,40])=some true:=rfl;simp only[BU,Lf,nk,lc,eR,reduceIte,e1,e2,aL st.r,cD hF,cz,gv];refine rK G ?_;have hF2:=aW (Z:=[oM (.str [118,101,99,116,111,114]) s (.ref H.length) 0 (.base 44)]) hF1;simp only[nk,lc,cF hF hF2 hff];rw[zj,zV];refine c _ ⟨_,st.push (g:=⟨H.length+1,H.length,.vec,s,[],0,.base 44⟩) rfl rfl hs (zero_le _),⟨rfl,?_,rfl⟩,rel⟩;exact rfl
def Jo(G:Gd W)(h:Sm E H A L T F R Dc U p n as ks ms)(hn:n<=899){k:Fin 4}{s e:Nat}{KF:KS}(hs:s<=U.length)(c:∀H' bQ bU l,(∀k v,Sy ks ms k v->Sy bQ bU k v)->Sm E H' A L T F R Dc U p (n+2) (.q k::as) bQ bU->KF (.ret (.bool true)) l H'):dT (Call W (d+2)) Gx [some (.ref A),some (eQ (.str (qs k)) v s e),some (.str (qs k)),some (.str (qn k))] H KF kJ:=by
 obtain⟨gs,st,rel⟩:=h;have e3:ac H .Eq (.str (qs k)) (.str (qs k))=some true:=by rw[iq (rP k) (rP k),zb rfl]
 simp only[Gx,nk,lc,eR,e3,aL st.r,cD st.f,cz,gv,ui st.r,qa st.tb.t,qb st.tb.t];have bk:=st.bk;refine oK G st.tb (by lia) λH' bQ bU sv tb uA hk hs' kp=>?_;have st2:=st.tbl tb hk kp;have hF1:=aW (Z:=[O.list [sv]]) st2.f;simp only[nk,lc];refine rK G ?_;have hF2:=aW (Z:=[oM (.str [113,117,111,116,97,116,105,111,110]) s (.ref H'.length) 0 (.base 44)]) hF1;simp only[nk,lc,cF st.f hF2 (st.framesF (by lia))];rw[zj,zV];exact c _ bQ bU _ uA ⟨_,st2.push (g:=⟨H'.length+1,H'.length,.quo,s,[sv],0,.base 44⟩) rfl rfl hs (by simp),⟨rfl,sv,rfl,hs'⟩,rel.mono uA⟩
def Fw:∀{j k:Fin 4},j≠k->qs j≠qs k:=by decide
def NT:∀k:Fin 4,¬0=k->¬1=k->¬2=k->3=k:=by decide
def Jp(G:Gd W)(h:Sm E H A L T F R Dc U p n as ks ms)(hn:n<=899){k:Fin 4}{s e:Nat}(hs:s<=U.length)(c:∀H' bQ bU,(∀k v,Sy ks ms k v->Sy bQ bU k v)->Sm E H' A L T F R Dc U p (n+2) (.q k::as) bQ bU->K (.bool true) H'):Call W (d+3) 777 [.ref A,eQ (.str (qs k)) v s e] H K X:=by
 refine cf (l:=[some (.ref A),some (eQ (.str (qs k)) v s e),none,none]) G (by decide) rfl rfl ?_;have e1:ac H .Eq (.str (qs k)) (.str [40])=some false:=by
  clear c;induction k using gJ<;>rfl
 have e2:ac H .Eq (.str (qs k)) (.str [35,40])=some false:=by
  clear c;induction k using gJ<;>rfl
 have miss:∀(j:Fin 4) (KF:KS),qs j≠qs k->KF .next [some (.ref A),some (eQ (.str (qs k)) v s e),some (.str (qs j)),some (.str (qn j))] H->dT (Call W (d+2)) Gx [some (.ref A),some (eQ (.str (qs k)) v s e),some (.str (qs j)),some (.str (qn j))] H KF kJ:=λj KF q c=>by
  have e3:ac H .Eq (.str (qs j)) (.str (qs k))=some false:=by rw[iq (rP j) (rP k),za q]
  simp only[Gx,nk,lc,eR,e3];exact c
 have hit:∀(j:Fin 4) (KF:KS),j=k->(∀l H',KF (.ret (.bool true)) l H'=K (.bool true) H')->dT (Call W (d+2)) Gx [some (.ref A),some (eQ (.str (qs k)) v s e),some (.str (qs j)),some (.str (qn j))] H KF kJ:=λj KF ej q=>by
  subst ej;exact Jo G h hn hs λH' bQ bU l hm hS=>by
   rw[q];exact c H' bQ bU hm hS
 rw[show BU.body=Tx from rfl];simp only[Tx,nk,lc,eR,e1,e2,ur,EK];rw[aY,dH]
 by_cases q0:(0:Fin 4)=k
 .exact hit 0 _ q0 λl H'=>by rw[mm,hW,hZ]
 refine miss 0 _ (Fw q0) ?_;rw[eN,aY,dH]
 by_cases q1:(1:Fin 4)=k
 .exact hit 1 _ q1 λl H'=>by rw[mm,hW,hZ]
 refine miss 1 _ (Fw q1) ?_;rw[eN,aY,dH]
 by_cases q2:(2:Fin 4)=k
 .exact hit 2 _ q2 λl H'=>by rw[mm,hW,hZ]
 refine miss 2 _ (Fw q2) ?_;rw[eN,aY,dH];exact hit 3 _ (NT k q0 q1 q2) λl H'=>by rw[mm,hW,hZ]
end
def clo:List AF->Option (D×List AF)
 |.v l::r=>some (.ve l,r)
 |.l l::r=>some (bO l .em,r)
 |.lt x l t::r=>some (bO (x::l) t,r)
 |_=>none
def Fx(as:List AF):step as .c=match clo as with
  |some (d,r)=>um r d
  |none=>.err:=by
 cases as with
 |nil=>rfl
 |cons a r=>injection a<;>rfl
def Fy{k:Fin 6}(h:k≠0):∃w v,Fn (.a k)=(.str w,v)/\xX w=true/\w≠[115,121,109,98,111,108]:=by
 induction k using fF<;>first | exact absurd rfl h | exact⟨_,_,rfl,rfl,by decide⟩
def Bi(k:Fin 6):∃w v,Fn (.a k)=(.str w,v)/\xX w=true/\w≠[40]/\w≠[35,40]/\∀j,w≠qs j:=by
 induction k using fF<;>exact⟨_,_,rfl,rfl,by decide,by decide,by decide⟩
section
variable{d:Nat}{E:Nat->O->Prop}{A L T F R Dc:Nat}{U:List Nat}{p n:Nat}{as:List AF}{gs:List Fr}{ks:List (List Nat)}{ms:List Nat}{g:Fr}
def St.off(h:St E H A L T F R Dc U p n gs ks ms){m:Nat}{x:O}(hm:H[m]?=some (.list vs))(n1:m∉F::R::gs.map Fr.th)(n2:∀a o,E a o->a≠m):St E (H.set m x) A L T F R Dc U p n gs ks ms:=by
 simp only[mem_cons,not_or]at n1;exact⟨aC h.r (bP h.r hm (by simp)),aC h.l (bP h.l hm (by simp)),aC h.f (z6 n1.1),λg m'=>⟨aC (h.fr g m').o (bP (h.fr g m').o hm (by simp)),aC (h.fr g m').t λq=>n1.2.2 (by rw[<-q];exact mem_map_of_mem m')⟩,h.nd,h.nf,h.tb.setm hm (by simp) (by simp) (by simp) (z6 n1.2.1),λa o e=>⟨aC (h.en a o e).1 (n2 a o e),(h.en a o e).2⟩,h.bk,h.bg,h.bt⟩
def Bj(G:Gd W){s e:Nat}(h:Sm E H A L T F R Dc U p n as ks ms)(hn:n<=900)(c:∀H' dd eI v',clo as=some (dd,eI)->Sm E H' A L T F R Dc U p n eI ks ms->Dv (Sy ks ms) dd v'->K v' H')(x:clo as=none->∀r:V,X 285 [r,.int (s:Nat)] H):Call W (d+3) 791 [.ref A,eQ w v s e] H K X:=by
 obtain⟨gs,st,rel⟩:=h;refine cf (l:=[some (.ref A),some (eQ w v s e),none]) G (by decide) rfl rfl ?_
 cases gs with
 |nil=>
  cases as with
  |cons a as=>exact rel.elim
  |nil=>
   simp only[Lj,Li,nk,lc,aL st.r,st.eqE,isEmpty_nil,cY,cz,cc];exact⟨rfl,x rfl _⟩
 |cons g r=>
  cases as with
  |nil=>exact rel.elim
  |cons a as=>
   obtain⟨ra,rel⟩:=rel;have fr:=st.fr g zw;have st2:=st.pop;have fr2:=st.pop_fr (x:=.list (r.reverse.map λg=>V.ref g.fa));have hth:=st.things hn;have nd:=zS.mp st.nd;have nd2:=zS.mp nd.2;have nd3:=zS.mp nd2.2;have hen:=λa o (e:E a o)=>((st.en a o e).2.2 g zw).2;simp only[Lj,Li,nk,lc,aL st.r,st.eqE,isEmpty_cons,st.top_at hn,gT fr]
   cases a with
   |q k=>
    have e2:ac H .Eq (.str g.k.w) (.str [113,117,111,116,97,116,105,111,110])=some true:=by rw[ra.1];rfl
    simp only[e2,nk,cY,cz,cc,lc];exact⟨rfl,x rfl _⟩
   |v l=>
    have e2:ac H .Eq (.str g.k.w) (.str [113,117,111,116,97,116,105,111,110])=some false:=by rw[ra.1];rfl
    have e3:ac H .Eq (.int g.st) (.int 1)=some false:=by rw[ra.2.2];rfl
    simp only[e2,nk,lc,cT fr,gv,e3,aL st.r,i8 st.f,st.popM hn];generalize H.set F _=H2 at st2 fr2 ⊢;have e4:ac H2 .Eq (.str g.k.w) (.str [118,101,99,116,111,114])=some true:=by rw[ra.1];rfl
    simp only[nk,lc,gT fr2,e4,gv,cH fr2,wg fr2.t];refine ED G ?_;simp only[nk];refine c _ _ _ _ rfl ⟨r,st2.off fr2.t (λq=>?_) hen,rel⟩ (by exact⟨_,ra.2.1,rfl⟩)
    rcases zZ.mp q with q | q
    .exact nd.1 (by rw[<-q];exact zx _ zw)
    .rcases zZ.mp q with q | q
     .exact nd2.1 (by rw[<-q];exact zw)
     .exact nd3.1 q
   |l l=>
    have e2:ac H .Eq (.str g.k.w) (.str [113,117,111,116,97,116,105,111,110])=some false:=by rw[ra.1];rfl
    have e3:ac H .Eq (.int g.st) (.int 1)=some false:=by rw[ra.2.2.1];rfl
    simp only[e2,nk,lc,cT fr,gv,e3,aL st.r,i8 st.f,st.popM hn];generalize H.set F _=H2 at st2 fr2 ⊢;have e4:ac H2 .Eq (.str g.k.w) (.str [118,101,99,116,111,114])=some false:=by rw[ra.1];rfl
    simp only[nk,lc,gT fr2,e4,gv,cH fr2,yt fr2,wfn];refine oN G (d6 fr2.t) hth ?_;simp only[nk];exact c _ _ _ _ rfl ⟨r,st2,rel⟩ (Dv.chain ra.2.1 (by exact ra.2.2.2))
   |ld y l=>
    have e2:ac H .Eq (.str g.k.w) (.str [113,117,111,116,97,116,105,111,110])=some false:=by rw[ra.1];rfl
    have e3:ac H .Eq (.int g.st) (.int 1)=some true:=by rw[ra.2.2];rfl
    simp only[e2,nk,lc,cT fr,gv,e3,cY,cz,cc];exact⟨rfl,x rfl _⟩
   |lt y l t=>
    have e2:ac H .Eq (.str g.k.w) (.str [113,117,111,116,97,116,105,111,110])=some false:=by rw[ra.1];rfl
    have e3:ac H .Eq (.int g.st) (.int 1)=some false:=by rw[ra.2.2.1];rfl
    simp only[e2,nk,lc,cT fr,gv,e3,aL st.r,i8 st.f,st.popM hn];generalize H.set F _=H2 at st2 fr2 ⊢;have e4:ac H2 .Eq (.str g.k.w) (.str [118,101,99,116,111,114])=some false:=by rw[ra.1];rfl
    simp only[nk,lc,gT fr2,e4,gv,cH fr2,yt fr2,wfn];refine oN G (d6 fr2.t) hth ?_;simp only[nk];exact c _ _ _ _ rfl ⟨r,st2,rel⟩ (Dv.chain ra.2.1 ra.2.2.2)
def wh(G:Gd W){k:Fin 6}{s:Nat}(h:Sm E H A L T F R Dc U p n as ks ms)(hn:n<=899)(c:∀H' bQ bU v,(∀k v,Sy ks ms k v->Sy bQ bU k v)->Sm E H' A L T F R Dc U p (n+1) as bQ bU->Dv (Sy bQ bU) (.at k) v->K v H'):Call W (d+3) 798 [.ref A,gr (.a k) s] H K X:=by
 obtain⟨gs,st,rel⟩:=h;have bk:=st.bk
 by_cases q:k=0
 .subst q
  refine uk G st.r st.tb (by lia) λH' bQ bU v tb uA hk hs kp=>?_;exact c H' bQ bU v uA ⟨gs,st.tbl tb hk kp,rel.mono uA⟩ (by rw[iG,if_pos rfl];exact hs)
 .have fin:∀{w:List Nat} {v:V},Fn (.a k)=(.str w,v)->xX w=true->w≠[115,121,109,98,111,108]->Call W (d+3) 798 [.ref A,gr (.a k) s] H K X:=λ{w v} e h1 h2=>by
   unfold gr;rw[e];refine Je G h1 h2 ?_;exact c H ks ms v (λ_ _ x=>x) ⟨gs,st.mono (le_succ n),rel⟩ (by rw[iG,if_neg q,e])
  obtain⟨w,v,e,h1,h2⟩:=Fy q;exact fin e h1 h2
end
noncomputable def strip:List AF->List AF
 |.q _::r=>strip r
 |as=>as
def lJ:∀(as:List AF) (d:D),(ul as d).1=strip as
 |[],_=>rfl
 |.q _::r,_=>lJ r _
 |.v _::_,_=>rfl
 |.l _::_,_=>rfl
 |.ld _ _::_,_=>rfl
 |.lt _ _ _::_,_=>rfl
def qi:∀as:List AF,(strip as).length<=as.length
 |[]=>zv _
 |.q _::r=>le_succ_of_le (qi r)
 |.v _::_=>zv _
 |.l _::_=>zv _
 |.ld _ _::_=>zv _
 |.lt _ _ _::_=>zv _
section
variable{C:ba}{d:Nat}{E:Nat->O->Prop}{A L T F R Dc:Nat}{U:List Nat}{p n:Nat}{as:List AF}{gs:List Fr}{ks:List (List Nat)}{ms:List Nat}{g:Fr}{KF:KS}{xs:XS}
def Tz{a b:Nat}:ac H .Gt (.int (a:Nat)) (.int (b:Nat))=some (decide (b<a)):=by rw[vU];congr 1;rw[decide_eq_decide];lia
def WR{a:Nat}:ac H .Gt (.int (a:Nat)) (.int 0)=some (decide (0<a)):=Tz (b:=0)
def U1{m:Nat}(hm:m<=1000):aT H .Sub (.int ((m+1:Nat):Int)) (.int 1)=some (.int (m:Nat)):=by
 rw[RT (fz (sm (by lia) (by lia)) (by decide))]
 congr 2
 lia
def Bk{M r:List Fr}(st:St E H A L T F R Dc U p n (M++g::r) ks ms)(hn:n<=900):bY H (.ref F) (.int (r.length:Nat))=some (.ref g.fa):=by
 have bg:=st.bg;rw[zV,zd]at bg;rw[jy (d6 st.f) (by rw[zM,length_reverse,zV,zd];lia) (by rw[zM,length_reverse,zV,zd];lia)];rw[reverse_append,zB,zj,map_append,zk (by simp)];simp
def R0(st:St E H A L T F R Dc U p n gs ks ms)(hn:n<=900):∀{g2:List Fr} {a2:List AF} (M:List Fr),gs=M++g2->uq P g2 a2->KF .next [some (.ref A),x1,x2,x3,some (.int ((strip a2).length:Nat)),x5] H->bZ (oY C tA xs) (qu C bA xs) (g2.length+1) [some (.ref A),x1,x2,x3,some (.int (g2.length:Nat)),x5] H KF:=by
 intro g2
 induction g2 with
 |nil=>
  intro a2 M e rel k
  cases a2 with
  |cons a a2=>exact rel.elim
  |nil=>
   have e1:ac H .Gt (.int (([]:List Fr).length:Nat)) (.int 0)=some false:=Tz (b:=0);rw[av];simp only[tA,nk,lc,e1,false_eq_true,reduceIte,Bool.not_true];exact k
 |cons g r ih=>
  intro a2 M e rel k
  cases a2 with
  |nil=>exact rel.elim
  |cons a a2=>
   have st2:=st;rw[e]at st2;have bg:=st2.bg;rw[zV,zd]at bg;have e1:ac H .Gt (.int ((g::r).length:Nat)) (.int 0)=some true:=by rw[WR,zb (by rw[zd];lia)]
   have e2:aT H .Sub (.int ((g::r).length:Nat)) (.int 1)=some (.int (r.length:Nat)):=U1 (m:=r.length) (by lia);have e3:=Bk st2 hn;have fr:=st2.fr g (zU _ zw);rw[av];simp only[tA,nk,lc,e1,aL st.r,e2,e3,gT fr,reduceIte];have no:g.k.w≠[113,117,111,116,97,116,105,111,110]->strip (a::a2)=a::a2->kB (ac H .Eq (.str g.k.w) (.str [113,117,111,116,97,116,105,111,110])) H (TZ C (xs [some (.ref A),x1,x2,x3,some (.int ((g::r).length:Nat)),x5]) [some (.ref A),x1,x2,x3,some (.int ((g::r).length:Nat)),x5] [] true .z (yE (oY C tA xs) (qu C bA xs) (r.length+1) [some (.ref A),x1,x2,x3,some (.int ((g::r).length:Nat)),x5] KF)):=λq1 q2=>by
    have e4:ac H .Eq (.str g.k.w) (.str [113,117,111,116,97,116,105,111,110])=some false:=by rw[iq (NR _) rfl,za q1]
    simp only[nk,e4,false_eq_true,reduceIte,Bool.not_true];rw[q2,<-rel.len]at k;exact k
   cases a with
   |q kk=>
    have e4:ac H .Eq (.str g.k.w) (.str [113,117,111,116,97,116,105,111,110])=some true:=by rw[rel.1.1];rfl
    simp only[nk,e4,reduceIte,bA,lc,e2];exact ih (M++[g]) (by rw[e];simp) rel.2 k
   |v l=>exact no (by rw[rel.1.1];decide) rfl
   |l l=>exact no (by rw[rel.1.1];decide) rfl
   |ld x l=>exact no (by rw[rel.1.1];decide) rfl
   |lt x l t=>exact no (by rw[rel.1.1];decide) rfl
def Sm.lenF(h:Sm E H A L T F R Dc U p n as ks ms)(hn:n<=900):aP H .len [.ref F]=some (.int (as.length:Nat)):=by
 obtain⟨gs,st,rel⟩:=h;rw[st.lenF hn,rel.len]
def Sm.r(h:Sm E H A L T F R Dc U p n as ks ms):H[A]?=some (we L T F):=by
 obtain⟨gs,st,rel⟩:=h;exact st.r
def Sm.l(h:Sm E H A L T F R Dc U p n as ks ms):H[L]?=some (Internal.bX U p):=by
 obtain⟨gs,st,rel⟩:=h;exact st.l
def Ky{m:List AF->Prop}(h:∀as,strip as=as->(∀d,ul as d=(as,d))->m as)(q:∀kk r,m r->m (.q kk::r))(as:List AF):m as:=by
 induction as with
 |nil=>exact h [] rfl λ_=>rfl
 |cons a r ih=>cases a with
  |q kk=>exact q kk r ih
  |_=>exact h _ rfl λ_=>rfl
def R1(G:Gd W)(hn:n<=900){as:List AF}:∀{dd:D} {v:V} {H:Hp},Sm E H A L T F R Dc U p n as ks ms->Dv (Sy ks ms) dd v->(∀H' v',Sm E H' A L T F R Dc U p n (strip as) ks ms->Dv (Sy ks ms) (ul as dd).2 v'->KF .next [some (.ref A),x1,x2,some v',some (.int ((strip as).length:Nat)),x5] H')->bZ (oY (Call W (d+3)) tB xs) (qu (Call W (d+3)) bB xs) (as.length+1) [some (.ref A),x1,x2,some v,some (.int ((strip as).length:Nat)),x5] H KF:=by
 induction as using Ky with
 |h as e0 e=>
  intro dd v H h hv k;have e1:ac H .Gt (.int (as.length:Nat)) (.int ((strip as).length:Nat))=some false:=by rw[e0];exact Tz.trans (zi some (za (lt_irrefl _)))
  rw[av];simp only[tB,nk,lc,aL h.r,gv,h.lenF hn,e1];exact k H v (e0.symm▸h) (by rw[e];exact hv)
 |q kk r ih=>
  intro dd v H h hv k;have e1:ac H .Gt (.int ((AF.q kk::r).length:Nat)) (.int ((strip (AF.q kk::r)).length:Nat))=some true:=Tz.trans (zi some (zb (Nat.lt_succ_of_le (qi r))));rw[av];simp only[tB,nk,lc,aL h.r,gv,h.lenF hn,e1];simp only[bB,nk,lc,ci (k:=47) h.r rfl,cj (k:=47) (a:=770) h.r rfl];refine qh G h hn hv λH' v' h' jh=>?_;simp only[nk,lc];exact ih h' jh k
def R2(G:Gd W)(hn:n<=900){as:List AF}:∀{dd:D} {v:V} {H:Hp},strip as=[]->Sm E H A L T F R Dc U p n as ks ms->Dv (Sy ks ms) dd v->(∀H' v',Sm E H' A L T F R Dc U p n [] ks ms->Dv (Sy ks ms) (ul as dd).2 v'->KF .next [some (.ref A),x1,some v'] H')->bZ (oY (Call W (d+3)) tL xs) (qu (Call W (d+3)) bL xs) (as.length+1) [some (.ref A),x1,some v] H KF:=by
 induction as using Ky with
 |h as e0 e=>
  intro dd v H q h hv k;rw[e0]at q;subst q;have e1:ac H .NotEq (.ref F) (.lst [])=some false:=by
   obtain⟨gs,st,rel⟩:=h;rw[st.neE]
   cases gs with
   |cons _ _=>exact rel.elim
   |nil=>rfl
  rw[av];simp only[tL,nk,lc,aL h.r,e1];exact k H v h hv
 |q kk r ih=>
  intro dd v H q h hv k;have e1:ac H .NotEq (.ref F) (.lst [])=some true:=by
   obtain⟨gs,st,rel⟩:=h;rw[st.neE]
   cases gs with
   |nil=>exact rel.elim
   |cons _ _=>rfl
  rw[av];simp only[tL,nk,lc,aL h.r,e1];simp only[bL,nk,lc,ci (k:=47) h.r rfl,cj (k:=47) (a:=770) h.r rfl];refine qh G h hn hv λH' v' h' jh=>?_;simp only[nk,lc];exact ih q h' jh k
def Jq(G:Gd W)(hn:n<=900){dd:D}(h:Sm E H A L T F R Dc U p n as ks ms)(hq:strip as=[])(hv:Dv (Sy ks ms) dd v)(c:∀H' v',Sm E H' A L T F R Dc U p n [] ks ms->Dv (Sy ks ms) (ul as dd).2 v'->K v' H'):Call W (d+4) 763 [.ref A,v] H K X:=by
 refine cf (l:=[some (.ref A),some v,none]) G (by decide) rfl rfl ?_;rw[show PB.body=.k (.asg 2 (.var 1)) (.k (.whil tL bL) (.k (.ret (.var 2)) .z))from rfl];simp only[nk,lc];refine⟨as.length+1,R2 G hn hq h hv λH' v' h' jh=>?_⟩;simp only[nk,lc];exact c H' v' h' jh
end
def Bl:∀{as r:List AF} {k:Fin 4},strip as≠.q k::r:=by
 intro as
 induction as with
 |nil=>intro r k h;injection h
 |cons a as ih=>
  intro r k
  cases a with
  |q _=>exact ih
  |_=>intro h;injection h
def Fz{dd:D}(h:strip as=[]):um as dd=.done (ul as dd).2:=by
 have e:ul as dd=([],(ul as dd).2):=by rw[<-h,<-lJ as dd]
 unfold um;rw[e]
def Jr{a:AF}{dd:D}(h:strip as=a::r):um as dd=NL (a::r) (ul as dd).2:=by
 have e:ul as dd=(a::r,(ul as dd).2):=by rw[<-h,<-lJ as dd]
 unfold um;rw[e]
section
variable{C:ba}{d:Nat}{E:Nat->O->Prop}{A L T F R Dc:Nat}{U:List Nat}{p n:Nat}{as:List AF}{gs:List Fr}{ks:List (List Nat)}{ms:List Nat}{g:Fr}
def rQ(G:Gd W)(hn:n<=900){dd:D}{s:Nat}(h:Sm E H A L T F R Dc U p n as ks ms)(hv:Dv (Sy ks ms) dd v)(ct:strip as=[]->K (.bool true) H)(cf:∀H' eI,um as dd=.cont eI->Sm E H' A L T F R Dc U p (n+1) eI ks ms->K (.bool false) H')(x:um as dd=.err->∀(r:V) H',(∃eI,Sm E H' A L T F R Dc U p n eI ks ms)->X 285 [r,.int (s:Nat)] H'):Call W (d+4) 805 [.ref A,v,.int (s:Nat)] H K X:=by
 refine Internal.cf (l:=[some (.ref A),some v,some (.int (s:Nat)),none,none,none]) G (by decide) rfl rfl ?_;rw[show PF.body=.k (.asg 3 (.var 1)) (.k (.asg 4 (.call (.glb 0) (.k (.attr (.var 0) 37) .z))) (.k (.whil tA bA) (.k (.ite (.cmp (.var 4) .Eq (.lit (.int 0))) (.k (.ret (.lit (.bool true)))
 .z) .z) (.k (.whil tB bB) (.k (.asg 5 (.idx (.attr (.var 0) 37) (.lit (.int (-1)))))
 (.k (.ite (.cmp (.attr (.var 5) 36) .Eq (.glb 52)) (.k (.raise 45 (.k (.lit (.str [109,111,114,101,32,98,101,104,105,110,100,32,97,32,116,97,105,108])) (.k (.var 2) .z)))
 .z) .z)
 (.k (.ite (.cmp (.attr (.var 5) 36) .Eq (.glb 50)) (.k (.seta (.var 5) 35 (.var 3))
 (.k (.seta (.var 5) 36 (.glb 52))
 .z)) (.k (.exp (.meth 4 (.attr (.var 5) 10) (.k (.var 3) .z)))
 .z))
 (.k (.ret (.lit (.bool false)))
 .z))))))))from rfl]
 simp only[nk,lc,gv,aL h.r,h.lenF hn];refine⟨as.length+1,?_⟩;obtain⟨gs,st,rel⟩:=id h;have hl:=R0 (C:=Call W (d+3)) (KF:=jM (Call W (d+3)) (.k (.ite (.cmp (.var 4) .Eq (.lit (.int 0))) (.k (.ret (.lit (.bool true)))
 .z) .z) (.k (.whil tB bB) (.k (.asg 5 (.idx (.attr (.var 0) 37) (.lit (.int (-1)))))
 (.k (.ite (.cmp (.attr (.var 5) 36) .Eq (.glb 52)) (.k (.raise 45 (.k (.lit (.str [109,111,114,101,32,98,101,104,105,110,100,32,97,32,116,97,105,108])) (.k (.var 2) .z)))
 .z) .z)
 (.k (.ite (.cmp (.attr (.var 5) 36) .Eq (.glb 50)) (.k (.seta (.var 5) 35 (.var 3))
 (.k (.seta (.var 5) 36 (.glb 52))
 .z)) (.k (.exp (.meth 4 (.attr (.var 5) 10) (.k (.var 3) .z)))
 .z))
 (.k (.ret (.lit (.bool false)))
 .z)))))) (eM K) (br X)) (xs:=br X) st hn (x1:=some v) (x2:=some (.int (s:Nat))) (x3:=some v) (x5:=none) [] (nil_append _).symm rel ?_
 .rw[rel.len]at hl
  exact hl
 cases hs:strip as with
 |nil=>
  have e1:ac H .Eq (.int ((strip as).length:Nat)) (.int 0)=some true:=by rw[hs];rfl
  rw[hs]at e1;simp only[nk,lc,e1];exact ct hs
 |cons a r=>
  have e1:ac H .Eq (.int ((a::r).length:Nat)) (.int 0)=some false:=Tv (b:=0);simp only[nk,lc,e1];refine⟨as.length+1,?_⟩;rw[<-hs];refine R1 G hn h hv λH2 v2 h2 SD=>?_;rw[hs]at h2;have hd:=Jr (dd:=dd) hs;obtain⟨g2,st2,wv⟩:=h2
  cases g2 with
  |nil=>exact wv.elim
  |cons g g2=>
   obtain⟨ra,wv⟩:=wv;have fr:=st2.fr g zw;have hth:=st2.things hn;simp only[nk,lc,aL st2.r,st2.top_at hn,cT fr,gv]
   cases a with
   |q k=>exact absurd hs Bl
   |v l=>
    have e2:ac H2 .Eq (.int g.st) (.int 2)=some false:=by rw[ra.2.2];rfl
    have e3:ac H2 .Eq (.int g.st) (.int 1)=some false:=by rw[ra.2.2];rfl
    simp only[nk,lc,e2,cT fr,gv,e3,cH fr,cD fr.t,cF fr.t fr.t (ai hth (by lia))];exact cf _ _ hd ⟨_,st2.add (g':={ g with things:=g.things++[v2] }) rfl,⟨ra.1,ra.2.1.app (fA.one SD),ra.2.2⟩,wv⟩
   |l l=>
    have e2:ac H2 .Eq (.int g.st) (.int 2)=some false:=by rw[ra.2.2.1];rfl
    have e3:ac H2 .Eq (.int g.st) (.int 1)=some false:=by rw[ra.2.2.1];rfl
    simp only[nk,lc,e2,cT fr,gv,e3,cH fr,cD fr.t,cF fr.t fr.t (ai hth (by lia))];exact cf _ _ hd ⟨_,st2.add (g':={ g with things:=g.things++[v2] }) rfl,⟨ra.1,ra.2.1.app (fA.one SD),ra.2.2⟩,wv⟩
   |ld y l=>
    have e2:ac H2 .Eq (.int g.st) (.int 2)=some false:=by rw[ra.2.2];rfl
    have e3:ac H2 .Eq (.int g.st) (.int 1)=some true:=by rw[ra.2.2];rfl
    simp only[nk,lc,e2,cT fr,gv,e3];rw[jN _ _ _ (Bf fr)];have st3:=st2.top (g':={ g with tail:=v2 }) rfl rfl rfl rfl;have fr3:=st3.fr _ zw;simp only[nk,lc,gv];rw[jN _ _ _ (qg fr3)];simp only[nk];exact cf _ _ hd ⟨_,(st3.top (g':={ g with tail:=v2,st:=2 }) rfl rfl rfl rfl).mono (le_succ n),⟨ra.1,ra.2.1,rfl,SD⟩,wv⟩
   |lt y l t=>
    have e2:ac H2 .Eq (.int g.st) (.int 2)=some true:=by rw[ra.2.2.1];rfl
    simp only[nk,lc,e2,cY,cc];exact⟨rfl,x hd _ _ ⟨.lt y l t::r,g::g2,st2,ra,wv⟩⟩
end
def Pos(U:List Nat)(p:Nat):List Tk->Prop
 |[]=>iC U p U.length
 |t::ts=>∃M B,U=M++t.s++B/\iC U p M.length/\(B=[]\/∃r,B=32::r)/\Pos U (M.length+t.s.length) ts
def Js(t:Tk):∃c r,t.s=c::r/\c<1000/\c≠59/\c∉iA:=by
 cases t with
 |o | v | c | d=>exact⟨_,_,rfl,by decide,by decide,by decide⟩
 |q k=>induction k using gJ<;>exact⟨_,_,rfl,by decide,by decide,by decide⟩
 |a k=>induction k using fF<;>exact⟨_,_,rfl,by decide,by decide,by decide⟩
def NU:∀{M U:List Nat} {p:Nat},ts≠[]->U=M++cK ts->(M=[]/\p=0\/∃q,M=q++[32]/\p=q.length)->Pos U p ts:=by
 induction ts with
 |nil=>
  intro _ _ _ h _ _;exact absurd rfl h
 |cons t ts ih=>
  intro M U p _ e hp;obtain⟨B,he,bC,yx⟩:∃B,U=M++t.s++B/\(B=[]\/∃r,B=32::r)/\Pos U (M.length+t.s.length) ts:=by
   cases ts with
   |nil=>
    refine⟨[],by rw[e,zJ];rfl,.inl rfl,?_⟩;have:U.length=M.length+t.s.length:=by rw[e,zV];rfl
    exact .inl ⟨by lia,.inl rfl⟩
   |cons u r=>
    have e2:cK (t::u::r)=t.s++[32]++cK (u::r):=rfl;refine⟨32::cK (u::r),by rw[e,e2];simp,.inr ⟨_,rfl⟩,?_⟩;refine ih (M:=M++t.s++[32]) (by simp) (by rw[e,e2];simp) (.inr ⟨M++t.s,rfl,by simp⟩)
  refine⟨M,B,he,?_,bC,yx⟩;obtain⟨c,r,hc,h1,h2,h3⟩:=Js t;have hg:U[M.length]?=some c:=by rw[he,hc];simp
  rcases hp with ⟨rfl,rfl⟩ |⟨q,rfl,rfl⟩
  .exact .inl ⟨rfl,.inr ⟨c,hg,h1,h2,h3⟩⟩
  .exact .inr ⟨by rw[he];simp,by simp,c,hg,h1,h2,h3⟩
def FA(h:ts≠[]):Pos (cK ts) 0 ts:=NU h rfl (.inl ⟨rfl,rfl⟩)
set_option genCtorIdx false in
inductive RR where
 |err
 |eof
 |dat (d:D) (rest:List Tk)
gen_injective_theorems% RR
def wi:List Tk->List AF->RR
 |[],[]=>.eof
 |[],_::_=>.err
 |t::ts,as=>match step as t with
  |.err=>.err
  |.cont eI=>wi ts eI
  |.done d=>.dat d ts
theorem Wb:wi [] []=(.eof):=rfl
theorem Wc:wi [] (w1::w2)=(.err):=rfl
def uw:wi (t::ts) as=(match step as t with
  |.err=>.err
  |.cont eI=>wi ts eI
  |.done d=>.dat d ts):=rfl
def ed:∀{ts:List Tk} {as:List AF} {out:List D},run ts as out=match wi ts as with
  |.err=>none
  |.eof=>some out
  |.dat d rest=>run rest [] (out++[d])
 |[],[],_=>rfl
 |[],_::_,_=>rfl
 |t::ts,as,out=>by
  rw[Fs,uw]
  cases step as t with
  |err=>rfl
  |cont eI=>exact ed
  |done d=>rfl
def FB:∀{ts rest:List Tk} {as:List AF} {d:D},wi ts as=.dat d rest->rest.length<ts.length:=by
 intro ts
 induction ts with
 |nil=>
  intro rest as d h
  cases as<;>injection h
 |cons t ts ih=>
  intro rest as d h;rw[uw]at h
  cases q:step as t with
  |err=>rw[q]at h;injection h
  |cont eI=>rw[q]at h;exact Nat.lt_succ_of_lt (ih h)
  |done d'=>rw[q]at h;injection h;exact lt_succ_self _
section
variable{t:Tk}{s:Nat}
theorem mJ:aR H (gr t s) 21=some (Fn t).1:=rfl
theorem FC:aR H (gr t s) 19=some (.int (s:Nat)):=rfl
def ux:ac H .Eq (Fn t).1 (.str [101,110,100])=some false:=by
 cases t with
 |o | v | c | d=>rfl
 |q k=>induction k using gJ<;>rfl
 |a k=>induction k using fF<;>rfl
def oP:ac H .Eq (Fn t).1 (.str [46])=some (match t with | .d=>true | _=>false):=by
 cases t with
 |o | v | c | d=>rfl
 |q k=>induction k using gJ<;>rfl
 |a k=>induction k using fF<;>rfl
def oQ:ac H .Eq (Fn t).1 (.str [41])=some (match t with | .c=>true | _=>false):=by
 cases t with
 |o | v | c | d=>rfl
 |q k=>induction k using gJ<;>rfl
 |a k=>induction k using fF<;>rfl
end
def U2:bh:=(.k (.ite (.meth 45 (.var 0) (.k (.var 1) .z)) (.k .cont .z) .z) (.k (.ite (.cmp (.attr (.var 1) 21) .Eq (.lit (.str [46]))) (.k (.exp (.meth 44 (.var 0) (.k (.var 1) .z))) (.k .cont .z)) .z) (.k (.asg 2 (.ite (.cmp (.attr (.var 1) 21) .Eq (.lit (.str [41]))) (.meth 42 (.var 0) (.k (.var 1) .z)) (.meth 43 (.var 0) (.k (.var 1) .z)))) Le)))
def U3:bh:=(.k (.ite (.cmp (.attr (.var 1) 21) .Eq (.lit (.str [101,110,100]))) (.k (.ite (.cmp (.attr (.var 0) 37) .Eq (.list .z)) (.k (.ret (.glb 46)) .z) .z) (.k (.raise 45 (.k (.fstr [101,110,100,32,105,110,32,97,32] (.attr (.idx (.attr (.var 0) 37) (.lit (.int (-1)))) 21)) (.k (.attr (.idx (.attr (.var 0) 37) (.lit (.int (-1)))) 19) .z))) .z)) .z) U2)
def bR:bh:=.k (.asg 1 (.meth 46 (.attr (.var 0) 39) .z)) U3
section
variable{d:Nat}{E:Nat->O->Prop}{A L T F R Dc:Nat}{U:List Nat}{p n:Nat}{as:List AF}{ks:List (List Nat)}{ms:List Nat}{KF:KS}{t:Tk}{s:Nat}
def Jt(G:Gd W)(hn:n<=900){dd:D}(h:Sm E H A L T F R Dc U p n as ks ms)(hv:Dv (Sy ks ms) dd v)(kd:∀d',um as dd=.done d'->∀l H' v',Sm E H' A L T F R Dc U p n [] ks ms->Dv (Sy ks ms) d' v'->KF (.ret v') l H')(kc:∀eI,um as dd=.cont eI->∀b2 H',Sm E H' A L T F R Dc U p (n+1) eI ks ms->KF .next [some (.ref A),some (gr t s),b2] H')(x:um as dd=.err->∀(r:V) H',(∃eI,Sm E H' A L T F R Dc U p n eI ks ms)->X 285 [r,.int (s:Nat)] H'):dT (Call W (d+4)) Le [some (.ref A),some (gr t s),some v] H KF (br X):=by
 simp only[Le,nk,lc,ci (k:=40) h.r rfl,cj (k:=40) (a:=805) h.r rfl,FC];refine rQ G hn h hv (λq=>?_) (λH' eI q h'=>?_) x
 .simp only[nk,lc,ci (k:=41) h.r rfl,cj (k:=41) (a:=763) h.r rfl]
  refine Jq G hn h q hv λH' v' h' jh=>?_;simp only[nk];exact kd _ (Fz q) _ H' v' h' jh
 .simp only[nk,lc]
  exact kc eI q _ H' h'
def FE(G:Gd W)(hn:n<=890)(h:Sm E H A L T F R Dc U p n as ks ms)(hs:s<=U.length)(kd:∀d',step as t=.done d'->∀l H' v' bQ bU n',n'<=n+2->(∀k v,Sy ks ms k v->Sy bQ bU k v)->Sm E H' A L T F R Dc U p n' [] bQ bU->Dv (Sy bQ bU) d' v'->KF (.ret v') l H')(kc:∀eI,step as t=.cont eI->∀fl,(fl=.next\/fl=.cont)->∀b2 H' bQ bU n',n'<=n+2->(∀k v,Sy ks ms k v->Sy bQ bU k v)->Sm E H' A L T F R Dc U p n' eI bQ bU->KF fl [some (.ref A),some (gr t s),b2] H')(x:step as t=.err->∀(r:V) H',(∃eI n' bQ bU,Sm E H' A L T F R Dc U p n' eI bQ bU)->X 285 [r,.int (s:Nat)] H'):dT (Call W (d+4)) U2 [some (.ref A),some (gr t s),x2] H KF (br X):=by
 have tl:∀{dd:D} {v:V} {H':Hp} {eI:List AF} {bQ:List (List Nat)} {bU:List Nat} {m:Nat},m<=n+1->(∀k v,Sy ks ms k v->Sy bQ bU k v)->step as t=um eI dd->Sm E H' A L T F R Dc U p m eI bQ bU->Dv (Sy bQ bU) dd v->dT (Call W (d+4)) Le [some (.ref A),some (gr t s),some v] H' KF (br X):=λhm uA e h' hv=>by
  refine Jt G (by lia) h' hv (λd' q l H2 v' h2 jh=>?_) (λWA q b2 H2 h2=>?_) (λq r H2 h2=>?_)
  .exact kd d' (e.trans q) l H2 v' _ _ _ (by lia) uA h2 jh
  .exact kc WA (e.trans q) .next (.inl rfl) b2 H2 _ _ _ (by lia) uA h2
  .obtain⟨Yg,h3⟩:=h2
   exact x (e.trans q) r H2 ⟨_,_,_,_,h3⟩
 simp only[U2,nk,lc,ci (k:=45) h.r rfl,cj (k:=45) (a:=777) h.r rfl];have same:∀k v,Sy ks ms k v->Sy ks ms k v:=λ_ _ x=>x
 cases t with
 |o=>
  refine ut (b:=false) G h (by lia) hs λH' h'=>?_;simp only[nk];exact kc _ rfl .cont (.inr rfl) _ H' _ _ _ (by lia) same h'
 |v=>
  refine ut (b:=true) G h (by lia) hs λH' h'=>?_;simp only[nk];exact kc _ rfl .cont (.inr rfl) _ H' _ _ _ (by lia) same h'
 |q k=>
  refine Jp G h (by lia) hs λH' bQ bU uA h'=>?_;simp only[nk];exact kc _ rfl .cont (.inr rfl) _ H' _ _ _ (by lia) uA h'
 |d=>
  refine iH G (w:=[46]) rfl (by decide) (by decide) (by decide) ?_;simp only[nk,lc,mJ,oP,ci (k:=44) h.r rfl,cj (k:=44) (a:=784) h.r rfl];refine NS G h (by lia) (λH' eI q h'=>?_) (λq r=>?_)
  .simp only[nk]
   exact kc _ q .cont (.inr rfl) _ H' _ _ _ (by lia) same h'
  .exact x q r H ⟨_,_,_,_,h⟩
 |c=>
  refine iH G (w:=[41]) rfl (by decide) (by decide) (by decide) ?_;simp only[nk,lc,mJ,oP,oQ,ci (k:=42) h.r rfl,cj (k:=42) (a:=791) h.r rfl];refine Bj G h (by lia) (λH' dd eI v' q h' jh=>?_) (λq r=>?_)
  .simp only[nk,lc]
   exact tl (by lia) same (by rw[Fx,q]) h' jh
  .exact x (by rw[Fx,q]) r H ⟨_,_,_,_,h⟩
 |a k=>
  have no:Call W (d+4) 777 [.ref A,gr (.a k) s] H (Om (Qx (Call W (d+4)) (.k .cont .z) .z [some (.ref A),some (gr (.a k) s),x2] (jM (Call W (d+4)) (.k (.ite (.cmp (.attr (.var 1) 21) .Eq (.lit (.str [46]))) (.k (.exp (.meth 44 (.var 0) (.k (.var 1) .z)))
 (.k .cont
 .z)) .z)
 (.k (.asg 2 (.ite (.cmp (.attr (.var 1) 21) .Eq (.lit (.str [41]))) (.meth 42 (.var 0) (.k (.var 1) .z)) (.meth 43 (.var 0) (.k (.var 1) .z))))
 Le)) KF (br X)) (br X))) (br X [some (.ref A),some (gr (.a k) s),x2]):=by
   have go:Om (Qx (Call W (d+4)) (.k .cont .z) .z [some (.ref A),some (gr (.a k) s),x2] (jM (Call W (d+4)) (.k (.ite (.cmp (.attr (.var 1) 21) .Eq (.lit (.str [46]))) (.k (.exp (.meth 44 (.var 0) (.k (.var 1) .z)))
 (.k .cont
 .z)) .z)
 (.k (.asg 2 (.ite (.cmp (.attr (.var 1) 21) .Eq (.lit (.str [41]))) (.meth 42 (.var 0) (.k (.var 1) .z)) (.meth 43 (.var 0) (.k (.var 1) .z))))
 Le)) KF (br X)) (br X)) (.bool false) H:=by
    simp only[nk,lc,mJ,oP,oQ,ci (k:=43) h.r rfl,cj (k:=43) (a:=798) h.r rfl];refine wh G h (by lia) λH' bQ bU v uA h' jh=>?_;simp only[nk,lc];exact tl (zv _) uA rfl h' jh
   obtain⟨w,v,e,o0,o1,o2,o3⟩:=Bi k;have et:([.ref A,gr (.a k) s]:List V)=[.ref A,eQ (.str w) v s (s+(Tk.a k).s.length)]:=by unfold gr;rw[e]
   rw[et];exact iH G o0 o1 o2 o3 go
  exact no
end
section
variable{d:Nat}{E:Nat->O->Prop}{A L T F R Dc:Nat}{U:List Nat}{p n:Nat}{as:List AF}{ks:List (List Nat)}{ms:List Nat}{KF:KS}{t:Tk}{s:Nat}
def FF(G:Gd W){M B:List Nat}(e:U=M++t.s++B)(h:H[L]?=some (bX U p))(hl:U.length<=900)(hL:iC U p M.length)(bC:B=[]\/∃r,B=32::r)(k:∀Z,K (gr t M.length) (H.set L (bX U (M.length+t.s.length))++Z)):Call W (d+8) 650 [.ref L] H K X:=by
 subst e;exact I9 G t h hl hL bC k
def Sm.lexapp(h:Sm E H A L T F R Dc U p n as ks ms){q:Nat}{Z:Hp}:Sm E (H.set L (bX U q)++Z) A L T F R Dc U q n as ks ms:=by
 obtain⟨gs,st,rel⟩:=h;exact⟨gs,st.lex.app,rel⟩
def Ju{a b:List Nat}(ha:a.length<=900)(hb:b.length<=900):pp a (.str b) H K=K (.str (a++b)) H:=by
 simp only[pp,ai hb (show 900<=1000 by lia),ai ha (show 900<=1000 by lia),and_self,if_true]
def NV(k:Fk):k.w.length<=900:=by injection k<;>decide
def Jv(G:Gd W)(hl:U.length<=900){ts:List Tk}:∀{as:List AF} {p n:Nat} {H:Hp} {ks:List (List Nat)} {ms:List Nat} {x1 x2:Option V},Sm E H A L T F R Dc U p n as ks ms->Pos U p ts->n+2*ts.length<=880->(wi ts as=.eof->∀l H' p' n' bQ bU,(∀k v,Sy ks ms k v->Sy bQ bU k v)->Sm E H' A L T F R Dc U p' n' [] bQ bU->KF (.ret (.base 47)) l H')->(∀dd rest,wi ts as=.dat dd rest->∀l H' v' p' n' bQ bU,(∀k v,Sy ks ms k v->Sy bQ bU k v)->Sm E H' A L T F R Dc U p' n' [] bQ bU->Dv (Sy bQ bU) dd v'->Pos U p' rest->n'+2*rest.length<=n+2*ts.length->KF (.ret v') l H')->(wi ts as=.err->∀(r:V) (s:Nat) H',s<=U.length->(∃eI p' n' bQ bU,Sm E H' A L T F R Dc U p' n' eI bQ bU)->X 285 [r,.int (s:Nat)] H')->bZ (oY (Call W (d+8)) (.lit (.bool true)) (br X)) (qu (Call W (d+8)) bR (br X)) (ts.length+1) [some (.ref A),x1,x2] H KF:=by
 induction ts with
 |nil=>
  intro as p n H ks ms x1 x2 h hp hn ke kd x;rw[av];simp only[nk,bR,lc,oO h.r,aJ (k:=46) h.l rfl,aK (k:=46) (a:=650) h.l rfl];refine I1 G h.l (by lia) hp ?_;have h2:=h.lexapp (q:=U.length) (Z:=[]);rw[zJ]at h2;generalize H.set L _=H2 at h2 ⊢;obtain⟨gs,st,rel⟩:=id h2;have e1:aR H2 (.obj 568 [I0,.none,.int (U.length:Nat),.int (U.length:Nat)]) 21=some I0:=rfl;have e2:ac H2 .Eq I0 (.str [101,110,100])=some true:=rfl;simp only[nk,U3,lc,e1,e2,aL st.r,st.eqE]
  cases gs with
  |nil=>
   cases as with
   |cons a as=>exact rel.elim
   |nil=>
    simp only[isEmpty_nil,nk,gv];exact ke rfl _ _ _ _ _ _ (λ_ _ x=>x) h2
  |cons g r=>
   cases as with
   |nil=>exact rel.elim
   |cons a as=>
    have fr:=st.fr g zw;simp only[isEmpty_cons,nk,cY,aL st.r,st.top_at (show n<=900 by lia),gT fr,Fv fr,lc,Ju (show ([101,110,100,32,105,110,32,97,32]:List Nat).length<=900 by decide) (NV g.k),cc];exact⟨rfl,x rfl _ g.s H2 (st.bt g zw).2 ⟨_,_,_,_,_,h2⟩⟩
 |cons t ts ih=>
  intro as p n H ks ms x1 x2 h hp hn ke kd x;obtain⟨M,B,e,hL,bC,yx⟩:=hp;have hs:M.length<=U.length:=by rw[e,zj,zV];lia
  rw[zd]at hn;rw[av];simp only[nk,bR,lc,oO h.r,aJ (k:=46) h.l rfl,aK (k:=46) (a:=650) h.l rfl];refine FF G e h.l hl hL bC λZ=>?_;have h2:=h.lexapp (q:=M.length+t.s.length) (Z:=Z);generalize H.set L _++Z=H2 at h2 ⊢;simp only[nk,U3,lc,mJ,ux];refine FE G (by lia) h2 hs (λd' q l H' v' bQ bU n' oU uA h' jh=>?_) (λeI q fl XQ b2 H' bQ bU n' oU uA h'=>?_) (λq r H' h'=>?_)
  .rw[Cv]
   exact kd d' ts (by rw[uw,q]) l H' v' _ n' bQ bU uA h' jh yx (by rw[zd];lia)
  .have go:bZ (oY (Call W (d+8)) (.lit (.bool true)) (br X)) (qu (Call W (d+8)) bR (br X)) (ts.length+1) [some (.ref A),some (gr t M.length),b2] H' KF:=by
    have er:wi (t::ts) as=wi ts eI:=by rw[uw,q]
    rw[er]at ke kd x;refine ih h' yx (by lia) (λq l H2 p2 n2 Oj Ok hm h3=>?_) (λdd rest q l H2 v2 p2 n2 Oj Ok hm h3 XR XT Yh=>?_) x
    .exact ke q l H2 p2 n2 Oj Ok (λk v y=>hm k v (uA k v y)) h3
    .exact kd dd rest q l H2 v2 p2 n2 Oj Ok (λk v y=>hm k v (uA k v y)) h3 XR XT (by rw[zd];lia)
   rcases XQ with rfl | rfl
   .rw[qv];exact go
   .rw[LF];exact go
  .obtain⟨eI,n',bQ,bU,h'⟩:=h'
   exact x (by rw[uw,q]) r _ H' hs ⟨_,_,_,_,_,h'⟩
def mK(G:Gd W)(hl:U.length<=900){ts:List Tk}(h:Sm E H A L T F R Dc U p n as ks ms)(hp:Pos U p ts)(hn:n+2*ts.length<=880)(ke:wi ts []=.eof->∀H' F' p' n' bQ bU,(∀k v,Sy ks ms k v->Sy bQ bU k v)->Sm E H' A L T F' R Dc U p' n' [] bQ bU->K (.base 47) H')(kd:∀dd rest,wi ts []=.dat dd rest->∀H' v' F' p' n' bQ bU,(∀k v,Sy ks ms k v->Sy bQ bU k v)->Sm E H' A L T F' R Dc U p' n' [] bQ bU->Dv (Sy bQ bU) dd v'->Pos U p' rest->n'+2*rest.length<=n+2*ts.length->K v' H')(x:wi ts []=.err->∀(r:V) (s:Nat) H',s<=U.length->(∃F' eI p' n' bQ bU,Sm E H' A L T F' R Dc U p' n' eI bQ bU)->X 285 [r,.int (s:Nat)] H'):Call W (d+9) 756 [.ref A] H K X:=by
 refine cf (l:=[some (.ref A),none,none]) G (by decide) rfl rfl ?_;rw[show PA.body=.k (.seta (.var 0) 37 (.listO .z)) (.k (.whil (.lit (.bool true)) bR) .z)from rfl];obtain⟨gs,st,rel⟩:=h;have h0:=aW (Z:=[O.list []]) st.r;simp only[nk,lc];rw[jN _ _ _ (NK h0)];simp only[nk];refine⟨ts.length+1,?_⟩;refine Jv G hl (as:=[]) ⟨[],st.fresh,trivial⟩ hp hn (λq l H' p' n' bQ bU hm h'=>?_) (λdd rest q l H' v' p' n' bQ bU hm h' jh Ow oU=>?_) (λq r s H' hs h'=>?_)
 .simp only[nk]
  exact ke q H' _ p' n' bQ bU hm h'
 .simp only[nk]
  exact kd dd rest q H' v' _ p' n' bQ bU hm h' jh Ow oU
 .obtain⟨eI,p',n',bQ,bU,h'⟩:=h'
  exact x q r s H' hs ⟨_,_,_,_,_,_,h'⟩
end
def EN(E:Nat->O->Prop)(N:Nat)(o:O):Nat->O->Prop:=λa x=>E a x\/(a=N/\x=o)
section
variable{d:Nat}{E:Nat->O->Prop}{A L T F R Dc N:Nat}{U:List Nat}{p n:Nat}{as:List AF}{ks:List (List Nat)}{ms:List Nat}{KF:KS}{t:Tk}{s:Nat}
def Sm.at(h:Sm E H A L T F R Dc U p n as ks ms):∀a o,E a o->H[a]?=some o:=λa o e=>by
 obtain⟨gs,st,rel⟩:=h;exact (st.en a o e).1
def Sm.tb(h:Sm E H A L T F R Dc U p n as ks ms):g8 H T R Dc ks ms:=by
 obtain⟨gs,st,rel⟩:=h;exact st.tb
def Sm.less(h:Sm E' H A L T F R Dc U p n as ks ms)(hE:∀a o,E a o->E' a o):Sm E H A L T F R Dc U p n as ks ms:=by
 obtain⟨gs,st,rel⟩:=h;exact⟨gs,⟨st.r,st.l,st.f,st.fr,st.nd,st.nf,st.tb,λa o e=>st.en a o (hE a o e),st.bk,st.bg,st.bt⟩,rel⟩
def Sm.setN(h:Sm (EN E N (.list vs)) H A L T F R Dc U p n as ks ms)(hN:∀a o,E a o->a≠N):Sm (EN E N o) (H.set N o) A L T F R Dc U p n as ks ms:=by
 have h0:=h.less (E:=E) λa o e=>.inl e;obtain⟨gs,st,rel⟩:=h;have q:=st.en N _ (.inr ⟨rfl,rfl⟩);have st':St E H A L T F R Dc U p n gs ks ms:=⟨st.r,st.l,st.f,st.fr,st.nd,st.nf,st.tb,λa o e=>st.en a o (.inl e),st.bk,st.bg,st.bt⟩;have st2:=st'.off (x:=o) q.1 (λm=>?_) hN
 .refine⟨gs,⟨st2.r,st2.l,st2.f,st2.fr,st2.nd,st2.nf,st2.tb,λa x e=>?_,st2.bk,st2.bg,st2.bt⟩,rel⟩
  rcases e with e |⟨rfl,rfl⟩
  .exact st2.en a x e
  .exact⟨bp q.1,q.2⟩
 .rcases zZ.mp m with m | m
  .exact q.2.1.2.2.1 m
  .rcases zZ.mp m with m | m
   .exact q.2.1.2.2.2.1 m
   .obtain⟨g,mg,e⟩:=mem_map.mp m
    exact (q.2.2 g mg).2 e.symm
def Sm.init(tb:g8 H T R Dc ks ms)(hE:∀a o,E a o->H[a]?=some o/\a≠R/\a≠Dc)(hn:ks.length<=n){Z:Hp}:Sm E (H++[we (H.length+1) T (H.length+2),bX U 0,.list []]++Z) H.length (H.length+1) T (H.length+2) R Dc U 0 n [] ks ms:=by
 obtain⟨vs,hr,-⟩:=tb.r;have hR:=dO hr;refine⟨[],⟨?_,?_,?_,λg m=>absurd m (by simp),?_,nodup_nil,?_,λa o e=>?_,hn,zero_le _,λg m=>absurd m (by simp)⟩,trivial⟩
 .rw[zj,zk (zv _),sub_self];rfl
 .rw[zj,zk (by lia),show H.length+1-H.length=1 by lia];rfl
 .rw[zj,zk (by lia),show H.length+2-H.length=2 by lia];rfl
 .refine zS.mpr ⟨?_,zS.mpr ⟨by simp,nodup_nil⟩⟩
  simp only[map_nil,mem_cons,not_mem_nil,or_false]
  lia
 .rw[zj]
  exact tb.keeps (S:=[]) Keeps.app (by simp) (by simp) (by simp) (by simp)
 .have q:=hE a o e
  have:=dO q.1;refine⟨by rw[zj];exact aW q.1,⟨by lia,by lia,by lia,q.2⟩,λg m=>absurd m (by simp)⟩
def g8.sym_at(h:g8 H T R Dc ks ms){k:List Nat}(hs:Sy ks ms k v):∃(m:Nat) (n:V),v=.ref m/\H[m]?=some (.inst 65 [(1,n),(0,.str k)]):=by
 obtain⟨m,rfl,hg⟩:=hs
 rcases ym (k:=k) h.l with ⟨g1,-,-⟩ |⟨i,m',g1,g2,g3⟩
 .rw[hg]at g1;injection g1
 .rw[hg]at g1
  injection g1;obtain⟨n,hs⟩:=h.s i k m g2 g3;exact⟨m,n,rfl,hs⟩
def oR{m b:Nat}{c:Nat}(h:H[m]?=some (.inst c fs)):mN H (.ref m) (.base b)=some false:=fH h
def mL(tb:g8 H T R Dc ks ms):∀{dd:D} {v:V},Dv (Sy ks ms) dd v->mN H v (.base 47)=some false
 |.at k,v,h=>by
  dsimp only[iG,jE,jF,jb,jG]at h;split at h
  .obtain⟨m,n,rfl,hm⟩:=tb.sym_at h
   exact oR hm
  .rename_i q
   subst h
   induction k using fF<;>first | exact absurd rfl q | rfl
 |.sy k,v,h=>by
  dsimp only[iG,jE,jF,jb,jG]at h;obtain⟨m,n,rfl,hm⟩:=tb.sym_at h;exact oR hm
 |.em,v,h=>by
  dsimp only[iG,jE,jF,jb,jG]at h;subst h
  rfl
 |.ch cs t,v,h=>by
  dsimp only[iG,jE,jF,jb,jG]at h;obtain⟨nf,vs,tv,h1,h2,rfl⟩:=h
  cases vs with
  |nil=>exact mL tb h2
  |cons x r=>rfl
 |.ve l,v,h=>by
  dsimp only[iG,jE,jF,jb,jG]at h;obtain⟨vs,-,rfl⟩:=h
  rfl
def NW(h:Pos U p ts):p<=U.length:=by
 have go:∀{s},iC U p s->s<=U.length->p<=U.length:=λhL hs=>by
  rcases hL with ⟨rfl,-⟩ |⟨h1,-,-⟩
  .exact hs
  .exact Nat.le_of_lt (zu.mp h1).1
 cases ts with
 |nil=>exact go h (zv _)
 |cons t ts=>
  obtain⟨M,B,e,hL,-,-⟩:=h;exact go hL (by rw[e,zj,zV];lia)
def FG:∀{ts:List Tk} {as:List AF} {out r:List D},run ts as out=some r->out.length<=r.length:=by
 intro ts
 induction ts with
 |nil=>
  intro as out r h
  cases as with
  |nil=>injection h;exact zv _
  |cons _ _=>injection h
 |cons t ts ih=>
  intro as out r h;rw[Fs]at h
  cases q:step as t with
  |err=>rw[q]at h;injection h
  |cont eI=>rw[q]at h;exact ih h
  |done d=>
   rw[q]at h;have:=ih h;rw[zV]at this
   lia
end
section
variable{d:Nat}{E:Nat->O->Prop}{A L T R Dc N:Nat}{U:List Nat}{KF:KS}{x0 x1 x2 x3:Option V}
def Jw(G:Gd W)(hl:U.length<=900)(hN:∀a o,E a o->a≠N):∀(m:Nat) {ts:List Tk} {p n F:Nat} {as:List AF} {H:Hp} {ks:List (List Nat)} {ms:List Nat} {out:List D} {vs:List V} {x6:Option V},ts.length<=m->Sm (EN E N (.list vs)) H A L T F R Dc U p n as ks ms->Pos U p ts->n+2*ts.length<=880->fA (Sy ks ms) out vs->vs.length+ts.length<=900->(∀JM,run ts [] out=some JM->∀l H' JK F' p' n' bQ bU,Sm E H' A L T F' R Dc U p' n' [] bQ bU->fA (Sy bQ bU) JM JK->KF (.ret (.lst JK)) l H')->(run ts [] out=none->∀(r:V) (s:Nat) H',s<=U.length->(∀a o,E a o->H'[a]?=some o)->X 285 [r,.int (s:Nat)] H')->bZ (oY (Call W (d+9)) (.lit (.bool true)) (br X)) (qu (Call W (d+9)) PG (br X)) (m+1) [x0,x1,x2,x3,some (.ref A),some (.ref N),x6] H KF:=λm=>by
 induction m with
 |zero=>
  intro ts p n F as H ks ms out vs x6 hm h hp hn hv hvl kk x;have e:ts=[]:=List.eq_nil_of_length_eq_zero (le_zero.mp hm);subst e;rw[av];simp only[nk,PG,lc,ci (k:=50) h.r rfl,cj (k:=50) (a:=756) h.r rfl];refine mK G hl h hp hn (λq H' F' p' n' bQ bU hm' h'=>?_) (λdd rest q=>by injection q) (λq=>by injection q);have e1:ac H' .Is (.base 47) (.base 47)=some true:=rfl;have hN':=h'.at N _ (.inr ⟨rfl,rfl⟩);simp only[nk,lc,gv,e1,wg hN'];exact kk out rfl _ _ _ _ _ _ _ _ ((h'.setN hN).less λa o e=>.inl e) (fA.mono hm' hv)
 |succ m ih=>
  intro ts p n F as H ks ms out vs x6 hm h hp hn hv hvl kk x;rw[av];simp only[nk,PG,lc,ci (k:=50) h.r rfl,cj (k:=50) (a:=756) h.r rfl];refine mK G hl h hp hn (λq H' F' p' n' bQ bU hm' h'=>?_) (λdd rest q H' v' F' p' n' bQ bU hm' h' jh Ow oU=>?_) (λq r s H' hs h'=>?_)
  .have e1:ac H' .Is (.base 47) (.base 47)=some true:=rfl
   have hN':=h'.at N _ (.inr ⟨rfl,rfl⟩);simp only[nk,lc,gv,e1,wg hN'];exact kk out (by rw[ed,q]) _ _ _ _ _ _ _ _ ((h'.setN hN).less λa o e=>.inl e) (fA.mono hm' hv)
  .have e1:ac H' .Is v' (.base 47)=some false:=mL h'.tb jh
   have hN':=h'.at N _ (.inr ⟨rfl,rfl⟩);have hr:=FB q;have er:run ts [] out=run rest [] (out++[dd]):=by rw[ed,q]
   rw[er]at kk x;simp only[nk,lc,gv,e1,cD hN',cF hN' hN' (ai (show vs.length<=900 by lia) (by lia))];exact ih (by lia) (h'.setN hN) Ow (by lia) ((fA.mono hm' hv).app (fA.one jh)) (by rw[zV];simp only[length_cons,length_nil];lia) kk x
  .obtain⟨F',eI,p',n',bQ,bU,h'⟩:=h'
   exact x (by rw[ed,q]) r s H' hs λa o e=>h'.at a o (.inl e)
def NX(G:Gd W){H:Hp}{ks:List (List Nat)}{ms:List Nat}{ts:List Tk}(hl:U.length<=900)(tb:g8 H T R Dc ks ms)(hE:∀a o,E a o->H[a]?=some o/\a≠R/\a≠Dc)(hp:Pos U 0 ts)(hn:ks.length+2*ts.length<=800)(kk:∀out,run ts [] []=some out->∀H' vs A L F p n bQ bU,Sm E H' A L T F R Dc U p n [] bQ bU->fA (Sy bQ bU) out vs->K (.lst vs) H')(x:run ts [] []=none->∀(r:V) (s:Nat) H',s<=U.length->(∀a o,E a o->H'[a]?=some o)->X 285 [r,.int (s:Nat)] H'):Call W (d+10) 820 [.str U,.ref T] H K X:=by
 refine cf (l:=[some (.str U),some (.ref T),some (.int 53),some (.bool true),none,none,none]) G (by decide) rfl rfl ?_;rw[show PH.body=.k (.asg 4 (.call (.glb 53) (.k (.var 0) (.k (.var 1) (.k (.var 2) (.k (.var 3) .z)))))) (.k (.asg 5 (.listO .z)) (.k (.whil (.lit (.bool true)) PG) .z))from rfl];simp only[nk,lc,gv];refine uh G ?_;simp only[nk,lc];refine⟨ts.length+1,?_⟩;have hlen:(H++[we (H.length+1) T (H.length+2),bX U 0,O.list []]).length=H.length+3:=by simp
 have hN:∀a o,E a o->a≠H.length+3:=λa o e q=>by
  have:=dO (hE a o e).1
  lia
 have h0:Sm (EN E (H.length+3) (.list [])) (H++[we (H.length+1) T (H.length+2),bX U 0,O.list []]++[O.list []]) H.length (H.length+1) T (H.length+2) R Dc U 0 ks.length [] ks ms:=by
  obtain⟨gs,st,rel⟩:=Sm.init (U:=U) tb hE (zv ks.length) (Z:=[O.list []]);refine⟨gs,⟨st.r,st.l,st.f,st.fr,st.nd,st.nf,st.tb,λa o e=>?_,st.bk,st.bg,st.bt⟩,rel⟩
  rcases e with e |⟨rfl,rfl⟩
  .exact st.en a o e
  .obtain⟨vs,hr,-⟩:=tb.r
   have h1:=dO hr;have h2:=dO tb.d;refine⟨by rw[zk (by rw[hlen];exact zv _),hlen,sub_self];rfl,⟨by lia,by lia,by lia,by lia,by lia⟩,λg m=>?_⟩
   cases gs with
   |nil=>simp at m
   |cons _ _=>exact rel.elim
 rw[hlen];refine Jw G hl hN ts.length (zv _) h0 hp (by lia) (out:=[]) rfl (by simp only[length_nil];lia) (λJM q l H' JK F' p' n' bQ bU h' jh=>?_) x;simp only[nk];exact kk JM q H' JK _ _ F' p' n' bQ bU h' jh
def NY(G:Gd W){H:Hp}{ks:List (List Nat)}{ms:List Nat}{ts:List Tk}(hl:U.length<=900)(tb:g8 H T R Dc ks ms)(hE:∀a o,E a o->H[a]?=some o/\a≠R/\a≠Dc)(hp:Pos U 0 ts)(hn:ks.length+2*ts.length<=800)(kk:∀dd,run ts [] []=some [dd]->∀H' v A L F p n bQ bU,Sm E H' A L T F R Dc U p n [] bQ bU->Dv (Sy bQ bU) dd v->K v H')(x:(∀dd,run ts [] []≠some [dd])->∀(r:V) (s:Nat) H',s<=U.length->(∀a o,E a o->H'[a]?=some o)->X 285 [r,.int (s:Nat)] H'):Call W (d+10) 828 [.str U,.ref T] H K X:=by
 refine cf (l:=[some (.str U),some (.ref T),some (.int 53),some (.bool true),none,none,none]) G (by decide) rfl rfl ?_;have h0:=Sm.init (U:=U) tb hE (zv ks.length) (Z:=[]);rw[zJ]at h0;simp only[PJ,PI,nk,lc,gv];refine uh G ?_;simp only[nk,lc,ci (k:=50) h0.r rfl,cj (k:=50) (a:=756) h0.r rfl];refine mK G hl h0 hp (by lia) (λq H' F' p' n' bQ bU hm' h'=>?_) (λdd rest q H' v' F' p' n' bQ bU hm' h' jh Ow oU=>?_) (λq r s H' hs h'=>?_)
 .have e1:ac H' .Is (.base 47) (.base 47)=some true:=rfl
  have e2:run ts [] []=some []:=by rw[ed,q]
  simp only[nk,lc,gv,e1,cY,len_str (show U.length<=1000 by lia),cc];exact⟨rfl,x (λdd e=>by rw[e2]at e;injection e) _ _ H' (zv _) h'.at⟩
 .have e1:ac H' .Is v' (.base 47)=some false:=mL h'.tb jh
  have er:run ts [] []=run rest [] [dd]:=by rw[ed,q];rfl
  have hpl:=NW Ow;simp only[nk,lc,gv,e1,ci (k:=25) h'.r rfl,cj (k:=25) (a:=749) h'.r rfl];refine Fq G h'.r h'.l ?_;simp only[nk,lc,ci (k:=50) h'.r rfl,cj (k:=50) (a:=756) h'.r rfl];refine mK G hl h' Ow (by lia) (λq2 H2 F2 p2 n2 Oj Ok Sz h2=>?_) (λd2 WB q2 H2 v2 F2 p2 n2 Oj Ok Sz h2 SD Yi hn2=>?_) (λq2 r s H2 hs h2=>?_)
  .have e2:ac H2 .IsNot (.base 47) (.base 47)=some false:=rfl
   simp only[nk,lc,gv,e2];exact kk dd (by rw[er,ed,q2]) H2 v' _ _ F2 p2 n2 Oj Ok h2 (jh.mono Sz)
  .have e2:ac H2 .IsNot v2 (.base 47)=some true:=by
    rw[show ac H2 .IsNot v2 (.base 47)=o5 (mN H2 v2 (.base 47))from rfl,mL h2.tb SD];rfl
   simp only[nk,lc,gv,e2,cY,cc];refine⟨rfl,x (λd3 e=>?_) _ _ H2 hpl h2.at⟩;rw[er,ed,q2]at e;have:=FG e;simp at this
  .obtain⟨F2,WA,p2,n2,Oj,Ok,h2⟩:=h2
   exact x (λd3 e=>by rw[er,ed,q2]at e;injection e) r s H2 hs h2.at
 .obtain⟨F',eI,p',n',bQ,bU,h'⟩:=h'
  exact x (λd3 e=>by rw[ed,q]at e;injection e) r s H' hs h'.at
end
noncomputable def tS:PE:=.call (.glb 57) (.k (.var 0) (.k (.glb 5) .z))
section
variable{d:Nat}{T R Dc:Nat}{ks:List (List Nat)}{ms:List Nat}{KF:KS}
def gU(h:BC H v=some t)(c:V):aP H .isinstance [v,c]=(match Gf c with | some c=>some (.bool (BD t c)) | none=>none):=by
 show ((BC H v).bind _).map _=_;rw[h]
 cases Gf c<;>rfl
def g8.app(h:g8 H T R Dc ks ms){Z:Hp}:g8 (H++Z) T R Dc ks ms:=h.keeps (S:=[]) Keeps.app (by simp) (by simp) (by simp) (by simp)
def wj{m c:Nat}(h:H[m]?=some (.inst c fs))(hc:dS.contains c=true):BC H (.ref m)=some (.ref c):=(fH h).trans (if_pos hc)
def Jx(tb:g8 H T R Dc ks ms){dd:D}(h:Dv (Sy ks ms) dd v)(hc:∀c u,dd≠.ch c u):aP H .isinstance [v,.base 149]=some (.bool false):=by
 cases dd with
 | «at» k=>
  dsimp only[iG,jE,jF,jb,jG]at h;split at h
  .obtain⟨m,n,rfl,hm⟩:=tb.sym_at h
   rw[gU (wj hm rfl)]
   rfl
  .rename_i q
   subst h
   induction k using fF<;>first | exact absurd rfl q | rfl
 |sy k=>
  dsimp only[iG,jE,jF,jb,jG]at h;obtain⟨m,n,rfl,hm⟩:=tb.sym_at h;rw[gU (wj hm rfl)]
  rfl
 |em=>dsimp only[iG,jE,jF,jb,jG]at h;subst h;rfl
 |ch c u=>exact absurd rfl (hc c u)
 |ve l=>
  dsimp only[iG,jE,jF,jb,jG]at h;obtain⟨vs,-,rfl⟩:=h
  rfl
def qj(G:Gd W)(tb:g8 H T R Dc ks ms){k:List Nat}(h:Sy ks ms k v)(c:K (.tup [ol,.str k]) H):Call W (d+2) 867 [v,.ref T] H K X:=by
 have hg:=h;obtain⟨m,n,rfl,hm⟩:=tb.sym_at h;obtain⟨m',e,hg⟩:=hg;injection e;refine cf (l:=[some (.ref m),some (.ref T),none]) G (by decide) rfl rfl ?_;have t:=wj hm rfl;have i1:=gU t (.ty .bool);have i2:=gU t (.ty .int);have i3:ac H .Is (.ref m) (.base 44)=some false:=oR (b:=44) hm;have i4:=gU t (.base 400);have i5:=gU t (.base 323);have i6:=gU t (.base 65);have r1:aP H .isinstance [.ref m,.ty .bool]=some (.bool false):=i1;have r2:aP H .isinstance [.ref m,.ty .int]=some (.bool false):=i2;have r4:aP H .isinstance [.ref m,.base 400]=some (.bool false):=i4;have r5:aP H .isinstance [.ref m,.base 323]=some (.bool false):=i5;have r6:aP H .isinstance [.ref m,.base 65]=some (.bool true):=i6;have a0:aR H (.ref m) 0=some (.str k):=dq hm;have mt:∀(C:ba) (X:XP) (l lo:Loc) (args:de) (K:KP),cq C X l lo 23 args K (.ref T) H=fQ C X args l lo H (cJ C X 23 (.ref T) H K):=λC X l lo args K=>by
  refine bK C X l lo H K ?_ args;exact mU tb.t
 have wt:∀(C:ba) (X:XP) (args:List V) (K:KP),bD C X 23 (.ref T) H args H K=C 111 (.ref T::args) H K X:=λC X args K=>by
  exact iI C X H K (mV tb.t) rfl
 simp -implicitDefEqProofs only[o6,Gy,nk,lc,gv,r1,r2,i3,r4,r5,r6,mt,wt,a0];refine Fp G tb ?_;have e1:ac H .Is (.ref m) (.ref m)=some true:=if_pos rfl;rw[hg,getD_some];simp only[nk,lc,e1,a0];exact c
def kz(W:Wd)(n:Nat):Prop:=∀(dd:D) (v:V) (H:Hp) (T R Dc:Nat) (ks:List (List Nat)) (ms:List Nat) (K:KP) (X:XP),dd.B<=n->g8 H T R Dc ks ms->Dv (Sy ks ms) dd v->(∀Z,K dd.v (H++Z))->Call W (n+2) 867 [v,.ref T] H K X
def oS{n:Nat}{l0:Loc}{f:Nat}(hS:kz W n)(hf:l0[f]?=some (some (.ref T))):∀{vs acc:List V} {H:Hp},D.Bs l<=n->g8 H T R Dc ks ms->fA (Sy ks ms) l vs->(∀Z,K (.lst (acc++D.vs l)) (H++Z))->cb (aX (Call W (n+2)) l0 1 (.call (.glb 56) (.k (.var 0) (.k (.fre f) .z))) .z) vs acc H K:=by
 induction l with
 |nil=>
  intro vs acc H hB tb hv k;rw[uo]at hv;subst hv;have:=k [];rw[D.vs_0,zJ,zJ]at this;exact this
 |cons x r ih=>
  intro vs acc H hB tb hv k;rw[l8]at hv;obtain⟨v,ws,rfl,h1,h2⟩:=hv;rw[D.Bs_1]at hB;rw[bi,b9];simp only[nk,lc,gv,wfn,hf];refine hS x v H T R Dc ks ms _ _ (by lia) tb h1 λZ=>?_;simp only[nk];refine ih (by lia) tb.app h2 λZ2=>?_;have:=k (Z++Z2);rw[<-zj,D.vs_1]at this;rw[zj acc];exact this
def rR{o:O}:(H++o::Z)[H.length]?=some o:=by rw[zk (zv _),sub_self];rfl
def NZ{o o':O}:(H++o::Z).set H.length o'=H++o'::Z:=by
 rw[List.set_append_right _ _ (zv _),sub_self];rfl
def wk{n:Nat}(hS:kz W n)(WC:g8 H T R Dc ks ms)(ht:Dv (Sy ks ms) t tv)(SE:∀c u,t≠.ch c u):∀{ws acc:List V} {Z:Hp},D.Bs cs<=n->acc.length+ws.length<=900->fA (Sy ks ms) cs ws->(∀Z',KF .next [some tv,some (.ref T),some (.ref H.length)] (H++.list (acc++D.vs cs)::Z'))->bZ (oY (Call W (n+2)) tS xs) (qu (Call W (n+2)) bS xs) (ws.length+1) [some (bJ ws tv),some (.ref T),some (.ref H.length)] (H++.list acc::Z) KF:=by
 induction cs with
 |nil=>
  intro ws acc Z hB hl hv k;rw[uo]at hv;subst hv;have e1:=Jx (WC.app (Z:=.list acc::Z)) ht SE;have:=k Z;rw[D.vs_0,zJ]at this;rw[av,Jd];simp only[tS,nk,lc,gv,e1];exact this
 |cons x r ih=>
  intro ws acc Z hB hl hv k;rw[l8]at hv;obtain⟨v,ws,rfl,h1,h2⟩:=hv;rw[D.Bs_1]at hB;rw[zd]at hl;have e1:aP (H++.list acc::Z) .isinstance [.obj 149 [v,bJ ws tv],.base 149]=some (.bool true):=rfl;have a7:∀H':Hp,aR H' (.obj 149 [v,bJ ws tv]) 7=some v:=λ_=>rfl;have a6:∀H':Hp,aR H' (.obj 149 [v,bJ ws tv]) 6=some (bJ ws tv):=λ_=>rfl;rw[av,rL];simp only[tS,nk,lc,gv,e1];simp only[bS,nk,lc,gv,cD (rR (H:=H) (o:=O.list acc) (Z:=Z)),a7,wfn];refine hS x v _ T R Dc ks ms _ _ (by lia) WC.app h1 λZ2=>?_;rw[zj,cons_append];simp only[nk,cF (rR (H:=H) (o:=O.list acc) (Z:=Z)) (rR (H:=H) (o:=O.list acc) (Z:=Z++Z2)) (ai (show acc.length<=900 by lia) (by lia)),NZ,lc,a6];refine ih (by lia) (by rw[zV];simp only[length_cons,length_nil];lia) h2 λZ'=>?_;have:=k Z';rw[D.vs_1]at this;rw[zj acc];exact this
def Bm{n m:Nat}{vs:List V}(h:H[n]?=some (.list vs))(hf:vs.length<=900):ag (Call W m) X (.ty .tuple) [.ref n] H K=K (.tup vs) H:=by
 rw[hV _ _ _ _ trivial,wK (hM h) (ai hf (show 900<=1000 by lia)),Cr]
end
section
variable{T R Dc:Nat}{ks:List (List Nat)}{ms:List Nat}
def FH(G:Gd W){d:Nat}{K:KP}(k:K D.em.v H):Call W (d+1) 867 [.base 44,.ref T] H K X:=by
 refine cf (l:=[some (.base 44),some (.ref T),none]) G (by decide) rfl rfl ?_;have e:dT (Call W d) o6.body [some (.base 44),some (.ref T),none] H (eM K) (br X)=K D.em.v H:=by kernel_rfl
 rw[e];exact k
def Jy(G:Gd W){d:Nat}{K:KP}(k:K (D.at 1).v H):Call W (d+1) 867 [.int 12,.ref T] H K X:=by
 refine cf (l:=[some (.int 12),some (.ref T),none]) G (by decide) rfl rfl ?_;have e:dT (Call W d) o6.body [some (.int 12),some (.ref T),none] H (eM K) (br X)=K (D.at 1).v H:=by kernel_rfl
 rw[e];exact k
def Jz(G:Gd W){d:Nat}{K:KP}(k:K (D.at 2).v H):Call W (d+1) 867 [.bool true,.ref T] H K X:=by
 refine cf (l:=[some (.bool true),some (.ref T),none]) G (by decide) rfl rfl ?_;have e:dT (Call W d) o6.body [some (.bool true),some (.ref T),none] H (eM K) (br X)=K (D.at 2).v H:=by kernel_rfl
 rw[e];exact k
def JA(G:Gd W){d:Nat}{K:KP}(k:K (D.at 3).v H):Call W (d+1) 867 [.obj 191 [.lst [.int 115]],.ref T] H K X:=by
 refine cf (l:=[some (.obj 191 [.lst [.int 115]]),some (.ref T),none]) G (by decide) rfl rfl ?_;have e:dT (Call W d) o6.body [some (.obj 191 [.lst [.int 115]]),some (.ref T),none] H (eM K) (br X)=K (D.at 3).v H:=by kernel_rfl
 rw[e];exact k
def JB(G:Gd W){d:Nat}{K:KP}(k:K (D.at 4).v H):Call W (d+1) 867 [.obj 170 [.int 40],.ref T] H K X:=by
 refine cf (l:=[some (.obj 170 [.int 40]),some (.ref T),none]) G (by decide) rfl rfl ?_;have e:dT (Call W d) o6.body [some (.obj 170 [.int 40]),some (.ref T),none] H (eM K) (br X)=K (D.at 4).v H:=by kernel_rfl
 rw[e];exact k
def JC(G:Gd W){d:Nat}{K:KP}(k:K (D.at 5).v H):Call W (d+1) 867 [.obj 400 [.int 1,.int 2],.ref T] H K X:=by
 refine cf (l:=[some (.obj 400 [.int 1,.int 2]),some (.ref T),none]) G (by decide) rfl rfl ?_;have e:dT (Call W d) o6.body [some (.obj 400 [.int 1,.int 2]),some (.ref T),none] H (eM K) (br X)=K (D.at 5).v H:=by kernel_rfl
 rw[e];exact k
def FI(G:Gd W){n:Nat}(ih:kz W n){vs:List V}{K:KP}(hn:n<=99)(hl:vs.length<=n)(hB:D.Bs l<=n)(tb:g8 H T R Dc ks ms)(hvs:fA (Sy ks ms) l vs)(k:∀Z,K (D.ve l).v (H++Z)):Call W (n+3) 867 [.obj 212 [.lst vs],.ref T] H K X:=by
 refine cf (l:=[some (.obj 212 [.lst vs]),some (.ref T),none]) G (by decide) rfl rfl ?_;have r1:aP H .isinstance [.obj 212 [.lst vs],.ty .bool]=some (.bool false):=rfl;have r2:aP H .isinstance [.obj 212 [.lst vs],.ty .int]=some (.bool false):=rfl;have r3:ac H .Is (.obj 212 [.lst vs]) (.base 44)=some false:=rfl;have r4:aP H .isinstance [.obj 212 [.lst vs],.base 400]=some (.bool false):=rfl;have r5:aP H .isinstance [.obj 212 [.lst vs],.base 323]=some (.bool false):=rfl;have r6:aP H .isinstance [.obj 212 [.lst vs],.base 65]=some (.bool false):=rfl;have r7:aP H .isinstance [.obj 212 [.lst vs],.base 170]=some (.bool false):=rfl;have r8:aP H .isinstance [.obj 212 [.lst vs],.base 191]=some (.bool false):=rfl;have r9:aP H .isinstance [.obj 212 [.lst vs],.base 212]=some (.bool true):=rfl;have ra:aR H (.obj 212 [.lst vs]) 10=some (.lst vs):=rfl;have hf2:aj (D.vs l).length=true:=ai (m:=100) (by rw[rD,<-hvs.len];lia) (by lia);simp -implicitDefEqProofs only[o6,Gy,nk,lc,gv,r1,r2,r3,r4,r5,r6,r7,r8,r9,ra,gn (ai (show vs.length<=100 by lia) (show 100<=1000 by lia))];refine oS ih (f:=1) rfl hB tb hvs λZ=>?_;simp only[nk,lc,gv,j5 hf2,nil_append];have:=k Z;dsimp only[D.v_0,D.v_1,D.v_2,D.v_3,D.v_4]at this;exact this
def FJ(G:Gd W){n:Nat}(ih:kz W n){t:D}{ws:List V}{K:KP}(hn:n<=99)(hB:D.Bs cs<=n)(XU:t.B<=n)(hlen:ws.length<=n)(tb:g8 H T R Dc ks ms)(hne:cs≠[])(SE:∀c u,t≠.ch c u)(h1:fA (Sy ks ms) cs ws)(h2:Dv (Sy ks ms) t tv)(k:∀Z,K (D.ch cs t).v (H++Z)):Call W (n+3) 867 [bJ ws tv,.ref T] H K X:=by
 have hl:=h1.len;have hloop:=λKF k=>wk (xs:=br X) (KF:=KF) ih tb h2 SE (acc:=[]) (Z:=[]) (cs:=cs) (ws:=ws) hB (by rw[length_nil];lia) h1 k;refine cf (l:=[some (bJ ws tv),some (.ref T),none]) G (by decide) rfl rfl ?_
 cases ws with
 |nil=>cases cs with
  |nil=>exact absurd rfl hne
  |cons _ _=>simp at hl
 |cons x r=>
  have r1:aP H .isinstance [bJ (x::r) tv,.ty .bool]=some (.bool false):=rfl;have r2:aP H .isinstance [bJ (x::r) tv,.ty .int]=some (.bool false):=rfl;have r3:ac H .Is (bJ (x::r) tv) (.base 44)=some false:=rfl;have r4:aP H .isinstance [bJ (x::r) tv,.base 400]=some (.bool false):=rfl;have r5:aP H .isinstance [bJ (x::r) tv,.base 323]=some (.bool false):=rfl;have r6:aP H .isinstance [bJ (x::r) tv,.base 65]=some (.bool false):=rfl;have r7:aP H .isinstance [bJ (x::r) tv,.base 170]=some (.bool false):=rfl;have r8:aP H .isinstance [bJ (x::r) tv,.base 191]=some (.bool false):=rfl;have r9:aP H .isinstance [bJ (x::r) tv,.base 212]=some (.bool false):=rfl;have ra:aP H .isinstance [bJ (x::r) tv,.base 149]=some (.bool true):=rfl;simp -implicitDefEqProofs only[o6,Gy,nk,lc,gv,r1,r2,r3,r4,r5,r6,r7,r8,r9,ra,Bool.not_true];refine⟨(x::r).length+1,hloop _ λZ=>?_⟩;have hc:(D.vs cs).length<=900:=by rw[rD];lia
  simp only[nk,lc,gv,nil_append,Bm (rR (H:=H) (o:=O.list (D.vs cs)) (Z:=Z)) hc,wfn];refine ih t tv _ T R Dc ks ms _ _ XU tb.app h2 λZ2=>?_;simp only[nk];have:=k (.list (D.vs cs)::Z++Z2);rw[<-zj,D.v_3]at this;exact this
def FK(G:Gd W):∀n,n<=100->kz W n:=λn=>by
 induction n with
 |zero=>
  intro _ dd v H T R Dc ks ms K X hB tb hv k;exact absurd dd.B_pos (Nat.not_lt.mpr hB)
 |succ n ih=>
  intro hn dd v H T R Dc ks ms K X hB tb hv k;have ih:=ih (Nat.le_of_succ_le hn);have k0:K dd.v H:=by
   have:=k [];rw[zJ]at this;exact this
  cases dd with
  |sy kk=>exact qj G tb hv k0
  |em=>
   obtain rfl:=hv;exact FH G k0
  | «at» kk=>
   dsimp only[iG,jE,jF,jb,jG]at hv;split at hv
   .rename_i q
    subst q;exact qj G tb hv k0
   .rename_i q
    subst hv;revert q k0
    induction kk using fF
    .intro _ q;exact absurd rfl q
    .intro k0 _;exact Jy G k0
    .intro k0 _;exact Jz G k0
    .intro k0 _;exact JA G k0
    .intro k0 _;exact JB G k0
    .intro k0 _;exact JC G k0
  |ve l=>
   obtain⟨vs,hvs,rfl⟩:=hv;dsimp only[D.B_0,D.B_1,D.B_2,D.B_3,D.B_4]at hB;exact FI G ih (by lia) (by have:=hvs.len;have:=jx l;lia) (by lia) tb hvs k
  |ch cs t=>
   obtain⟨⟨hne,SE⟩,ws,tv,h1,h2,rfl⟩:=hv;dsimp only[D.B_0,D.B_1,D.B_2,D.B_3,D.B_4]at hB;have hl:=h1.len;have hb:=jx cs;have:=t.B_pos;exact FJ G ih (by lia) (by lia) (by lia) (by lia) tb hne SE h1 h2 k
end
def wl{H H':Hp}(h:∀(a:Nat) (o:O),H[a]?=some o->H'[a]?=some o):∃Z,H'=H++Z:=by
 have:H <+: H':=List.prefix_iff_getElem?.mpr λi hi=>h i _ (zo hi);obtain⟨Z,e⟩:=this;exact⟨Z,e.symm⟩
def FL(t:Tk):t.s.length<=3:=by
 cases t with
 |o | v | c | d=>decide
 |q k=>induction k using gJ<;>decide
 |a k=>induction k using fF<;>decide
def uy:∀ws:List Tk,(cK ws).length<=4*ws.length
 |[]=>zv _
 |[t]=>by
  have:=FL t;have e:cK [t]=t.s:=rfl;rw[e,zd,length_nil]
  lia
 |t::u::r=>by
  have:=FL t;have h:=uy (u::r);have e:cK (t::u::r)=t.s++[32]++cK (u::r):=rfl;rw[e,zV,zV];simp only[length_cons,length_nil]at h ⊢
  lia
def yu(l:List D):bz (l.map It.dat)=D.vs l:=by
 rw[om,bz,List.map_map]
 rfl
def wm:∀l:List D,iB (l.map It.dat)=D.Bs l
 |[]=>rfl
 |d::r=>by
  rw[z0,iu,D.Bs_1,wm r]
  rfl
def FM{r:Option (List D)}(h:∀d,r≠some [d]):one (r.map (·.map It.dat))=none:=by
 match r,h with
 |none,_=>rfl
 |some [],_=>rfl
 |some [d],h=>exact absurd rfl (h d)
 |some (_::_::_),_=>rfl
section
def JD(G:Gd W):lx W 103:=λwords b H K X hw hl k=>by
 refine cf (l:=[some (.str (cK words)),some (.bool b),none,none,none]) G (by decide) rfl rfl ?_;have htl:=uy words;simp only[P4,P3,nk,lc,gv];refine Jb G ?_;have tb:g8 (H++[.inst 128 [(3,.ref (H.length+1)),(2,.ref (H.length+2))],.list [],.dict [] []]) H.length (H.length+1) (H.length+2) [] []:=by
  refine⟨?_,⟨[],?_,rfl⟩,?_,rfl,λi k m h=>by injection h⟩
  .rw[zk (zv _),sub_self];rfl
  .rw[zk (by lia),show H.length+1-H.length=1 by lia];rfl
  .rw[zk (by lia),show H.length+2-H.length=2 by lia];rfl
 have hE:∀a o,H[a]?=some o->(H++[O.inst 128 [(3,.ref (H.length+1)),(2,.ref (H.length+2))],.list [],.dict [] []])[a]?=some o/\a≠H.length+1/\a≠H.length+2:=λa o e=>by
  have:=dO e;exact⟨aW e,by lia,by lia⟩
 generalize H++[O.inst 128 [(3,.ref (H.length+1)),(2,.ref (H.length+2))],.list [],.dict [] []]=H1 at tb hE ⊢;have hp:=FA hw;have hn:([]:List (List Nat)).length+2*words.length<=800:=by rw[length_nil];lia
 have fin:∀{dds:List D} {vs:List V} {H2:Hp} {R Dc:Nat} {ks:List (List Nat)} {ms:List Nat} {KE:KS},i9 (km b (bH words))=.lst (D.vs dds)->D.Bs dds<=100->(∃Z,H2=H++Z)->g8 H2 H.length R Dc ks ms->fA (Sy ks ms) dds vs->(∀v l H',KE (.ret v) l H'=K v H')->wS (Call W 102) (.ret (.comp 1 (.call (.glb 56) (.k (.var 0) (.k (.fre 2) .z))) (.var 3) .z)) [some (.str (cK words)),some (.bool b),some (.ref H.length),some (.lst vs),none] H2 KE (br X):=λ{dds vs H2 R Dc ks ms KE} e hB hz XV hv hK=>by
  obtain⟨Z,rfl⟩:=hz;have hvl:vs.length<=100:=by have:=hv.len;have:=jx dds;lia
  simp only[nk,lc,gn (ai hvl (show 100<=1000 by lia))];refine oS (FK G 100 (zv _)) (f:=2) rfl hB XV hv λZ2=>?_;simp only[nk,hK,nil_append];rw[<-e,zj];exact k _
 have bad:i9 (km b (bH words))=.none->∀(r:V) (s:Nat) (H':Hp) (l:Loc) (KE:KS),s<=(cK words).length->(∀(a:Nat) (o:O),H[a]?=some o->H'[a]?=some o)->(∀v l H',KE (.ret v) l H'=K v H')->Qy (Call W 102) 45 4 (.k (.ret (.ite (.cmp2 (.lit (.int 0)) .LtE (.attr (.var 4) 25) .LtE (.call (.glb 0) (.k (.var 0) .z))) (.lit .none) (.lit (.str [110,111,32,112,108,97,99,101])))) .z) KE (br X) [some (.str (cK words)),some (.bool b),some (.ref H.length),none,none] 285 [r,.int (s:Nat)] H':=λe r s H' l KE hs hh hK=>by
  refine⟨rfl,?_⟩;obtain⟨Z,rfl⟩:=wl hh;have a1:aR (H++Z) (.exn 285 [r,.int (s:Nat)]) 25=some (.int (s:Nat)):=rfl;have e1:ac (H++Z) .LtE (.int 0) (.int (s:Nat))=some true:=by rw[EH];exact zi some (zb (by lia))
  have e2:ac (H++Z) .LtE (.int (s:Nat)) (.int ((cK words).length:Nat))=some true:=by rw[EH];exact zi some (zb (by lia))
  simp only[nk,lc,a1,e1,gv,len_str (show (cK words).length<=1000 by lia),e2,hK];rw[<-e];exact k Z
 have hB:∀l,bH words=some l->iB l<=50:=λl h=>by have:=p6 h;lia
 have hrun:=un words
 cases b with
 |false=>
  simp only[nk,lc,wfn];refine NX (E:=λa o=>H[a]?=some o) (ts:=words) G (by lia) tb hE hp hn (λout q H' vs A L F p n bQ bU h' jh=>?_) (λq r s H' hs h'=>?_)
  .rw[q]at hrun
   have hb:=hB _ hrun;rw[wm]at hb;simp only[nk,lc];refine fin (by rw[km,hrun];exact zi V.lst (yu out)) (by lia) (wl h'.at) h'.tb jh λv l H'=>?_;rw[hW,hZ]
  .rw[q]at hrun
   exact bad (by rw[km,hrun];rfl) r s H' [] _ hs h' λv l H'=>by rw[hW,hZ]
 |true=>
  simp only[nk,lc,wfn];refine NY (E:=λa o=>H[a]?=some o) (ts:=words) G (by lia) tb hE hp hn (λdd q H' v A L F p n bQ bU h' jh=>?_) (λq r s H' hs h'=>?_)
  .rw[q]at hrun
   have hb:=hB _ hrun;rw[wm]at hb;simp only[nk,lc];refine fin (dds:=[dd]) (by rw[km,hrun];exact zi V.lst (yu [dd])) (by lia) (wl h'.at) h'.tb (fA.one jh) λv l H'=>?_;rw[hW,hZ]
  .exact bad (by rw[km,hrun,FM q];rfl) r s H' [] _ hs h' λv l H'=>by rw[hW,hZ]
def FN(G:Gd W){K:KP}{script:List Int}(hs:script.length<=1000)(k:∀H',K (.bool true) H'):Call W 104 908 [.lst (script.map .int)] H K X:=NG (d:=99) G (JD G) hs k
end
noncomputable def rr(a:Nat):Value:=.ref a
noncomputable def ii(i:Nat):Value:=.int i 0
noncomputable def ss(s:Str)(t:Nat):Value:=.str s t
def dd(P:Params)(s:Str)(t:Nat)(v:Value):DictEntry:=⟨PyData.keyHash P s,ss s t,v⟩
def d7(P:Params)(s:Str)(t r:Nat):DictEntry:=dd P s t (rr r)
noncomputable def uu(l:List Value):Obj:=⟨.type "tuple",none,.seq l.toArray 0,#[]⟩
noncomputable def vv(l:List Value):Obj:=⟨.none,none,.fields l.toArray,#[]⟩
noncomputable def dc(e:Nat)(l:List DictEntry):Obj:=⟨.type "dict",none,.dict l.toArray e,#[]⟩
noncomputable def fi(c:String)(l:List Value):Obj:=⟨.type c,none,.fields l.toArray,#[]⟩
def toks:List Str->Nat->List Value
 |[],_=>[]
 |s::r,t=>ss s t::toks r (t+1)
noncomputable def gS(i n:Nat):List Stmt:=(prog.main.body.drop i).take n
noncomputable def Op{α:Type}(d:α)(f:Str->Arguments->List Stmt->Scope->PySem.Pos->α)(g:Str->List Stmt->List Str->PySem.Pos->α)(s:Stmt):α:=
 if h:s.ctorIdx=0 then Stmt.FunctionDef.elim (motive_2:=λ_=>α) s h λn ar b _ _ _ sc _ _ p=>f n ar b sc p
 else if h:s.ctorIdx=2 then Stmt.ClassDef.elim (motive_2:=λ_=>α) s h λn _ _ b _ _ _ _ _ l p=>g n b l p else d
noncomputable def A1(i:Nat):Stmt:=(prog.main.body.drop i).headD (.Pass default)
def kL:Stmt->Option (List Str):=Op none (λ_ ar b sc _=>(localNames ar sc (.stmts b)).map (·.1)) λ_ _ _ _=>none
def kN(st:Stmt):Nat:=((kL st).getD []).length
def kW(st:Stmt):Nat:=(kL st).elim 5 λ_=>7
def TA:Stmt->Str:=Op "" (λn _ _ _ _=>n) λn _ _ _=>n
def U4:Stmt->Nat:=Op 0 (λ_ _ _ _ p=>p.line) λ_ _ _ p=>p.line
def TB(t:Nat):Value:=ss "/claim/cut.py" t
def fB(pr:Str)(st:Stmt)(a t:Nat)(md dv:Value):List Obj:=Op [] (λn ar b sc p=>
  let ls:=kL st
  let k:=kN st
  let z:=a+(kW st-3)
  let q:=pr++n
  let f:FuncData:={ name:=n,qualname:=q,params:=ar,body:=.stmts b,scope:=sc,globals:=0,closure:=[],defaults:=.none,kwdefaults:=.none }
  uu []::vv []::ls.elim [] (λl=>[uu (toks l (t+3)),uu []])++[⟨.none,none,.func f,#[]⟩,fi "code" [.str n t,ss q (t+1),TB (t+2),ii p.line,ii ar.args.length,ii 0,ii 0,ii 3,rr a,.bool true,ii 181,rr (a+1),.none,ls.elim .none λ_=>rr (a+2),ls.elim .none λ_=>rr (a+3),rr z,ii (t+3+k),ii p.line,TB (t+4+k)],⟨.type "function",none,.func { f with globals:=3,defaults:=dv,pyModule:=md,code:=rr (z+1) },#[]⟩]) (λ_ _ _ _=>[]) st
def fR(pr:Str)(md:Value):List Stmt->Nat->Nat->Value->List Obj
 |[],_,_,_=>[]
 |s::r,a,t,dv=>fB pr s a t md dv++fR pr md r (a+kW s) (t+(kN s+6)) .none
def fE(P:Params):List Stmt->Nat->Nat->List DictEntry
 |[],_,_=>[]
 |s::r,a,t=>d7 P (TA s) (t+(kN s+5)) (a+(kW s-1))::fE P r (a+kW s) (t+(kN s+6))
def pS:List Stmt->Nat->List Value
 |[],_=>[]
 |s::r,a=>ii (U4 s)::ii 4::rr (a+(kW s-2))::pS r (a+kW s)
def tr:List Nat->List Value
 |[]=>[]
 |n::r=>ii (n/1000)::ii 0::rr (n%1000)::tr r
def cC(n:Str)(t l c v:Nat):Obj:=fi "code" [ss n t,ss n (t+1),TB (t+2),ii l,ii 0,ii 0,ii 0,ii 0,rr c,.bool false,ii 181,rr v,.none,.none,.none,.none,ii (t+3),ii l,TB (t+4)]
def We(c n:Nat)(md:Value):Obj:=⟨.type "frame",none,.plain,#[some (rr c),some (rr 3),some (rr n),none,some md,none,some (rr 0)]⟩
def su(c:Nat):List Obj:=[fi "super" [rr c,rr c,rr c],fi "builtin_function_or_method" [.builtin "object.__init_subclass__",rr c]]
def gd(c t:Nat):Obj:=fi "getset_descriptor" [ss "__dict__" t,rr c,.builtin "function.__dict__",.builtin "function.__dict__#set"]
def gw(c t:Nat):Obj:=fi "getset_descriptor" [ss "__weakref__" t,rr c,.builtin "ExceptionGroup.__weakref__",.none]
def ty(n:Str)(A c t:Nat):Obj:=⟨.type "type",none,.cls { name:=n,bases:=[.type "object"],mro:=[rr A,.type "object"],ns:=A-1,qualname:=n },#[none,none,some (ss n (t-2)),some (ss n (t+6)),some (.builtin "object.__new__"),some (.bool true)]⟩
def tE(n:Str)(A c t:Nat)(m b s:List Value):Obj:=⟨.type "type",none,.cls { name:=n,bases:=b,mro:=rr A::(m++[.type "Exception",.type "BaseException",.type "object"]),ns:=A-1,qualname:=n,subclasses:=s },#[some (rr c),none,some (ss n (t-2)),some (ss n (t+6)),some (.builtin "Exception.__new__"),some (.bool true)]⟩
def sA(i:Nat):List Str:=Op [] (λ_ _ _ _ _=>[]) (λ_ _ l _=>l) (A1 i)
def kl(P:Params)(md:Value)(i c t e A T:Nat)(bs:List Value)(q:List DictEntry)(o:List Obj):List Obj:=
 let n:=TA (A1 i)
 let ms:=Op [] (λ_ _ _ _ _=>[]) (λ_ b _ _=>b) (A1 i)
 let p:=c+7+e
 let u:=t+10+e
 let l:=sA i
 let j:=T+l.length
 let x:=dd P "__module__" (t+5) md
 let y:=dd P "__firstlineno__" (t+9) (.int (U4 (A1 i)) (t+8))
 let z:=fE P ms p u++[d7 P "__static_attributes__" j (A-2)]
 let w:=x::dd P "__qualname__" (t+7) (ss n (t+6))::y::z
 [uu bs,fi "builtin_function_or_method" [.builtin "type.__prepare__",.type "type"],dc w.length w,uu [],vv (pS ms p),cC n t (U4 (A1 i)) (c+3) (c+4),We (c+5) (c+2) md] ++
 (cond (Nat.beq e 0) [] [uu [.int 53 (t+10),.bool true]]++(fR (n ++ ".") md ms p u (cond (Nat.beq e 0) .none (rr (c+7))) ++
 (uu (toks l T)::dc (q.length+2) (x::y::z++q++[dd P "__doc__" (j+1+2*q.length) .none])::(o++su A))))
def kp(P:Params)(md:Value)(i c t e A T:Nat):List Obj:=
 let j:=T+(sA i).length
 kl P md i c t e A T [] [d7 P "__dict__" (j+2) (A+1),d7 P "__weakref__" (j+4) (A+2)] [ty (TA (A1 i)) A c t,gd A (j+1),gw A (j+3)]
def ke(P:Params)(md:Value)(i c t A T:Nat):List Obj:=kl P md i c t 0 A T [rr 246] [] [tE (TA (A1 i)) A c t [rr 246] [rr 246] []]
def gz(P:Params):List Str->List Nat->List Value->List DictEntry
 |[],_,_=>[]
 |_::_,[],_=>[]
 |s::r,n::m,v=>dd P s (n/1000) (cond (Nat.beq (n%1000) 0) (v.headD .none) (rr (n%1000)))::gz P r m (cond (Nat.beq (n%1000) 0) v.tail v)
noncomputable def FO:List (List Obj)->List Obj
 |[]=>[]
 |l::r=>l++FO r
noncomputable def Wf:List (Nat×Obj)->BT->BT
 |[],t=>t
 |(a,o)::r,t=>Wf r (t.set a λ_=>o)
def F5(n:Nat)(ov:List (Nat×Obj))(l:List Obj):BT:=Wf ov (vR (l.take n) 0 .nil)
def m0:Value:=(ss "__main__" 164)
def m1:Value:=(ss "scheme.data" 194)
def m2:Value:=(ss "scheme.errors" 479)
def m3:Value:=(ss "scheme.binary" 595)
def m4:Value:=(ss "scheme.exact" 704)
def m5:Value:=(ss "scheme.numtext" 762)
def m6:Value:=(ss "scheme.lexer" 952)
def m7:Value:=(ss "scheme.reader" 1207)
def m8:Value:=(ss "law_nt0259_01" 1395)
noncomputable def nL:List Str:=prog.main.scope.names.map (·.1)
def gE(P:Params):List DictEntry:=[dd P "__doc__" 166 .none,dd P "__package__" 167 .none,dd P "__loader__" 168 (.builtin "__main__.__loader__#opaque"),dd P "__spec__" 169 .none,d7 P "__annotations__" 170 6,d7 P "__builtins__" 171 4,dd P "__file__" 173 (ss "/claim/cut.py" 172),dd P "__cached__" 174 .none]++gz P (nL.take 1++((nL.drop 2).take 12++nL.drop 15)) [193021,224038,230044,236047,267065,344128,375149,404170,433191,462212,468221,478229,511246,538266,565285,594304,600000,631323,638334,645341,652348,662355,673362,683369,691376,703383,736400,744411,752418,761425,765000,778426,780000,782000,792433,798438,806445,839462,849473,860480,871487,879494,885499,895506,905513,913520,925527,935534,951542,955000,957000,959000,961000,963000,965000,967000,969000,973543,975000,980546,989551,1024568,1034579,1041586,1048593,1056600,1063607,1072614,1206702,1210000,1212000,1214000,1249723,1366808,1380820,1394828,1414829,1420836,1426843,1436850,1444857,1450862,1456867,1464874,1471881,1480888,1486893,1492898,1498903,1504908] [.int (65536) 599,ss "0123456789abcdef" 764,ss "esfdl" 779,.int (5) 781,ss " \n\t\x0d\x0c" 954,ss " \n\t\x0d\x0c()\";" 956,ss "[]{}|" 958,ss "abcdefghijklmnopqrstuvwxyz" 960,ss "ABCDEFGHIJKLMNOPQRSTUVWXYZ" 962,ss "0123456789" 964,ss "!$%&*/:<=>?^_~" 966,ss "+-.@" 968,ss "bodxei" 974,.int (0) 1209,.int (1) 1211,.int (2) 1213]
def gl(P:Params)(n e:Nat)(v:Value):Obj:=dc e (dd P "__name__" 165 v::(gE P).take n)
def pN:List Value:=tr [1020,5027,11054,16075,44138,49159,53180,57201,61220,63228,69235,74255,80274,86293,95312,100333,102340,104347,106354,113361,118368,123375,125382,135389,140410,145417,147424,157432,162437,164444,167451,173472,178479,186486,192493,197498,200505,209512,220519,226526,238533,245541,269557,276578,282585,284592,286599,295606,297613,302620,423712,431733,523819,531827,542835,544842,546849,552856,554861,556866,582873,586880,588887,598892,610897,627902,634907]
def oL(P:Params):List (List Obj):=[[boot_o_0 P,boot_o_1 P,⟨.none,none,.dict ([dd P "type.__subclasses__.Exception.0" 508 (ii 246),dd P "type.__subclasses__.Exception.n" 509 (ii 1)]).toArray 2,#[]⟩,gl P 98 99 m8,boot_o_4 P,boot_o_5 P,boot_o_6 P,boot_o_7 P,boot_o_8 P,boot_o_9 P,boot_o_10 P,uu [],vv pN,cC "<module>" 182 1 11 12,We 13 3 m0],
fR "" m0 (gS 0 1) 15 187 .none,
kp P m1 2 22 198 0 38 216,
[dc 1 [dd P "title" 229 (ss "empty" 225)],⟨rr 38,some 43,.plain,#[]⟩,⟨.type "frame",none,.dict ([d7 P "self" 226 44,dd P "title" 227 (ss "empty" 225)]).toArray 2,#[]⟩,dc 1 [dd P "title" 235 (ss "eof" 231)],⟨rr 38,some 46,.plain,#[]⟩,⟨.type "frame",none,.dict ([d7 P "self" 232 47,dd P "title" 233 (ss "eof" 231)]).toArray 2,#[]⟩],
kp P m1 5 49 239 0 65 258,
kp P m1 6 70 270 0 128 335,
kp P m1 7 133 347 0 149 366,
kp P m1 8 154 378 0 170 396,
kp P m1 9 175 407 0 191 425,
kp P m1 10 196 436 0 212 454,
fR "" m1 (gS 11 1) 217 463 .none,
[uu [rr 44]],
fR "" m1 (gS 12 1) 223 469 (rr 222),
kl P m2 14 230 483 0 246 502 [.type "Exception"] [d7 P "__weakref__" 506 247] [tE "SchemeError" 246 230 483 [] [.type "Exception"] [rr 266,rr 285,rr 304],gw 246 505],
ke P m2 15 250 514 266 533,
ke P m2 16 269 541 285 560,
ke P m2 17 288 568 304 588,
kp P m3 20 307 603 0 323 622,
fR "" m3 (gS 21 8) 328 632 .none,
kp P m4 30 384 708 0 400 727,
fR "" m4 (gS 31 3) 405 737 .none,
[dc 4 [dd P "b" 766 (.int (2) 767),dd P "o" 768 (.int (8) 769),dd P "d" 770 (.int (10) 771),dd P "x" 772 (.int (16) 773)]],
fR "" m5 (gS 39 3) 427 783 .none,
kp P m5 42 446 809 0 462 829,
fR "" m5 (gS 43 10) 467 840 .none,
[uu [.int 10 936]],
fR "" m5 (gS 53 1) 536 937 (rr 535),
[uu (toks ["+", "-", "..."] 970),uu (toks ["space", " "] 976),uu (toks ["newline", "\n"] 978),uu [rr 544,rr 545],uu (toks ["'", "quote"] 981),uu (toks ["`", "quasiquote"] 983),uu (toks [",", "unquote"] 985),uu (toks [",@", "unquote-splicing"] 987),uu [rr 547,rr 548,rr 549,rr 550]],
kp P m6 67 552 992 0 568 1013,
fR "" m6 (gS 68 6) 573 1025 .none,
kp P m6 74 615 1075 1 702 1195,
kp P m7 79 707 1217 0 723 1237,
kp P m7 80 728 1252 1 808 1356,
[uu [.int 53 1367,.bool true]],
fR "" m7 (gS 81 1) 814 1368 (rr 813),
[uu [.int 53 1381,.bool true]],
fR "" m7 (gS 82 1) 822 1382 (rr 821),
[⟨.type "list",none,.seq (toks ["(", ")", ".", "'", "a", "12", "(", ")", ")", "#(", "`", ",", ",@", "#t", "\"s\"", "#\\(", "1/2"] 1397).toArray 0,#[]⟩],
fR "" m8 (gS 85 13) 830 1415 .none]
def t0(P:Params):BT:=F5 15 [(2,boot_o_2 P),(3,gl P 8 9 m0),(12,vv (pN.take 0))] (FO (oL P))
def s0(P:Params)(os:OsState):SharedT:=⟨t0 P,15,(boot_heap P).life,#[],boot_drawn,187,os⟩
def t1(P:Params):BT:=F5 70 [(2,boot_o_2 P),(3,gl P 13 14 m1),(12,vv (pN.take 9))] (FO (oL P))
def s1(P:Params)(os:OsState):SharedT:=⟨t1 P,70,(boot_heap P).life,#[],boot_drawn,268,os⟩
def t2(P:Params):BT:=F5 217 [(2,boot_o_2 P),(3,gl P 18 19 m1),(12,vv (pN.take 24))] (FO (oL P))
def s2(P:Params)(os:OsState):SharedT:=⟨t2 P,217,(boot_heap P).life,#[],boot_drawn,463,os⟩
def t3(P:Params):BT:=F5 288 [(3,gl P 23 24 m2),(12,vv (pN.take 39)),(246,tE "SchemeError" 246 230 483 [] [.type "Exception"] [rr 266,rr 285])] (FO (oL P))
def s3(P:Params)(os:OsState):SharedT:=⟨t3 P,288,(boot_heap P).life,#[],boot_drawn,566,os⟩
def t4(P:Params):BT:=F5 426 [(3,gl P 39 40 m5),(12,vv (pN.take 81))] (FO (oL P))
def s4(P:Params)(os:OsState):SharedT:=⟨t4 P,426,(boot_heap P).life,#[],boot_drawn,766,os⟩
def t5(P:Params):BT:=F5 427 [(3,gl P 40 41 m5),(12,vv (pN.take 81))] (FO (oL P))
def s5(P:Params)(os:OsState):SharedT:=⟨t5 P,427,(boot_heap P).life,#[],boot_drawn,779,os⟩
def t6(P:Params):BT:=F5 552 [(3,gl P 69 70 m6),(12,vv (pN.take 126))] (FO (oL P))
def s6(P:Params)(os:OsState):SharedT:=⟨t6 P,552,(boot_heap P).life,#[],boot_drawn,990,os⟩
def t7(P:Params):BT:=F5 707 [(3,gl P 77 78 m6),(12,vv (pN.take 150))] (FO (oL P))
def s7(P:Params)(os:OsState):SharedT:=⟨t7 P,707,(boot_heap P).life,#[],boot_drawn,1207,os⟩
def t8(P:Params):BT:=F5 813 [(3,gl P 82 83 m7),(12,vv (pN.take 156))] (FO (oL P))
def s8(P:Params)(os:OsState):SharedT:=⟨t8 P,813,(boot_heap P).life,#[],boot_drawn,1367,os⟩
def t9(P:Params):BT:=F5 909 [] (FO (oL P))
def s9(P:Params)(os:OsState):SharedT:=⟨t9 P,909,(boot_heap P).life,#[],boot_drawn,1505,os⟩
noncomputable def N0:Env:={ scope:=prog.main.scope,locals:=mainNs,globals:=mainNs,cells:=[],code:=.ref 13,frame:=some 14 }
def cE:Code:=.body prog.main.body N0
noncomputable def p0:PySem.Pos:=⟨0,0,0,0⟩
def B0:List Frame:=[topFrame p0]
def sR(w:World)(n:Nat)(s:SharedT)(i k:Nat)(p:PySem.Pos):Option (Flow×SharedT×Code×PySem.Pos):=segRunT treeTable prog w 11 (some (.ref 6)) 1 n s (piecesOf (gS i k) N0 cE p B0)
def U5(w:World)(os:OsState):topGo treeTable prog w 11 (some (.ref 6)) 12 (EC w.params os).abs (topStub prog)=some ((s0 w.params os).abs,⟨denote treeTable cE,cE,p0,B0⟩):=by kernel_rfl
def N1(w:World)(os:OsState):segRun treeTable prog w 11 (some (.ref 6)) 1 1 (s0 w.params os).abs (blockOf prog.main.body N0 cE p0 B0)=some (.next,(s0 w.params os).abs,cE,p0):=by kernel_rfl
def h0(w:World)(os:OsState):sR w 691 (s0 w.params os) 0 6 p0=some (.next,s1 w.params os,cE,⟨11,0,15,24⟩):=by kernel_rfl
def h1(w:World)(os:OsState):sR w 1305 (s1 w.params os) 6 5 ⟨11,0,15,24⟩=some (.next,s2 w.params os,cE,⟨57,0,60,28⟩):=by kernel_rfl
def h2(w:World)(os:OsState):sR w 795 (s2 w.params os) 11 6 ⟨57,0,60,28⟩=some (.next,s3 w.params os,cE,⟨80,0,85,26⟩):=by kernel_rfl
def h3(w:World)(os:OsState):sR w 1088 (s3 w.params os) 17 19 ⟨80,0,85,26⟩=some (.next,s4 w.params os,cE,⟨153,0,153,15⟩):=by kernel_rfl
def JE(w:World)(os:OsState):sR (w.withFollow "special-get-raises" false) 71 (s4 (w.withFollow "special-get-raises" false).params os) 36 1 ⟨153,0,153,15⟩=some (.next,s5 (w.withFollow "special-get-raises" false).params os,cE,⟨154,0,154,7⟩):=by kernel_rfl
def N2(w:World)(os:OsState):sR (w.withFollow "special-get-raises" true) 71 (s4 (w.withFollow "special-get-raises" true).params os) 36 1 ⟨153,0,153,15⟩=some (.next,s5 (w.withFollow "special-get-raises" true).params os,cE,⟨154,0,154,7⟩):=by kernel_rfl
def h4(w:World)(os:OsState):sR w 71 (s4 w.params os) 36 1 ⟨153,0,153,15⟩=some (.next,s5 w.params os,cE,⟨154,0,154,7⟩):=byRow2 "special-get-raises" (P:=λw=>sR w 71 (s4 w.params os) 36 1 ⟨153,0,153,15⟩=some (.next,s5 w.params os,cE,⟨154,0,154,7⟩)) (λw=>JE w os) (λw=>N2 w os) w
def h5(w:World)(os:OsState):sR w 833 (s5 w.params os) 37 30 ⟨154,0,154,7⟩=some (.next,s6 w.params os,cE,⟨268,0,268,10⟩):=by kernel_rfl
def h6(w:World)(os:OsState):sR w 977 (s6 w.params os) 67 8 ⟨268,0,268,10⟩=some (.next,s7 w.params os,cE,⟨302,0,418,23⟩):=by kernel_rfl
def h7(w:World)(os:OsState):sR w 792 (s7 w.params os) 75 6 ⟨302,0,418,23⟩=some (.next,s8 w.params os,cE,⟨431,0,522,20⟩):=by kernel_rfl
def h8(w:World)(os:OsState):sR w 475 (s8 w.params os) 81 17 ⟨431,0,522,20⟩=some (.next,s9 w.params os,cE,⟨634,0,649,15⟩):=by kernel_rfl
def R3:prog.main.body=gS 0 6++(gS 6 5++(gS 11 6++(gS 17 19++(gS 36 1++(gS 37 30++(gS 67 8++(gS 75 6++(gS 81 17++([]:List Stmt))))))))):=by kernel_rfl
def U6(w:World)(os:OsState):topRun treeTable prog w 11 (some (.ref 6)) 2 (s9 w.params os).abs ⟨doneF .next,cE,⟨634,0,649,15⟩,B0⟩=some (s9 w.params os).abs:=by kernel_rfl
noncomputable abbrev nN:Nat:=12+(1+(691+(1305+(795+(1088+(71+(833+(977+(792+(475+2))))))))))
def U7(w:World)(os:OsState):topRun treeTable prog w 11 (some (.ref 6)) nN (EC w.params os).abs (topStub prog)=some (s9 w.params os).abs:=by
 refine go_top (U5 w os) (piece_block (N1 w os) ?_);rw[R3];exact piece_app (segRun_of (h0 w os)) (piece_app (segRun_of (h1 w os)) (piece_app (segRun_of (h2 w os)) (piece_app (segRun_of (h3 w os)) (piece_app (segRun_of (h4 w os)) (piece_app (segRun_of (h5 w os)) (piece_app (segRun_of (h6 w os)) (piece_app (segRun_of (h7 w os)) (piece_app (segRun_of (h8 w os)) (piece_nil (U6 w os))))))))))
def vQ:Program:={ prog with main:={ prog.main with body:=gS 97 1 } }
noncomputable def lN:List Str:=nL.take 14++(nL.drop 15).take 76
def hE(P:Params):Heap:=absHeap (t9 P) 909 (boot_heap P).life
def eS(P:Params)(os:OsState):Shared:=⟨hE P,#[],boot_drawn,1505,os⟩
def WS(w:World)(os:OsState):(staticsOk (importedModules prog.main.body) (boot_heap w.params) (hE w.params)&&namesBound prog (hE w.params)&&gensDone (eS w.params os)&&laidKept (boot_heap w.params) (hE w.params))=true:=by kernel_rfl
def WU(w:World)(os:OsState):openSeen vQ lN (importedModules prog.main.body) (λ_=>true) true (eS w.params os)=openGood vQ lN:=by kernel_rfl
noncomputable def kT(T:BT)(l:List Nat):Frag:=l.filterMap λa=>((T.get a).bind alive).map λo=>(a,o)
def R4{T:BT}{n:Nat}{life:Life}{l:List Nat}(h:∀a∈l,a<n):(kT T l).In (absHeap T n life):=λa o e=>by
 obtain⟨b,m,e⟩:=List.mem_filterMap.mp (mem_of_lookupK e);obtain⟨p,e,q⟩:=z7.mp e;obtain⟨ob,e1,e2⟩:=bind_eq_some_iff.mp e;have e2:=(abs_get (life:=life) (h b m) e1).trans e2
 cases q
 exact e2
def kF(P:Params):Frag:=kT (t9 P) Nh
def R5(P:Params):(kF P).In (hE P):=R4 (by decide)
def U8(P:Params):pd (kF P)=true:=by kernel_rfl
def U9(P:Params):EB (kF P)=true:=by kernel_rfl
def R6(w:World):((boot_heap w.params).isNs mainGlobals&&(Array.mk []:Array GenState).size==0,(boot_heap w.params).objs.size,(boot_heap w.params).nsMap mainGlobals "__annotations__")=(true,11,some (.ref 6)):=by kernel_rfl
def N3(P:Params)(os:OsState):(s9 P os).abs=eS P os:=by kernel_rfl
def R7(w:World)(os:OsState):topRun treeTable prog w 11 (some (.ref 6)) nN ⟨boot_heap w.params,#[],boot_drawn,boot_toks,os⟩ (topStub prog)=some (eS w.params os):=by
 rw[<-N3,<-Az];exact U7 w os
def Va:opening prog=plainProg prog.main.scope.names:=by kernel_rfl
def Vb(s:Shared):fenceModules? prog s=some s:=by kernel_rfl
def R8:∀w:World,(fencedOpening treeTable prog w 10000).map (λs=>(s.heap,s.gens,s.drawn,s.toks))=some (boot_heap w.params,Array.mk [],boot_drawn,boot_toks):=boot_open Va (by decide) Vb
def WV:Nat.ble nN 10000=true:=by kernel_rfl
def N4(w:World):(λos=>((staticsOk (importedModules prog.main.body) (boot_heap w.params) (hE w.params)&&namesBound prog (hE w.params)&&gensDone (eS w.params os)&&laidKept (boot_heap w.params) (hE w.params)),openSeen vQ lN (importedModules prog.main.body) (λ_=>true) true (eS w.params os),(eS w.params os).heap))=λ_=>(true,openGood vQ lN,hE w.params):=
 funext λos=>by rw[WS,WU];rfl
def R9:LeftO prog vQ lN (λ_=>true) (λs:Shared=>s.heap) (λw=>hE w.params) 10000:=
 LeftO.of_pieces (H₀:=boot_heap) (H₁:=hE) (gs₀:=Array.mk []) (gs₁:=#[]) (d₀:=boot_drawn) (d₁:=boot_drawn) (k₀:=boot_toks) (k₁:=1505) (m₀:=11) (ann:=some (.ref 6)) (M:=nN) R8 R6 R7 WV N4
def YP(_:World)(h:Heap):Prop:=∃K:Frag,K.In h/\pd K=true/\EB K=true/\RH K mainGlobals=true/\oh K mainGlobals (Str.ofString "law")=some (.ref 908)
def Sa(P:Params):RH (kF P) mainGlobals=true:=by kernel_rfl
def Sb(P:Params):oh (kF P) mainGlobals (Str.ofString "law")=some (.ref 908):=by kernel_rfl
def Sc(w:World)(s:Shared)(e:s.heap=hE w.params):YP w s.heap:=⟨kF w.params,by rw[e];exact R5 _,U8 _,U9 _,Sa _,Sb _⟩
def FP(w:World)(h h':Heap)(x:YP w h)(k:∀b o,h.get? b=some o->h'.get? b=some o):YP w h':=by
 obtain⟨K,h1,h2⟩:=x;exact⟨K,h1.keeps k,h2⟩
def uz{vs:List Value}(q:WellAll P h vs []):vs=[]:=by cases q with | nil=>rfl
def wI(h:Heap)(P:Params)(v:Value)(d:WData):Prop:=WData.casesOn (motive_1:=λ_=>Prop) d True (λ_=>True) (λi=>∃t,v=.int i t) (λ_=>True) (λxs=>∃a vs,v=.ref a/\h.get? a=some { cls:=.type "list",data:=.seq vs.toArray }/\WellAll P h vs xs) (λ_=>True) (λ_=>True) (λ_=>True) (λ_=>True) (λ_=>True) (λ_=>True) (λ_=>True) λ_ _=>True
def Kz{d:WData}(q:Well P h v d):wI h P v d:=
 Well.casesOn (motive_1:=λv d _=>wI h P v d) q trivial (λ_=>trivial) (λ_ t=>⟨t,rfl⟩) (λ_ _=>trivial) (λ_ _=>trivial) (λ_ _=>trivial) (λ_=>trivial) (λha hw=>⟨_,_,rfl,ha,hw⟩) (λ_ _=>trivial) (λ_ _=>trivial) (λ_ _ _ _=>trivial) (λ_ _ _ _=>trivial) λ_ _ _ _=>trivial
def FQ{R:WRecords}(x:WData):(WShape.has R x .int=true->∃i,x=.int i)/\(WShape.has R x (.list .int)=true->∃xs,x=.list xs):=
 WData.casesOn (motive_1:=λx=>(WShape.has R x .int=true->∃i,x=.int i)/\(WShape.has R x (.list .int)=true->∃xs,x=.list xs)) x ⟨ff,ff⟩ (λ_=>⟨ff,ff⟩) (λi=>⟨λ_=>⟨i,rfl⟩,ff⟩) (λ_=>⟨ff,ff⟩) (λl=>⟨ff,λ_=>⟨l,rfl⟩⟩) (λ_=>⟨ff,ff⟩) (λ_=>⟨ff,ff⟩) (λ_=>⟨ff,ff⟩) (λ_=>⟨ff,ff⟩) (λ_=>⟨ff,ff⟩) (λ_=>⟨ff,ff⟩) (λ_=>⟨ff,ff⟩) λ_ _=>⟨ff,ff⟩
def JF{R:WRecords}{xs:List WData}:∀{vs:List Value},WShape.hasItems R xs .int=true->WellAll P h vs xs->∃ns:List Int,xs.length=ns.length/\ah P g J (ns.map .int) vs:=by
 induction xs with
 |nil=>exact λ_ w=>⟨[],rfl,aB.mpr (uz w)⟩
 |cons x xs ih=>
  intro _ e w;have e:=an e;obtain⟨v,JK,rfl,w1,w2⟩:=wellAll_cons_inv w;obtain⟨ns,hl,hr⟩:=ih e.2 w2;obtain⟨i,rfl⟩:=(FQ _).1 e.1;obtain⟨t,rfl⟩:∃t,v=.int i t:=Kz w1;exact⟨i::ns,zi (· + 1) hl,ad.mpr ⟨_,_,rfl,aO.mpr ⟨t,rfl⟩,hr⟩⟩
def WW:sreFenced prog.main=true:=by kernel_rfl
def WX:((moduleNames prog.main.body).isEmpty||lookedIntoSs (moduleNames prog.main.body) prog.main.body)=true:=by kernel_rfl
def WY:namesResolve prog=true:=by kernel_rfl
def WZ:prog.boundNames.all (λn=>!worldNames.contains n)=true:=by kernel_rfl
def W0:noRoadLSs { strict:=!(importedModules prog.main.body).all cThrough.contains,foot:=none,bare:=(["vars", "dir", "locals"]:List Str).filter (readsOut prog prog.main.body) } prog.main.body=true:=by kernel_rfl
def W1:namesMeet prog prog.main.body (λ_ n=>attrL n)=true:=by kernel_rfl
def W2:looksOpen prog=true:=look_both (look_both (look_both (look_both (look_both WW WX) WY) WZ) W0) W1
def Sd:OpenLaw.wellSaid PySem.Challenge.rw_nt0259_01=true:=by
 delta OpenLaw.wellSaid OpenRow.wellSaid OpenRow.partSaid
 rw[show looksOpen (OpenLaw.row PySem.Challenge.rw_nt0259_01).prog=true from W2]
 kernel_rfl
noncomputable abbrev lr:OpenRow:=OpenLaw.row PySem.Challenge.rw_nt0259_01
noncomputable def hG(xs:List WData)(b:Bool):Bool:=WTm.holds lr.records (.and (.not (.lit (.bool b))) (.lit (.bool true))) { args:=[.list xs] }
def FR{args:List WData}(h:lr.claim.pre args=true):∃xs,args=[.list xs]/\WShape.hasItems lr.records xs .int=true/\xs.length<=63:=by
 obtain⟨h1,h2⟩:=pre_splitW h;obtain⟨d,r,rfl,h3,h4⟩:=hasAllW_cons h1;obtain rfl:=hasAllW_nil h4;obtain⟨xs,rfl⟩:=(FQ d).2 h3;have h3:(WShape.hasItems lr.records xs .int||false)=true:=h3;have h2:hG xs (decide ((63:Int)<(xs.length:Nat)))=true:=h2;refine⟨xs,rfl,(Bool.or_false _).symm.trans h3,Nat.le_of_not_lt λq=>?_⟩;rw[zb (show (63:Int)<(xs.length:Nat)from ofNat_lt.mpr q)]at h2;exact ff h2
def hR{xs:List WData}:WTm.holds lr.records (.lit (.bool (same (.bool true) (.bool true)))) { args:=[.list xs],res:=some (.bool true),after:=[.list xs] }=true:=by rw[same_self];rfl
def Vc{s₁:Shared}{K:Frag}(hK:K.In s₁.heap)(h1:pd K=true)(lim:s₁.heap.NoLimit):BAt ⟨prog,w,K,s₁.heap⟩ [] [] s₁.heap.get? [] [] s₁:=
 ⟨ID hK lim h1,⟨λ_ _ e=>e,rfl,λa m=>(nomatch m),nodup_nil,λn o p e=>(nomatch e)⟩,λ_ _ e=>e,λa m=>(nomatch m),λa m=>(nomatch m)⟩
def JG{w:World}{s₁:Shared}{cl:Str->Option Addr}{F0:ExcName->Option Value}{K:Frag}(hK:K.In s₁.heap)(h1:pd K=true)(h2:EB K=true)(lim:s₁.heap.NoLimit)(hg:s₁.gens = #[]){xs:List WData}{a:Addr}{vs:List Value}(hx:WShape.hasItems lr.records xs .int=true)(hl:xs.length<=63)(ha:s₁.heap.get? a=some { cls:=.type "list",data:=.seq vs.toArray })(hw:WellAll w.params s₁.heap vs xs):wpAny (model prog w) callerA (PySem.call (.ref 908) [.ref a]) (λv s'=>GoodWG lr.claim cl F0 [.list xs] s₁ (.ok (.ret v)) s') (λe s'=>GoodWG lr.claim cl F0 [.list xs] s₁ (.error e) s') s₁:=by
 obtain⟨ns,hn,hr⟩:=JF (g:=s₁.heap.get?) (J:=[]) hx hw;have c:=FN (W:=⟨prog,w,K,s₁.heap⟩) ⟨hK,h1,h2⟩ (H:=[]) (K:=λv _=>v=.bool true) (X:=λ_ _ _=>False) (script:=ns) (zT (Nat.le_of_eq hn.symm) (zT hl (by decide))) λ_=>rfl;refine wpAny_call (c.run callerA [] [] _ _ s₁ _ _ _ ⟨rfl,by decide,by decide,rfl⟩ (Vc hK h1 lim) (ad.mpr ⟨_,_,rfl,cL.mpr ⟨a,vs,0,rfl,ha,hr⟩,aB.mpr rfl⟩) (λg' J' H' v x s' k r b' st sm=>?_) (λg' J' H' c fs e xa s' k=>k.elim));obtain rfl:v=.bool true:=k;obtain rfl:=dL.mp r;exact⟨.inl ⟨.bool true,.bool true,[],rfl,λ_=>rfl,.bool true,and_eq_true_iff.mpr ⟨(rfl:WShape.has lr.records (.bool true) .bool=true),hR (xs:=xs)⟩,λ_=>⟨nodup_nil,λa m=>(nomatch m)⟩⟩,.of_keep λa o e=>b'.rel.sub _ _ (b'.bas _ _ e),sm.2.2,.of_eq (sm.1.trans hg)⟩
def FS{w:World}{s₁:Shared}{mg:Str->Option Value}{cl:Str->Option Addr}{F0:ExcName->Option Value}(wq:s₁.heap.Ns mainGlobals mg)(lim:s₁.heap.NoLimit)(Y:YP w s₁.heap){fa:Addr}(VJ:mg (Str.ofString "law")=some (.ref fa))(hg:s₁.gens = #[]){args:List WData}{vals:List Value}(gV:lr.claim.pre args=true)(hwl:WellAll w.params s₁.heap vals args):wpAny (model prog w) callerA (PySem.call (.ref fa) vals) (λv s'=>GoodWG lr.claim cl F0 args s₁ (.ok (.ret v)) s') (λe s'=>GoodWG lr.claim cl F0 args s₁ (.error e) s') s₁:=by
 obtain⟨xs,rfl,hx,hl⟩:=FR gV;obtain⟨v,JK,rfl,q1,q2⟩:=wellAll_cons_inv hwl;obtain⟨a,vs,rfl,ha,hw⟩:=(Kz q1:∃a vs,v=.ref a/\s₁.heap.get? a=some { cls:=.type "list",data:=.seq vs.toArray }/\WellAll w.params s₁.heap vs xs)
 cases uz q2
 obtain⟨K,hK,h1,h2,h3,h4⟩:=Y;have e:=h4.symm.trans ((congrFun ((Heap.Ns.eq_nsMap wq).trans (Heap.Ns.eq_nsMap (rC hK h3)).symm) _).symm.trans VJ);injection e with e;injection e with e;exact e▸JG hK h1 h2 lim hg hx hl ha hw
end
end Mine.Internal
open PySem PySem.W PyProof.Rows Mine.Internal
set_option maxRecDepth 100000 in
theorem PySem.Challenge.cw_nt0259_01_holds : PySem.Challenge.rw_nt0259_01.Holds := by
 refine holds_law Sd λXW=>?_;refine PySem.W.holds_open (q:=vQ) (loose:=lN) (Xt:=λ_=>true) (XP:=λ_ _=>True) (Yf:=λs:Shared=>s.heap) (Ya:=λw=>hE w.params) (YP:=YP) (N:=10000) R9 Sc FP (λ_ _=>trivial) (λ_ _ _ _ _=>trivial) (by rfl) (by rfl) (by rfl) (λs _=>recFacts_nil rfl) (by rfl) (by assumption) (by decide +kernel) ⟨rfl,rfl,rfl,rfl,rfl,by decide +kernel⟩ ?hw ?hc
 case hw=>w_witness2
 case hc=>
  intro w s₀ s₁ mg mb G Y fa o pm cd doc dV kV ho hd TC hD VJ hg args vals as gV XX Yj hwl hlo;exact FS G.T.g G.T.nolimit Y VJ hg gV hwl
