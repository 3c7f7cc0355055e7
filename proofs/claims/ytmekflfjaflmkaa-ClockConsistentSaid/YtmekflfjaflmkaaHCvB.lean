/- The clock's law: with the rule of preference all choices stay consistent. -/
import Derived.Test.YtmekflfjaflmkaaHRvb
import Derived.Test.YtmekflfjaflmkaaHCo
set_option linter.unusedSimpArgs false
set_option linter.unusedVariables false
set_option linter.unusedSectionVars false
open Int renaming le_refl → Q0
open List renaming mem_singleton → Q1, mem_append → Q2
set_option maxRecDepth 100000
namespace Go.Proofs.Ytmekflfjaflmkaa
open Go.Sx
structure PfIn (c:Ck):Prop where
 pot:∀i,Pot (c.chs i++[⟨c.p,wa c.ask i⟩])
 le:∀r∈c.cl,r.p.leP c.p
 pw:c.cl.Pairwise fun a b=>a.p.leP b.p
theorem e0i{l m:List Ch}(h:Pot (l++m)):Pot l :=
 e0Z id (fun x hx=>⟨by rw[List.length_append];exact Nat.lt_add_right _ hx,(List.getElem?_append_left hx).symm⟩) h
theorem e0M{l:List Ch}(k:Nat)(h:Pot l):Pot (l.take k):=by
 rw[<- List.take_append_drop k l] at h;exact e0i h
theorem e0a(N i:Nat):wa (List.replicate N w0) i=w0:=by
 unfold wa;rw[List.getElem?_replicate];split<;>rfl
theorem e0G(l:List W6)(i j:Nat)(w:W6):wa (l.set i w) j=wa l j\/(i=j/\wa (l.set i w) j=w):=by
 unfold wa;rw[List.getElem?_set];split
 ·split
  ·rename_i h _;exact .inr ⟨h,rfl⟩
  ·rename_i h h2
   left;rw[<- h,List.getElem?_eq_none (by omega)]
 ·exact .inl rfl
theorem e0K{w:W6}(h:b4f w=true):w=w0:=by
 obtain⟨a,b,c,d,e,f⟩:=w;simp only[b4f,Bool.and_eq_true,b3B] at h;obtain⟨rfl,rfl,rfl,rfl,rfl,rfl⟩:=h;rfl
theorem e1h{s:St}{i:Int}{l:List Ch}{x:Ch}{ag:Bool}(h:c5F s 2 i l x ag=0):b4f x.w=true\/ag=true:=by
 unfold c5F at h;rw[if_pos (show (eqB 2 1||(eqB 2 2||eqB 2 3))=true from rfl)] at h;cases he:b4f x.w with
 | true=>exact .inl rfl
 | false =>
  cases ag with
  | true=>exact .inr rfl
  | false =>
   rw[he] at h;rw[show (if eqB 2 1=true then c1B s i l x else if eqB 2 2=true then false else(c1B s i l x||false))=false from rfl] at h;split at h
   ·split at h
    ·split at h<;>cases h
    ·rename_i hw
     exact absurd (dT0 h) hw
   ·cases h
theorem e0J(a:W6):a.leP a:=⟨Q0 _,Q0 _,Q0 _,Q0 _,Q0 _,Q0 _⟩
theorem e0C{a b c:W6}(h:a.leP b)(g:b.leP c):a.leP c:=by
 unfold W6.leP at *;omega
section
variable {N:Nat}{c:Ck}(hk:CkOk N c)
include hk in
theorem e0k{i:Nat}(h:Pot (c.chs i)){p:W6}(hp:∀r∈c.cl,r.p.leP p):Pot (c.chs i++[⟨p,w0⟩]):=by
 refine e0E (e0A hk i) h fun x hx=>?_
 obtain⟨r,hr,rfl⟩:=List.mem_map.1 hx;exact hp r hr
include hk in
theorem d9C(h:∀i,Pot (c.chs i))(le:∀r∈c.cl,r.p.leP c.p)(pw:c.cl.Pairwise fun a b=>a.p.leP b.p)(ha:∀i,wa c.ask i=w0):PfIn c :=
 ⟨fun i=>by rw[ha i];exact e0k hk (h i) le,le,pw⟩
theorem e1b{ps:List Pr}(hk0:CkOk N (ck0 ps N)):PfIn (ck0 ps N) :=
 d9C hk0 (fun i=>⟨fun _=>0,fun x y hx=>by simp[ck0,Ck.chs] at hx⟩) (fun r hr=>by simp[ck0] at hr) List.Pairwise.nil (fun i=>e0a N i)
theorem e0S{o:Po}(ho:o.ok){p:W6}(hp:p.pok)(ex:W6):p.leP (rsW o p ex):=by
 have up:∀b e:Int,0<=b->b<=1000000->b<=(if 0<e then rsI o b else b):=fun b e h0 h1=>by
  have h2:=(d5u ho h0 h1).2.2.2.2;split<;>omega
 unfold W6.pok at hp;exact⟨up _ _ (by omega) (by omega),up _ _ (by omega) (by omega),up _ _ (by omega) (by omega),up _ _ (by omega) (by omega),up _ _ (by omega) (by omega),up _ _ (by omega) (by omega)⟩
end
section
variable {cs ad:List Tri}{o:Po}{s:St}(ho:o.ok)(hru:o.ru=2)
include ho hru in
theorem e0Y{c:Ck}(hk:CkOk s.bs.length c)(h:PfIn c)(q:Stp):PfIn (c.step cs ad o s q).1:=by
 have hk':=e0w (cs:=cs) (ad:=ad) (o:=o) (s:=s) hk q;have pre:∀i,Pot (c.chs i):=fun i=>e0i (h.pot i)
 revert hk';unfold Ck.step;split
 ·intro _
  unfold Ck.doBid;split
  ·rename_i hb
   refine⟨fun j=>?_,h.le,h.pw⟩;show Pot (c.chs j++[⟨c.p,wa (c.ask.set q.i.toNat q.w) j⟩]);rcases e0G c.ask q.i.toNat j q.w with e|⟨rfl,e⟩
   ·rw[e];exact h.pot j
   rw[e];unfold b5e at hb;split at hb
   ·cases hb
   split at hb
   ·split at hb
    ·cases hb
    split at hb
    ·split at hb
     ·rw[hru] at hb
      rcases e1h hb with he|hg
      ·rw[e0K (show b4f q.w=true from he)]
       exact e0k hk (pre _) h.le
      ·exact((d3i _).1 hg).2
     ·rename_i ha;exact absurd hb ha
    ·rename_i ha;exact absurd hb ha
   ·cases hb
  ·exact h
 split
 ·unfold Ck.close
  split
  ·intro _;exact h
  have cl':∀i,Pot ((c.cl++[(⟨c.p,c.ask,c.gots s.ps o,c.bid⟩:Rn)]).map fun r=>(⟨r.p,wa r.ask i⟩:Ch)):=fun i=>by
   rw[List.map_append];exact h.pot i
  have pw':(c.cl++[(⟨c.p,c.ask,c.gots s.ps o,c.bid⟩:Rn)]).Pairwise fun a b=>a.p.leP b.p:=by
   rw[List.pairwise_append];refine⟨h.pw,List.pairwise_singleton _ _,fun a ha b hb=>?_⟩;rw[Q1.1 hb];exact h.le a ha
  split
  ·intro hk'
   refine d9C hk' cl' (fun r hr=>?_) pw' (fun i=>e0a _ i);rcases Q2.1 hr with hr|hr
   ·exact h.le r hr
   ·rw[Q1.1 hr];exact e0J _
  ·intro hk'
   have up:c.p.leP (c.nextP s.ps o):=e0S ho hk.p _;refine d9C hk' cl' (fun r hr=>?_) pw' (fun i=>e0a _ i);rcases Q2.1 hr with hr|hr
   ·exact e0C (h.le r hr) up
   ·rw[Q1.1 hr];exact up
 split
 ·unfold Ck.stop
  split
  ·intro _;exact h
  ·intro hk'
   exact d9C hk' pre h.le h.pw (fun i=>e0a _ i)
 split
 ·intro _
  unfold Ck.drop;split
  ·split
   ·exact h
   ·refine⟨fun j=>?_,h.le,h.pw⟩
    show Pot (c.chs j++[⟨c.p,wa (c.ask.set q.i.toNat w0) j⟩]);rcases e0G c.ask q.i.toNat j w0 with e|⟨rfl,e⟩
    ·rw[e];exact h.pot j
    ·rw[e];exact e0k hk (pre _) h.le
  ·exact h
 ·unfold Ck.reset
  split
  ·intro _;exact h
  split
  ·intro _;exact h
  split
  ·intro _;exact h
  ·intro hk'
   refine d9C hk' (fun i=>?_) (fun r hr=>?_) (h.pw.sublist (List.take_sublist _ _)) (fun i=>e0a _ i)
   ·show Pot ((c.cl.take q.r.toNat).map fun r=>(⟨r.p,wa r.ask i⟩:Ch))
    rw[List.map_take];exact e0M _ (pre i)
   ·have hr:r∈c.cl.take q.r.toNat:=hr
    show r.p.leP (((c.cl[q.r.toNat]?).map Rn.p).getD c.p);cases hx:c.cl[q.r.toNat]? with
    | none=>exact h.le r (List.mem_of_mem_take hr)
    | some y =>
     obtain⟨j,hj,rfl⟩:=List.getElem_of_mem hr;rw[List.length_take] at hj;obtain⟨hy,rfl⟩:=List.getElem?_eq_some_iff.1 hx;rw[List.getElem_take];exact List.pairwise_iff_getElem.1 h.pw j q.r.toNat (by omega) hy (by omega)
theorem e0T{c:Ck}(hk:CkOk s.bs.length c)(i:Nat):(c.chs i).length<=30:=by
 have:=hk.cl;unfold Ck.chs;rw[List.length_map];exact this
end
end Go.Proofs.Ytmekflfjaflmkaa
