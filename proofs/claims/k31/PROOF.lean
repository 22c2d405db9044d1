import PyProof.Rows.All
import Wide.All
import OpenK.AllK
import Wide.FinOn
import HandS.ForMost
import HandS.ForExc
import HandS.TupAny
import HandS.TupMul
import HandS.Wide
import HandS.Flow
import HandS.IsInst
import HandS.Style
import HandS.HeadHook1
import HandS.Zip
import HandS.Head0
import HandS.Head1
import HandS.Head2
import HandS.HeadEnd
import HandS.HeadHook2
import HandS.EndBits
import HandS.SortRule
import HandS.SortInts
import KE.KIntText
import PyProof.Rows.Digits
import KE.KRevSl
import KE.GoesEnum
import KE.GoesMore
import HandS.CallLocal
import HandS.ExcIs
import HandS.Defaults
import PySem.Challenge.RW_rowsofunits_k31_main_known_rows_of_roots
set_option Elab.async false
set_option linter.all false
set_option maxRecDepth 100000
set_option maxHeartbeats 4000000
set_option autoImplicit false
namespace Pw
open PySem PySem.Spec PyProof.Rows L2
/-! ## data by value -/
inductive D where
  | non | bl (b : Bool) | int (i : Int) | str (s : Str) | fn (x : Str) | cell (k : Nat)
  | tup (l : List D) | lst (l : List D) | scr (l : List Int)
  | dK (l : List (Key × D)) | dT (l : List (List Key × D))
abbrev Env := List (Option D)
inductive Cell where
  | lst (l : List D) | ins (x : Str) (fs : List (Str × D))
abbrev Sto := List Cell
inductive Res (α : Type) where
  | ok (a : α) | exn (x : Str) (l : List D)
abbrev M (α : Type) := Env → Sto → Option (Res α × Sto)
abbrev FSem := List D → Sto → Option (Res D × Sto)
inductive Fl where
  | nx (e : Env) | rt (d : D) | bk (e : Env) | ct (e : Env) | exn (x : Str) (l : List D)
abbrev S := Env → Sto → Option (Fl × Sto)
/-! ## worlds -/
/-- cells' addresses, the addresses that no by-value list may stand at, the abstract heap -/
structure Wd where
  as : List Addr
  A : List Addr
  H : Hp
/-- a list that no one changes: a locked one, or the module's -/
def SqZ (K : PySem.W.Frag) (H : Hp) (a : Addr) (xs : List V) : Prop :=
  (∃ o, H a = some (.frz o (.lst xs))) ∨ ∃ (o : Obj) (its : Array Value) (n : Nat), K.lookup a = some o ∧ o.cls = .type "list" ∧ o.dict = none ∧ o.data = .seq its n ∧ its.size ≤ sizeLine ∧ Vals xs its.toList
theorem SqZ.l {K : PySem.W.Frag} {H : Hp} {a : Addr} {xs : List V} (h : SqZ K H a xs) : SqL K H a xs := h.elim (fun ⟨o, e⟩ => .inl (.inr ⟨o, e⟩)) .inr
section
variable (K : PySem.W.Frag) (G : Str → Addr)
mutual
inductive Rep (w : Wd) : V → D → Prop
  | non : Rep w .non .non
  | bl (b : Bool) : Rep w (.bl b) (.bl b)
  | int (i : Int) : Rep w (.int i) (.int i)
  | str (s : Str) : Rep w (.str s) (.str s)
  | fn (x : Str) : Rep w (.ref (G x)) (.fn x)
  | cell {k : Nat} {a : Addr} : w.as[k]? = some a → Rep w (.ref a) (.cell k)
  | tup {a : Addr} {xs : List V} {ds : List D} : SqT K w.H a xs → RepL w xs ds → Rep w (.ref a) (.tup ds)
  | lst {a : Addr} {xs : List V} {ds : List D} : a ∉ w.A → w.H a = some (.lst xs) → RepL w xs ds → Rep w (.ref a) (.lst ds)
  | scr {a : Addr} {ns : List Int} : SqZ K w.H a (ns.map V.int) → Rep w (.ref a) (.scr ns)
  | dK {a : Addr} {kvs : List (Key × V)} {ds : List (Key × D)} : a ∉ w.A → w.H a = some (.dK kvs) → kvs.map (·.1) = ds.map (·.1) → RepL w (kvs.map (·.2)) (ds.map (·.2)) → Rep w (.ref a) (.dK ds)
  | dT {a : Addr} {kvs : List (List Key × V)} {ds : List (List Key × D)} : a ∉ w.A → w.H a = some (.dT kvs) → kvs.map (·.1) = ds.map (·.1) → RepL w (kvs.map (·.2)) (ds.map (·.2)) → Rep w (.ref a) (.dT ds)
inductive RepL (w : Wd) : List V → List D → Prop
  | nil : RepL w [] []
  | cons {v : V} {vs : List V} {d : D} {ds : List D} : Rep w v d → RepL w vs ds → RepL w (v :: vs) (d :: ds)
end
/-- what stays: all that stands outside of C; tuples and the locked -/
structure Fr (C : List Addr) (H H' : Hp) : Prop where
  o : ∀ a u, H a = some u → a ∉ C → H' a = some u
  t : ∀ a xs, SqT K H a xs → SqT K H' a xs
  z : ∀ a o u, H a = some (.frz o u) → H' a = some (.frz o u)
  h : ∀ a, H' a = none → H a = none
end
section
variable {K : PySem.W.Frag} {G : Str → Addr}
theorem Fr.refl {C : List Addr} {H : Hp} : Fr K C H H := ⟨fun _ _ h _ => h, fun _ _ h => h, fun _ _ _ h => h, fun _ h => h⟩
theorem Fr.trans {C C' C'' : List Addr} {H H1 H2 : Hp} (a : Fr K C H H1) (b : Fr K C' H1 H2) (h1 : ∀ x, x ∈ C → x ∈ C'') (h2 : ∀ x ∈ C', x ∈ C'' ∨ H x = none) : Fr K C'' H H2 :=
  ⟨fun x u e n => b.o x u (a.o x u e fun z => n (h1 x z)) fun z => (h2 x z).elim n fun q => (by rw [e] at q; cases q), fun x xs e => b.t x xs (a.t x xs e), fun x o u e => b.z x o u (a.z x o u e), fun x e => a.h x (b.h x e)⟩
theorem Fr.sub {C C' : List Addr} {H H' : Hp} (a : Fr K C H H') (h : ∀ x ∈ C, x ∈ C') : Fr K C' H H' := ⟨fun x u e n => a.o x u e fun z => n (h x z), a.t, a.z, a.h⟩
/-- a new object -/
theorem Fr.new {C : List Addr} {H : Hp} {p : Addr} {o : HO} (h : H p = none) : Fr K C H (upd H p o) := by
  refine ⟨fun a u e _ => ?_, fun a xs e => ?_, fun a ob u e => ?_, fun a e => ?_⟩
  · rw [upd_ne (ne_of_none e h)]; exact e
  · rcases e with (e | ⟨q, e⟩) | e
    · exact .inl (.inl (by rw [upd_ne (ne_of_none e h)]; exact e))
    · exact .inl (.inr ⟨q, by rw [upd_ne (ne_of_none e h)]; exact e⟩)
    · exact .inr e
  · rw [upd_ne (ne_of_none e h)]; exact e
  · by_cases q : a = p
    · subst q; exact h
    · rw [upd_ne q] at e; exact e
/-- a list that stands is rewritten -/
theorem Fr.mut {H : Hp} {p : Addr} {xs : List V} {o : HO} (h : H p = some (.lst xs)) : Fr K [p] H (upd H p o) := by
  refine ⟨fun a u e n => ?_, fun a ys e => ?_, fun a ob u e => ?_, fun a e => ?_⟩
  · rw [upd_ne (by intro z; subst z; exact n (List.mem_singleton.mpr rfl))]; exact e
  · rcases e with (e | ⟨q, e⟩) | e
    · exact .inl (.inl (by rw [upd_ne (ne_of e h (by intro z; cases z))]; exact e))
    · exact .inl (.inr ⟨q, by rw [upd_ne (ne_of e h (by intro z; cases z))]; exact e⟩)
    · exact .inr e
  · rw [upd_ne (ne_of e h (by intro z; cases z))]; exact e
  · by_cases q : a = p
    · subst q; rw [upd_same] at e; cases e
    · rw [upd_ne q] at e; exact e
/-- the world grows: new cells n, C may change -/
structure Le (K : PySem.W.Frag) (C : List Addr) (w w' : Wd) : Prop where
  n : ∃ n, w'.as = w.as ++ n ∧ ∀ a ∈ n, w.H a = none
  up : ∀ a ∈ w.A, a ∈ w'.A
  dn : ∀ a ∈ w'.A, a ∈ w.A ∨ w.H a = none
  fr : Fr K C w.H w'.H
mutual
theorem Rep.le {w w' : Wd} {C : List Addr} (l : Le K C w w') (hC : ∀ c ∈ C, c ∈ w.A) : ∀ {v : V} {d : D}, Rep K G w v d → Rep K G w' v d
  | _, _, .non => .non
  | _, _, .bl b => .bl b
  | _, _, .int i => .int i
  | _, _, .str s => .str s
  | _, _, .fn x => .fn x
  | _, _, .cell h => by
    obtain ⟨n, e, _⟩ := l.n
    refine .cell ?_
    rw [e, List.getElem?_append_left (List.getElem?_eq_some_iff.mp h).1]
    exact h
  | _, _, .tup h r => .tup (l.fr.t _ _ h) (RepL.le l hC r)
  | _, _, .lst h1 h2 r => by
    refine .lst (fun z => ?_) (l.fr.o _ _ h2 fun z => h1 (hC _ z)) (RepL.le l hC r)
    rcases l.dn _ z with z | z
    · exact h1 z
    · rw [h2] at z; cases z
  | _, _, .scr h => .scr (h.elim (fun ⟨o, e⟩ => .inl ⟨o, l.fr.z _ _ _ e⟩) .inr)
  | _, _, .dK h1 h2 h3 r => by
    refine .dK (fun z => ?_) (l.fr.o _ _ h2 fun z => h1 (hC _ z)) h3 (RepL.le l hC r)
    rcases l.dn _ z with z | z
    · exact h1 z
    · rw [h2] at z; cases z
  | _, _, .dT h1 h2 h3 r => by
    refine .dT (fun z => ?_) (l.fr.o _ _ h2 fun z => h1 (hC _ z)) h3 (RepL.le l hC r)
    rcases l.dn _ z with z | z
    · exact h1 z
    · rw [h2] at z; cases z
theorem RepL.le {w w' : Wd} {C : List Addr} (l : Le K C w w') (hC : ∀ c ∈ C, c ∈ w.A) : ∀ {v : List V} {d : List D}, RepL K G w v d → RepL K G w' v d
  | _, _, .nil => .nil
  | _, _, .cons r t => .cons (Rep.le l hC r) (RepL.le l hC t)
end
mutual
/-- fewer addresses to be avoided -/
theorem Rep.sub {w w' : Wd} (h : w'.as = w.as) (e : w'.H = w.H) (hA : ∀ a u, w.H a = some u → a ∈ w'.A → a ∈ w.A) : ∀ {v : V} {d : D}, Rep K G w v d → Rep K G w' v d
  | _, _, .non => .non
  | _, _, .bl b => .bl b
  | _, _, .int i => .int i
  | _, _, .str s => .str s
  | _, _, .fn x => .fn x
  | _, _, .cell k => .cell (by rw [h]; exact k)
  | _, _, .tup q r => .tup (by rw [e]; exact q) (RepL.sub h e hA r)
  | _, _, .lst h1 h2 r => .lst (fun z => h1 (hA _ _ h2 z)) (by rw [e]; exact h2) (RepL.sub h e hA r)
  | _, _, .scr q => .scr (by rw [e]; exact q)
  | _, _, .dK h1 h2 h3 r => .dK (fun z => h1 (hA _ _ h2 z)) (by rw [e]; exact h2) h3 (RepL.sub h e hA r)
  | _, _, .dT h1 h2 h3 r => .dT (fun z => h1 (hA _ _ h2 z)) (by rw [e]; exact h2) h3 (RepL.sub h e hA r)
theorem RepL.sub {w w' : Wd} (h : w'.as = w.as) (e : w'.H = w.H) (hA : ∀ a u, w.H a = some u → a ∈ w'.A → a ∈ w.A) : ∀ {v : List V} {d : List D}, RepL K G w v d → RepL K G w' v d
  | _, _, .nil => .nil
  | _, _, .cons r t => .cons (Rep.sub h e hA r) (RepL.sub h e hA t)
end
theorem RepL.length {w : Wd} : ∀ {vs : List V} {ds : List D}, RepL K G w vs ds → vs.length = ds.length
  | _, _, .nil => rfl
  | _, _, .cons _ t => by rw [List.length_cons, List.length_cons, RepL.length t]
theorem RepL.get {w : Wd} : ∀ {vs : List V} {ds : List D} {i : Nat} {v : V}, RepL K G w vs ds → vs[i]? = some v → ∃ d, ds[i]? = some d ∧ Rep K G w v d
  | _, _, _, _, .nil, e => by simp at e
  | _, _, 0, _, .cons r _, e => by simp at e; subst e; exact ⟨_, rfl, r⟩
  | _, _, i + 1, v, .cons _ t, e => RepL.get (i := i) (v := v) t (by simpa using e)
theorem RepL.get' {w : Wd} : ∀ {vs : List V} {ds : List D} {i : Nat} {d : D}, RepL K G w vs ds → ds[i]? = some d → ∃ v, vs[i]? = some v ∧ Rep K G w v d
  | _, _, _, _, .nil, e => by simp at e
  | _, _, 0, _, .cons r _, e => by simp at e; subst e; exact ⟨_, rfl, r⟩
  | _, _, i + 1, v, .cons _ t, e => RepL.get' (i := i) (d := v) t (by simpa using e)
theorem RepL.append {w : Wd} : ∀ {vs us : List V} {ds es : List D}, RepL K G w vs ds → RepL K G w us es → RepL K G w (vs ++ us) (ds ++ es)
  | _, _, _, _, .nil, s => s
  | _, _, _, _, .cons r t, s => .cons r (RepL.append t s)
theorem RepL.take {w : Wd} : ∀ {vs : List V} {ds : List D} (n : Nat), RepL K G w vs ds → RepL K G w (vs.take n) (ds.take n)
  | _, _, 0, _ => .nil
  | _, _, _ + 1, .nil => .nil
  | _, _, n + 1, .cons r t => .cons r (RepL.take n t)
theorem RepL.drop {w : Wd} : ∀ {vs : List V} {ds : List D} (n : Nat), RepL K G w vs ds → RepL K G w (vs.drop n) (ds.drop n)
  | _, _, 0, r => r
  | _, _, _ + 1, .nil => .nil
  | _, _, n + 1, .cons _ t => RepL.drop n t
theorem RepL.set {w : Wd} {v : V} {d : D} (r : Rep K G w v d) : ∀ {vs : List V} {ds : List D} (n : Nat), RepL K G w vs ds → RepL K G w (vs.set n v) (ds.set n d)
  | _, _, _, .nil => .nil
  | _, _, 0, .cons _ t => .cons r t
  | _, _, n + 1, .cons q t => .cons q (RepL.set r n t)
theorem RepL.erase {w : Wd} : ∀ {vs : List V} {ds : List D} (n : Nat), RepL K G w vs ds → RepL K G w (vs.eraseIdx n) (ds.eraseIdx n)
  | _, _, _, .nil => .nil
  | _, _, 0, .cons _ t => t
  | _, _, n + 1, .cons q t => .cons q (RepL.erase n t)
theorem RepL.reverse {w : Wd} : ∀ {vs : List V} {ds : List D}, RepL K G w vs ds → RepL K G w vs.reverse ds.reverse
  | _, _, .nil => .nil
  | _, _, .cons r t => by
    rw [List.reverse_cons, List.reverse_cons]
    exact RepL.append (RepL.reverse t) (.cons r .nil)
theorem RepL.nil_iff {w : Wd} {vs : List V} {ds : List D} (r : RepL K G w vs ds) : ds = [] ↔ vs = [] := by
  cases r with
  | nil => simp
  | cons _ _ => simp
theorem Le.refl {C : List Addr} {w : Wd} : Le K C w w := ⟨⟨[], by simp, by simp⟩, fun _ h => h, fun _ h => .inl h, Fr.refl⟩
theorem Le.trans {w w1 w2 : Wd} (a : Le K w.as w w1) (b : Le K w1.as w1 w2) : Le K w.as w w2 := by
  obtain ⟨⟨n, e1, e3⟩, u, d, f⟩ := a
  obtain ⟨⟨m, g1, g3⟩, u', d', g⟩ := b
  refine ⟨⟨n ++ m, by rw [g1, e1, List.append_assoc], fun x hx => ?_⟩, fun x hx => u' x (u x hx), fun x hx => ?_, f.trans g (fun _ h => h) fun x hx => ?_⟩
  · rcases List.mem_append.mp hx with h | h
    · exact e3 x h
    · exact f.h x (g3 x h)
  · rcases d' x hx with h | h
    · exact d x h
    · exact .inr (f.h x h)
  · rw [e1] at hx
    rcases List.mem_append.mp hx with h | h
    · exact .inl h
    · exact .inr (e3 x h)
/-- a new object beside -/
theorem Le.new {w : Wd} {p : Addr} {o : HO} {C : List Addr} (h : w.H p = none) : Le K C w { w with H := upd w.H p o } := ⟨⟨[], by simp, by simp⟩, fun _ h => h, fun _ h => .inl h, Fr.new h⟩
/-- .. that is to be avoided from now on -/
theorem Le.newA {w : Wd} {p : Addr} {o : HO} {C : List Addr} (h : w.H p = none) : Le K C w { w with H := upd w.H p o, A := p :: w.A } :=
  ⟨⟨[], by simp, by simp⟩, fun _ h => List.mem_cons_of_mem _ h, fun a ha => (List.mem_cons.mp ha).elim (fun e => .inr (e ▸ h)) .inl, Fr.new h⟩
/-! ## cells -/
inductive CRep (K : PySem.W.Frag) (G : Str → Addr) (w : Wd) : Addr → Cell → Prop
  | lst {a : Addr} {xs : List V} {ds : List D} : w.H a = some (.lst xs) → RepL K G w xs ds → CRep K G w a (.lst ds)
  | ins {a dx : Addr} {x : Str} {xs : List (Str × V)} {ds : List (Str × D)} : w.H a = some (.ins (G x) dx xs) → xs.map (·.1) = ds.map (·.1) → RepL K G w (xs.map (·.2)) (ds.map (·.2)) → CRep K G w a (.ins x ds)
structure StoOk (K : PySem.W.Frag) (G : Str → Addr) (w : Wd) (st : Sto) : Prop where
  len : w.as.length = st.length
  nd : w.as.Nodup
  sub : ∀ a ∈ w.as, a ∈ w.A
  live : ∀ a ∈ w.A, ∃ o, w.H a = some o
  at_ : ∀ (k : Nat) (c : Cell), st[k]? = some c → ∃ a, w.as[k]? = some a ∧ CRep K G w a c
/-! ## slots -/
abbrev Ow := List (Nat × Addr)
structure EnvOk (K : PySem.W.Frag) (G : Str → Addr) (w : Wd) (ow : Ow) (σ : L2.St) (env : Env) : Prop where
  len : σ.length = env.length
  own : ∀ p ∈ ow, (p.2 ∈ w.A ∧ p.2 ∉ w.as) ∧ ∃ xs l, env[p.1]? = some (some (.lst l)) ∧ σ[p.1]? = some (some (.ref p.2)) ∧ w.H p.2 = some (.lst xs) ∧ RepL K G w xs l
  var : ∀ (i : Nat) (d : D), env[i]? = some (some d) → (∀ p ∈ ow, p.1 ≠ i) → ∃ v, σ[i]? = some (some v) ∧ Rep K G w v d
theorem StoOk.hC {w : Wd} {st : Sto} (s : StoOk K G w st) : ∀ c ∈ w.as, c ∈ w.A := s.sub
theorem CRep.new {w : Wd} {p : Addr} {o : HO} (h : w.H p = none) {a : Addr} {c : Cell} (r : CRep K G w a c) : CRep K G { w with H := upd w.H p o } a c := by
  have l : Le K [] w { w with H := upd w.H p o } := Le.new h
  cases r with
  | lst e r => exact .lst (l.fr.o _ _ e (by simp)) (RepL.le l (by simp) r)
  | ins e q r => exact .ins (l.fr.o _ _ e (by simp)) q (RepL.le l (by simp) r)
theorem StoOk.new {w : Wd} {st : Sto} {p : Addr} {o : HO} (s : StoOk K G w st) (h : w.H p = none) : StoOk K G { w with H := upd w.H p o } st :=
  ⟨s.len, s.nd, s.sub, fun a ha => by
    obtain ⟨u, e⟩ := s.live a ha
    exact ⟨u, by show upd w.H p o a = _; rw [upd_ne (ne_of_none e h)]; exact e⟩, fun k c e => by
    obtain ⟨a, e1, r⟩ := s.at_ k c e
    exact ⟨a, e1, r.new h⟩⟩
theorem StoOk.newA {w : Wd} {st : Sto} {p : Addr} {o : HO} (s : StoOk K G w st) (h : w.H p = none) : StoOk K G { w with H := upd w.H p o, A := p :: w.A } st :=
  ⟨s.len, s.nd, fun a ha => List.mem_cons_of_mem _ (s.sub a ha), fun a ha => by
    by_cases q : a = p
    · subst q; exact ⟨o, upd_same⟩
    · obtain ⟨u, e⟩ := s.live a ((List.mem_cons.mp ha).resolve_left q)
      exact ⟨u, by show upd w.H p o a = _; rw [upd_ne q]; exact e⟩, fun k c e => by
    obtain ⟨a, e1, r⟩ := s.at_ k c e
    have l : Le K [] w { w with H := upd w.H p o, A := p :: w.A } := Le.newA h
    refine ⟨a, e1, ?_⟩
    cases r with
    | lst e2 r => exact .lst (l.fr.o _ _ e2 (by simp)) (RepL.le l (by simp) r)
    | ins e2 q r => exact .ins (l.fr.o _ _ e2 (by simp)) q (RepL.le l (by simp) r)⟩
theorem EnvOk.le {w w' : Wd} {ow : Ow} {σ : L2.St} {env : Env} (x : EnvOk K G w ow σ env) (l : Le K w.as w w') (hC : ∀ c ∈ w.as, c ∈ w.A) : EnvOk K G w' ow σ env := by
  refine ⟨x.len, fun p hp => ?_, fun i d e h => ?_⟩
  · obtain ⟨⟨h1, h2⟩, xs, q, e1, e2, e3, r⟩ := x.own p hp
    obtain ⟨n, a1, a3⟩ := l.n
    refine ⟨⟨l.up _ h1, fun z => ?_⟩, xs, q, e1, e2, l.fr.o _ _ e3 h2, RepL.le l hC r⟩
    rw [a1] at z
    rcases List.mem_append.mp z with z | z
    · exact h2 z
    · have := a3 _ z; rw [e3] at this; cases this
  · obtain ⟨v, e1, r⟩ := x.var i d e h
    exact ⟨v, e1, Rep.le l hC r⟩
/-! ## readings -/
/-- an exception of ours, as it lies -/
inductive XRep (K : PySem.W.Frag) (G : Str → Addr) (w : Wd) : Value → Option Addr → Str → List D → Prop
  | plain (x : Str) : XRep K G w (.ref (G x)) none x []
  | line {x : Str} {dd : Addr} {i : Int} : w.H dd = some (.xd [("line", .int i)]) → XRep K G w (.ref (G x)) (some dd) x [.int i]
/-- what is wanted of an outcome, from the world w on -/
def Out {α : Type} (K : PySem.W.Frag) (G : Str → Addr) (E : XK) (w : Wd) (P : Wd → α → Prop) : Res α × Sto → Prop
  | (.ok d, st') => ∀ w', Le K w.as w w' → StoOk K G w' st' → P w' d
  | (.exn x l, st') => ∀ w' c dd, Le K w.as w w' → StoOk K G w' st' → XRep K G w' c dd x l → E c dd w'.H
variable {E : XK} {Os : List Nat} {α β : Type}
theorem Out.le {w w1 : Wd} {P : Wd → α → Prop} {o : Res α × Sto} (l : Le K w.as w w1) (h : Out K G E w P o) : Out K G E w1 P o := by
  obtain ⟨r, st⟩ := o
  cases r with
  | ok a => exact fun w' l' s' => h w' (l.trans l') s'
  | exn x l0 => exact fun w' c dd l' s' => h w' c dd (l.trans l') s'
theorem Out.mono {w : Wd} {P P' : Wd → α → Prop} {o : Res α × Sto} (h : Out K G E w P o) (hP : ∀ w' a, Le K w.as w w' → P w' a → P' w' a) : Out K G E w P' o := by
  obtain ⟨r, st⟩ := o
  cases r with
  | ok a => exact fun w' l' s' => hP _ _ l' (h w' l' s')
  | exn x l0 => exact h
/-! ## the monad -/
def bnd (m : M α) (k : α → M β) : M β := fun env st => match m env st with
  | some (.ok x, st1) => k x env st1
  | some (.exn n l, st1) => some (.exn n l, st1)
  | none => none
def lft (o : Option α) : M α := fun _ st => match o with
  | some a => some (.ok a, st)
  | none => none
def rdW (K : PySem.W.Frag) (G : Str → Addr) (E : XK) (Os : List Nat) (m : M α) (P : Wd → α → Prop) (σ : L2.St) (w : Wd) : Prop := ∃ (ow : Ow) (env : Env) (st : Sto) (o : Res α × Sto),
  ow.map (·.1) = Os ∧ StoOk K G w st ∧ EnvOk K G w ow σ env ∧ m env st = some o ∧ Out K G E w P o
theorem rdW.mono {m : M α} {P P' : Wd → α → Prop} {σ : L2.St} {w : Wd} (h : rdW K G E Os m P σ w) (hP : ∀ w' a, Le K w.as w w' → P w' a → P' w' a) : rdW K G E Os m P' σ w := by
  obtain ⟨ow, env, st, o, h1, h2, h3, h4, h5⟩ := h
  exact ⟨ow, env, st, o, h1, h2, h3, h4, h5.mono hP⟩
theorem rdW.bnd {m : M α} {k : α → M β} {P : Wd → β → Prop} {σ : L2.St} {w : Wd} (h : rdW K G E Os (bnd m k) P σ w) :
    rdW K G E Os m (fun w1 x => rdW K G E Os (k x) P σ w1) σ w := by
  obtain ⟨ow, env, st, o, h1, h2, h3, h4, h5⟩ := h
  unfold Pw.bnd at h4
  cases hm : m env st with
  | none => rw [hm] at h4; cases h4
  | some o1 =>
    obtain ⟨r, st1⟩ := o1
    rw [hm] at h4
    cases r with
    | ok x => exact ⟨ow, env, st, (.ok x, st1), h1, h2, h3, hm, fun w1 l s1 => ⟨ow, env, st1, o, h1, s1, h3.le l h2.sub, h4, h5.le l⟩⟩
    | exn n l0 =>
      have e : (Res.exn n l0, st1) = o := Option.some.inj h4
      subst e
      exact ⟨ow, env, st, (.exn n l0, st1), h1, h2, h3, hm, h5⟩
theorem rdW.lft {a : Option α} {P : Wd → α → Prop} {σ : L2.St} {w : Wd} (h : rdW K G E Os (lft a) P σ w) :
    ∃ x st, a = some x ∧ StoOk K G w st ∧ ∀ w', Le K w.as w w' → StoOk K G w' st → P w' x := by
  obtain ⟨ow, env, st, o, h1, h2, h3, h4, h5⟩ := h
  cases a with
  | none => cases h4
  | some x =>
    have e : (Res.ok x, st) = o := Option.some.inj h4
    subst e
    exact ⟨x, st, rfl, h2, h5⟩
/-- a list or tuple that is read at once: it may be an owned one -/
def Bor (K : PySem.W.Frag) (G : Str → Addr) (w : Wd) (v : V) (d : D) : Prop := Rep K G w v d ∨ ∃ a xs l, v = .ref a ∧ d = .lst l ∧ a ∉ w.as ∧ w.H a = some (.lst xs) ∧ RepL K G w xs l
theorem Bor.le {w w' : Wd} {v : V} {d : D} (b : Bor K G w v d) (l : Le K w.as w w') (hC : ∀ c ∈ w.as, c ∈ w.A) : Bor K G w' v d := by
  rcases b with b | ⟨a, xs, q, e1, e2, e4, e3, r⟩
  · exact .inl (b.le l hC)
  · refine .inr ⟨a, xs, q, e1, e2, fun z => ?_, l.fr.o _ _ e3 e4, RepL.le l hC r⟩
    obtain ⟨n, a1, a3⟩ := l.n
    rw [a1] at z
    rcases List.mem_append.mp z with z | z
    · exact e4 z
    · have := a3 _ z; rw [e3] at this; cases this
theorem rdW.sub {m : M α} {P : Wd → α → Prop} {σ : L2.St} {w : Wd} (h : rdW K G E Os m P σ w) : ∀ c ∈ w.as, c ∈ w.A := by
  obtain ⟨_, _, _, _, _, h2, _⟩ := h
  exact h2.sub
def rdE (K : PySem.W.Frag) (G : Str → Addr) (E : XK) (Os : List Nat) (m : M D) : TE := fun σ H Q => ∃ w : Wd, w.H = H ∧ rdW K G E Os m (fun w' d => ∀ v, Rep K G w' v d → Q v w'.H) σ w
def rdB (K : PySem.W.Frag) (G : Str → Addr) (E : XK) (Os : List Nat) (m : M D) : TE := fun σ H Q => ∃ w : Wd, w.H = H ∧ rdW K G E Os m (fun w' d => ∀ v, Bor K G w' v d → Q v w'.H) σ w
def rdT (K : PySem.W.Frag) (G : Str → Addr) (E : XK) (Os : List Nat) (m : M Bool) : TT := fun σ H Q => ∃ w : Wd, w.H = H ∧ rdW K G E Os m (fun w' b => Q b w'.H) σ w
def rdA (K : PySem.W.Frag) (G : Str → Addr) (E : XK) (Os : List Nat) (m : M (List D)) : TA := fun σ H Q => ∃ w : Wd, w.H = H ∧ rdW K G E Os m (fun w' ds => ∀ vs, RepL K G w' vs ds → Q vs w'.H) σ w
end
section
variable {X : Cx} {e : Expr} {es : List Expr}
theorem _root_.L2.PE.imp {t t' : TE} (h : PE X e t) (i : ∀ σ H Q, t' σ H Q → t σ H Q) : PE X e t' := ⟨fun pins s σ H Q I q => h.run pins s σ H Q I (i _ _ _ q)⟩
theorem _root_.L2.PT.imp {t t' : TT} (h : PT X e t) (i : ∀ σ H Q, t' σ H Q → t σ H Q) : PT X e t' := ⟨fun pins s σ H Q I q => h.run pins s σ H Q I (i _ _ _ q)⟩
theorem _root_.L2.PW.imp {t t' : TT} (h : PW X e t) (i : ∀ σ H Q, t' σ H Q → t σ H Q) : PW X e t' := ⟨fun wh pins s σ H Q I q => h.run wh pins s σ H Q I (i _ _ _ q)⟩
theorem _root_.L2.PA.imp {t t' : TA} (h : PA X es t) (i : ∀ σ H Q, t' σ H Q → t σ H Q) : PA X es t' := ⟨fun pos pins s σ H Q I q => h.run pos pins s σ H Q I (i _ _ _ q)⟩
theorem _root_.L2.PS.imp {st : Stmt} {t t' : TS} (h : PS X st t) (i : ∀ D σ H, t' D σ H → t D σ H) : PS X st t' := ⟨fun pins s σ H D I q => h.run pins s σ H D I (i _ _ _ q)⟩
theorem _root_.L2.PSs.imp {st : List Stmt} {t t' : TS} (h : PSs X st t) (i : ∀ D σ H, t' D σ H → t D σ H) : PSs X st t' := ⟨fun pins s σ H D I q => h.run pins s σ H D I (i _ _ _ q)⟩
/-- the judgements -/
abbrev RE (X : Cx) (G : Str → Addr) (E : XK) (Os : List Nat) (e : Expr) (m : M D) : Prop := PE X e (rdE X.K G E Os m)
abbrev RB (X : Cx) (G : Str → Addr) (E : XK) (Os : List Nat) (e : Expr) (m : M D) : Prop := PE X e (rdB X.K G E Os m)
abbrev RT (X : Cx) (G : Str → Addr) (E : XK) (Os : List Nat) (e : Expr) (m : M Bool) : Prop := PT X e (rdT X.K G E Os m)
abbrev RA (X : Cx) (G : Str → Addr) (E : XK) (Os : List Nat) (es : List Expr) (m : M (List D)) : Prop := PA X es (rdA X.K G E Os m)
end
end Pw
namespace Pw
open PySem PySem.Spec PyProof.Rows L2
section
variable {X : Cx} {G : Str → Addr} {E : XK} {Os : List Nat} {e a b c : Expr} {es : List Expr} {m ma mb mc : M D} {pos : Pos}
/-! ## names, constants -/
def mVar (i : Nat) : M D := fun env st => match env[i]? with
  | some (some d) => some (.ok d, st)
  | _ => none
def mLit (d : D) : M D := fun _ st => some (.ok d, st)
theorem re_rb (h : RE X G E Os e m) : RB X G E Os e m := h.imp fun σ H Q ⟨w, hw, r⟩ => ⟨w, hw, r.mono fun w' d l h v r => h v (.inl r)⟩
theorem mVar_out {K : PySem.W.Frag} {w : Wd} {i : Nat} {σ : L2.St} {P : Wd → D → Prop} (h : rdW K G E Os (mVar i) P σ w) :
    ∃ (ow : Ow) (env : Env) (st : Sto) (d : D), ow.map (·.1) = Os ∧ StoOk K G w st ∧ EnvOk K G w ow σ env ∧ env[i]? = some (some d) ∧ ∀ w', Le K w.as w w' → StoOk K G w' st → P w' d := by
  obtain ⟨ow, env, st, o, h1, h2, h3, h4, h5⟩ := h
  unfold mVar at h4
  split at h4
  · rename_i d hd
    cases h4
    exact ⟨ow, env, st, d, h1, h2, h3, hd, h5⟩
  · cases h4
theorem re_var (i : Nat) {x : Str} (hN : X.N[i]? = some x := by rfl) (hv : Vis X.env.scope x := by first | exact Or.inl rfl | exact Or.inr (Or.inl rfl) | exact Or.inr (Or.inr rfl)) (hO : Os.contains i = false := by rfl)
    (hd : (x == ("__debug__" : Str)) = false := by decide) (hcd : (x == ("__classdict__" : Str)) = false := by decide) : RE X G E Os (.Name x pos) (mVar i) :=
  (pe_var hN hv hd hcd).imp fun σ H Q ⟨w, hw, r⟩ => by
    obtain ⟨ow, env, st, d, h1, h2, h3, h4, h5⟩ := mVar_out r
    obtain ⟨v, e1, r1⟩ := h3.var i d h4 fun p hp z => by
      have : i ∈ Os := by rw [← h1, ← z]; exact List.mem_map_of_mem hp
      rw [List.contains_iff_mem.mpr this] at hO
      cases hO
    subst hw
    exact ⟨v, e1, h5 w Le.refl h2 v r1⟩
/-- an owned list's name, read at once -/
theorem rb_own (i : Nat) {x : Str} (hN : X.N[i]? = some x := by rfl) (hv : Vis X.env.scope x := by first | exact Or.inl rfl | exact Or.inr (Or.inl rfl) | exact Or.inr (Or.inr rfl))
    (hd : (x == ("__debug__" : Str)) = false := by decide) (hcd : (x == ("__classdict__" : Str)) = false := by decide) : RB X G E Os (.Name x pos) (mVar i) :=
  (pe_var hN hv hd hcd).imp fun σ H Q ⟨w, hw, r⟩ => by
    obtain ⟨ow, env, st, d, h1, h2, h3, h4, h5⟩ := mVar_out r
    subst hw
    by_cases hp : ∃ p ∈ ow, p.1 = i
    · obtain ⟨p, hp, rfl⟩ := hp
      obtain ⟨⟨q1, q2⟩, xs, l, e1, e2, e3, r1⟩ := h3.own p hp
      rw [h4] at e1
      cases e1
      exact ⟨_, e2, h5 w Le.refl h2 _ (.inr ⟨_, _, _, rfl, rfl, q2, e3, r1⟩)⟩
    · obtain ⟨v, e1, r1⟩ := h3.var i d h4 fun p hp' z => hp ⟨p, hp', z⟩
      exact ⟨v, e1, h5 w Le.refl h2 v (.inl r1)⟩
theorem mLit_out {K : PySem.W.Frag} {w : Wd} {d : D} {σ : L2.St} {P : Wd → D → Prop} (h : rdW K G E Os (mLit d) P σ w) : P w d := by
  obtain ⟨ow, env, st, o, h1, h2, h3, h4, h5⟩ := h
  cases h4
  exact h5 w Le.refl h2
theorem re_lit {d : D} {v : V} (h : PE X e (tC v)) (r : ∀ w, Rep X.K G w v d) : RE X G E Os e (mLit d) := h.imp fun σ H Q ⟨w, hw, q⟩ => by
  subst hw
  exact mLit_out q v (r w)
theorem re_int {i : Int} {j} : RE X G E Os (.Constant (.int i) j pos) (mLit (.int i)) := re_lit pe_int fun _ => .int i
theorem re_bl {i : Bool} {j} : RE X G E Os (.Constant (.bool i) j pos) (mLit (.bl i)) := re_lit pe_bl fun _ => .bl i
theorem re_non {j} : RE X G E Os (.Constant .none j pos) (mLit .non) := re_lit pe_non fun _ => .non
theorem re_str {i : Str} {j} : RE X G E Os (.Constant (.str i) j pos) (mLit (.str i)) := re_lit pe_str fun _ => .str i
/-- a module's constant -/
theorem re_glob {x : Str} {v : V} {u : Value} {d : D} (hm : X.mg x = some u) (r : RelV v u) (q : ∀ w, Rep X.K G w v d) (hg : Gl X x := by rfl) (hd : (x == ("__debug__" : Str)) = false := by decide) : RE X G E Os (.Name x pos) (mLit d) :=
  re_lit (pe_glob hg hm r hd) q
theorem re_gint {x : Str} {i : Int} (hm : ∃ t, X.mg x = some (.int i t)) (hg : Gl X x := by rfl) (hd : (x == ("__debug__" : Str)) = false := by decide) : RE X G E Os (.Name x pos) (mLit (.int i)) := by
  obtain ⟨t, h⟩ := hm
  exact re_glob (v := .int i) h ⟨t, rfl⟩ (fun _ => .int i) hg hd
theorem re_gstr {x : Str} {i : Str} (hm : ∃ t, X.mg x = some (.str i t)) (hg : Gl X x := by rfl) (hd : (x == ("__debug__" : Str)) = false := by decide) : RE X G E Os (.Name x pos) (mLit (.str i)) := by
  obtain ⟨t, h⟩ := hm
  exact re_glob (v := .str i) h ⟨t, rfl⟩ (fun _ => .str i) hg hd
/-- a def as a value -/
theorem re_fn {x : Str} (hm : X.mg x = some (.ref (G x))) (hg : Gl X x := by rfl) (hd : (x == ("__debug__" : Str)) = false := by decide) : RE X G E Os (.Name x pos) (mLit (.fn x)) :=
  re_glob (v := .ref (G x)) hm rfl (fun _ => .fn x) hg hd
/-! ## argument lists, displays -/
def mNil : M (List D) := fun _ st => some (.ok [], st)
def mCons (ma : M D) (mr : M (List D)) : M (List D) := bnd ma fun x => bnd mr fun xs => lft (some (x :: xs))
def mTup (m : M (List D)) : M D := bnd m fun xs => lft (if xs.length ≤ sizeLine then some (.tup xs) else none)
def mLst (m : M (List D)) : M D := bnd m fun xs => lft (if xs.length ≤ sizeLine then some (.lst xs) else none)
theorem ra_nil : RA X G E Os [] mNil := pa_nil.imp fun σ H Q ⟨w, hw, r⟩ => by
  obtain ⟨ow, env, st, o, h1, h2, h3, h4, h5⟩ := r
  cases h4
  subst hw
  exact h5 w Le.refl h2 [] .nil
theorem ra_cons {mr : M (List D)} (ha : RE X G E Os e m) (hr : RA X G E Os es mr) (hs : starEach (e :: es) X.env = (false, eval e X.env) :: starEach es X.env := by rfl) : RA X G E Os (e :: es) (mCons m mr) :=
  (pa_cons ha hr hs).imp fun σ H Q ⟨w, hw, r⟩ => ⟨w, hw, r.bnd.mono fun w1 x l1 r1 v hv => ⟨w1, rfl, r1.bnd.mono fun w2 xs l2 r2 vs hvs => by
    obtain ⟨y, st, e1, so, q⟩ := r2.lft
    cases e1
    exact q w2 Le.refl so (v :: vs) (.cons (hv.le l2 r1.sub) hvs)⟩⟩
theorem re_tup {k} {mr : M (List D)} (h : RA X G E Os es mr) : RE X G E Os (.Tuple es k pos) (mTup mr) :=
  (pe_tup h).imp fun σ H Q ⟨w, hw, r⟩ => ⟨w, hw, r.bnd.mono fun w1 xs l1 r1 vs hvs => by
    obtain ⟨y, st, e1, so, q⟩ := r1.lft
    split at e1
    · rename_i hz
      cases e1
      refine ⟨by rw [hvs.length]; exact hz, fun p hp => ?_⟩
      exact q { w1 with H := upd w1.H p (.tup vs) } (Le.new hp) (so.new hp) _ (.tup (.inl (.inl upd_same)) (RepL.le (Le.new (C := w1.as) hp) so.sub hvs))
    · cases e1⟩
theorem rep_newL {K : PySem.W.Frag} {w : Wd} {p : Addr} {vs : List V} {ds : List D} {st : Sto} (so : StoOk K G w st) (hp : w.H p = none) (h : RepL K G w vs ds) : Rep K G { w with H := upd w.H p (.lst vs) } (.ref p) (.lst ds) := by
  refine .lst (fun z => ?_) upd_same (RepL.le (Le.new (C := w.as) hp) so.sub h)
  obtain ⟨u, e⟩ := so.live p z
  rw [hp] at e
  cases e
theorem re_lst {mr : M (List D)} (h : RA X G E Os es mr) : RE X G E Os (.List es pos) (mLst mr) :=
  (pe_lst h).imp fun σ H Q ⟨w, hw, r⟩ => ⟨w, hw, r.bnd.mono fun w1 xs l1 r1 vs hvs => by
    obtain ⟨y, st, e1, so, q⟩ := r1.lft
    split at e1
    · rename_i hz
      cases e1
      refine ⟨by rw [hvs.length]; exact hz, fun p hp => ?_⟩
      exact q { w1 with H := upd w1.H p (.lst vs) } (Le.new hp) (so.new hp) _ (rep_newL so hp hvs)
    · cases e1⟩
/-! ## operators -/
/-- a rule on values keeps to a function on data -/
def OpS (K : PySem.W.Frag) (G : Str → Addr) (r : R2) (f : D → D → Option D) : Prop :=
  ∀ (w : Wd) (st : Sto) (vx vy : V) (x y z : D) (Q : VK), StoOk K G w st → Bor K G w vx x → Bor K G w vy y → f x y = some z →
    (∀ w' v, Le K w.as w w' → StoOk K G w' st → Rep K G w' v z → Q v w'.H) → r vx vy w.H Q
def mBin (f : D → D → Option D) (ma mb : M D) : M D := bnd ma fun x => bnd mb fun y => lft (f x y)
theorem op_go {r : R2} {f : D → D → Option D} {K : PySem.W.Frag} {σ : L2.St} {H : Hp} {Q : VK} (hs : OpS K G r f) (h : rdE K G E Os (mBin f ma mb) σ H Q) : tOp r (rdB K G E Os ma) (rdB K G E Os mb) σ H Q := by
  obtain ⟨w, hw, q⟩ := h
  exact ⟨w, hw, q.bnd.mono fun w1 x l1 r1 v hv => ⟨w1, rfl, r1.bnd.mono fun w2 y l2 r2 u hu => by
    obtain ⟨z, st, e1, so, q⟩ := r2.lft
    exact hs w2 st v u x y z Q so (hv.le l2 r1.sub) hu e1 fun w' v l s rv => q w' l s v rv⟩⟩
theorem re_bin {op : Operator} {r : R2} {f : D → D → Option D} (hr : OpR X (binaryOp op) r) (hs : OpS X.K G r f) (ha : RB X G E Os a ma) (hb : RB X G E Os b mb) : RE X G E Os (.BinOp a op b pos) (mBin f ma mb) :=
  (pe_op hr ha hb).imp fun σ H Q h => op_go hs h
theorem re_cmp {op : CmpOp} {r : R2} {f : D → D → Option D} (hr : OpR X (compareOp op) r) (hs : OpS X.K G r f) (ha : RB X G E Os a ma) (hb : RB X G E Os b mb) (hm : behindInMarks op b = false) : RE X G E Os (.Compare a [op] [b] pos) (mBin f ma mb) :=
  (pe_cmpR hr ha hb hm).imp fun σ H Q h => op_go hs h
/-- a truth value as a test -/
def mTst (m : M D) : M Bool := bnd m fun d => lft (match d with | .bl b => some b | _ => none)
theorem rt_of {t : TE} (ht : PT X e (tTest t)) (h : ∀ σ H Q, rdE X.K G E Os m σ H Q → t σ H Q) : RT X G E Os e (mTst m) :=
  ht.imp fun σ H Q ⟨w, hw, r⟩ => h _ _ _ ⟨w, hw, r.bnd.mono fun w1 d l1 r1 v hv => by
    obtain ⟨z, st, e1, so, q⟩ := r1.lft
    split at e1
    · cases e1
      cases hv
      exact ⟨_, rfl, q w1 Le.refl so⟩
    · cases e1⟩
theorem rt_cmp {op : CmpOp} {r : R2} {f : D → D → Option D} (hr : OpR X (compareOp op) r) (hs : OpS X.K G r f) (ha : RB X G E Os a ma) (hb : RB X G E Os b mb) (hm : behindInMarks op b = false) : RT X G E Os (.Compare a [op] [b] pos) (mTst (mBin f ma mb)) :=
  rt_of (pt_cmpR hr ha hb hm) fun σ H Q h => op_go hs h
theorem rt_val (h : RE X G E Os e m) (he : ∀ whole, isTrue e X.env whole = (do let v ← whole; standAt e.pos; holding [v] (truthy v)) := by intro _; rfl) : RT X G E Os e (mTst m) :=
  rt_of (t := rdE X.K G E Os m) ((pt_val h he).imp fun σ H Q h => h) fun _ _ _ h => h
/-! ## and, or, not, if -/
def mAnd (ma mb : M Bool) : M Bool := bnd ma fun x => match x with | true => mb | false => lft (some false)
def mOr (ma mb : M Bool) : M Bool := bnd ma fun x => match x with | true => lft (some true) | false => mb
def mNot (ma : M Bool) : M Bool := bnd ma fun x => lft (some (!x))
def mB (ma : M Bool) : M D := bnd ma fun x => lft (some (.bl x))
def mIf (mt : M Bool) (ma mb : M D) : M D := bnd mt fun x => match x with | true => ma | false => mb
abbrev RW (X : Cx) (G : Str → Addr) (E : XK) (Os : List Nat) (e : Expr) (m : M Bool) : Prop := PW X e (rdT X.K G E Os m)
variable {ta tb tc : M Bool} {rest : List Expr}
theorem rw_pt (h : RW X G E Os e ta) : RT X G E Os e ta := PW.pt h
theorem rw_and1 (ha : RT X G E Os a ta) : RW X G E Os (.BoolOp .And [a] pos) ta := pw_and1 ha
theorem rw_or1 (ha : RT X G E Os a ta) : RW X G E Os (.BoolOp .Or [a] pos) ta := pw_or1 ha
theorem rw_and (ha : RT X G E Os a ta) (hb : RW X G E Os (.BoolOp .And (b :: rest) pos) tb) : RW X G E Os (.BoolOp .And (a :: b :: rest) pos) (mAnd ta tb) :=
  (pw_and ha hb).imp fun σ H Q ⟨w, hw, r⟩ => ⟨w, hw, r.bnd.mono fun w1 x l1 r1 => by
    cases x with
    | true => exact iteT ⟨w1, rfl, r1⟩
    | false =>
      obtain ⟨z, st, e1, so, q⟩ := rdW.lft r1
      cases e1
      exact iteF (q w1 Le.refl so)⟩
theorem rw_or (ha : RT X G E Os a ta) (hb : RW X G E Os (.BoolOp .Or (b :: rest) pos) tb) : RW X G E Os (.BoolOp .Or (a :: b :: rest) pos) (mOr ta tb) :=
  (pw_or ha hb).imp fun σ H Q ⟨w, hw, r⟩ => ⟨w, hw, r.bnd.mono fun w1 x l1 r1 => by
    cases x with
    | false => exact iteF ⟨w1, rfl, r1⟩
    | true =>
      obtain ⟨z, st, e1, so, q⟩ := rdW.lft r1
      cases e1
      exact iteT (q w1 Le.refl so)⟩
theorem rt_not (ha : RT X G E Os a ta) : RT X G E Os (.UnaryOp .Not a pos) (mNot ta) :=
  (pt_not ha).imp fun σ H Q ⟨w, hw, r⟩ => ⟨w, hw, r.bnd.mono fun w1 x l1 r1 => by
    obtain ⟨z, st, e1, so, q⟩ := r1.lft
    cases e1
    exact q w1 Le.refl so⟩
/-- as values -/
theorem re_one {op} (ha : RE X G E Os a m) : RE X G E Os (.BoolOp op [a] pos) m := pe_one ha
def mAndV (ma mb : M D) : M D := bnd ma fun x => match x with
  | .bl true => mb
  | .bl false => lft (some (.bl false))
  | _ => lft none
def mOrV (ma mb : M D) : M D := bnd ma fun x => match x with
  | .bl false => mb
  | .bl true => lft (some (.bl true))
  | _ => lft none
theorem re_and (ha : RE X G E Os a ma) (hb : RE X G E Os (.BoolOp .And (b :: rest) pos) mb) : RE X G E Os (.BoolOp .And (a :: b :: rest) pos) (mAndV ma mb) :=
  (pe_and ha hb).imp fun σ H Q ⟨w, hw, r⟩ => ⟨w, hw, r.bnd.mono fun w1 x l1 r1 v hv => by
    split at r1
    · cases hv
      exact ⟨_, rfl, iteT ⟨w1, rfl, r1⟩⟩
    · cases hv
      obtain ⟨z, st, e1, so, q⟩ := rdW.lft r1
      cases e1
      exact ⟨_, rfl, iteF (q w1 Le.refl so _ (.bl _))⟩
    · obtain ⟨z, st, e1, so, q⟩ := rdW.lft r1
      cases e1⟩
theorem re_or (ha : RE X G E Os a ma) (hb : RE X G E Os (.BoolOp .Or (b :: rest) pos) mb) : RE X G E Os (.BoolOp .Or (a :: b :: rest) pos) (mOrV ma mb) :=
  (pe_or ha hb).imp fun σ H Q ⟨w, hw, r⟩ => ⟨w, hw, r.bnd.mono fun w1 x l1 r1 v hv => by
    split at r1
    · cases hv
      exact ⟨_, rfl, iteF ⟨w1, rfl, r1⟩⟩
    · cases hv
      obtain ⟨z, st, e1, so, q⟩ := rdW.lft r1
      cases e1
      exact ⟨_, rfl, iteT (q w1 Le.refl so _ (.bl _))⟩
    · obtain ⟨z, st, e1, so, q⟩ := rdW.lft r1
      cases e1⟩
def mNotV (ma : M D) : M D := bnd ma fun x => lft (match x with | .bl b => some (.bl (!b)) | _ => none)
theorem re_not (ha : RE X G E Os a ma) : RE X G E Os (.UnaryOp .Not a pos) (mNotV ma) :=
  (pe_not ha).imp fun σ H Q ⟨w, hw, r⟩ => ⟨w, hw, r.bnd.mono fun w1 x l1 r1 v hv => by
    obtain ⟨z, st, e1, so, q⟩ := r1.lft
    split at e1
    · cases e1
      cases hv
      exact ⟨_, rfl, q w1 Le.refl so _ (.bl _)⟩
    · cases e1⟩
theorem re_if (hc : RT X G E Os c tc) (ha : RE X G E Os a ma) (hb : RE X G E Os b mb) : RE X G E Os (.IfExp c a b pos) (mIf tc ma mb) :=
  (pe_ifExp hc ha hb).imp fun σ H Q ⟨w, hw, r⟩ => ⟨w, hw, r.bnd.mono fun w1 x l1 r1 => by
    cases x with
    | true => exact iteT ⟨w1, rfl, r1⟩
    | false => exact iteF ⟨w1, rfl, r1⟩⟩
end
end Pw
namespace Pw
open PySem PySem.Spec PyProof.Rows L2
/-! ## how data lie -/
section
variable {K : PySem.W.Frag} {G : Str → Addr} {w : Wd} {v : V}
theorem Bor.int {i : Int} (h : Bor K G w v (.int i)) : v = .int i := by
  rcases h with h | ⟨_, _, _, _, z, _⟩
  · cases h; rfl
  · cases z
theorem Bor.bl {i : Bool} (h : Bor K G w v (.bl i)) : v = .bl i := by
  rcases h with h | ⟨_, _, _, _, z, _⟩
  · cases h; rfl
  · cases z
theorem Bor.str {i : Str} (h : Bor K G w v (.str i)) : v = .str i := by
  rcases h with h | ⟨_, _, _, _, z, _⟩
  · cases h; rfl
  · cases z
theorem Bor.non (h : Bor K G w v .non) : v = .non := by
  rcases h with h | ⟨_, _, _, _, z, _⟩
  · cases h; rfl
  · cases z
theorem Bor.tup {l : List D} (h : Bor K G w v (.tup l)) : ∃ a xs, v = .ref a ∧ SqT K w.H a xs ∧ RepL K G w xs l := by
  rcases h with h | ⟨_, _, _, _, z, _⟩
  · cases h with
    | tup h r => exact ⟨_, _, rfl, h, r⟩
  · cases z
theorem Bor.lst {l : List D} (h : Bor K G w v (.lst l)) : ∃ a xs, v = .ref a ∧ w.H a = some (.lst xs) ∧ RepL K G w xs l := by
  rcases h with h | ⟨a, xs, q, e1, e2, e4, e3, r⟩
  · cases h with
    | lst h1 h2 r => exact ⟨_, _, rfl, h2, r⟩
  · cases e2
    exact ⟨_, _, e1, e3, r⟩
end
/-! ## rules side by side -/
section
variable {X : Cx}
theorem OpR.or {f : Value → Value → Sem Value} {r r' : R2} (h : OpR X f r) (h' : OpR X f r') : OpR X f (fun x y H Q => r x y H Q ∨ r' x y H Q) := by
  intro pins s σ H x y v u Q I rx ry q
  rcases q with q | q
  · exact h pins s σ H x y v u Q I rx ry q
  · exact h' pins s σ H x y v u Q I rx ry q
/-- // by any divisor below 2 ^ 9000 -/
def CDivA (_ j : Int) : Prop := j ≠ 0 ∧ j.natAbs.log2 < 9000
instance {i j : Int} : Decidable (CDivA i j) := by unfold CDivA; infer_instance
instance {i j : Int} : Decidable (IntMulOk i j) := by unfold IntMulOk; infer_instance
theorem op_mulQ {X : Cx} : OpR X (binaryOp .Mult) (rI IntMulOk fun i j => .int (i * j)) := opI fun _ _ _ _ _ _ _ hc q => mul_int q hc
instance {i j : Int} : Decidable (CPow i j) := by unfold CPow; infer_instance
theorem op_fdivA : OpR X (binaryOp .FloorDiv) (rI CDivA fun i j => .int (i.fdiv j)) := opI fun i j _ _ _ _ _ hc q => floordiv_int hc.1 q (.inl (PyProof.noPylong_of_log2 hc.2))
/-- text * int -/
def CRepS (x : Str) (n : Int) : Prop := 0 ≤ n ∧ n ≤ 100000 ∧ x.length ≤ 160
instance {i : Str} {j : Int} : Decidable (CRepS i j) := by unfold CRepS; infer_instance
theorem CRepS.ok {x : Str} {n : Int} (h : CRepS x n) : PySem.MulOk x n := by
  obtain ⟨h0, h1, h2⟩ := h
  refine ⟨?_, fun _ _ => ?_, fun _ _ => ?_⟩
  · rw [decide_eq_false (by omega), decide_eq_false (by omega)]; rfl
  · intro z
    have h3 : (x.length : Int) > (2 ^ 63 - 1) / n := z
    by_cases hn : n = 0
    · subst hn; omega
    · have h4 : (2 ^ 63 - 1 : Int) / 100000 ≤ (2 ^ 63 - 1) / n := by
        apply Int.le_ediv_of_mul_le (by omega)
        have : (2 ^ 63 - 1 : Int) / 100000 * n ≤ (2 ^ 63 - 1 : Int) / 100000 * 100000 := Int.mul_le_mul_of_nonneg_left h1 (by decide)
        omega
      have h5 : (160 : Int) ≤ (2 ^ 63 - 1 : Int) / 100000 := by decide
      omega
  · unfold Builtin.Str.tooLong
    have hm : x.length * n.toNat ≤ 160 * 100000 := Nat.mul_le_mul h2 (by omega)
    have e : sizeLine = 16777216 := by decide
    exact decide_eq_false (by omega)
theorem op_repS : OpR X (binaryOp .Mult) (fun x y H Q => ∃ i j, x = .str i ∧ y = .int j ∧ CRepS i j ∧ Q (.str (PySem.Txt.mul i j)) H) := by
  intro pins s σ H x y v u Q I rx ry h
  obtain ⟨i, j, rfl, rfl, hc, q⟩ := h
  obtain ⟨t, rfl⟩ := rx
  obtain ⟨t', rfl⟩ := ry
  exact SB.mul hc.ok fun t' k => ⟨.str _, H, I.tok _, ⟨_, rfl⟩, q⟩
end
/-! ## + - * // % ** -/
def dAdd : D → D → Option D
  | .int a, .int b => some (.int (a + b))
  | .str a, .str b => if a.length + b.length ≤ sizeLine then some (.str (a ++ b)) else none
  | .tup a, .tup b => if a.length + b.length ≤ sizeLine then some (.tup (a ++ b)) else none
  | .lst a, .lst b => if a.length + b.length ≤ sizeLine then some (.lst (a ++ b)) else none
  | _, _ => none
def dSub : D → D → Option D
  | .int a, .int b => some (.int (a - b))
  | _, _ => none
def dMul : D → D → Option D
  | .int a, .int b => if IntMulOk a b then some (.int (a * b)) else none
  | .str a, .int b => if CRepS a b then some (.str (PySem.Txt.mul a b)) else none
  | .tup a, .int b => if a ≠ [] ∧ 2 ≤ b ∧ b ≤ 1000 ∧ a.length ≤ 1000 then some (.tup (List.replicate b.toNat a).flatten) else none
  | .lst a, .int b => if -(2 ^ 63) ≤ b ∧ b < 2 ^ 63 ∧ a.length * b.toNat ≤ sizeLine then some (.lst (List.replicate b.toNat a).flatten) else none
  | _, _ => none
def dFdiv : D → D → Option D
  | .int a, .int b => if CDivA a b then some (.int (a.fdiv b)) else none
  | _, _ => none
def dMod : D → D → Option D
  | .int a, .int b => if b ≠ 0 then some (.int (a.fmod b)) else none
  | _, _ => none
def dPow : D → D → Option D
  | .int a, .int b => if CPow a b then some (.int (a ^ b.toNat)) else none
  | _, _ => none
def dNeg : D → Option D
  | .int a => some (.int (-a))
  | _ => none
def rAddA (K : PySem.W.Frag) : R2 := fun x y H Q => ((rI0 (fun i j => .int (i + j)) x y H Q ∨ (fun x y H Q => ∃ i j, x = .str i ∧ y = .str j ∧ i.length + j.length ≤ sizeLine ∧ Q (.str (i ++ j)) H : R2) x y H Q) ∨ rCatA K x y H Q) ∨ rCat x y H Q
theorem op_addA {X : Cx} : OpR X (binaryOp .Add) (rAddA X.K) := OpR.or (OpR.or (OpR.or op_add op_add_str) op_catA) op_cat
theorem ite_some {α : Type} {c : Prop} [Decidable c] {x z : α} (h : (if c then some x else none) = some z) : c ∧ x = z := by
  by_cases hc : c
  · rw [if_pos hc] at h; exact ⟨hc, Option.some.inj h⟩
  · rw [if_neg hc] at h; cases h
section
variable {K : PySem.W.Frag} {G : Str → Addr}
theorem os_add : OpS K G (rAddA K) dAdd := by
  intro w st vx vy x y z Q so hx hy h q
  unfold dAdd at h
  split at h
  · cases h
    cases hx.int; cases hy.int
    exact .inl (.inl (.inl ⟨_, _, rfl, rfl, q w _ Le.refl so (.int _)⟩))
  · obtain ⟨hz, rfl⟩ := ite_some h
    cases hx.str; cases hy.str
    exact .inl (.inl (.inr ⟨_, _, rfl, rfl, hz, q w _ Le.refl so (.str _)⟩))
  · obtain ⟨hz, rfl⟩ := ite_some h
    obtain ⟨a, xs, rfl, h1, r1⟩ := hx.tup
    obtain ⟨b, ys, rfl, h2, r2⟩ := hy.tup
    refine .inl (.inr ⟨a, b, xs, ys, rfl, rfl, h1, h2, by rw [r1.length, r2.length]; exact hz, fun e => ?_, fun _ e => ?_, fun _ _ p hp => ?_⟩)
    · rw [r1.nil_iff.mpr e] at q
      exact q w _ Le.refl so (.tup h2 r2)
    · rw [r2.nil_iff.mpr e, List.append_nil] at q
      exact q w _ Le.refl so (.tup h1 r1)
    · exact q { w with H := upd w.H p (.tup (xs ++ ys)) } _ (Le.new hp) (so.new hp) (.tup (.inl (.inl upd_same)) (RepL.le (Le.new (C := w.as) hp) so.sub (r1.append r2)))
  · obtain ⟨hz, rfl⟩ := ite_some h
    obtain ⟨a, xs, rfl, h1, r1⟩ := hx.lst
    obtain ⟨b, ys, rfl, h2, r2⟩ := hy.lst
    refine .inr ⟨a, b, xs, ys, rfl, rfl, h1, h2, by rw [r1.length, r2.length]; exact hz, fun p hp => ?_⟩
    exact q { w with H := upd w.H p (.lst (xs ++ ys)) } _ (Le.new hp) (so.new hp) (rep_newL so hp (r1.append r2))
  · cases h
theorem os_int2 {f : D → D → Option D} {C : Int → Int → Prop} {g : Int → Int → D} {g' : Int → Int → V} (hf : ∀ x y z, f x y = some z → ∃ i j, x = .int i ∧ y = .int j ∧ C i j ∧ z = g i j) (hg : ∀ w i j, Rep K G w (g' i j) (g i j)) : OpS K G (rI C g') f := by
  intro w st vx vy x y z Q so hx hy h q
  obtain ⟨i, j, rfl, rfl, hc, rfl⟩ := hf _ _ _ h
  cases hx.int; cases hy.int
  exact ⟨_, _, rfl, rfl, hc, q w _ Le.refl so (hg _ _ _)⟩
theorem os_int20 {f : D → D → Option D} {g : Int → Int → D} {g' : Int → Int → V} (hf : ∀ x y z, f x y = some z → ∃ i j, x = .int i ∧ y = .int j ∧ z = g i j) (hg : ∀ w i j, Rep K G w (g' i j) (g i j)) : OpS K G (rI0 g') f := by
  intro w st vx vy x y z Q so hx hy h q
  obtain ⟨i, j, rfl, rfl, rfl⟩ := hf _ _ _ h
  cases hx.int; cases hy.int
  exact ⟨_, _, rfl, rfl, q w _ Le.refl so (hg _ _ _)⟩
theorem os_sub : OpS K G (rI0 fun i j => .int (i - j)) dSub := os_int20 (g := fun i j => .int (i - j)) (fun x y z h => by
  unfold dSub at h
  split at h <;> cases h
  exact ⟨_, _, rfl, rfl, rfl⟩) fun _ _ _ => .int _
theorem os_fdiv : OpS K G (rI CDivA fun i j => .int (i.fdiv j)) dFdiv := os_int2 (g := fun i j => .int (i.fdiv j)) (fun x y z h => by
  unfold dFdiv at h
  split at h
  · obtain ⟨hc, rfl⟩ := ite_some h
    exact ⟨_, _, rfl, rfl, hc, rfl⟩
  · cases h) fun _ _ _ => .int _
theorem os_mod : OpS K G (rI (fun _ j => j ≠ 0) fun i j => .int (i.fmod j)) dMod := os_int2 (g := fun i j => .int (i.fmod j)) (fun x y z h => by
  unfold dMod at h
  split at h
  · obtain ⟨hc, rfl⟩ := ite_some h
    exact ⟨_, _, rfl, rfl, hc, rfl⟩
  · cases h) fun _ _ _ => .int _
theorem os_pow : OpS K G (rI CPow fun i j => .int (i ^ j.toNat)) dPow := os_int2 (g := fun i j => .int (i ^ j.toNat)) (fun x y z h => by
  unfold dPow at h
  split at h
  · obtain ⟨hc, rfl⟩ := ite_some h
    exact ⟨_, _, rfl, rfl, hc, rfl⟩
  · cases h) fun _ _ _ => .int _
def rMulA (K : PySem.W.Frag) : R2 := fun x y H Q => ((rI IntMulOk (fun i j => .int (i * j)) x y H Q ∨ (fun x y H Q => ∃ i j, x = .str i ∧ y = .int j ∧ CRepS i j ∧ Q (.str (PySem.Txt.mul i j)) H : R2) x y H Q) ∨ rRepT K x y H Q) ∨ rRep x y H Q
theorem op_mulA {X : Cx} : OpR X (binaryOp .Mult) (rMulA X.K) := OpR.or (OpR.or (OpR.or op_mulQ op_repS) op_repT) op_rep
theorem RepL.rep {w : Wd} {xs : List V} {ds : List D} (r : RepL K G w xs ds) : ∀ n : Nat, RepL K G w (List.replicate n xs).flatten (List.replicate n ds).flatten
  | 0 => .nil
  | n + 1 => by
    rw [List.replicate_succ, List.replicate_succ, List.flatten_cons, List.flatten_cons]
    exact r.append (RepL.rep r n)
theorem os_mul : OpS K G (rMulA K) dMul := by
  intro w st vx vy x y z Q so hx hy h q
  unfold dMul at h
  split at h
  · obtain ⟨hc, rfl⟩ := ite_some h
    cases hx.int; cases hy.int
    exact .inl (.inl (.inl ⟨_, _, rfl, rfl, hc, q w _ Le.refl so (.int _)⟩))
  · obtain ⟨hc, rfl⟩ := ite_some h
    cases hx.str; cases hy.int
    exact .inl (.inl (.inr ⟨_, _, rfl, rfl, hc, q w _ Le.refl so (.str _)⟩))
  · obtain ⟨⟨h0, h1, h2, h3⟩, rfl⟩ := ite_some h
    cases hy.int
    obtain ⟨a, xs, rfl, h4, r1⟩ := hx.tup
    refine .inl (.inr ⟨a, _, xs, rfl, rfl, h4, fun e => h0 (r1.nil_iff.mpr e), h1, h2, by rw [r1.length]; exact h3, fun p hp => ?_⟩)
    exact q { w with H := upd w.H p _ } _ (Le.new hp) (so.new hp) (.tup (.inl (.inl upd_same)) (RepL.le (Le.new (C := w.as) hp) so.sub (r1.rep _)))
  · obtain ⟨⟨h1, h2, h3⟩, rfl⟩ := ite_some h
    cases hy.int
    obtain ⟨a, xs, rfl, h4, r1⟩ := hx.lst
    refine .inr ⟨a, _, xs, rfl, rfl, h4, h1, h2, by rw [r1.length]; exact h3, fun p hp => ?_⟩
    exact q { w with H := upd w.H p _ } _ (Le.new hp) (so.new hp) (rep_newL so hp (r1.rep _))
  · cases h
/-! ## one place -/
def UnS (K : PySem.W.Frag) (G : Str → Addr) (r : V → Hp → VK → Prop) (f : D → Option D) : Prop :=
  ∀ (w : Wd) (st : Sto) (vx : V) (x z : D) (Q : VK), StoOk K G w st → Bor K G w vx x → f x = some z →
    (∀ w' v, Le K w.as w w' → StoOk K G w' st → Rep K G w' v z → Q v w'.H) → r vx w.H Q
def mUn (f : D → Option D) (ma : M D) : M D := bnd ma fun x => lft (f x)
theorem un_go {r : V → Hp → VK → Prop} {f : D → Option D} {σ : L2.St} {H : Hp} {Q : VK} {E : XK} {Os : List Nat} {ma : M D} (hs : UnS K G r f) (h : rdE K G E Os (mUn f ma) σ H Q) : rdB K G E Os ma σ H fun x H1 => r x H1 Q := by
  obtain ⟨w, hw, q⟩ := h
  exact ⟨w, hw, q.bnd.mono fun w1 x l1 r1 v hv => by
    obtain ⟨z, st, e1, so, q⟩ := r1.lft
    exact hs w1 st v x z Q so hv e1 fun w' v l s rv => q w' l s v rv⟩
theorem us_neg : UnS K G (rU fun i => .int (-i)) dNeg := by
  intro w st vx x z Q so hx h q
  unfold dNeg at h
  split at h <;> cases h
  cases hx.int
  exact ⟨_, rfl, q w _ Le.refl so (.int _)⟩
end
section
variable {X : Cx} {G : Str → Addr} {E : XK} {Os : List Nat} {e a b c : Expr} {es : List Expr} {m ma mb mc : M D} {pos : Pos}
theorem re_add (ha : RB X G E Os a ma) (hb : RB X G E Os b mb) : RE X G E Os (.BinOp a .Add b pos) (mBin dAdd ma mb) := re_bin op_addA os_add ha hb
theorem re_sub (ha : RB X G E Os a ma) (hb : RB X G E Os b mb) : RE X G E Os (.BinOp a .Sub b pos) (mBin dSub ma mb) := re_bin op_sub os_sub ha hb
theorem re_mul (ha : RB X G E Os a ma) (hb : RB X G E Os b mb) : RE X G E Os (.BinOp a .Mult b pos) (mBin dMul ma mb) := re_bin op_mulA os_mul ha hb
theorem re_fdiv (ha : RB X G E Os a ma) (hb : RB X G E Os b mb) : RE X G E Os (.BinOp a .FloorDiv b pos) (mBin dFdiv ma mb) := re_bin op_fdivA os_fdiv ha hb
theorem re_mod (ha : RB X G E Os a ma) (hb : RB X G E Os b mb) : RE X G E Os (.BinOp a .Mod b pos) (mBin dMod ma mb) := re_bin op_modN os_mod ha hb
theorem re_pow (ha : RB X G E Os a ma) (hb : RB X G E Os b mb) : RE X G E Os (.BinOp a .Pow b pos) (mBin dPow ma mb) := re_bin op_pow os_pow ha hb
theorem re_neg (ha : RB X G E Os a ma) : RE X G E Os (.UnaryOp .USub a pos) (mUn dNeg ma) := (pe_un un_neg ha).imp fun σ H Q h => un_go us_neg h
end
end Pw
namespace Pw
open PySem PySem.Spec PyProof.Rows L2
/-! ## == of data -/
mutual
def D.py : D → Option PyData
  | .non => some .none
  | .bl b => some (.bool b)
  | .int i => some (.int i)
  | .str s => some (.str s)
  | .tup l => match D.pyL l with | some r => some (.tuple r) | none => none
  | .lst l => match D.pyL l with | some r => some (.list r) | none => none
  | .fn _ => none
  | .cell _ => none
  | .scr _ => none
  | .dK _ => none
  | .dT _ => none
def D.pyL : List D → Option (List PyData)
  | [] => some []
  | d :: r => match D.py d with | some x => (match D.pyL r with | some y => some (x :: y) | none => none) | none => none
end
def dEqB (x y : D) : Option Bool := match x.py, y.py with
  | some p, some q => if SeqAt.shaped p = true ∧ SeqAt.shaped q = true then some (PyData.eqv p q) else none
  | _, _ => none
def dEq (x y : D) : Option D := (dEqB x y).map .bl
def dNe (x y : D) : Option D := (dEqB x y).map fun b => .bl (!b)
section
variable {K : PySem.W.Frag} {G : Str → Addr} {w : Wd}
mutual
theorem Rep.dp : ∀ {v : V} {d : D} {p : PyData}, Rep K G w v d → d.py = some p → Dp K w.H v p
  | _, _, p, .non, e => by
    have e' : PyData.none = p := Option.some.inj e
    subst e'; exact .non
  | _, _, p, .bl b, e => by
    have e' : PyData.bool b = p := Option.some.inj e
    subst e'; exact .bl b
  | _, _, p, .int i, e => by
    have e' : PyData.int i = p := Option.some.inj e
    subst e'; exact .int i
  | _, _, p, .str s, e => by
    have e' : PyData.str s = p := Option.some.inj e
    subst e'; exact .str s
  | _, _, p, .fn x, e => nomatch (show (none : Option PyData) = some p from e)
  | _, _, p, .cell _, e => nomatch (show (none : Option PyData) = some p from e)
  | _, _, p, .scr _, e => nomatch (show (none : Option PyData) = some p from e)
  | _, _, p, .dK _ _ _ _, e => nomatch (show (none : Option PyData) = some p from e)
  | _, _, p, .dT _ _ _ _, e => nomatch (show (none : Option PyData) = some p from e)
  | _, .tup l, p, .tup h r, e => by
    unfold D.py at e
    cases q : D.pyL l with
    | none => rw [q] at e; cases e
    | some y => rw [q] at e; cases e; exact .tup h (RepL.dp r q)
  | _, .lst l, p, .lst _ h r, e => by
    unfold D.py at e
    cases q : D.pyL l with
    | none => rw [q] at e; cases e
    | some y => rw [q] at e; cases e; exact .lst (.of h) (RepL.dp r q)
theorem RepL.dp : ∀ {v : List V} {d : List D} {p : List PyData}, RepL K G w v d → D.pyL d = some p → DpAll K w.H v p
  | _, _, p, .nil, e => by
    have e' : [] = p := Option.some.inj e
    subst e'; exact .nil
  | _, d :: ds, p, .cons r t, e => by
    unfold D.pyL at e
    cases q : D.py d with
    | none => rw [q] at e; cases e
    | some y =>
      rw [q] at e
      cases q2 : D.pyL ds with
      | none => rw [q2] at e; cases e
      | some z => rw [q2] at e; cases e; exact .cons (Rep.dp r q) (RepL.dp t q2)
end
theorem Bor.dp {v : V} {d : D} {p : PyData} (h : Bor K G w v d) (e : d.py = some p) : Dp K w.H v p := by
  rcases h with h | ⟨a, xs, l, rfl, rfl, _, e3, r⟩
  · exact h.dp e
  · unfold D.py at e
    cases q : D.pyL l with
    | none => rw [q] at e; cases e
    | some y => rw [q] at e; cases e; exact .lst (.of e3) (r.dp q)
theorem dEqB_ok {x y : D} {b : Bool} (h : dEqB x y = some b) : ∃ p q, x.py = some p ∧ y.py = some q ∧ SeqAt.shaped p = true ∧ SeqAt.shaped q = true ∧ b = PyData.eqv p q := by
  unfold dEqB at h
  split at h
  · rename_i p q e1 e2
    obtain ⟨⟨h1, h2⟩, rfl⟩ := ite_some h
    exact ⟨p, q, e1, e2, h1, h2, rfl⟩
  · cases h
theorem os_eq : OpS K G (rEqD K) dEq := by
  intro w st vx vy x y z Q so hx hy h q
  obtain ⟨b, hb, rfl⟩ := Option.map_eq_some_iff.mp h
  obtain ⟨p, p', e1, e2, s1, s2, rfl⟩ := dEqB_ok hb
  exact ⟨p, p', hx.dp e1, hy.dp e2, s1, s2, q w _ Le.refl so (.bl _)⟩
theorem os_ne : OpS K G (rNeD K) dNe := by
  intro w st vx vy x y z Q so hx hy h q
  obtain ⟨b, hb, rfl⟩ := Option.map_eq_some_iff.mp h
  obtain ⟨p, p', e1, e2, s1, s2, rfl⟩ := dEqB_ok hb
  exact ⟨p, p', hx.dp e1, hy.dp e2, s1, s2, q w _ Le.refl so (.bl _)⟩
/-! ## < <= > >= -/
def dLt : D → D → Option D
  | .int a, .int b => some (.bl (decide (a < b)))
  | .str a, .str b => some (.bl (decide (a.cps.toList < b.cps.toList)))
  | _, _ => none
def dGt (x y : D) : Option D := dLt y x
def dLe : D → D → Option D
  | .int a, .int b => some (.bl (decide (a ≤ b)))
  | .str a, .str b => some (.bl (!decide (b.cps.toList < a.cps.toList)))
  | _, _ => none
def dGe (x y : D) : Option D := dLe y x
theorem os_is {f : D → D → Option D} {gi : Int → Int → Bool} {gs : Str → Str → Bool} (hf : ∀ x y z, f x y = some z → (∃ i j, x = .int i ∧ y = .int j ∧ z = .bl (gi i j)) ∨ ∃ i j, x = .str i ∧ y = .str j ∧ z = .bl (gs i j)) :
    OpS K G (fun x y H Q => rI0 (fun i j => .bl (gi i j)) x y H Q ∨ (fun x y H Q => ∃ i j, x = .str i ∧ y = .str j ∧ Q (.bl (gs i j)) H : R2) x y H Q) f := by
  intro w st vx vy x y z Q so hx hy h q
  rcases hf _ _ _ h with ⟨i, j, rfl, rfl, rfl⟩ | ⟨i, j, rfl, rfl, rfl⟩
  · cases hx.int; cases hy.int
    exact .inl ⟨_, _, rfl, rfl, q w _ Le.refl so (.bl _)⟩
  · cases hx.str; cases hy.str
    exact .inr ⟨_, _, rfl, rfl, q w _ Le.refl so (.bl _)⟩
theorem dLt_ok {x y z : D} (h : dLt x y = some z) : (∃ i j, x = .int i ∧ y = .int j ∧ z = .bl (decide (i < j))) ∨ ∃ i j, x = .str i ∧ y = .str j ∧ z = .bl (decide (i.cps.toList < j.cps.toList)) := by
  unfold dLt at h
  split at h <;> cases h
  · exact .inl ⟨_, _, rfl, rfl, rfl⟩
  · exact .inr ⟨_, _, rfl, rfl, rfl⟩
theorem dLe_ok {x y z : D} (h : dLe x y = some z) : (∃ i j, x = .int i ∧ y = .int j ∧ z = .bl (decide (i ≤ j))) ∨ ∃ i j, x = .str i ∧ y = .str j ∧ z = .bl (!decide (j.cps.toList < i.cps.toList)) := by
  unfold dLe at h
  split at h <;> cases h
  · exact .inl ⟨_, _, rfl, rfl, rfl⟩
  · exact .inr ⟨_, _, rfl, rfl, rfl⟩
/-! ## is None; in -/
def D.isN : D → Bool
  | .non => true
  | _ => false
def dIsN : D → D → Option D
  | x, .non => some (.bl x.isN)
  | _, _ => none
def dNotN : D → D → Option D
  | x, .non => some (.bl (!x.isN))
  | _, _ => none
theorem Bor.is_non {v : V} {d : D} (h : Bor K G w v d) : decide (v = .non) = d.isN := by
  rcases h with h | ⟨a, xs, l, rfl, rfl, _, _, _⟩
  · cases h <;> rfl
  · rfl
theorem os_isN : OpS K G (fun x y H Q => y = .non ∧ Q (.bl (decide (x = .non))) H) dIsN := by
  intro w st vx vy x y z Q so hx hy h q
  unfold dIsN at h
  split at h
  · cases h
    refine ⟨hy.non, ?_⟩
    rw [hx.is_non]
    exact q w _ Le.refl so (.bl _)
  · cases h
theorem os_notN : OpS K G (fun x y H Q => y = .non ∧ Q (.bl (!decide (x = .non))) H) dNotN := by
  intro w st vx vy x y z Q so hx hy h q
  unfold dNotN at h
  split at h
  · cases h
    refine ⟨hy.non, ?_⟩
    rw [hx.is_non]
    exact q w _ Le.refl so (.bl _)
  · cases h
/-- flat data -/
def dFlat : D → Bool
  | .non => true
  | .bl _ => true
  | .int _ => true
  | .str _ => true
  | _ => false
def dEqF : D → D → Bool
  | .non, .non => true
  | .bl a, .bl b => a == b
  | .bl a, .int b => (if a then 1 else 0) == b
  | .int a, .bl b => a == (if b then 1 else 0)
  | .int a, .int b => a == b
  | .str a, .str b => a == b
  | _, _ => false
theorem Rep.flat {v : V} {d : D} (h : Rep K G w v d) (f : dFlat d = true) : flatV v = true := by
  cases h <;> first | rfl | cases f
theorem Rep.eqF {v u : V} {d e : D} (h : Rep K G w v d) (g : Rep K G w u e) (f : dFlat d = true) (f' : dFlat e = true) : eqV v u = dEqF d e := by
  cases h <;> cases g <;> first | rfl | cases f | cases f'
theorem RepL.flat : ∀ {vs : List V} {ds : List D}, RepL K G w vs ds → ds.all dFlat = true → vs.all flatV = true
  | _, _, .nil, _ => rfl
  | _, _, .cons r t, h => by
    rw [List.all_cons, Bool.and_eq_true] at h
    rw [List.all_cons, r.flat h.1, t.flat h.2]; rfl
theorem RepL.inF {u : V} {e : D} (g : Rep K G w u e) (f : dFlat e = true) : ∀ {vs : List V} {ds : List D}, RepL K G w vs ds → ds.all dFlat = true → inV u vs = ds.any fun d => dEqF d e
  | _, _, .nil, _ => rfl
  | _, _, .cons r t, h => by
    rw [List.all_cons, Bool.and_eq_true] at h
    have ih := RepL.inF g f t h.2
    unfold inV at ih
    unfold inV
    rw [List.any_cons, List.any_cons, r.eqF g h.1 f, ih]
/-- x in xs, by flat items; a text in a text -/
def dInB : D → D → Option Bool
  | .str a, .str b => some (!(Builtin.Str.occurrences b a 0 b.length 1).isEmpty)
  | x, .tup l => if dFlat x = true ∧ l.all dFlat = true then some (l.any fun d => dEqF d x) else none
  | x, .lst l => if dFlat x = true ∧ l.all dFlat = true then some (l.any fun d => dEqF d x) else none
  | _, _ => none
def dIn (x y : D) : Option D := (dInB x y).map .bl
def dNotIn (x y : D) : Option D := (dInB x y).map fun b => .bl (!b)
theorem dInB_ok {x y : D} {b : Bool} (h : dInB x y = some b) : (∃ i j, x = .str i ∧ y = .str j ∧ b = (!(Builtin.Str.occurrences j i 0 j.length 1).isEmpty)) ∨
    ∃ l, (y = .tup l ∨ y = .lst l) ∧ dFlat x = true ∧ l.all dFlat = true ∧ b = l.any fun d => dEqF d x := by
  unfold dInB at h
  split at h
  · cases h; exact .inl ⟨_, _, rfl, rfl, rfl⟩
  · obtain ⟨⟨h1, h2⟩, rfl⟩ := ite_some h; exact .inr ⟨_, .inl rfl, h1, h2, rfl⟩
  · obtain ⟨⟨h1, h2⟩, rfl⟩ := ite_some h; exact .inr ⟨_, .inr rfl, h1, h2, rfl⟩
  · cases h
theorem Bor.rep_flat {v : V} {d : D} (h : Bor K G w v d) (f : dFlat d = true) : Rep K G w v d := by
  rcases h with h | ⟨a, xs, l, rfl, rfl, _, _, _⟩
  · exact h
  · cases f
theorem os_in : OpS K G (fun x y H Q => (fun x y H Q => ∃ i j, x = .str i ∧ y = .str j ∧ Q (.bl (!(Builtin.Str.occurrences j i 0 j.length 1).isEmpty)) H : R2) x y H Q ∨ rIn K false x y H Q) dIn := by
  intro w st vx vy x y z Q so hx hy h q
  obtain ⟨b, hb, rfl⟩ := Option.map_eq_some_iff.mp h
  rcases dInB_ok hb with ⟨i, j, rfl, rfl, rfl⟩ | ⟨l, hl, h1, h2, rfl⟩
  · cases hx.str; cases hy.str
    exact .inl ⟨_, _, rfl, rfl, q w _ Le.refl so (.bl _)⟩
  · have hx := hx.rep_flat h1
    rcases hl with rfl | rfl
    · obtain ⟨a, xs, rfl, h3, r⟩ := hy.tup
      refine .inr ⟨a, xs, rfl, .inr h3, hx.flat h1, r.flat h2, ?_⟩
      rw [if_neg Bool.false_ne_true, RepL.inF hx h1 r h2]
      exact q w _ Le.refl so (.bl _)
    · obtain ⟨a, xs, rfl, h3, r⟩ := hy.lst
      refine .inr ⟨a, xs, rfl, .inl (.of h3), hx.flat h1, r.flat h2, ?_⟩
      rw [if_neg Bool.false_ne_true, RepL.inF hx h1 r h2]
      exact q w _ Le.refl so (.bl _)
theorem os_notIn : OpS K G (fun x y H Q => (fun x y H Q => ∃ i j, x = .str i ∧ y = .str j ∧ Q (.bl (!(!(Builtin.Str.occurrences j i 0 j.length 1).isEmpty))) H : R2) x y H Q ∨ rIn K true x y H Q) dNotIn := by
  intro w st vx vy x y z Q so hx hy h q
  obtain ⟨b, hb, rfl⟩ := Option.map_eq_some_iff.mp h
  rcases dInB_ok hb with ⟨i, j, rfl, rfl, rfl⟩ | ⟨l, hl, h1, h2, rfl⟩
  · cases hx.str; cases hy.str
    exact .inl ⟨_, _, rfl, rfl, q w _ Le.refl so (.bl _)⟩
  · have hx := hx.rep_flat h1
    rcases hl with rfl | rfl
    · obtain ⟨a, xs, rfl, h3, r⟩ := hy.tup
      refine .inr ⟨a, xs, rfl, .inr h3, hx.flat h1, r.flat h2, ?_⟩
      rw [if_pos rfl, RepL.inF hx h1 r h2]
      exact q w _ Le.refl so (.bl _)
    · obtain ⟨a, xs, rfl, h3, r⟩ := hy.lst
      refine .inr ⟨a, xs, rfl, .inl (.of h3), hx.flat h1, r.flat h2, ?_⟩
      rw [if_pos rfl, RepL.inF hx h1 r h2]
      exact q w _ Le.refl so (.bl _)
end
section
variable {X : Cx} {G : Str → Addr} {E : XK} {Os : List Nat} {e a b c : Expr} {es : List Expr} {m ma mb mc : M D} {pos : Pos}
/-- the comparisons' rules, one by one -/
structure CmpOk (X : Cx) (G : Str → Addr) (op : CmpOp) (f : D → D → Option D) : Prop where
  ex : ∃ r, OpR X (compareOp op) r ∧ OpS X.K G r f
theorem c_eq {k : Nat} (hr : Room k X.A) : CmpOk X G .Eq dEq := ⟨_, op_eqD hr.units, os_eq⟩
theorem c_ne {k : Nat} (hr : Room k X.A) : CmpOk X G .NotEq dNe := ⟨_, op_neD hr.units, os_ne⟩
theorem c_lt : CmpOk X G .Lt dLt := ⟨_, OpR.or op_lt op_lt_str, os_is fun _ _ _ h => dLt_ok h⟩
theorem c_le : CmpOk X G .LtE dLe := ⟨_, OpR.or op_le op_le_str, os_is fun _ _ _ h => dLe_ok h⟩
theorem c_gt : CmpOk X G .Gt dGt := ⟨_, OpR.or op_gt op_gt_str, os_is (gi := fun i j => decide (j < i)) (gs := fun i j => decide (j.cps.toList < i.cps.toList)) fun x y z h => by
  rcases dLt_ok h with ⟨i, j, rfl, rfl, rfl⟩ | ⟨i, j, rfl, rfl, rfl⟩
  · exact .inl ⟨_, _, rfl, rfl, rfl⟩
  · exact .inr ⟨_, _, rfl, rfl, rfl⟩⟩
theorem c_ge : CmpOk X G .GtE dGe := ⟨_, OpR.or op_ge op_ge_str, os_is (gi := fun i j => decide (j ≤ i)) (gs := fun i j => !decide (i.cps.toList < j.cps.toList)) fun x y z h => by
  rcases dLe_ok h with ⟨i, j, rfl, rfl, rfl⟩ | ⟨i, j, rfl, rfl, rfl⟩
  · exact .inl ⟨_, _, rfl, rfl, rfl⟩
  · exact .inr ⟨_, _, rfl, rfl, rfl⟩⟩
theorem c_isN : CmpOk X G .Is dIsN := ⟨_, op_isN, os_isN⟩
theorem c_notN : CmpOk X G .IsNot dNotN := ⟨_, op_notN, os_notN⟩
theorem c_in : CmpOk X G .In dIn := ⟨_, OpR.or op_in_str op_in_seq, os_in⟩
theorem c_notIn : CmpOk X G .NotIn dNotIn := ⟨_, OpR.or op_notin_str op_notIn_seq, os_notIn⟩
variable {op op' : CmpOp} {f f' : D → D → Option D}
theorem re_cm (h : CmpOk X G op f) (ha : RB X G E Os a ma) (hb : RB X G E Os b mb) (hm : behindInMarks op b = false := by first | exact nomark _ | with_unfolding_all rfl) : RE X G E Os (.Compare a [op] [b] pos) (mBin f ma mb) := by
  obtain ⟨r, h1, h2⟩ := h.ex
  exact re_cmp h1 h2 ha hb hm
theorem rt_cm (h : CmpOk X G op f) (ha : RB X G E Os a ma) (hb : RB X G E Os b mb) (hm : behindInMarks op b = false := by first | exact nomark _ | with_unfolding_all rfl) : RT X G E Os (.Compare a [op] [b] pos) (mTst (mBin f ma mb)) := by
  obtain ⟨r, h1, h2⟩ := h.ex
  exact rt_cmp h1 h2 ha hb hm
/-- a < b < c -/
def mChain (f f' : D → D → Option D) (ma mb mc : M D) : M D := bnd ma fun x => bnd mb fun y => bnd (lft (f x y)) fun t => match t with
  | .bl true => bnd mc fun z => lft (f' y z)
  | .bl false => lft (some (.bl false))
  | _ => lft none
theorem rt_chain (h : CmpOk X G op f) (h' : CmpOk X G op' f') (ha : RB X G E Os a ma) (hb : RB X G E Os b mb) (hc : RB X G E Os c mc) (hm : lastMarks [op, op'] [b, c] = false := by with_unfolding_all rfl) :
    RT X G E Os (.Compare a [op, op'] [b, c] pos) (mTst (mChain f f' ma mb mc)) := by
  obtain ⟨r, h1, h2⟩ := h.ex
  obtain ⟨r', h3, h4⟩ := h'.ex
  refine rt_of (pt_chain h1 h3 ha hb hc hm) fun σ H Q ⟨w, hw, q⟩ => ⟨w, hw, q.bnd.mono fun w1 x l1 r1 v hv => ⟨w1, rfl, r1.bnd.mono fun w2 y l2 r2 u hu => ?_⟩⟩
  obtain ⟨t, st, e1, so, q3⟩ := r2.bnd.lft
  refine h2 w2 st v u x y t _ so (hv.le l2 r1.sub) hu e1 fun w' vt l s rt => ?_
  have q4 := q3 w' l s
  split at q4
  · cases rt
    exact ⟨_, rfl, iteT ⟨w', rfl, q4.bnd.mono fun w4 z l4 r4 vz hz => by
      obtain ⟨t', st', e1', so', q'⟩ := r4.lft
      exact h4 w4 st' u vz y z t' Q so' ((hu.le l r2.sub).le l4 q4.sub) hz e1' fun w' v l s rv => q' w' l s v rv⟩⟩
  · cases rt
    obtain ⟨z, st, e1, so, q⟩ := rdW.lft q4
    cases e1
    exact ⟨_, rfl, iteF (q w' Le.refl so _ (.bl _))⟩
  · obtain ⟨z, st, e1, so, q⟩ := rdW.lft q4
    cases e1
end
end Pw
namespace Pw
open PySem PySem.Spec PyProof.Rows L2
/-! ## arguments that are read at once -/
inductive BorL (K : PySem.W.Frag) (G : Str → Addr) (w : Wd) : List V → List D → Prop
  | nil : BorL K G w [] []
  | cons {v : V} {vs : List V} {d : D} {ds : List D} : Bor K G w v d → BorL K G w vs ds → BorL K G w (v :: vs) (d :: ds)
def rdAB (K : PySem.W.Frag) (G : Str → Addr) (E : XK) (Os : List Nat) (m : M (List D)) : TA := fun σ H Q => ∃ w : Wd, w.H = H ∧ rdW K G E Os m (fun w' ds => ∀ vs, BorL K G w' vs ds → Q vs w'.H) σ w
abbrev RAB (X : Cx) (G : Str → Addr) (E : XK) (Os : List Nat) (es : List Expr) (m : M (List D)) : Prop := PA X es (rdAB X.K G E Os m)
def CallS (K : PySem.W.Frag) (G : Str → Addr) (r : List V → Hp → VK → Prop) (f : List D → Option D) : Prop :=
  ∀ (w : Wd) (st : Sto) (vs : List V) (ds : List D) (z : D) (Q : VK), StoOk K G w st → BorL K G w vs ds → f ds = some z →
    (∀ w' v, Le K w.as w w' → StoOk K G w' st → Rep K G w' v z → Q v w'.H) → r vs w.H Q
def mCB (f : List D → Option D) (m : M (List D)) : M D := bnd m fun xs => lft (f xs)
structure CallOk (X : Cx) (G : Str → Addr) (c : Value) (f : List D → Option D) : Prop where
  ex : ∃ r, CallR X c r ∧ CallS X.K G r f
section
variable {X : Cx} {G : Str → Addr} {E : XK} {Os : List Nat} {e a b c : Expr} {es : List Expr} {m ma mb mc : M D} {mr : M (List D)} {pos p : Pos}
theorem rab_nil : RAB X G E Os [] mNil := pa_nil.imp fun σ H Q ⟨w, hw, r⟩ => by
  obtain ⟨ow, env, st, o, h1, h2, h3, h4, h5⟩ := r
  cases h4
  subst hw
  exact h5 w Le.refl h2 [] .nil
theorem rab_cons (ha : RB X G E Os e m) (hr : RAB X G E Os es mr) (hs : starEach (e :: es) X.env = (false, eval e X.env) :: starEach es X.env := by rfl) : RAB X G E Os (e :: es) (mCons m mr) :=
  (pa_cons ha hr hs).imp fun σ H Q ⟨w, hw, r⟩ => ⟨w, hw, r.bnd.mono fun w1 x l1 r1 v hv => ⟨w1, rfl, r1.bnd.mono fun w2 xs l2 r2 vs hvs => by
    obtain ⟨y, st, e1, so, q⟩ := r2.lft
    cases e1
    exact q w2 Le.refl so (v :: vs) (.cons (hv.le l2 r1.sub) hvs)⟩⟩
theorem cb_go {r : List V → Hp → VK → Prop} {f : List D → Option D} {K : PySem.W.Frag} {σ : L2.St} {H : Hp} {Q : VK} (hs : CallS K G r f) (h : rdE K G E Os (mCB f mr) σ H Q) : tCB r (rdAB K G E Os mr) σ H Q := by
  obtain ⟨w, hw, q⟩ := h
  exact ⟨w, hw, q.bnd.mono fun w1 x l1 r1 v hv => by
    obtain ⟨z, st, e1, so, q⟩ := r1.lft
    exact hs w1 st v x z Q so hv e1 fun w' v l s rv => q w' l s v rv⟩
theorem re_cb {x : Str} {id : String} {f : List D → Option D} (h : CallOk X G (.builtin id) f) (hm : X.mg x = none) (ha : RAB X G E Os (e :: es) mr) (hv : bootBuiltins x = some (.builtin id) := by decide +kernel) (hg : Gl X x := by rfl) (hn : x ≠ "__name__" := by decide) (hdb : (x == ("__debug__" : Str)) = false := by decide)
    (he : starEach (e :: es) X.env = (false, eval e X.env) :: starEach es X.env := by rfl) (hpl : (backTo pos (starEach es X.env)).any (·.1) = false := by rfl) : RE X G E Os (.Call (.Name x p) (e :: es) [] pos) (mCB f mr) := by
  obtain ⟨r, h1, h2⟩ := h.ex
  exact (pe_callB h1 hg hm hv ha hn hdb he hpl).imp fun σ H Q q => cb_go h2 q
theorem re_ct {x : Str} {T : String} {f : List D → Option D} (h : CallOk X G (.type T) f) (hm : X.mg x = none) (ha : RAB X G E Os (e :: es) mr) (hv : bootBuiltins x = some (.type T) := by decide +kernel) (hg : Gl X x := by rfl) (hn : x ≠ "__name__" := by decide) (hdb : (x == ("__debug__" : Str)) = false := by decide)
    (he : starEach (e :: es) X.env = (false, eval e X.env) :: starEach es X.env := by rfl) (hpl : (backTo pos (starEach es X.env)).any (·.1) = false := by rfl) : RE X G E Os (.Call (.Name x p) (e :: es) [] pos) (mCB f mr) := by
  obtain ⟨r, h1, h2⟩ := h.ex
  exact (pe_callTy h1 hg hm hv ha hn hdb he hpl).imp fun σ H Q q => cb_go h2 q
end
/-! ## the built-ins -/
section
variable {K : PySem.W.Frag} {G : Str → Addr} {w : Wd}
theorem BorL.one {vs : List V} {d : D} (h : BorL K G w vs [d]) : ∃ v, vs = [v] ∧ Bor K G w v d := by
  cases h with
  | cons h t => cases t; exact ⟨_, rfl, h⟩
theorem BorL.two {vs : List V} {d d' : D} (h : BorL K G w vs [d, d']) : ∃ v v', vs = [v, v'] ∧ Bor K G w v d ∧ Bor K G w v' d' := by
  cases h with
  | cons h t =>
    obtain ⟨v', rfl, h'⟩ := t.one
    exact ⟨_, v', rfl, h, h'⟩
def fAbs : List D → Option D
  | [.int i] => some (.int (if i < 0 then -i else i))
  | _ => none
def fLen : List D → Option D
  | [.str s] => if s.length ≤ sizeLine then some (.int s.length) else none
  | [.tup l] => some (.int l.length)
  | [.lst l] => some (.int l.length)
  | [.scr l] => some (.int l.length)
  | _ => none
def fInt : List D → Option D
  | [.int i] => some (.int i)
  | [.bl b] => some (.int (if b then 1 else 0))
  | [.str s] => match PySem.intText? s with
    | some n => if s.length ≤ 640 then some (.int n) else none
    | none => none
  | _ => none
def fStr : List D → Option D
  | [.int i] => if i.natAbs.log2 < 1920 then some (.str (toString i)) else none
  | _ => none
def fTuple : List D → Option D
  | [.tup l] => some (.tup l)
  | [.lst l] => some (.tup l)
  | _ => none
def fList : List D → Option D
  | [.tup l] => some (.lst l)
  | [.lst l] => some (.lst l)
  | _ => none
def D.bools : List D → Option (List Bool)
  | [] => some []
  | .bl b :: r => (D.bools r).map (b :: ·)
  | _ :: _ => none
def fAll : List D → Option D
  | [.lst l] => match D.bools l with
    | some bs => some (.bl (bs.all id))
    | none => none
  | _ => none
def fAny : List D → Option D
  | [.lst l] => match D.bools l with
    | some bs => some (.bl (bs.any id))
    | none => none
  | _ => none
def fMax2 : List D → Option D
  | [.int i, .int j] => some (.int (if j > i then j else i))
  | _ => none
def fMin2 : List D → Option D
  | [.int i, .int j] => some (.int (if j < i then j else i))
  | _ => none
theorem RepL.bools : ∀ {vs : List V} {ds : List D} {bs : List Bool}, RepL K G w vs ds → D.bools ds = some bs → vs = bs.map V.bl
  | _, _, bs, .nil, e => by
    have e' : [] = bs := Option.some.inj e
    subst e'; rfl
  | _, .bl b :: r, bs, .cons h t, e => by
    unfold D.bools at e
    obtain ⟨cs, e1, rfl⟩ := Option.map_eq_some_iff.mp e
    cases h
    rw [t.bools e1]; rfl
  | _, .non :: r, bs, .cons h t, e => nomatch (show (none : Option (List Bool)) = some bs from e)
  | _, .int _ :: r, bs, .cons h t, e => nomatch (show (none : Option (List Bool)) = some bs from e)
  | _, .str _ :: r, bs, .cons h t, e => nomatch (show (none : Option (List Bool)) = some bs from e)
  | _, .fn _ :: r, bs, .cons h t, e => nomatch (show (none : Option (List Bool)) = some bs from e)
  | _, .cell _ :: r, bs, .cons h t, e => nomatch (show (none : Option (List Bool)) = some bs from e)
  | _, .tup _ :: r, bs, .cons h t, e => nomatch (show (none : Option (List Bool)) = some bs from e)
  | _, .lst _ :: r, bs, .cons h t, e => nomatch (show (none : Option (List Bool)) = some bs from e)
  | _, .scr _ :: r, bs, .cons h t, e => nomatch (show (none : Option (List Bool)) = some bs from e)
  | _, .dK _ :: r, bs, .cons h t, e => nomatch (show (none : Option (List Bool)) = some bs from e)
  | _, .dT _ :: r, bs, .cons h t, e => nomatch (show (none : Option (List Bool)) = some bs from e)
theorem Bor.scr {l : List Int} {v : V} (h : Bor K G w v (.scr l)) : ∃ a, v = .ref a ∧ SqZ K w.H a (l.map V.int) := by
  rcases h with h | ⟨_, _, _, _, z, _⟩
  · cases h with
    | scr h => exact ⟨_, rfl, h⟩
  · cases z
end
section
variable {X : Cx} {G : Str → Addr}
theorem CallOk.mk1 {c : Value} {r : List V → Hp → VK → Prop} {f : List D → Option D} (h1 : CallR X c r) (h2 : CallS X.K G r f) : CallOk X G c f := ⟨r, h1, h2⟩
theorem b_abs : CallOk X G (.builtin "abs") fAbs := .mk1 call_abs fun w st vs ds z Q so hv h q => by
  unfold fAbs at h
  split at h <;> cases h
  obtain ⟨v, rfl, hu⟩ := hv.one
  cases hu.int
  exact ⟨_, rfl, q w _ Le.refl so (.int _)⟩
theorem b_len : CallOk X G (.builtin "len") fLen := .mk1 call_len fun w st vs ds z Q so hv h q => by
  unfold fLen at h
  split at h
  · obtain ⟨hz, rfl⟩ := ite_some h
    obtain ⟨v, rfl, hu⟩ := hv.one
    cases hu.str
    exact ⟨_, _, rfl, ⟨hz, rfl⟩, q w _ Le.refl so (.int _)⟩
  · cases h
    obtain ⟨v, rfl, hu⟩ := hv.one
    obtain ⟨a, xs, rfl, h1, r⟩ := hu.tup
    exact ⟨_, _, rfl, .inr ⟨xs, h1, rfl⟩, by rw [r.length]; exact q w _ Le.refl so (.int _)⟩
  · cases h
    obtain ⟨v, rfl, hu⟩ := hv.one
    obtain ⟨a, xs, rfl, h1, r⟩ := hu.lst
    exact ⟨_, _, rfl, .inl ⟨xs, .of h1, rfl⟩, by rw [r.length]; exact q w _ Le.refl so (.int _)⟩
  · cases h
    obtain ⟨v, rfl, hu⟩ := hv.one
    obtain ⟨a, rfl, h1⟩ := hu.scr
    exact ⟨_, _, rfl, .inl ⟨_, h1.l, rfl⟩, by rw [List.length_map]; exact q w _ Le.refl so (.int _)⟩
  · cases h
theorem CallR.or {f : Value} {r r' : List V → Hp → VK → Prop} (h : CallR X f r) (h' : CallR X f r') : CallR X f (fun xs H Q => r xs H Q ∨ r' xs H Q) := by
  intro pins s σ H xs us Q I rx q
  rcases q with q | q
  · exact h pins s σ H xs us Q I rx q
  · exact h' pins s σ H xs us Q I rx q
theorem b_int : CallOk X G (.type "int") fInt := .mk1 (CallR.or call_int1 call_int_str) fun w st vs ds z Q so hv h q => by
  unfold fInt at h
  split at h
  · cases h
    obtain ⟨v, rfl, hu⟩ := hv.one
    cases hu.int
    exact .inl (.inl ⟨_, rfl, q w _ Le.refl so (.int _)⟩)
  · cases h
    obtain ⟨v, rfl, hu⟩ := hv.one
    cases hu.bl
    exact .inl (.inr ⟨_, rfl, q w _ Le.refl so (.int _)⟩)
  · split at h
    · rename_i n hn
      obtain ⟨hz, rfl⟩ := ite_some h
      obtain ⟨v, rfl, hu⟩ := hv.one
      cases hu.str
      exact .inr ⟨_, _, rfl, hn, hz, q w _ Le.refl so (.int _)⟩
    · cases h
  · cases h
theorem b_str : CallOk X G (.type "str") fStr := .mk1 call_str_int fun w st vs ds z Q so hv h q => by
  unfold fStr at h
  split at h
  · obtain ⟨hz, rfl⟩ := ite_some h
    obtain ⟨v, rfl, hu⟩ := hv.one
    cases hu.int
    exact ⟨_, rfl, hz, q w _ Le.refl so (.str _)⟩
  · cases h
theorem b_tuple : CallOk X G (.type "tuple") fTuple := .mk1 call_tuple_of fun w st vs ds z Q so hv h q => by
  unfold fTuple at h
  split at h
  · cases h
    obtain ⟨v, rfl, hu⟩ := hv.one
    obtain ⟨a, xs, rfl, h1, r⟩ := hu.tup
    exact ⟨_, _, rfl, .inr ⟨h1, q w _ Le.refl so (.tup h1 r)⟩⟩
  · cases h
    obtain ⟨v, rfl, hu⟩ := hv.one
    obtain ⟨a, xs, rfl, h1, r⟩ := hu.lst
    exact ⟨_, _, rfl, .inl ⟨.of h1, fun p hp => q { w with H := upd w.H p (.tup xs) } _ (Le.new hp) (so.new hp) (.tup (.inl (.inl upd_same)) (RepL.le (Le.new (C := w.as) hp) so.sub r))⟩⟩
  · cases h
theorem b_list : CallOk X G (.type "list") fList := .mk1 call_list_of fun w st vs ds z Q so hv h q => by
  unfold fList at h
  split at h
  · cases h
    obtain ⟨v, rfl, hu⟩ := hv.one
    obtain ⟨a, xs, rfl, h1, r⟩ := hu.tup
    exact ⟨_, _, rfl, .inr h1, fun p hp => q { w with H := upd w.H p (.lst xs) } _ (Le.new hp) (so.new hp) (rep_newL so hp r)⟩
  · cases h
    obtain ⟨v, rfl, hu⟩ := hv.one
    obtain ⟨a, xs, rfl, h1, r⟩ := hu.lst
    exact ⟨_, _, rfl, .inl (.of h1), fun p hp => q { w with H := upd w.H p (.lst xs) } _ (Le.new hp) (so.new hp) (rep_newL so hp r)⟩
  · cases h
theorem b_all (hc : X.calm = true) : CallOk X G (.builtin "all") fAll := .mk1 (cr_all hc) fun w st vs ds z Q so hv h q => by
  unfold fAll at h
  split at h
  · split at h
    · rename_i bs hb
      cases h
      obtain ⟨v, rfl, hu⟩ := hv.one
      obtain ⟨a, xs, rfl, h1, r⟩ := hu.lst
      rw [r.bools hb] at h1
      exact ⟨a, bs, rfl, .of h1, q w _ Le.refl so (.bl _)⟩
    · cases h
  · cases h
theorem b_any (hc : X.calm = true) : CallOk X G (.builtin "any") fAny := .mk1 (cr_any hc) fun w st vs ds z Q so hv h q => by
  unfold fAny at h
  split at h
  · split at h
    · rename_i bs hb
      cases h
      obtain ⟨v, rfl, hu⟩ := hv.one
      obtain ⟨a, xs, rfl, h1, r⟩ := hu.lst
      rw [r.bools hb] at h1
      exact ⟨a, bs, rfl, .of h1, q w _ Le.refl so (.bl _)⟩
    · cases h
  · cases h
theorem b_max2 (hc : X.calm = true) : CallOk X G (.builtin "max") fMax2 := .mk1 (call_max2 hc) fun w st vs ds z Q so hv h q => by
  unfold fMax2 at h
  split at h <;> cases h
  obtain ⟨v, v', rfl, hu, hu'⟩ := hv.two
  cases hu.int; cases hu'.int
  exact ⟨_, _, rfl, q w _ Le.refl so (.int _)⟩
theorem b_min2 (hc : X.calm = true) : CallOk X G (.builtin "min") fMin2 := .mk1 (call_min2 hc) fun w st vs ds z Q so hv h q => by
  unfold fMin2 at h
  split at h <;> cases h
  obtain ⟨v, v', rfl, hu, hu'⟩ := hv.two
  cases hu.int; cases hu'.int
  exact ⟨_, _, rfl, q w _ Le.refl so (.int _)⟩
end
/-! ## isinstance by built-in types -/
inductive Tn where
  | non | bl | int | str | tup | lst
  deriving DecidableEq
def Tn.nm : Tn → String
  | .non => "NoneType" | .bl => "bool" | .int => "int" | .str => "str" | .tup => "tuple" | .lst => "list"
def Tn.sub : Tn → Tn → Bool
  | .non, .non => true | .bl, .bl => true | .bl, .int => true | .int, .int => true | .str, .str => true | .tup, .tup => true | .lst, .lst => true
  | _, _ => false
theorem kitB_tn (a b : Tn) (h : b ≠ .non) : kitB a.nm b.nm = some (a.sub b) := by
  cases a <;> cases b <;> first | exact absurd rfl h | decide +kernel
def D.tn : D → Option Tn
  | .non => some .non
  | .bl _ => some .bl
  | .int _ => some .int
  | .str _ => some .str
  | .tup _ => some .tup
  | .lst _ => some .lst
  | .scr _ => none
  | _ => none
section
variable {K : PySem.W.Frag} {G : Str → Addr} {w : Wd}
theorem Bor.ty {v : V} {d : D} {t : Tn} (h : Bor K G w v d) (e : d.tn = some t) : TyX K w.H v (.type t.nm) := by
  rcases h with h | ⟨a, xs, l, rfl, rfl, _, h3, _⟩
  · cases h with
    | non => cases e; exact .base .non
    | bl b => cases e; exact .base (.bl b)
    | int b => cases e; exact .base (.int b)
    | str b => cases e; exact .base (.str b)
    | fn x => cases e
    | cell _ => cases e
    | tup h r =>
      cases e
      rcases h with (h | ⟨o, h⟩) | ⟨o, its, n, h1, h2, h3, _⟩
      · exact .base (.tup h)
      · exact .fTuple h
      · exact .kTuple h1 h2
    | lst h1 h2 r => cases e; exact .base (.lst h2)
    | scr h => cases e
    | dK => cases e
    | dT => cases e
  · cases e; exact .base (.lst h3)
end
def mIs (t : Tn) (ma : M D) : M D := bnd ma fun x => lft (match x.tn with | some a => some (.bl (a.sub t)) | none => none)
def mIsT (ts : List Tn) (ma : M D) : M D := bnd ma fun x => lft (match x.tn with | some a => some (.bl (ts.any a.sub)) | none => none)
section
variable {X : Cx} {G : Str → Addr} {E : XK} {Os : List Nat} {e a b c : Expr} {es : List Expr} {m ma mb mc : M D} {mr : M (List D)} {pos p p2 : Pos}
theorem re_isi {y : Str} (t : Tn) (hm : X.mg "isinstance" = none) (hy : X.mg y = none) (ha : RB X G E Os e m) (hb : bootBuiltins y = some (.type t.nm) := by decide +kernel) (ht : t ≠ .non := by decide) (hg : Gl X "isinstance" := by rfl) (hg2 : Gl X y := by rfl) (hn : y ≠ "__name__" := by decide) (hdb : (y == ("__debug__" : Str)) = false := by decide)
    (he : starEach [e, .Name y p2] X.env = [(false, eval e X.env), (false, eval (.Name y p2) X.env)] := by rfl) (he2 : starEach [.Name y p2] X.env = [(false, eval (.Name y p2) X.env)] := by rfl) : RE X G E Os (.Call (.Name "isinstance" p) [e, .Name y p2] [] pos) (mIs t m) := by
  have h2 : PE X (.Name y p2) (tC (.ty t.nm)) := pe_bltn hg2 hy hb rfl hn hdb
  have h3 : PA X [.Name y p2] (tCons (tC (.ty t.nm)) tNil) := pa_cons h2 pa_nil he2
  have h4 : PA X [e, .Name y p2] (tCons (rdB X.K G E Os m) (tCons (tC (.ty t.nm)) tNil)) := pa_cons ha h3 (by rw [he2]; exact he)
  refine (pe_callB call_isi hg hm (by decide +kernel) h4 (by decide) (by decide) (by rw [he2]; exact he) (by rw [he2]; rfl)).imp fun σ H Q ⟨w, hw, r⟩ => ?_
  exact ⟨w, hw, r.bnd.mono fun w1 x l1 r1 v hv => by
    obtain ⟨z, st, e1, so, q⟩ := r1.lft
    split at e1
    · rename_i tn htn
      cases e1
      exact ⟨v, .ty t.nm, .type tn.nm, .type t.nm, tn.sub t, rfl, .ty _, hv.ty htn, kit_ty (kitB_tn _ _ ht), q w1 Le.refl so _ (.bl _)⟩
    · cases e1⟩
end
end Pw
namespace Pw
open PySem PySem.Spec PyProof.Rows L2
section
variable {X : Cx} {G : Str → Addr} {E : XK} {Os : List Nat} {e a b c : Expr} {es : List Expr} {m ma mb mc : M D} {mr : M (List D)} {pos p p2 p3 : Pos}
/-! ## isinstance(x, (T, U)) -/
theorem re_isiT {y z : Str} (t u : Tn) {k : Nat} (hm : X.mg "isinstance" = none) (hy : X.mg y = none) (hz : X.mg z = none) (ha : RB X G E Os e m) (hb : bootBuiltins y = some (.type t.nm) := by decide +kernel) (hb2 : bootBuiltins z = some (.type u.nm) := by decide +kernel)
    (ht : t ≠ .non := by decide) (hu : u ≠ .non := by decide) (hg : Gl X "isinstance" := by rfl) (hg2 : Gl X y := by rfl) (hg3 : Gl X z := by rfl) (hn : y ≠ "__name__" := by decide) (hdb : (y == ("__debug__" : Str)) = false := by decide) (hn2 : z ≠ "__name__" := by decide) (hdb2 : (z == ("__debug__" : Str)) = false := by decide)
    (he : starEach [e, .Tuple [.Name y p2, .Name z p3] k c.pos] X.env = [(false, eval e X.env), (false, eval (.Tuple [.Name y p2, .Name z p3] k c.pos) X.env)] := by rfl) (he2 : starEach [.Tuple [.Name y p2, .Name z p3] k c.pos] X.env = [(false, eval (.Tuple [.Name y p2, .Name z p3] k c.pos) X.env)] := by rfl)
    (he3 : starEach [.Name y p2, .Name z p3] X.env = [(false, eval (.Name y p2) X.env), (false, eval (.Name z p3) X.env)] := by rfl) (he4 : starEach [.Name z p3] X.env = [(false, eval (.Name z p3) X.env)] := by rfl) :
    RE X G E Os (.Call (.Name "isinstance" p) [e, .Tuple [.Name y p2, .Name z p3] k c.pos] [] pos) (mIsT [t, u] m) := by
  have h2 : PE X (.Name y p2) (tC (.ty t.nm)) := pe_bltn hg2 hy hb rfl hn hdb
  have h2' : PE X (.Name z p3) (tC (.ty u.nm)) := pe_bltn hg3 hz hb2 rfl hn2 hdb2
  have h3 : PE X (.Tuple [.Name y p2, .Name z p3] k c.pos) (tTup (tCons (tC (.ty t.nm)) (tCons (tC (.ty u.nm)) tNil))) := pe_tup (pa_cons h2 (pa_cons h2' pa_nil he4) (by rw [he4]; exact he3))
  have h4 : PA X [e, .Tuple [.Name y p2, .Name z p3] k c.pos] (tCons (rdB X.K G E Os m) (tCons (tTup (tCons (tC (.ty t.nm)) (tCons (tC (.ty u.nm)) tNil))) tNil)) := pa_cons ha (pa_cons h3 pa_nil he2) (by rw [he2]; exact he)
  refine (pe_callB call_isiT hg hm (by decide +kernel) h4 (by decide) (by decide) (by rw [he2]; exact he) (by rw [he2]; rfl)).imp fun σ H Q ⟨w, hw, r⟩ => ?_
  exact ⟨w, hw, r.bnd.mono fun w1 x l1 r1 v hv => by
    obtain ⟨z, st, e1, so, q⟩ := r1.lft
    split at e1
    · rename_i tn htn
      cases e1
      refine ⟨by show 2 ≤ sizeLine; decide, fun tp htp => ?_⟩
      have hv2 := hv.le (Le.new (K := X.K) (C := w1.as) (p := tp) (o := .tup [.ty t.nm, .ty u.nm]) htp) so.sub
      refine ⟨v, tp, [.ty t.nm, .ty u.nm], .type tn.nm, [.type t.nm, .type u.nm], _, rfl, upd_same, .cons (.ty _) (.cons (.ty _) .nil), hv2.ty htn, ?_, q _ (Le.new htp) (so.new htp) _ (.bl _)⟩
      refine kitAny_cons (kit_ty (kitB_tn tn t ht)) (fun h0 => kitAny_cons (kit_ty (kitB_tn tn u hu)) (fun h1 => ?_) fun h1 => ?_) fun h0 => ?_
      · rw [kitAny_nil]; simp [h0, h1]
      · simp [h1]
      · simp [h0]
    · cases e1⟩
/-! ## subscripts -/
def dIdx : D → D → Option D
  | .tup l, .int i => atI l i
  | .lst l, .int i => atI l i
  | .scr l, .int i => (atI l i).map .int
  | .str s, .int i => if s.length ≤ sizeLine then (atI s.cps.toList i).map fun c => .str ⟨#[c]⟩ else none
  | _, _ => none
def idxS (x y : D) : M D := fun env st => match x, y with
  | .cell k, .int i => (match st[k]? with
    | some (.lst l) => (match atI l i with
      | some d => some (.ok d, st)
      | none => none)
    | _ => none)
  | _, _ => lft (dIdx x y) env st
def mIdx (ma mb : M D) : M D := bnd ma fun x => bnd mb fun y => idxS x y
theorem atI_rep {K : PySem.W.Frag} {w : Wd} {vs : List V} {ds : List D} {i : Int} {d : D} (r : RepL K G w vs ds) (h : atI ds i = some d) : ∃ v, atI vs i = some v ∧ Rep K G w v d := by
  unfold atI at h
  cases q : ixN ds.length i with
  | none => rw [q] at h; cases h
  | some j =>
    rw [q] at h
    obtain ⟨v, e1, r1⟩ := r.get' (i := j) (d := d) h
    refine ⟨v, ?_, r1⟩
    unfold atI
    rw [r.length, q]
    exact e1
theorem atI_map {α β : Type} {f : α → β} {l : List α} {i : Int} : atI (l.map f) i = (atI l i).map f := by
  unfold atI
  rw [List.length_map]
  cases ixN l.length i with
  | none => rfl
  | some j => show (l.map f)[j]? = (l[j]?).map f; rw [List.getElem?_map]
theorem re_idx (ha : RB X G E Os a ma) (hb : RE X G E Os b mb) (hs : PlainIx b := by exact fun _ _ => rfl) : RE X G E Os (.Subscript a b pos) (mIdx ma mb) :=
  (pe_ix (IxR.or (IxR.or ix_list ix_tup) ix_str) ha hb hs).imp fun σ H Q ⟨w, hw, r⟩ => ⟨w, hw, r.bnd.mono fun w1 x l1 r1 v hv => ⟨w1, rfl, r1.bnd.mono fun w2 y l2 r2 u hu => by
    have hv2 := hv.le l2 r1.sub
    obtain ⟨ow, env, st, o, h1, so, h3, h4, h5⟩ := r2
    unfold idxS at h4
    split at h4
    · split at h4
      · rename_i x y k i l hk
        split at h4
        · rename_i d hd
          cases h4
          cases hu
          rcases hv2 with hv2 | ⟨_, _, _, _, z, _⟩
          · cases hv2 with
            | cell hc =>
              obtain ⟨a', e1, cr⟩ := so.at_ _ _ hk
              rw [hc] at e1
              cases e1
              cases cr with
              | lst e2 rl =>
                obtain ⟨v', e3, r3⟩ := atI_rep rl hd
                exact .inl (.inl ⟨_, _, _, _, rfl, rfl, .of e2, e3, h5 w2 Le.refl so _ r3⟩)
          · cases z
        · cases h4
      · cases h4
    · obtain ⟨z, st, e1, so, q⟩ := rdW.lft (K := X.K) (G := G) (E := E) (Os := Os) (σ := σ) (w := w2) (a := dIdx _ _) ⟨ow, env, st, o, h1, so, h3, h4, h5⟩
      unfold dIdx at e1
      split at e1
      · cases hu
        obtain ⟨a', xs, rfl, h1, rl⟩ := hv2.tup
        obtain ⟨v', e3, r3⟩ := atI_rep rl e1
        exact .inl (.inr ⟨_, _, _, _, rfl, rfl, h1, e3, q w2 Le.refl so _ r3⟩)
      · cases hu
        obtain ⟨a', xs, rfl, h1, rl⟩ := hv2.lst
        obtain ⟨v', e3, r3⟩ := atI_rep rl e1
        exact .inl (.inl ⟨_, _, _, _, rfl, rfl, .of h1, e3, q w2 Le.refl so _ r3⟩)
      · cases hu
        obtain ⟨a', rfl, h1⟩ := hv2.scr
        obtain ⟨i', e3, rfl⟩ := Option.map_eq_some_iff.mp e1
        exact .inl (.inl ⟨_, _, _, _, rfl, rfl, h1.l, by rw [atI_map, e3]; rfl, q w2 Le.refl so _ (.int _)⟩)
      · split at e1
        · rename_i hz
          cases hu
          cases hv2.str
          obtain ⟨c', e3, rfl⟩ := Option.map_eq_some_iff.mp e1
          exact .inr ⟨_, _, _, rfl, rfl, hz, e3, q w2 Le.refl so _ (.str _)⟩
        · cases e1
      · cases e1⟩⟩
/-! ## slices -/
def cutL {α : Type} (xs : List α) (lo hi : Option Int) : List α := (xs.drop (HT.sIx xs.length 0 lo)).take (HT.sIx xs.length xs.length hi - HT.sIx xs.length 0 lo)
theorem cut_rep {K : PySem.W.Frag} {w : Wd} {vs : List V} {ds : List D} {lo hi : Option Int} (r : RepL K G w vs ds) : RepL K G w (cutV vs lo hi) (cutL ds lo hi) := by
  unfold cutV cutL
  rw [r.length]
  exact (r.drop _).take _
def dCut : D → Option Int → Option Int → Option D
  | .tup l, lo, hi => some (.tup (cutL l lo hi))
  | .lst l, lo, hi => some (.lst (cutL l lo hi))
  | .scr l, lo, hi => some (.lst ((cutL l lo hi).map .int))
  | .str s, lo, hi => if s.length ≤ sizeLine then some (.str (cutS s lo hi)) else none
  | _, _, _ => none
def mNoP : M (Option Int) := fun _ st => some (.ok none, st)
def mPart (m : M D) : M (Option Int) := bnd m fun d => lft (match d with | .int i => some (some i) | _ => none)
def mCut (ma : M D) (ml mh : M (Option Int)) : M D := bnd ma fun x => bnd ml fun l => bnd mh fun h => lft (dCut x l h)
def rdO (K : PySem.W.Frag) (G : Str → Addr) (E : XK) (Os : List Nat) (m : M (Option Int)) : TO := fun σ H Q => ∃ w : Wd, w.H = H ∧ rdW K G E Os m (fun w' o => Q o w'.H) σ w
abbrev RO (X : Cx) (G : Str → Addr) (E : XK) (Os : List Nat) (e : Option Expr) (m : M (Option Int)) : Prop := PO X e (rdO X.K G E Os m)
theorem _root_.L2.PO.imp {e : Option Expr} {t t' : TO} (h : PO X e t) (i : ∀ σ H Q, t' σ H Q → t σ H Q) : PO X e t' := ⟨fun pins s σ H Q I q => h.run pins s σ H Q I (i _ _ _ q)⟩
theorem ro_none : RO X G E Os none mNoP := po_none.imp fun σ H Q ⟨w, hw, r⟩ => by
  obtain ⟨ow, env, st, o, h1, h2, h3, h4, h5⟩ := r
  cases h4
  subst hw
  exact h5 w Le.refl h2
theorem ro_some (h : RE X G E Os e m) : RO X G E Os (some e) (mPart m) := (po_some h).imp fun σ H Q ⟨w, hw, r⟩ => ⟨w, hw, r.bnd.mono fun w1 d l1 r1 v hv => by
  obtain ⟨z, st, e1, so, q⟩ := r1.lft
  split at e1
  · cases e1
    cases hv
    exact ⟨_, rfl, q w1 Le.refl so⟩
  · cases e1⟩
theorem cut_map {l : List Int} {lo hi : Option Int} : cutV (l.map V.int) lo hi = (cutL l lo hi).map V.int := by
  unfold cutV cutL
  rw [List.length_map, ← List.map_drop, ← List.map_take]
theorem ints_rep {K : PySem.W.Frag} {w : Wd} : ∀ l : List Int, RepL K G w (l.map V.int) (l.map D.int)
  | [] => .nil
  | i :: r => .cons (.int i) (ints_rep r)
theorem cut_len {α : Type} (xs : List α) (lo hi : Option Int) : (cutL xs lo hi).length ≤ xs.length := by
  unfold cutL
  rw [List.length_take, List.length_drop]
  omega
theorem re_cut {lo hi : Option Expr} {ml mh : M (Option Int)} (ha : RB X G E Os a ma) (hl : RO X G E Os lo ml) (hh : RO X G E Os hi mh) : RE X G E Os (.Subscript a (.Slice lo hi none p2) pos) (mCut ma ml mh) :=
  (pe_slice (SlR.or (SlR.or sl_list sl_tupA) sl_str) ha hl hh).imp fun σ H Q ⟨w, hw, r⟩ => ⟨w, hw, r.bnd.mono fun w1 x l1 r1 v hv => ⟨w1, rfl, r1.bnd.mono fun w2 y l2 r2 => ⟨w2, rfl, r2.bnd.mono fun w3 z l3 r3 => by
    have hv2 := (hv.le l2 r1.sub).le l3 r2.sub
    obtain ⟨z, st, e1, so, q⟩ := r3.lft
    unfold dCut at e1
    split at e1
    · cases e1
      obtain ⟨a', xs, rfl, h1, rl⟩ := hv2.tup
      refine .inl (.inr ⟨_, xs, rfl, h1, fun hwh => ?_, fun _ p hp => ?_⟩)
      · have ec : ∀ l : List D, xs.length = l.length → cutL l y z = l := fun l hl => by
          unfold cutL
          rw [← hl, hwh.1, hwh.2, List.drop_zero, Nat.sub_zero, hl]
          exact List.take_length
        rw [ec _ rl.length] at q
        exact q w3 Le.refl so _ (.tup h1 rl)
      · exact q { w3 with H := upd w3.H p _ } (Le.new hp) (so.new hp) _ (.tup (.inl (.inl upd_same)) (RepL.le (Le.new (C := w3.as) hp) so.sub (cut_rep rl)))
    · cases e1
      obtain ⟨a', xs, rfl, h1, rl⟩ := hv2.lst
      exact .inl (.inl ⟨_, xs, rfl, .of h1, fun p hp => q { w3 with H := upd w3.H p _ } (Le.new hp) (so.new hp) _ (rep_newL so hp (cut_rep rl))⟩)
    · cases e1
      obtain ⟨a', rfl, h1⟩ := hv2.scr
      refine .inl (.inl ⟨_, _, rfl, h1.l, fun p hp => ?_⟩)
      rw [cut_map]
      exact q { w3 with H := upd w3.H p _ } (Le.new hp) (so.new hp) _ (rep_newL so hp (ints_rep _))
    · obtain ⟨hz, rfl⟩ := ite_some e1
      cases hv2.str
      exact .inr ⟨_, rfl, hz, q w3 Le.refl so _ (.str _)⟩
    · cases e1⟩⟩⟩
end
end Pw
namespace Pw
open PySem PySem.Spec PyProof.Rows L2
/-- from the world w: in w' the value is a list, new since w, to be avoided in w' -/
def New (K : PySem.W.Frag) (G : Str → Addr) (w w' : Wd) (v : V) (d : D) : Prop := ∃ p xs l, v = .ref p ∧ d = .lst l ∧ p ∈ w'.A ∧ p ∉ w'.as ∧ w.H p = none ∧ w'.H p = some (.lst xs) ∧ RepL K G w' xs l
/-- what a def hands back: any value, or a new list -/
def Ret (K : PySem.W.Frag) (G : Str → Addr) (fr : Bool) (w w' : Wd) (v : V) (d : D) : Prop := match fr with
  | true => New K G w w' v d
  | false => Rep K G w' v d
/-! ## statements -/
/-- a state of a body: the world w; B what is not ours; ow our own lists -/
structure At (K : PySem.W.Frag) (G : Str → Addr) (w : Wd) (B : List Addr) (ow : Ow) (σ : L2.St) (env : Env) (st : Sto) : Prop where
  mem : ∀ a, a ∈ w.A ↔ a ∈ B ∨ a ∈ ow.map (·.2)
  nb : ∀ p ∈ ow, p.2 ∉ B
  asB : ∀ a ∈ w.as, a ∈ B
  nd : (ow.map (·.2)).Nodup
  nd1 : (ow.map (·.1)).Nodup
  so : StoOk K G w st
  en : EnvOk K G w ow σ env
/-- from state to state: cells and own lists may change -/
structure SLe (K : PySem.W.Frag) (w : Wd) (B : List Addr) (ow : Ow) (w' : Wd) (B' : List Addr) (ow' : Ow) : Prop where
  n : ∃ n, w'.as = w.as ++ n ∧ ∀ a ∈ n, w.H a = none
  up : ∀ a ∈ B, a ∈ B'
  dn : ∀ a ∈ B', a ∈ B ∨ a ∈ ow.map (·.2) ∨ w.H a = none
  fr : Fr K (w.as ++ ow.map (·.2)) w.H w'.H
  ow : ∀ p ∈ ow', p.2 ∈ ow.map (·.2) ∨ w.H p.2 = none
section
variable {K : PySem.W.Frag} {G : Str → Addr} {E : XK}
theorem SLe.refl {w : Wd} {B : List Addr} {ow : Ow} : SLe K w B ow w B ow := ⟨⟨[], by simp, by simp⟩, fun _ h => h, fun _ h => .inl h, Fr.refl, fun p hp => .inl (List.mem_map_of_mem hp)⟩
theorem SLe.trans {w w1 w2 : Wd} {B B1 B2 : List Addr} {o o1 o2 : Ow} (a : SLe K w B o w1 B1 o1) (b : SLe K w1 B1 o1 w2 B2 o2) : SLe K w B o w2 B2 o2 := by
  obtain ⟨⟨n, e1, e3⟩, u, d, f, h⟩ := a
  obtain ⟨⟨m, g1, g3⟩, u', d', g, h'⟩ := b
  have hh : ∀ x, x ∈ o1.map (·.2) → x ∈ o.map (·.2) ∨ w.H x = none := fun x hx => by
    obtain ⟨p, hp, rfl⟩ := List.mem_map.mp hx
    exact h p hp
  refine ⟨⟨n ++ m, by rw [g1, e1, List.append_assoc], fun x hx => ?_⟩, fun x hx => u' x (u x hx), fun x hx => ?_, f.trans g (fun _ h => h) fun x hx => ?_, fun p hp => ?_⟩
  · rcases List.mem_append.mp hx with h | h
    · exact e3 x h
    · exact f.h x (g3 x h)
  · rcases d' x hx with z | z | z
    · exact d x z
    · exact .inr (hh x z)
    · exact .inr (.inr (f.h x z))
  · rcases List.mem_append.mp hx with hx | hx
    · rw [e1] at hx
      rcases List.mem_append.mp hx with h | h
      · exact .inl (List.mem_append_left _ h)
      · exact .inr (e3 x h)
    · rcases hh x hx with z | z
      · exact .inl (List.mem_append_right _ z)
      · exact .inr z
  · rcases h' p hp with z | z
    · exact hh _ z
    · exact .inr (f.h _ z)
/-- an expression was run -/
theorem At.le {w w' : Wd} {B : List Addr} {ow : Ow} {σ : L2.St} {env : Env} {st st' : Sto} (a : At K G w B ow σ env st) (l : Le K w.as w w') (so : StoOk K G w' st') : ∃ B', At K G w' B' ow σ env st' ∧ SLe K w B ow w' B' ow := by
  obtain ⟨n, e1, e3⟩ := l.n
  have mB : ∀ x, x ∈ w'.A.filter (fun x => !(ow.map (·.2)).contains x) ↔ x ∈ w'.A ∧ x ∉ ow.map (·.2) := fun x => by
    rw [List.mem_filter, Bool.not_eq_true', ← Bool.not_eq_true, List.contains_iff_mem]
  refine ⟨w'.A.filter fun x => !(ow.map (·.2)).contains x, ⟨fun x => ?_, fun p hp z => ?_, fun x hx => ?_, a.nd, a.nd1, so, a.en.le l a.so.sub⟩, ⟨n, e1, e3⟩, fun x hx => ?_, fun x hx => ?_, l.fr.sub fun x hx => List.mem_append_left _ hx, fun p hp => .inl (List.mem_map_of_mem hp)⟩
  · rw [mB]
    by_cases q : x ∈ ow.map (·.2)
    · exact ⟨fun _ => .inr q, fun _ => l.up x ((a.mem x).mpr (.inr q))⟩
    · exact ⟨fun z => .inl ⟨z, q⟩, fun z => z.elim (fun y => y.1) fun y => absurd y q⟩
  · exact ((mB _).mp z).2 (List.mem_map_of_mem hp)
  · refine (mB x).mpr ⟨so.sub x hx, fun z => ?_⟩
    obtain ⟨p, hp, rfl⟩ := List.mem_map.mp z
    obtain ⟨⟨_, h2⟩, xs, l', _, _, e4, _⟩ := a.en.own p hp
    rw [e1] at hx
    rcases List.mem_append.mp hx with h | h
    · exact h2 h
    · rw [e3 _ h] at e4
      cases e4
  · refine (mB x).mpr ⟨l.up x ((a.mem x).mpr (.inl hx)), fun z => ?_⟩
    obtain ⟨p, hp, rfl⟩ := List.mem_map.mp z
    exact a.nb p hp hx
  · have z := (mB x).mp hx
    rcases l.dn x z.1 with y | y
    · rcases (a.mem x).mp y with y | y
      · exact .inl y
      · exact .inr (.inl y)
    · exact .inr (.inr y)
/-- what is wanted of a statement's outcome -/
def OutS (K : PySem.W.Frag) (G : Str → Addr) (E : XK) (fr : Bool) (Dn : Ends) (Os' Ol : List Nat) (w : Wd) (B : List Addr) (ow : Ow) : Fl × Sto → Prop
  | (.nx env', st') => ∀ w' B' ow' σ', SLe K w B ow w' B' ow' → ow'.map (·.1) = Os' → At K G w' B' ow' σ' env' st' → Dn.nx σ' w'.H
  | (.bk env', st') => ∀ w' B' ow' σ', SLe K w B ow w' B' ow' → ow'.map (·.1) = Ol → At K G w' B' ow' σ' env' st' → Dn.bk σ' w'.H
  | (.ct env', st') => ∀ w' B' ow' σ', SLe K w B ow w' B' ow' → ow'.map (·.1) = Ol → At K G w' B' ow' σ' env' st' → Dn.ct σ' w'.H
  | (.rt d, st') => ∀ w' B' v, SLe K w B ow w' B' [] → (∀ a, a ∈ w'.A ↔ a ∈ B') → StoOk K G w' st' → Ret K G fr w w' v d → Dn.rt v w'.H
  | (.exn x l, st') => ∀ w' B' c dd, SLe K w B ow w' B' [] → (∀ a, a ∈ w'.A ↔ a ∈ B') → StoOk K G w' st' → XRep K G w' c dd x l → E c dd w'.H
theorem OutS.le {fr : Bool} {Dn : Ends} {Os' Ol : List Nat} {w w1 : Wd} {B B1 : List Addr} {ow ow1 : Ow} {o : Fl × Sto} (l : SLe K w B ow w1 B1 ow1) (h : OutS K G E fr Dn Os' Ol w B ow o) : OutS K G E fr Dn Os' Ol w1 B1 ow1 o := by
  obtain ⟨f, st⟩ := o
  cases f with
  | nx e => exact fun w' B' ow' σ' l' => h w' B' ow' σ' (l.trans l')
  | bk e => exact fun w' B' ow' σ' l' => h w' B' ow' σ' (l.trans l')
  | ct e => exact fun w' B' ow' σ' l' => h w' B' ow' σ' (l.trans l')
  | rt d => exact fun w' B' v l' hm so r => h w' B' v (l.trans l') hm so (by
    cases fr with
    | false => exact r
    | true =>
      obtain ⟨p, xs, q, a1, a2, a3, a4, a5, a6, a7⟩ := (show New K G w1 w' v d from r)
      exact ⟨p, xs, q, a1, a2, a3, a4, l.fr.h p a5, a6, a7⟩)
  | exn x l0 => exact fun w' B' c dd l' => h w' B' c dd (l.trans l')
def rdS (K : PySem.W.Frag) (G : Str → Addr) (E : XK) (fr : Bool) (Ol Os Os' : List Nat) (m : S) : TS := fun Dn σ H => ∃ (w : Wd) (B : List Addr) (ow : Ow) (env : Env) (st : Sto) (o : Fl × Sto),
  w.H = H ∧ ow.map (·.1) = Os ∧ At K G w B ow σ env st ∧ m env st = some o ∧ OutS K G E fr Dn Os' Ol w B ow o
abbrev RS (X : Cx) (G : Str → Addr) (E : XK) (fr : Bool) (Ol Os Os' : List Nat) (st : Stmt) (m : S) : Prop := PS X st (rdS X.K G E fr Ol Os Os' m)
abbrev RSs (X : Cx) (G : Str → Addr) (E : XK) (fr : Bool) (Ol Os Os' : List Nat) (st : List Stmt) (m : S) : Prop := PSs X st (rdS X.K G E fr Ol Os Os' m)
def sNext : S := fun env st => some (.nx env, st)
def sSeq (m1 m2 : S) : S := fun env st => match m1 env st with
  | some (.nx env', st') => m2 env' st'
  | o => o
/-- no own list is held back at a return -/
theorem At.drop {w : Wd} {B : List Addr} {ow : Ow} {σ : L2.St} {env : Env} {st : Sto} (a : At K G w B ow σ env st) (ow' : Ow) (h : ∀ p ∈ ow', p ∈ ow) (nd : (ow'.map (·.2)).Nodup) (nd1 : (ow'.map (·.1)).Nodup) :
    At K G { w with A := B ++ ow'.map (·.2) } B ow' σ env st := by
  have sub : ∀ x u, w.H x = some u → x ∈ B ++ ow'.map (·.2) → x ∈ w.A := fun x u _ hx => by
    rw [a.mem]
    rcases List.mem_append.mp hx with hx | hx
    · exact .inl hx
    · obtain ⟨p, hp, rfl⟩ := List.mem_map.mp hx
      exact .inr (List.mem_map_of_mem (h p hp))
  have rs : ∀ {v d}, Rep K G w v d → Rep K G { w with A := B ++ ow'.map (·.2) } v d := fun r => Rep.sub (w := w) (w' := { w with A := B ++ ow'.map (·.2) }) rfl rfl sub r
  have rsL : ∀ {v d}, RepL K G w v d → RepL K G { w with A := B ++ ow'.map (·.2) } v d := fun r => RepL.sub (w := w) (w' := { w with A := B ++ ow'.map (·.2) }) rfl rfl sub r
  refine ⟨fun x => List.mem_append, fun p hp => a.nb p (h p hp), a.asB, nd, nd1, ⟨a.so.len, a.so.nd, fun x hx => List.mem_append_left _ (a.asB x hx), fun x hx => ?_, fun k c e => ?_⟩, ⟨a.en.len, fun p hp => ?_, fun i d e hi => ?_⟩⟩
  · rcases List.mem_append.mp hx with hx | hx
    · exact a.so.live x ((a.mem x).mpr (.inl hx))
    · obtain ⟨p, hp, rfl⟩ := List.mem_map.mp hx
      exact a.so.live _ ((a.mem _).mpr (.inr (List.mem_map_of_mem (h p hp))))
  · obtain ⟨x, e1, r⟩ := a.so.at_ k c e
    refine ⟨x, e1, ?_⟩
    cases r with
    | lst e2 r => exact .lst e2 (rsL r)
    | ins e2 e3 r => exact .ins e2 e3 (rsL r)
  · obtain ⟨⟨h1, h2⟩, xs, l, e1, e2, e3, r⟩ := a.en.own p (h p hp)
    exact ⟨⟨List.mem_append_right _ (List.mem_map_of_mem hp), h2⟩, xs, l, e1, e2, e3, rsL r⟩
  · by_cases hq : ∃ p ∈ ow, p.1 = i
    · obtain ⟨p, hp, rfl⟩ := hq
      obtain ⟨⟨h1, h2⟩, xs, l, e1, e2, e3, r⟩ := a.en.own p hp
      rw [e1] at e
      cases e
      refine ⟨_, e2, .lst (fun z => ?_) e3 (rsL r)⟩
      rcases List.mem_append.mp z with z | z
      · exact a.nb p hp z
      · obtain ⟨q, hq, e4⟩ := List.mem_map.mp z
        have e5 : q = p := by
          have h3 := a.nd
          obtain ⟨i1, hi1, g1⟩ := List.getElem_of_mem (h q hq)
          obtain ⟨i2, hi2, g2⟩ := List.getElem_of_mem hp
          have : i1 = i2 := by
            have hl1 : i1 < (ow.map (·.2)).length := by rw [List.length_map]; exact hi1
            have hl2 : i2 < (ow.map (·.2)).length := by rw [List.length_map]; exact hi2
            refine (List.getElem_inj (h₀ := hl1) (h₁ := hl2) h3).mp ?_
            rw [List.getElem_map, List.getElem_map, g1, g2, e4]
          subst this
          rw [← g1, ← g2]
        subst e5
        exact hi q hq rfl
    · obtain ⟨v, e1, r⟩ := a.en.var i d e fun p hp z => hq ⟨p, hp, z⟩
      exact ⟨v, e1, rs r⟩
theorem SLe.drop {w : Wd} {B : List Addr} {ow ow' : Ow} {A' : List Addr} (h : ∀ p ∈ ow', p ∈ ow) : SLe K w B ow { w with A := A' } B ow' := ⟨⟨[], by simp, by simp⟩, fun _ h => h, fun _ h => .inl h, Fr.refl, fun p hp => .inl (List.mem_map_of_mem (h p hp))⟩
end
section
variable {X : Cx} {G : Str → Addr} {E : XK} {fr : Bool} {Ol Os O1 Os' : List Nat} {e a b c : Expr} {es : List Expr} {m ma mb mc : M D} {mr : M (List D)} {pos p p2 p3 : Pos} {s : Stmt} {rest bd bd2 : List Stmt} {m1 m2 : S} {mt : M Bool}
theorem rss_nil : RSs X G E fr Ol Os Os [] sNext := pss_nil.imp fun Dn σ H ⟨w, B, ow, env, st, o, h1, h2, h3, h4, h5⟩ => by
  cases h4
  subst h1
  exact h5 w B ow σ SLe.refl h2 h3
theorem rss_cons (h1 : RS X G E fr Ol Os O1 s m1) (h2 : RSs X G E fr Ol O1 Os' rest m2) : RSs X G E fr Ol Os Os' (s :: rest) (sSeq m1 m2) :=
  (pss_cons h1 h2).imp fun Dn σ H ⟨w, B, ow, env, st, o, h1, h2, h3, h4, h5⟩ => by
    unfold sSeq at h4
    cases q : m1 env st with
    | none => rw [q] at h4; cases h4
    | some r =>
      rw [q] at h4
      refine ⟨w, B, ow, env, st, r, h1, h2, h3, q, ?_⟩
      obtain ⟨f, st'⟩ := r
      cases f with
      | nx env' => exact fun w' B' ow' σ' l e a => ⟨w', B', ow', env', st', o, rfl, e, a, h4, h5.le l⟩
      | bk e => cases h4; exact h5
      | ct e => cases h4; exact h5
      | rt e => cases h4; exact h5
      | exn x l => cases h4; exact h5
theorem rss_one (h1 : RS X G E fr Ol Os Os' s m1) : RSs X G E fr Ol Os Os' [s] m1 := pss_one h1
/-- own lists are let go -/
theorem At.weak {K : PySem.W.Frag} {w : Wd} {B : List Addr} {ow : Ow} {σ : L2.St} {env : Env} {st : Sto} (a : At K G w B ow σ env st) (O1 : List Nat) (h : ∀ i ∈ O1, i ∈ ow.map (·.1)) (nd : O1.Nodup) :
    ∃ ow1 : Ow, ow1.map (·.1) = O1 ∧ (∀ p ∈ ow1, p ∈ ow) ∧ At K G { w with A := B ++ ow1.map (·.2) } B ow1 σ env st := by
  have ex : ∀ O1 : List Nat, (∀ i ∈ O1, i ∈ ow.map (·.1)) → O1.Nodup → ∃ ow1 : Ow, ow1.map (·.1) = O1 ∧ ∀ p ∈ ow1, p ∈ ow := by
    intro O1
    induction O1 with
    | nil => exact fun _ _ => ⟨[], rfl, by simp⟩
    | cons i r ih =>
      intro h nd
      obtain ⟨ow1, e1, e2⟩ := ih (fun j hj => h j (List.mem_cons_of_mem _ hj)) (List.nodup_cons.mp nd).2
      obtain ⟨q, hq, e⟩ := List.mem_map.mp (h i List.mem_cons_self)
      exact ⟨q :: ow1, by rw [List.map_cons, e1, e], fun p hp => (List.mem_cons.mp hp).elim (fun z => z ▸ hq) (e2 p)⟩
  obtain ⟨ow1, e1, e2⟩ := ex O1 h nd
  refine ⟨ow1, e1, e2, a.drop ow1 e2 ?_ (by rw [e1]; exact nd)⟩
  -- different slots hold different lists
  have inj : ∀ p q : Nat × Addr, p ∈ ow → q ∈ ow → p.2 = q.2 → p = q := fun p q hp hq e => by
    obtain ⟨i1, hi1, g1⟩ := List.getElem_of_mem hp
    obtain ⟨i2, hi2, g2⟩ := List.getElem_of_mem hq
    have hl1 : i1 < (ow.map (·.2)).length := by rw [List.length_map]; exact hi1
    have hl2 : i2 < (ow.map (·.2)).length := by rw [List.length_map]; exact hi2
    have : i1 = i2 := (List.getElem_inj (h₀ := hl1) (h₁ := hl2) a.nd).mp (by rw [List.getElem_map, List.getElem_map, g1, g2, e])
    subst this
    rw [← g1, ← g2]
  have go : ∀ l : Ow, (∀ p ∈ l, p ∈ ow) → (l.map (·.1)).Nodup → (l.map (·.2)).Nodup := by
    intro l
    induction l with
    | nil => intro _ _; exact List.nodup_nil
    | cons p r ih =>
      intro h nd
      rw [List.map_cons, List.nodup_cons] at nd ⊢
      refine ⟨fun z => nd.1 ?_, ih (fun q hq => h q (List.mem_cons_of_mem _ hq)) nd.2⟩
      obtain ⟨q, hq, e⟩ := List.mem_map.mp z
      rw [inj p q (h p List.mem_cons_self) (h q (List.mem_cons_of_mem _ hq)) e.symm]
      exact List.mem_map_of_mem hq
  exact go ow1 e2 (by rw [e1]; exact nd)
theorem rdS_weak {K : PySem.W.Frag} {Dn : Ends} {σ : L2.St} {H : Hp} (h : rdS K G E fr Ol Os Os' m1 Dn σ H) (hO : ∀ i ∈ O1, i ∈ Os) (nd : O1.Nodup) : rdS K G E fr Ol O1 Os' m1 Dn σ H := by
  obtain ⟨w, B, ow, env, st, o, h1, h2, h3, h4, h5⟩ := h
  obtain ⟨ow1, e1, e2, a⟩ := h3.weak O1 (by rw [h2]; exact hO) nd
  exact ⟨{ w with A := B ++ ow1.map (·.2) }, B, ow1, env, st, o, h1, e1, a, h4, h5.le (SLe.drop e2)⟩
theorem rs_weak (O1 : List Nat) (h : RS X G E fr Ol O1 Os' s m1) (hO : (O1.all fun i => Os.contains i) = true := by rfl) (nd : O1.Nodup := by decide) : RS X G E fr Ol Os Os' s m1 :=
  h.imp fun Dn σ H q => rdS_weak q (fun i hi => List.contains_iff_mem.mp (List.all_eq_true.mp hO i hi)) nd
theorem rss_weak (O1 : List Nat) (h : RSs X G E fr Ol O1 Os' rest m1) (hO : (O1.all fun i => Os.contains i) = true := by rfl) (nd : O1.Nodup := by decide) : RSs X G E fr Ol Os Os' rest m1 :=
  h.imp fun Dn σ H q => rdS_weak q (fun i hi => List.contains_iff_mem.mp (List.all_eq_true.mp hO i hi)) nd
/-- an expression within a statement -/
def sEx (me : M D) (k : D → S) : S := fun env st => match me env st with
  | some (.ok d, st') => k d env st'
  | some (.exn x l, st') => some (.exn x l, st')
  | none => none
def sTest (mt : M Bool) (k : Bool → S) : S := fun env st => match mt env st with
  | some (.ok d, st') => k d env st'
  | some (.exn x l, st') => some (.exn x l, st')
  | none => none
theorem exn_out {α : Type} {K : PySem.W.Frag} {Dn : Ends} {σ : L2.St} {w : Wd} {B : List Addr} {ow : Ow} {env : Env} {st st' : Sto} {x : Str} {l : List D} (a : At K G w B ow σ env st) (h : OutS K G E fr Dn Os' Ol w B ow (.exn x l, st')) (P : Wd → α → Prop) : Out K G E w P (.exn x l, st') :=
  fun w' c dd le so xr => by
    obtain ⟨B', a', l'⟩ := a.le le so
    obtain a2 := a'.drop [] (fun _ z => nomatch z) List.nodup_nil List.nodup_nil
    refine h { w' with A := B' ++ [] } B' c dd (l'.trans (SLe.drop fun _ z => nomatch z)) (fun x => by simp) a2.so ?_
    cases xr with
    | plain x => exact .plain x
    | line e => exact .line e
theorem ex_go {K : PySem.W.Frag} {Dn : Ends} {σ : L2.St} {H : Hp} {me : M D} {k : D → S} (h : rdS K G E fr Ol Os Os' (sEx me k) Dn σ H) :
    ∃ w : Wd, w.H = H ∧ rdW K G E Os me (fun w' d => ∃ (B' : List Addr) (ow : Ow) (env : Env) (st' : Sto) (o : Fl × Sto), ow.map (·.1) = Os ∧ At K G w' B' ow σ env st' ∧ k d env st' = some o ∧ OutS K G E fr Dn Os' Ol w' B' ow o) σ w := by
  obtain ⟨w, B, ow, env, st, o, h1, h2, h3, h4, h5⟩ := h
  unfold sEx at h4
  cases q : me env st with
  | none => rw [q] at h4; cases h4
  | some r =>
    rw [q] at h4
    refine ⟨w, h1, ow, env, st, r, h2, h3.so, h3.en, q, ?_⟩
    obtain ⟨r, st'⟩ := r
    cases r with
    | ok d =>
      intro w' l so
      obtain ⟨B', a', l'⟩ := h3.le l so
      exact ⟨B', ow, env, st', o, h2, a', h4, h5.le l'⟩
    | exn x l =>
      cases h4
      exact exn_out h3 h5 _
theorem test_go {K : PySem.W.Frag} {Dn : Ends} {σ : L2.St} {H : Hp} {me : M Bool} {k : Bool → S} (h : rdS K G E fr Ol Os Os' (sTest me k) Dn σ H) :
    ∃ w : Wd, w.H = H ∧ rdW K G E Os me (fun w' d => rdS K G E fr Ol Os Os' (k d) Dn σ w'.H) σ w := by
  obtain ⟨w, B, ow, env, st, o, h1, h2, h3, h4, h5⟩ := h
  unfold sTest at h4
  cases q : me env st with
  | none => rw [q] at h4; cases h4
  | some r =>
    rw [q] at h4
    refine ⟨w, h1, ow, env, st, r, h2, h3.so, h3.en, q, ?_⟩
    obtain ⟨r, st'⟩ := r
    cases r with
    | ok d =>
      intro w' l so
      obtain ⟨B', a', l'⟩ := h3.le l so
      exact ⟨w', B', ow, env, st', o, rfl, h2, a', h4, h5.le l'⟩
    | exn x l =>
      cases h4
      exact exn_out h3 h5 _
/-- x = e -/
def sSet (i : Nat) (me : M D) : S := sEx me fun d env st => if i < env.length then some (.nx (env.set i (some d)), st) else none
theorem EnvOk.set {K : PySem.W.Frag} {w : Wd} {ow : Ow} {σ : L2.St} {env : Env} {i : Nat} {v : V} {d : D} (x : EnvOk K G w ow σ env) (hi : ∀ p ∈ ow, p.1 ≠ i) (r : Rep K G w v d) : EnvOk K G w ow (σ.set i (some v)) (env.set i (some d)) := by
  refine ⟨by rw [List.length_set, List.length_set]; exact x.len, fun p hp => ?_, fun j d' e h => ?_⟩
  · obtain ⟨h1, xs, l, e1, e2, e3, r⟩ := x.own p hp
    exact ⟨h1, xs, l, by rw [List.getElem?_set_ne (Ne.symm (hi p hp))]; exact e1, by rw [List.getElem?_set_ne (Ne.symm (hi p hp))]; exact e2, e3, r⟩
  · by_cases hj : i = j
    · subst hj
      have hl : i < env.length := by
        have := (List.getElem?_eq_some_iff.mp e).1
        rw [List.length_set] at this
        exact this
      rw [List.getElem?_set_self hl] at e
      cases e
      exact ⟨v, List.getElem?_set_self (by rw [x.len]; exact hl), r⟩
    · rw [List.getElem?_set_ne hj] at e
      obtain ⟨v', e1, r'⟩ := x.var j d' e h
      exact ⟨v', by rw [List.getElem?_set_ne hj]; exact e1, r'⟩
theorem not_own {ow : Ow} {i : Nat} (h : ow.map (·.1) = Os) (hO : Os.contains i = false) : ∀ p ∈ ow, p.1 ≠ i := fun p hp z => by
  have : i ∈ Os := by rw [← h, ← z]; exact List.mem_map_of_mem hp
  rw [List.contains_iff_mem.mpr this] at hO
  cases hO
theorem set_go {K : PySem.W.Frag} {Dn : Ends} {σ : L2.St} {H : Hp} {me : M D} {i : Nat} (hO : Os.contains i = false) (h : rdS K G E fr Ol Os Os (sSet i me) Dn σ H) : tAsg (rdE K G E Os me) (gName i) Dn σ H := by
  obtain ⟨w, hw, r⟩ := ex_go h
  refine ⟨w, hw, r.mono fun w' d l ⟨B', ow, env, st', o, h1, a, h2, h3⟩ v hv => ?_⟩
  obtain ⟨hi, rfl⟩ := ite_some h2
  exact h3 w' B' ow _ SLe.refl h1 ⟨a.mem, a.nb, a.asB, a.nd, a.nd1, a.so, a.en.set (not_own h1 hO) hv⟩
theorem rs_set (i : Nat) {x : Str} (hN : X.N.Nodup) (he : RE X G E Os e m) (hi : X.N[i]? = some x := by rfl) (hx : Loc X.env.scope x := by first | exact Or.inl rfl | exact Or.inr rfl) (hO : Os.contains i = false := by rfl) (hs : swapsWith e (some (.Name x p2)) pos.line X.env = pure false := by rfl)
    (hf : X.fn x = true ∨ X.env.scope.names.lookup x = some .local := by first | exact .inl rfl | exact .inr rfl | assumption) : RS X G E fr Ol Os Os (.Assign [.Name x p2] e pos) (sSet i m) :=
  (ps_set hN hi hx he hs hf).imp fun Dn σ H h => set_go hO h
/-- return e: every own list is let go first -/
def sRet (me : M D) : S := sEx me fun d _ st => some (.rt d, st)
theorem rs_ret (he : RE X G E [] e m) : RS X G E false Ol Os Os' (.Return (some e) pos) (sRet m) :=
  (ps_ret he).imp fun Dn σ H h => by
    obtain ⟨w, hw, r⟩ := ex_go (rdS_weak (O1 := []) h (fun _ z => nomatch z) List.nodup_nil)
    refine ⟨w, hw, r.mono fun w' d l ⟨B', ow, env, st', o, h1, a, h2, h3⟩ v hv => ?_⟩
    cases h2
    have e : ow = [] := List.map_eq_nil_iff.mp h1
    subst e
    exact h3 w' B' v SLe.refl (fun x => by rw [a.mem]; simp) a.so hv
def sRetN : S := fun _ st => some (.rt .non, st)
theorem rs_retN : RS X G E false Ol Os Os' (.Return none pos) sRetN :=
  ps_retN.imp fun Dn σ H h => by
    obtain ⟨w, B, ow, env, st, o, h1, h2, h3, h4, h5⟩ := rdS_weak (O1 := []) h (fun _ z => nomatch z) List.nodup_nil
    cases h4
    have e : ow = [] := List.map_eq_nil_iff.mp h2
    subst e
    subst h1
    exact h5 w B .non SLe.refl (fun x => by rw [h3.mem]; simp) h3.so .non
/-- an expression for itself -/
def sDo (me : M D) : S := sEx me fun _ env st => some (.nx env, st)
theorem rs_do (he : RE X G E Os e m) (hs : swapsWith e none pos.line X.env = pure false := by rfl) : RS X G E fr Ol Os Os (.Expr e pos) (sDo m) :=
  (ps_expr he hs).imp fun Dn σ H h => by
    obtain ⟨w, hw, r⟩ := ex_go h
    refine ⟨w, hw, r.mono fun w' d l ⟨B', ow, env, st', o, h1, a, h2, h3⟩ v hv => ?_⟩
    cases h2
    exact h3 w' B' ow σ SLe.refl h1 a
/-- if -/
def sIf (mt : M Bool) (m1 m2 : S) : S := sTest mt fun b => match b with | true => m1 | false => m2
theorem rs_if (hc : RT X G E Os c mt) (h1 : RSs X G E fr Ol Os Os' bd m1) (h2 : RSs X G E fr Ol Os Os' bd2 m2) : RS X G E fr Ol Os Os' (.If c bd bd2 pos) (sIf mt m1 m2) :=
  (ps_if hc h1 h2).imp fun Dn σ H h => by
    obtain ⟨w, hw, r⟩ := test_go h
    refine ⟨w, hw, r.mono fun w' d l q => ?_⟩
    cases d with
    | true => exact iteT q
    | false => exact iteF q
def sBreak : S := fun env st => some (.bk env, st)
def sCont : S := fun env st => some (.ct env, st)
theorem rs_pass : RS X G E fr Ol Os Os (.Pass pos) sNext := ps_pass.imp fun Dn σ H ⟨w, B, ow, env, st, o, h1, h2, h3, h4, h5⟩ => by
  cases h4
  subst h1
  exact h5 w B ow σ SLe.refl h2 h3
theorem rs_break : RS X G E fr Os Os Os' (.Break pos) sBreak := ps_break.imp fun Dn σ H ⟨w, B, ow, env, st, o, h1, h2, h3, h4, h5⟩ => by
  cases h4
  subst h1
  exact h5 w B ow σ SLe.refl h2 h3
theorem rs_cont : RS X G E fr Os Os Os' (.Continue pos) sCont := ps_continue.imp fun Dn σ H ⟨w, B, ow, env, st, o, h1, h2, h3, h4, h5⟩ => by
  cases h4
  subst h1
  exact h5 w B ow σ SLe.refl h2 h3
end
end Pw
namespace Pw
open PySem PySem.Spec PyProof.Rows L2
/-! ## a new list that nobody else holds -/
def rdF (K : PySem.W.Frag) (G : Str → Addr) (E : XK) (Os : List Nat) (m : M D) : TE := fun σ H Q => ∃ w : Wd, w.H = H ∧ rdW K G E Os m (fun w' d => ∀ v, New K G w w' v d → Q v w'.H) σ w
abbrev RF (X : Cx) (G : Str → Addr) (E : XK) (Os : List Nat) (e : Expr) (m : M D) : Prop := PE X e (rdF X.K G E Os m)
section
variable {K : PySem.W.Frag} {G : Str → Addr} {w w' : Wd}
theorem StoOk.subA {st : Sto} (s : StoOk K G w st) (A' : List Addr) (h1 : ∀ a ∈ w.as, a ∈ A') (h2 : ∀ a ∈ A', a ∈ w.A) : StoOk K G { w with A := A' } st := by
  refine ⟨s.len, s.nd, h1, fun a ha => s.live a (h2 a ha), fun k c e => ?_⟩
  obtain ⟨a, e1, r⟩ := s.at_ k c e
  refine ⟨a, e1, ?_⟩
  cases r with
  | lst e2 r => exact .lst e2 (RepL.sub (w := w) (w' := { w with A := A' }) rfl rfl (fun a _ _ h => h2 a h) r)
  | ins e2 e3 r => exact .ins e2 e3 (RepL.sub (w := w) (w' := { w with A := A' }) rfl rfl (fun a _ _ h => h2 a h) r)
/-- a new one may be had as any value -/
theorem new_rep {v : V} {d : D} {st : Sto} (n : New K G w w' v d) (l : Le K w.as w w') (so : StoOk K G w' st) (hl : ∀ a ∈ w.A, ∃ o, w.H a = some o) :
    ∃ A', Le K w.as w { w' with A := A' } ∧ StoOk K G { w' with A := A' } st ∧ Rep K G { w' with A := A' } v d := by
  obtain ⟨p, xs, q, rfl, rfl, h1, h2, h3, h4, r⟩ := n
  have mA : ∀ x, x ∈ w'.A.filter (fun x => !(x == p)) ↔ x ∈ w'.A ∧ x ≠ p := fun x => by
    rw [List.mem_filter]
    by_cases q : x = p
    · simp [q]
    · simp [q]
  have sb : ∀ a ∈ w'.A.filter (fun x => !(x == p)), a ∈ w'.A := fun a ha => ((mA a).mp ha).1
  refine ⟨w'.A.filter fun x => !(x == p), ⟨l.n, fun a ha => (mA a).mpr ⟨l.up a ha, fun e => ?_⟩, fun a ha => l.dn a (sb a ha), l.fr⟩, so.subA _ (fun a ha => (mA a).mpr ⟨so.sub a ha, fun e => h2 (e ▸ ha)⟩) sb, ?_⟩
  · obtain ⟨o, e2⟩ := hl a ha
    rw [e, h3] at e2
    cases e2
  · exact .lst (fun z => ((mA p).mp z).2 rfl) h4 (RepL.sub (w := w') (w' := { w' with A := w'.A.filter fun x => !(x == p) }) rfl rfl (fun a _ _ h => sb a h) r)
end
section
variable {X : Cx} {G : Str → Addr} {E : XK} {fr : Bool} {Ol Os O1 Os' : List Nat} {e a b c : Expr} {es : List Expr} {m ma mb mc : M D} {mr : M (List D)} {pos p p2 p3 : Pos} {s : Stmt} {rest bd bd2 : List Stmt} {m1 m2 : S} {mt : M Bool}
theorem rf_re (h : RF X G E Os e m) : RE X G E Os e m := h.imp fun σ H Q ⟨w, hw, r⟩ => by
  refine ⟨w, hw, ?_⟩
  obtain ⟨ow, env, st, o, h1, h2, h3, h4, h5⟩ := r
  refine ⟨ow, env, st, o, h1, h2, h3, h4, ?_⟩
  obtain ⟨r, st'⟩ := o
  cases r with
  | exn x l => exact h5
  | ok d =>
    intro w' l so v hv
    obtain ⟨A', l', so', r⟩ := new_rep hv l so h2.live
    exact h5 _ l' so' v r
theorem rf_lst {mr : M (List D)} (h : RA X G E Os es mr) : RF X G E Os (.List es pos) (mLst mr) :=
  (pe_lst h).imp fun σ H Q ⟨w, hw, r⟩ => ⟨w, hw, r.bnd.mono fun w1 xs l1 r1 vs hvs => by
    obtain ⟨y, st, e1, so, q⟩ := r1.lft
    split at e1
    · rename_i hz
      cases e1
      refine ⟨by rw [hvs.length]; exact hz, fun p hp => ?_⟩
      have hn : w.H p = none := l1.fr.h p hp
      refine q { w1 with H := upd w1.H p (.lst vs), A := p :: w1.A } (Le.newA hp) (so.newA hp) _ ⟨p, vs, _, rfl, rfl, List.mem_cons_self, fun z => ?_, hn, upd_same, RepL.le (Le.newA (C := w1.as) hp) so.sub hvs⟩
      obtain ⟨o, e2⟩ := so.live p (so.sub p z)
      rw [hp] at e2
      cases e2
    · cases e1⟩
/-- list(e) -/
theorem rf_list {x : Str} (hm : X.mg "list" = none) (ha : RAB X G E Os [e] mr) (hv : bootBuiltins "list" = some (.type "list") := by decide +kernel) (hg : Gl X "list" := by rfl)
    (he : starEach [e] X.env = (false, eval e X.env) :: starEach [] X.env := by rfl) (hpl : (backTo pos (starEach [] X.env)).any (·.1) = false := by rfl) : RF X G E Os (.Call (.Name "list" p) [e] [] pos) (mCB fList mr) :=
  (pe_callTy call_list_of hg hm hv ha (by decide) (by decide) he hpl).imp fun σ H Q ⟨w, hw, r⟩ => ⟨w, hw, r.bnd.mono fun w1 ds l1 r1 vs hvs => by
    obtain ⟨z, st, e1, so, q⟩ := r1.lft
    have fin : ∀ (xs : List V) (l : List D) (p : Addr), RepL X.K G w1 xs l → w1.H p = none → z = .lst l → Q (.ref p) (upd w1.H p (.lst xs)) := fun xs l p r hp hz => by
      refine q { w1 with H := upd w1.H p (.lst xs), A := p :: w1.A } (Le.newA hp) (so.newA hp) _ ⟨p, xs, l, rfl, hz, List.mem_cons_self, fun z => ?_, l1.fr.h p hp, upd_same, RepL.le (Le.newA (C := w1.as) hp) so.sub r⟩
      obtain ⟨o, e2⟩ := so.live p (so.sub p z)
      rw [hp] at e2
      cases e2
    unfold fList at e1
    split at e1
    · cases e1
      obtain ⟨v, rfl, hu⟩ := hvs.one
      obtain ⟨a, xs, rfl, h1, r⟩ := hu.tup
      exact ⟨_, _, rfl, .inr h1, fun p hp => fin xs _ p r hp rfl⟩
    · cases e1
      obtain ⟨v, rfl, hu⟩ := hvs.one
      obtain ⟨a, xs, rfl, h1, r⟩ := hu.lst
      exact ⟨_, _, rfl, .inl (.of h1), fun p hp => fin xs _ p r hp rfl⟩
    · cases e1⟩
/-- xs + ys of lists -/
def dCatL : D → D → Option D
  | .lst a, .lst b => if a.length + b.length ≤ sizeLine then some (.lst (a ++ b)) else none
  | _, _ => none
theorem rf_cat (ha : RB X G E Os a ma) (hb : RB X G E Os b mb) : RF X G E Os (.BinOp a .Add b pos) (mBin dCatL ma mb) :=
  (pe_op op_cat ha hb).imp fun σ H Q ⟨w, hw, r⟩ => ⟨w, hw, r.bnd.mono fun w1 x l1 r1 v hv => ⟨w1, rfl, r1.bnd.mono fun w2 y l2 r2 u hu => by
    obtain ⟨z, st, e1, so, q⟩ := r2.lft
    have hv2 := hv.le l2 r1.sub
    unfold dCatL at e1
    split at e1
    · obtain ⟨hz, rfl⟩ := ite_some e1
      obtain ⟨a', xs, rfl, h1, r1'⟩ := hv2.lst
      obtain ⟨b', ys, rfl, h2, r2'⟩ := hu.lst
      refine ⟨a', b', xs, ys, rfl, rfl, h1, h2, by rw [r1'.length, r2'.length]; exact hz, fun p hp => ?_⟩
      refine q { w2 with H := upd w2.H p (.lst (xs ++ ys)), A := p :: w2.A } (Le.newA hp) (so.newA hp) _ ⟨p, _, _, rfl, rfl, List.mem_cons_self, fun z => ?_, l1.fr.h p (l2.fr.h p hp), upd_same, RepL.le (Le.newA (C := w2.as) hp) so.sub (r1'.append r2')⟩
      obtain ⟨o, e2⟩ := so.live p (so.sub p z)
      rw [hp] at e2
      cases e2
    · cases e1⟩⟩
/-! ## x = a new list of our own -/
def sOwn (i : Nat) (me : M D) : S := sEx me fun d env st => match d with
  | .lst l => if i < env.length then some (.nx (env.set i (some (.lst l))), st) else none
  | _ => none
theorem exF_go {K : PySem.W.Frag} {Dn : Ends} {σ : L2.St} {H : Hp} {me : M D} {k : D → S} (h : rdS K G E fr Ol Os Os' (sEx me k) Dn σ H) :
    ∃ w : Wd, w.H = H ∧ rdW K G E Os me (fun w' d => ∃ (B B' : List Addr) (ow : Ow) (env : Env) (st' : Sto) (o : Fl × Sto), ow.map (·.1) = Os ∧ (∀ a, a ∈ w.A ↔ a ∈ B ∨ a ∈ ow.map (·.2)) ∧ (∀ a ∈ w.A, ∃ o, w.H a = some o) ∧ SLe K w B ow w' B' ow ∧ At K G w' B' ow σ env st' ∧ k d env st' = some o ∧ OutS K G E fr Dn Os' Ol w B ow o) σ w := by
  obtain ⟨w, B, ow, env, st, o, h1, h2, h3, h4, h5⟩ := h
  unfold sEx at h4
  cases q : me env st with
  | none => rw [q] at h4; cases h4
  | some r =>
    rw [q] at h4
    refine ⟨w, h1, ow, env, st, r, h2, h3.so, h3.en, q, ?_⟩
    obtain ⟨r, st'⟩ := r
    cases r with
    | ok d =>
      intro w' l so
      obtain ⟨B', a', l'⟩ := h3.le l so
      exact ⟨B, B', ow, env, st', o, h2, h3.mem, h3.so.live, l', a', h4, h5⟩
    | exn x l =>
      cases h4
      exact exn_out h3 h5 _
/-- return e, a new list -/
theorem rs_retF (he : RF X G E [] e m) : RS X G E true Ol Os Os' (.Return (some e) pos) (sRet m) :=
  (ps_ret he).imp fun Dn σ H h => by
    obtain ⟨w, hw, r⟩ := exF_go (rdS_weak (O1 := []) h (fun _ z => nomatch z) List.nodup_nil)
    refine ⟨w, hw, r.mono fun w' d l ⟨B, B', ow, env, st', o, h1, hm, hl, sl, a, h2, h3⟩ v hv => ?_⟩
    cases h2
    have e : ow = [] := List.map_eq_nil_iff.mp h1
    subst e
    exact h3 w' B' v sl (fun x => by rw [a.mem]; simp) a.so hv
/-- our own list comes to a slot -/
theorem At.own {K : PySem.W.Frag} {w0 w : Wd} {B0 B : List Addr} {ow0 ow : Ow} {σ : L2.St} {env : Env} {st : Sto} {i : Nat} {p : Addr} {xs : List V} {l : List D} (a : At K G w B ow σ env st)
    (hi : ∀ q ∈ ow, q.1 ≠ i) (hl : i < env.length) (h1 : p ∈ w.A) (h2 : p ∉ w.as) (h3 : w0.H p = none) (h4 : w.H p = some (.lst xs)) (r : RepL K G w xs l) (npo : p ∉ ow.map (·.2)) (npB0 : p ∉ B0) (sl : SLe K w0 B0 ow0 w B ow) :
    ∃ B', At K G w B' ((i, p) :: ow) (σ.set i (some (.ref p))) (env.set i (some (.lst l))) st ∧ SLe K w0 B0 ow0 w B' ((i, p) :: ow) := by
  have mB : ∀ x, x ∈ B.filter (fun x => !(x == p)) ↔ x ∈ B ∧ x ≠ p := fun x => by
    rw [List.mem_filter]
    by_cases q : x = p
    · simp [q]
    · simp [q]
  refine ⟨B.filter fun x => !(x == p), ⟨fun x => ?_, fun q hq z => ?_, fun x hx => (mB x).mpr ⟨a.asB x hx, fun e => h2 (e ▸ hx)⟩, ?_, ?_, a.so, ⟨by rw [List.length_set, List.length_set]; exact a.en.len, fun q hq => ?_, fun j d e hj => ?_⟩⟩, sl.n, fun x hx => (mB x).mpr ⟨sl.up x hx, fun e => npB0 (e ▸ hx)⟩, fun x hx => sl.dn x ((mB x).mp hx).1, sl.fr, fun q hq => ?_⟩
  · rw [a.mem, mB, List.map_cons, List.mem_cons]
    by_cases q : x = p
    · subst q
      exact ⟨fun _ => .inr (.inl rfl), fun _ => (a.mem x).mp h1⟩
    · exact ⟨fun z => z.elim (fun y => .inl ⟨y, q⟩) fun y => .inr (.inr y), fun z => z.elim (fun y => .inl y.1) fun y => y.elim (fun e => absurd e q) .inr⟩
  · have z' := (mB _).mp z
    rcases List.mem_cons.mp hq with rfl | hq
    · exact z'.2 rfl
    · exact a.nb q hq z'.1
  · rw [List.map_cons, List.nodup_cons]
    exact ⟨npo, a.nd⟩
  · rw [List.map_cons, List.nodup_cons]
    exact ⟨fun z => by
      obtain ⟨q, hq, e⟩ := List.mem_map.mp z
      exact hi q hq e, a.nd1⟩
  · rcases List.mem_cons.mp hq with rfl | hq
    · exact ⟨⟨h1, h2⟩, xs, l, List.getElem?_set_self hl, List.getElem?_set_self (by rw [a.en.len]; exact hl), h4, r⟩
    · obtain ⟨g1, ys, l', e1, e2, e3, r'⟩ := a.en.own q hq
      exact ⟨g1, ys, l', by rw [List.getElem?_set_ne (Ne.symm (hi q hq))]; exact e1, by rw [List.getElem?_set_ne (Ne.symm (hi q hq))]; exact e2, e3, r'⟩
  · have nj : j ≠ i := fun z => hj (i, p) List.mem_cons_self z.symm
    rw [List.getElem?_set_ne (Ne.symm nj)] at e
    obtain ⟨v, e1, r'⟩ := a.en.var j d e fun q hq => hj q (List.mem_cons_of_mem _ hq)
    exact ⟨v, by rw [List.getElem?_set_ne (Ne.symm nj)]; exact e1, r'⟩
  · rcases List.mem_cons.mp hq with rfl | hq
    · exact .inr h3
    · exact sl.ow q hq
theorem rs_own (i : Nat) {x : Str} (hN : X.N.Nodup) (he : RF X G E Os e m) (hi : X.N[i]? = some x := by rfl) (hx : Loc X.env.scope x := by first | exact Or.inl rfl | exact Or.inr rfl) (hO : Os.contains i = false := by rfl) (hs : swapsWith e (some (.Name x p2)) pos.line X.env = pure false := by rfl)
    (hf : X.fn x = true ∨ X.env.scope.names.lookup x = some .local := by first | exact .inl rfl | exact .inr rfl | assumption) : RS X G E fr Ol Os (i :: Os) (.Assign [.Name x p2] e pos) (sOwn i m) :=
  (ps_set hN hi hx he hs hf).imp fun Dn σ H h => by
    obtain ⟨w, hw, r⟩ := exF_go h
    refine ⟨w, hw, r.mono fun w' d l ⟨B, B', ow, env, st', o, h1, hm, hl, sl, a, h2, h3⟩ v hv => ?_⟩
    obtain ⟨p, xs, q, rfl, rfl, g1, g2, g3, g4, r⟩ := hv
    have h2' : (if i < env.length then some (Fl.nx (env.set i (some (.lst q))), st') else none) = some o := h2
    obtain ⟨hi', rfl⟩ := ite_some h2'
    obtain ⟨B2, a2, sl2⟩ := a.own (not_own h1 hO) hi' g1 g2 g3 g4 r (fun z => by
      obtain ⟨o, e⟩ := hl p ((hm p).mpr (.inr z))
      rw [g3] at e; cases e) (fun z => by
      obtain ⟨o, e⟩ := hl p ((hm p).mpr (.inl z))
      rw [g3] at e; cases e) sl
    exact h3 w' B2 ((i, p) :: ow) _ sl2 (by rw [List.map_cons, h1]) a2
end
end Pw
namespace Pw
open PySem PySem.Spec PyProof.Rows L2
/-! ## defs -/
def spOf (K : PySem.W.Frag) (G : Str → Addr) (n : Nat) (F : FSem) : Sp := fun vs H Q E => ∃ (w : Wd) (ds : List D) (st : Sto) (o : Res D × Sto),
  w.H = H ∧ StoOk K G w st ∧ RepL K G w vs ds ∧ ds.length = n ∧ F ds st = some o ∧ Out K G E w (fun w' d => ∀ v, Rep K G w' v d → Q v w'.H) o
/-- .. that hands back a new list -/
def spOfF (K : PySem.W.Frag) (G : Str → Addr) (n : Nat) (F : FSem) : Sp := fun vs H Q E => ∃ (w : Wd) (ds : List D) (st : Sto) (o : Res D × Sto),
  w.H = H ∧ StoOk K G w st ∧ RepL K G w vs ds ∧ ds.length = n ∧ F ds st = some o ∧ Out K G E w (fun w' d => ∀ v, New K G w w' v d → Q v w'.H) o
structure FnS (P : Program) (w : World) (K : PySem.W.Frag) (mg : Str → Option Value) (base : Heap) (G : Str → Addr) (k : Nat) (x : Str) (ps : List Str) (F : FSem) : Prop where
  ex : ∃ fd, FnOk P w K mg base (L2.CX P w) k (G x) fd ps (spOf K G ps.length F) ∧ Binds K fd ps []
  mg : mg x = some (.ref (G x))
  kp : PySem.W.keepIn K (.ref (G x)) = true
structure FnF (P : Program) (w : World) (K : PySem.W.Frag) (mg : Str → Option Value) (base : Heap) (G : Str → Addr) (k : Nat) (x : Str) (ps : List Str) (F : FSem) : Prop where
  ex : ∃ fd, FnOk P w K mg base (L2.CX P w) k (G x) fd ps (spOfF K G ps.length F) ∧ Binds K fd ps []
  mg : mg x = some (.ref (G x))
  kp : PySem.W.keepIn K (.ref (G x)) = true
theorem spOf_F {K : PySem.W.Frag} {G : Str → Addr} {n : Nat} {F : FSem} {vs : List V} {H : Hp} {Q : VK} {E : XK} (h : spOf K G n F vs H Q E) : spOfF K G n F vs H Q E := by
  obtain ⟨w, ds, st, o, h1, h2, h3, h4, h5, h6⟩ := h
  refine ⟨w, ds, st, o, h1, h2, h3, h4, h5, ?_⟩
  obtain ⟨r, st'⟩ := o
  cases r with
  | exn x l => exact h6
  | ok d =>
    intro w' l so v hv
    obtain ⟨A', l', so', r⟩ := new_rep hv l so h2.live
    exact h6 _ l' so' v r
theorem FnF.s {P : Program} {w : World} {K : PySem.W.Frag} {mg : Str → Option Value} {base : Heap} {G : Str → Addr} {k : Nat} {x : Str} {ps : List Str} {F : FSem} (h : FnF P w K mg base G k x ps F) : FnS P w K mg base G k x ps F := by
  obtain ⟨fd, h1, h2⟩ := h.ex
  exact ⟨⟨fd, h1.imp fun _ _ _ _ q => spOf_F q, h2⟩, h.mg, h.kp⟩
theorem FnS.mono {P : Program} {w : World} {K : PySem.W.Frag} {mg : Str → Option Value} {base : Heap} {G : Str → Addr} {j k : Nat} {x : Str} {ps : List Str} {F : FSem} (h : FnS P w K mg base G j x ps F) (hk : j ≤ k) : FnS P w K mg base G k x ps F := by
  obtain ⟨fd, h1, h2⟩ := h.ex
  exact ⟨⟨fd, h1.mono hk, h2⟩, h.mg, h.kp⟩
def mCall (F : FSem) (n : Nat) (mr : M (List D)) : M D := bnd mr fun ds => if ds.length = n then fun _ st => F ds st else lft none
abbrev Tk (X : Cx) (E : XK) : Prop := Takes X (fun c d _ H => E c d H)
section
variable {X : Cx} {G : Str → Addr} {E : XK} {fr : Bool} {Ol Os O1 Os' : List Nat} {e a b c : Expr} {es : List Expr} {m ma mb mc : M D} {mr : M (List D)} {pos p p2 p3 : Pos} {s : Stmt} {rest bd bd2 : List Stmt} {m1 m2 : S} {mt : M Bool}
theorem call_sp {F : FSem} {n : Nat} {w1 : Wd} {ds : List D} {σ : L2.St} {vs : List V} {Q : VK} {K : PySem.W.Frag} (r1 : rdW K G E Os (if ds.length = n then fun _ st => F ds st else lft none) (fun w' d => ∀ v, Rep K G w' v d → Q v w'.H) σ w1) (hvs : RepL K G w1 vs ds) : spOf K G n F vs w1.H Q E := by
  obtain ⟨ow, env, st, o, h1, h2, h3, h4, h5⟩ := r1
  by_cases hn : ds.length = n
  · rw [if_pos hn] at h4
    exact ⟨w1, ds, st, o, rfl, h2, hvs, hn, h4, h5⟩
  · rw [if_neg hn] at h4
    cases h4
theorem re_call {x : Str} {ps : List Str} {F : FSem} {k j n : Nat} (f : FnS X.prog X.w X.K X.mg X.base G k x ps F) (hr : Room j X.A) (tk : Tk X E) (ha : RA X G E Os (e :: es) mr) (hk : k ≤ j := by decide) (hn : ps.length = n := by rfl) (hg : Gl X x := by rfl) (hdb : (x == ("__debug__" : Str)) = false := by decide)
    (he : starEach (e :: es) X.env = (false, eval e X.env) :: starEach es X.env := by rfl) (hpl : (backTo pos (starEach es X.env)).any (·.1) = false := by rfl) : RE X G E Os (.Call (.Name x p) (e :: es) [] pos) (mCall F n mr) := by
  subst hn
  obtain ⟨fd, h1, h2⟩ := f.ex
  exact (pe_call h1 (hr.mono hk) hg f.mg f.kp h2 .nil (passes_call tk fun _ _ _ _ h => h) ha hdb he hpl).imp fun σ H Q ⟨w, hw, r⟩ => ⟨w, hw, r.bnd.mono fun w1 ds l1 r1 vs hvs => by
    show spOf X.K G ps.length F (vs ++ []) w1.H Q E
    rw [List.append_nil]
    exact call_sp r1 hvs⟩
theorem re_call0 {x : Str} {F : FSem} {k j : Nat} (f : FnS X.prog X.w X.K X.mg X.base G k x [] F) (hr : Room j X.A) (tk : Tk X E) (hk : k ≤ j := by decide) (hg : Gl X x := by rfl) (hdb : (x == ("__debug__" : Str)) = false := by decide) : RE X G E Os (.Call (.Name x p) [] [] pos) (mCall F 0 mNil) := by
  obtain ⟨fd, h1, h2⟩ := f.ex
  exact (pe_call0 h1 (hr.mono hk) hg f.mg f.kp h2 .nil (passes_call tk fun _ _ _ _ h => h) hdb).imp fun σ H Q ⟨w, hw, r⟩ => by
    obtain ⟨ow, env, st, o, h1, h2, h3, h4, h5⟩ := r
    subst hw
    exact ⟨w, [], st, o, rfl, h2, .nil, rfl, h4, h5⟩
/-- a def that hands back a new list -/
theorem rf_call {x : Str} {ps : List Str} {F : FSem} {k j n : Nat} (f : FnF X.prog X.w X.K X.mg X.base G k x ps F) (hr : Room j X.A) (tk : Tk X E) (ha : RA X G E Os (e :: es) mr) (hk : k ≤ j := by decide) (hn : ps.length = n := by rfl) (hg : Gl X x := by rfl) (hdb : (x == ("__debug__" : Str)) = false := by decide)
    (he : starEach (e :: es) X.env = (false, eval e X.env) :: starEach es X.env := by rfl) (hpl : (backTo pos (starEach es X.env)).any (·.1) = false := by rfl) : RF X G E Os (.Call (.Name x p) (e :: es) [] pos) (mCall F n mr) := by
  subst hn
  obtain ⟨fd, h1, h2⟩ := f.ex
  exact (pe_call h1 (hr.mono hk) hg f.mg f.kp h2 .nil (passes_call tk fun _ _ _ _ h => h) ha hdb he hpl).imp fun σ H Q ⟨w, hw, r⟩ => ⟨w, hw, r.bnd.mono fun w1 ds l1 r1 vs hvs => by
    show spOfF X.K G ps.length F (vs ++ []) w1.H Q E
    rw [List.append_nil]
    obtain ⟨ow, env, st, o, g1, g2, g3, g4, g5⟩ := r1
    by_cases hn : ds.length = ps.length
    · rw [if_pos hn] at g4
      refine ⟨w1, ds, st, o, rfl, g2, hvs, hn, g4, g5.mono fun w' d l h v hv => h v ?_⟩
      obtain ⟨p, xs, q, a1, a2, a3, a4, a5, a6, a7⟩ := hv
      exact ⟨p, xs, q, a1, a2, a3, a4, l1.fr.h p a5, a6, a7⟩
    · rw [if_neg hn] at g4
      cases g4⟩
/-! ## raise -/
def sRaise (x : Str) : S := fun _ st => some (.exn x [], st)
/-- an own exception class over ValueError, without an __init__ of its own -/
structure ExcS (K : PySem.W.Frag) (mg : Str → Option Value) (G : Str → Addr) (x : Str) : Prop where
  ex : PySem.W.excIn K (G x) He.veBase "ValueError.__new__" = true
  mg : mg x = some (.ref (G x))
  kp : PySem.W.keepIn K (.ref (G x)) = true
  sb : PySem.W.subIn K (.ref (G x)) (.type "BaseException") = some true
  ty : PySem.W.typeIn K (.ref (G x)) = some (.type "type")
/-- X() -/
theorem pmk_own0 {C : Addr} {bmB : List Value} {B newId initId : String} {x : Str} (F : ExcBaseFacts B newId initId bmB) (q : PySem.W.excIn X.K C bmB newId = true) (gC : X.mg x = some (.ref C)) (kC : PySem.W.keepIn X.K (.ref C) = true) (r : Raises X (.ref C)) (hg : Gl X x)
    (hdb : (x == ("__debug__" : Str)) = false := by decide) : PMk X (.Call (.Name x p) [] [] pos) (fun _ H Q => Q (.ref C) none H) := by
  intro pins s σ H Q I h
  refine wpAny_Call_Name_kw (ld_glob I hg gC ?_ hdb)
  refine PySem.W.callWith_K0 I.kIn kC ?_
  obtain ⟨bm, N, nm, qn, bs, hdct, sn, sub, ab, col, dd, k0, k1, k2, k3, k5, mN, hC, hN, hni, T⟩ := exc_obj I.kIn q
  refine wpAny_call_exc_subT F T hC hN hni (fun h' e hm => ?_) (by show 0 ≤ sizeLine; exact Nat.zero_le _)
  exact mk_of I hm r h (I.hok.gone hm.new)
theorem rs_raise {x : Str} (c : ExcS X.K X.mg G x) (tk : Tk X E) (hc : X.calm = true := by rfl) (hg : Gl X x := by rfl) (hdb : (x == ("__debug__" : Str)) = false := by decide) : RS X G E fr Ol Os Os' (.Raise (some (.Call (.Name x p) [] [] p2)) none pos) (sRaise x) :=
  (ps_raise hc tk (pmk_own0 PySem.F.excBase_ValueError c.ex c.mg c.kp (raises_own c.sb c.ty) hg hdb)).imp fun Dn σ H h => by
    obtain ⟨w, B, ow, env, st, o, h1, h2, h3, h4, h5⟩ := rdS_weak (O1 := []) h (fun _ z => nomatch z) List.nodup_nil
    cases h4
    have e : ow = [] := List.map_eq_nil_iff.mp h2
    subst e
    subst h1
    exact h5 w B _ none SLe.refl (fun x => by rw [h3.mem]; simp) h3.so (.plain x)
/-! ## own lists change -/
/-- the list of our slot i is rewritten -/
theorem At.rewrite {K : PySem.W.Frag} {w : Wd} {B : List Addr} {ow : Ow} {σ : L2.St} {env : Env} {st : Sto} {i : Nat} {p : Addr} {ys : List V} {l : List D} (a : At K G w B ow σ env st) (hp : (i, p) ∈ ow) (r : RepL K G w ys l) :
    At K G { w with H := upd w.H p (.lst ys) } B ow σ (env.set i (some (.lst l))) st ∧ SLe K w B ow { w with H := upd w.H p (.lst ys) } B ow := by
  obtain ⟨⟨h1, h2⟩, xs, l0, e1, e2, e3, r0⟩ := a.en.own _ hp
  have le : Le K [p] w { w with H := upd w.H p (.lst ys) } := ⟨⟨[], by simp, by simp⟩, fun _ h => h, fun _ h => .inl h, Fr.mut e3⟩
  have hC : ∀ c ∈ [p], c ∈ w.A := fun c hc => by rw [List.mem_singleton.mp hc]; exact h1
  have uniq : ∀ q ∈ ow, q.1 = i → q = (i, p) := fun q hq e => by
    obtain ⟨i1, hi1, g1⟩ := List.getElem_of_mem hq
    obtain ⟨i2, hi2, g2⟩ := List.getElem_of_mem hp
    have hl1 : i1 < (ow.map (·.1)).length := by rw [List.length_map]; exact hi1
    have hl2 : i2 < (ow.map (·.1)).length := by rw [List.length_map]; exact hi2
    have : i1 = i2 := (List.getElem_inj (h₀ := hl1) (h₁ := hl2) a.nd1).mp (by rw [List.getElem_map, List.getElem_map, g1, g2]; exact e)
    subst this
    rw [← g1, ← g2]
  have uniq2 : ∀ q ∈ ow, q.2 = p → q = (i, p) := fun q hq e => by
    obtain ⟨i1, hi1, g1⟩ := List.getElem_of_mem hq
    obtain ⟨i2, hi2, g2⟩ := List.getElem_of_mem hp
    have hl1 : i1 < (ow.map (·.2)).length := by rw [List.length_map]; exact hi1
    have hl2 : i2 < (ow.map (·.2)).length := by rw [List.length_map]; exact hi2
    have : i1 = i2 := (List.getElem_inj (h₀ := hl1) (h₁ := hl2) a.nd).mp (by rw [List.getElem_map, List.getElem_map, g1, g2]; exact e)
    subst this
    rw [← g1, ← g2]
  have hlt : i < env.length := (List.getElem?_eq_some_iff.mp e1).1
  refine ⟨⟨a.mem, a.nb, a.asB, a.nd, a.nd1, ⟨a.so.len, a.so.nd, a.so.sub, fun x hx => ?_, fun k c e => ?_⟩, ⟨by rw [List.length_set]; exact a.en.len, fun q hq => ?_, fun j d e hj => ?_⟩⟩, ⟨⟨[], by simp, by simp⟩, fun _ h => h, fun _ h => .inl h, le.fr.sub fun x hx => ?_, fun q hq => .inl (List.mem_map_of_mem hq)⟩⟩
  · obtain ⟨o, e⟩ := a.so.live x hx
    by_cases q : x = p
    · subst q; exact ⟨_, upd_same⟩
    · exact ⟨o, by show upd w.H p _ x = _; rw [upd_ne q]; exact e⟩
  · obtain ⟨x, g1, r'⟩ := a.so.at_ k c e
    have nx : x ≠ p := fun z => h2 (by rw [← z]; exact List.mem_of_getElem? g1)
    refine ⟨x, g1, ?_⟩
    cases r' with
    | lst e5 r' => exact .lst (by show upd w.H p _ x = _; rw [upd_ne nx]; exact e5) (RepL.le le hC r')
    | ins e5 e6 r' => exact .ins (by show upd w.H p _ x = _; rw [upd_ne nx]; exact e5) e6 (RepL.le le hC r')
  · by_cases qi : q.1 = i
    · have := uniq q hq qi
      subst this
      exact ⟨⟨h1, h2⟩, ys, l, List.getElem?_set_self hlt, e2, upd_same, RepL.le le hC r⟩
    · obtain ⟨⟨g1, g2⟩, zs, l', f1, f2, f3, r'⟩ := a.en.own q hq
      have nq : q.2 ≠ p := fun z => qi (by rw [uniq2 q hq z])
      exact ⟨⟨g1, g2⟩, zs, l', by rw [List.getElem?_set_ne (Ne.symm qi)]; exact f1, f2, by show upd w.H p _ q.2 = _; rw [upd_ne nq]; exact f3, RepL.le le hC r'⟩
  · have nj : j ≠ i := fun z => hj (i, p) hp z.symm
    rw [List.getElem?_set_ne (Ne.symm nj)] at e
    obtain ⟨v, f1, r'⟩ := a.en.var j d e hj
    exact ⟨v, f1, Rep.le le hC r'⟩
  · rw [List.mem_singleton.mp hx]
    exact List.mem_append_right _ (List.mem_map_of_mem hp)
theorem own_of {K : PySem.W.Frag} {w : Wd} {B : List Addr} {ow : Ow} {σ : L2.St} {env : Env} {st : Sto} {i : Nat} (a : At K G w B ow σ env st) (h : ow.map (·.1) = Os) (hi : Os.contains i = true) :
    ∃ p xs l, (i, p) ∈ ow ∧ env[i]? = some (some (.lst l)) ∧ σ[i]? = some (some (.ref p)) ∧ w.H p = some (.lst xs) ∧ RepL K G w xs l := by
  have hm : i ∈ ow.map (·.1) := by rw [h]; exact List.contains_iff_mem.mp hi
  obtain ⟨⟨i', p⟩, hq, rfl⟩ := List.mem_map.mp hm
  obtain ⟨_, xs, l, e1, e2, e3, r⟩ := a.en.own _ hq
  exact ⟨p, xs, l, hq, e1, e2, e3, r⟩
/-- x.append(e) -/
def sApp (i : Nat) (me : M D) : S := sEx me fun d env st => match env[i]? with
  | some (some (.lst l)) => if l.length < sizeLine then some (.nx (env.set i (some (.lst (l ++ [d])))), st) else none
  | _ => none
theorem rs_app (i : Nat) {x : Str} {apos : Pos} (he : RE X G E Os e m) (hO : Os.contains i = true := by rfl) (hN : X.N[i]? = some x := by rfl) (hv : Vis X.env.scope x := by first | exact Or.inl rfl | exact Or.inr (Or.inl rfl) | exact Or.inr (Or.inr rfl))
    (hs : swapsWith (.Call (.Attribute (.Name x p2) "append" apos) [e] [] pos) none p.line X.env = pure false := by rfl) (hd : (x == ("__debug__" : Str)) = false := by decide) (hcd : (x == ("__classdict__" : Str)) = false := by decide)
    (hbase : attributeBase (.Name x p2) "append" X.env (eval (.Name x p2) X.env) = eval (.Name x p2) X.env := by rfl)
    (hfew : ((backTo pos (starEach [e] X.env)).all (fun x => !x.1) && (backToKw pos (keywordEach [] X.env)).all (fun x => x.1.isSome) && decide (([e] : List Expr).length + ([] : List Keyword).length + (if ([] : List Keyword).isEmpty then 0 else 1) < 30)) = true := by rfl)
    (hline : (apos.endLine == pos.line) = true := by rfl) (hst : starEach [e] X.env = (false, eval e X.env) :: starEach [] X.env := by rfl) :
    RS X G E fr Ol Os Os (.Expr (.Call (.Attribute (.Name x p2) "append" apos) [e] [] pos) p) (sApp i m) :=
  (ps_expr (pe_bm PySem.F.plainAttrs_list PySem.F.slot_list_append PySem.F.type_list_append mt_append (pe_var hN hv hd hcd) (pa_cons he pa_nil hst) hbase hfew hline hst rfl) hs).imp fun Dn σ H h => by
    obtain ⟨w0, B0, ow0, env0, st0, o0, h1, h2, h3, h4, h5⟩ := id h
    obtain ⟨p, xs, l, g1, g2, g3, g4, g5⟩ := own_of h3 h2 hO
    obtain ⟨w, hw, r⟩ := ex_go h
    subst h1
    refine ⟨.ref p, g3, .inl ⟨rfl, xs, .of g4⟩, w, hw, r.mono fun w' d le ⟨B', ow, env, st', o, k1, a, k2, k3⟩ v hv => ?_⟩
    obtain ⟨p', xs', l', q1, q2, q3, q4, q5⟩ := own_of a k1 hO
    rw [g3] at q3
    cases q3
    rw [q2] at k2
    have k2' : (if l'.length < sizeLine then some (Fl.nx (env.set i (some (.lst (l' ++ [d])))), st') else none) = some o := k2
    obtain ⟨hz, rfl⟩ := ite_some k2'
    obtain ⟨a2, sl⟩ := a.rewrite q1 (q5.append (.cons hv .nil))
    exact ⟨p, xs', v, rfl, rfl, q4, by rw [q5.length]; exact hz, k3 _ B' ow σ sl k1 a2⟩
/-- x.extend(e), e a list -/
def sExt (i : Nat) (me : M D) : S := sEx me fun d env st => match d with
  | .lst r => (match env[i]? with
    | some (some (.lst l)) => if l.length + r.length ≤ sizeLine then some (.nx (env.set i (some (.lst (l ++ r)))), st) else none
    | _ => none)
  | _ => none
theorem rs_ext (i : Nat) {x : Str} {apos : Pos} (he : RE X G E Os e m) (hO : Os.contains i = true := by rfl) (hN : X.N[i]? = some x := by rfl) (hv : Vis X.env.scope x := by first | exact Or.inl rfl | exact Or.inr (Or.inl rfl) | exact Or.inr (Or.inr rfl))
    (hs : swapsWith (.Call (.Attribute (.Name x p2) "extend" apos) [e] [] pos) none p.line X.env = pure false := by rfl) (hd : (x == ("__debug__" : Str)) = false := by decide) (hcd : (x == ("__classdict__" : Str)) = false := by decide)
    (hbase : attributeBase (.Name x p2) "extend" X.env (eval (.Name x p2) X.env) = eval (.Name x p2) X.env := by rfl)
    (hfew : ((backTo pos (starEach [e] X.env)).all (fun x => !x.1) && (backToKw pos (keywordEach [] X.env)).all (fun x => x.1.isSome) && decide (([e] : List Expr).length + ([] : List Keyword).length + (if ([] : List Keyword).isEmpty then 0 else 1) < 30)) = true := by rfl)
    (hline : (apos.endLine == pos.line) = true := by rfl) (hst : starEach [e] X.env = (false, eval e X.env) :: starEach [] X.env := by rfl) :
    RS X G E fr Ol Os Os (.Expr (.Call (.Attribute (.Name x p2) "extend" apos) [e] [] pos) p) (sExt i m) :=
  (ps_expr (pe_bm PySem.F.plainAttrs_list PySem.F.slot_list_extend PySem.F.type_list_extend mt_extend (pe_var hN hv hd hcd) (pa_cons he pa_nil hst) hbase hfew hline hst rfl) hs).imp fun Dn σ H h => by
    obtain ⟨w0, B0, ow0, env0, st0, o0, h1, h2, h3, h4, h5⟩ := id h
    obtain ⟨p, xs, l, g1, g2, g3, g4, g5⟩ := own_of h3 h2 hO
    obtain ⟨w, hw, r⟩ := ex_go h
    subst h1
    refine ⟨.ref p, g3, .inl ⟨rfl, xs, .of g4⟩, w, hw, r.mono fun w' d le ⟨B', ow, env, st', o, k1, a, k2, k3⟩ v hv => ?_⟩
    obtain ⟨p', xs', l', q1, q2, q3, q4, q5⟩ := own_of a k1 hO
    rw [g3] at q3
    cases q3
    cases hv with
    | @lst p2 xs2 r1 b1 b2 b3 =>
      have k2' : (match env[i]? with
        | some (some (.lst l)) => if l.length + r1.length ≤ sizeLine then some (Fl.nx (env.set i (some (.lst (l ++ r1)))), st') else none
        | _ => none) = some o := k2
      rw [q2] at k2'
      have k2'' : (if l'.length + r1.length ≤ sizeLine then some (Fl.nx (env.set i (some (.lst (l' ++ r1)))), st') else none) = some o := k2'
      obtain ⟨hz, rfl⟩ := ite_some k2''
      obtain ⟨a2, sl⟩ := a.rewrite q1 (q5.append b3)
      exact ⟨p, _, xs', _, rfl, rfl, q4, b2, by rw [q5.length, b3.length]; exact hz, k3 _ B' ow σ sl k1 a2⟩
    | _ => cases k2
end
end Pw
namespace Pw
open PySem PySem.Spec PyProof.Rows L2
/-! ## the entry of a def -/
def fnSem (n N : Nat) (body : S) : FSem := fun ds st => if ds.length = n then (match body (ds.map some ++ List.replicate (N - ds.length) none) st with
  | some (.rt d, st') => some (.ok d, st')
  | some (.nx _, st') => some (.ok .non, st')
  | some (.exn x l, st') => some (.exn x l, st')
  | _ => none) else none
section
variable {P : Program} {w : World} {K : PySem.W.Frag} {mg : Str → Option Value} {base : Heap} {G : Str → Addr}
theorem env_start {wd : Wd} {N : List Str} {vs : List V} {ds : List D} (r : RepL K G wd vs ds) (hl : ds.length ≤ N.length) : EnvOk K G wd [] (L2.start N vs) (ds.map some ++ List.replicate (N.length - ds.length) none) := by
  refine ⟨?_, fun p hp => (nomatch hp), fun i d e _ => ?_⟩
  · unfold L2.start
    rw [List.length_append, List.length_append, List.length_map, List.length_map, List.length_replicate, List.length_replicate, r.length]
  · by_cases hi : i < ds.length
    · rw [List.getElem?_append_left (by simpa using hi), List.getElem?_map] at e
      obtain ⟨d', e1, e2⟩ := Option.map_eq_some_iff.mp e
      cases e2
      obtain ⟨v, e3, r'⟩ := r.get' e1
      refine ⟨v, ?_, r'⟩
      unfold L2.start
      rw [List.getElem?_append_left (by rw [List.length_map, r.length]; exact hi), List.getElem?_map, e3]
      rfl
    · rw [List.getElem?_append_right (by simpa using hi), List.getElem?_replicate] at e
      split at e <;> cases e
theorem run_go {fr : Bool} {N : List Str} {n : Nat} {m : S} {Os' : List Nat} {vs : List V} {H : Hp} {Q : VK} {E : XK} {wd : Wd} {ds : List D} {st : Sto} {o : Res D × Sto} (hw : wd.H = H) (so : StoOk K G wd st) (r : RepL K G wd vs ds) (hn : ds.length = n) (hN : n ≤ N.length)
    (hF : fnSem n N.length m ds st = some o) (ho : Out K G E wd (fun w' d => ∀ v, Ret K G fr wd w' v d → Q v w'.H) o) (hf : fr = true → ∀ env st', m (ds.map some ++ List.replicate (N.length - ds.length) none) st ≠ some (.nx env, st')) :
    rdS K G E fr [] [] Os' m { nx := fun _ H' => Q .non H', rt := Q } (L2.start N vs) H := by
  unfold fnSem at hF
  rw [if_pos hn] at hF
  cases q : m (ds.map some ++ List.replicate (N.length - ds.length) none) st with
  | none => rw [q] at hF; cases hF
  | some r' =>
    refine ⟨wd, wd.A, [], _, st, r', hw, rfl, ⟨fun a => by simp, fun _ z => (nomatch z), so.sub, List.nodup_nil, List.nodup_nil, so, env_start r (by omega)⟩, q, ?_⟩
    rw [q] at hF
    have le : ∀ {w' : Wd} {B' : List Addr} {ow' : Ow}, SLe K wd wd.A [] w' B' ow' → (∀ a, a ∈ w'.A ↔ a ∈ B') → Le K wd.as wd w' := fun {w' B' ow'} s e =>
      ⟨s.n, fun a ha => (e a).mpr (s.up a ha), fun a ha => (s.dn a ((e a).mp ha)).elim .inl fun z => z.elim (fun y => absurd y (by simp)) .inr, s.fr.sub (by simp)⟩
    obtain ⟨f, st'⟩ := r'
    cases f with
    | nx e =>
      cases hF
      intro w' B' ow' σ' s _ a
      cases fr with
      | true => exact absurd q (hf rfl _ _)
      | false =>
        have a2 := a.drop [] (fun _ z => nomatch z) List.nodup_nil List.nodup_nil
        exact ho { w' with A := B' ++ [] } (le (B' := B') (ow' := []) (s.trans (SLe.drop fun _ z => nomatch z)) fun x => by simp) a2.so _ .non
    | bk e => cases hF
    | ct e => cases hF
    | rt d =>
      cases hF
      exact fun w' B' v s e so' rv => ho w' (le s e) so' v rv
    | exn x l =>
      cases hF
      exact fun w' B' c dd s e so' rv => ho w' c dd (le s e) so' rv
theorem fnO_mk {x : Str} {st : Stmt} {fd : FuncData} {N ps : List Str} {k : Nat} {m : S} {Os' : List Nat} (F : Fun K x x st (G x) fd) (hS : FnScope N ps (defScope st))
    (body : ∀ (cdv : Value) (A : Around) (outer : List PySem.Env) (s : Shared) (H : Hp) (E : XK), Room k (A.deeper (envOfC x (defScope st) s.heap.objs.size (G x) cdv)) →
      Tk (cxOf (L2.CX P w) P w K mg base N x (defScope st) (G x) cdv A outer s H E) E → PassesOwn (model P w) (A.deeper (envOfC x (defScope st) s.heap.objs.size (G x) cdv)) (envOfC x (defScope st) s.heap.objs.size (G x) cdv) (cxOf (L2.CX P w) P w K mg base N x (defScope st) (G x) cdv A outer s H E).xe → RSs (cxOf (L2.CX P w) P w K mg base N x (defScope st) (G x) cdv A outer s H E) G E false [] [] Os' (defBody st) m) :
    FnOk P w K mg base (L2.CX P w) (k + 1) (G x) fd ps (spOf K G ps.length (fnSem ps.length N.length m)) := by
  have hpl : ps.length ≤ N.length := by
    have := congrArg List.length hS.pre
    rw [List.length_take] at this
    omega
  refine F.okX hS (fun vs H Q E h => ?_) (fun cdv A outer s H vs Q E hr h => ⟨_, body cdv A outer s H E hr (takes_of rfl rfl rfl rfl) (passes_of (X := cxOf (L2.CX P w) P w K mg base N x (defScope st) (G x) cdv A outer s H E) rfl), ?_⟩)
  · obtain ⟨_, ds, _, _, _, _, r, hn, _⟩ := h
    rw [r.length, hn]
  · obtain ⟨wd, ds, st, o, h1, h2, h3, h4, h5, h6⟩ := h
    exact run_go h1 h2 h3 h4 hpl h5 h6 (fun z => nomatch z)
theorem fnS_mk {x : Str} {st : Stmt} {fd : FuncData} {N ps : List Str} {k : Nat} {m : S} {Os' : List Nat} (F : Fun K x x st (G x) fd) (hS : FnScope N ps (defScope st)) (hmg : mg x = some (.ref (G x))) (hb : Binds K fd ps [])
    (body : ∀ (cdv : Value) (A : Around) (outer : List PySem.Env) (s : Shared) (H : Hp) (E : XK), Room k (A.deeper (envOfC x (defScope st) s.heap.objs.size (G x) cdv)) →
      Tk (cxOf (L2.CX P w) P w K mg base N x (defScope st) (G x) cdv A outer s H E) E → PassesOwn (model P w) (A.deeper (envOfC x (defScope st) s.heap.objs.size (G x) cdv)) (envOfC x (defScope st) s.heap.objs.size (G x) cdv) (cxOf (L2.CX P w) P w K mg base N x (defScope st) (G x) cdv A outer s H E).xe → RSs (cxOf (L2.CX P w) P w K mg base N x (defScope st) (G x) cdv A outer s H E) G E false [] [] Os' (defBody st) m) :
    FnS P w K mg base G (k + 1) x ps (fnSem ps.length N.length m) := by exact ⟨⟨fd, fnO_mk F hS body, hb⟩, hmg, F.kp⟩
/-- the same for a def that hands back a new list: it never falls off its end -/
theorem fnF_mk {x : Str} {st : Stmt} {fd : FuncData} {N ps : List Str} {k : Nat} {m : S} {Os' : List Nat} (F : Fun K x x st (G x) fd) (hS : FnScope N ps (defScope st)) (hmg : mg x = some (.ref (G x))) (hb : Binds K fd ps []) (hf : ∀ env st env' st', m env st ≠ some (.nx env', st'))
    (body : ∀ (cdv : Value) (A : Around) (outer : List PySem.Env) (s : Shared) (H : Hp) (E : XK), Room k (A.deeper (envOfC x (defScope st) s.heap.objs.size (G x) cdv)) →
      Tk (cxOf (L2.CX P w) P w K mg base N x (defScope st) (G x) cdv A outer s H E) E → PassesOwn (model P w) (A.deeper (envOfC x (defScope st) s.heap.objs.size (G x) cdv)) (envOfC x (defScope st) s.heap.objs.size (G x) cdv) (cxOf (L2.CX P w) P w K mg base N x (defScope st) (G x) cdv A outer s H E).xe → RSs (cxOf (L2.CX P w) P w K mg base N x (defScope st) (G x) cdv A outer s H E) G E true [] [] Os' (defBody st) m) :
    FnF P w K mg base G (k + 1) x ps (fnSem ps.length N.length m) := by
  have hpl : ps.length ≤ N.length := by
    have := congrArg List.length hS.pre
    rw [List.length_take] at this
    omega
  refine ⟨⟨fd, F.okX hS (fun vs H Q E h => ?_) (fun cdv A outer s H vs Q E hr h => ⟨_, body cdv A outer s H E hr (takes_of rfl rfl rfl rfl) (passes_of (X := cxOf (L2.CX P w) P w K mg base N x (defScope st) (G x) cdv A outer s H E) rfl), ?_⟩), hb⟩, hmg, F.kp⟩
  · obtain ⟨_, ds, _, _, _, _, r, hn, _⟩ := h
    rw [r.length, hn]
  · obtain ⟨wd, ds, st, o, h1, h2, h3, h4, h5, h6⟩ := h
    exact run_go h1 h2 h3 h4 hpl h5 h6 (fun _ _ _ => hf _ _ _ _)
end
/-! ## a, b = x, y -/
inductive ParL (K : PySem.W.Frag) (G : Str → Addr) (w w' : Wd) : List Bool → List V → List D → List Addr → Prop
  | nil : ParL K G w w' [] [] [] []
  | val {fs : List Bool} {v : V} {vs : List V} {d : D} {ds : List D} {ps : List Addr} : Rep K G w' v d → ParL K G w w' fs vs ds ps → ParL K G w w' (false :: fs) (v :: vs) (d :: ds) ps
  | new {fs : List Bool} {p : Addr} {xs vs : List V} {l ds : List D} {ps : List Addr} : p ∈ w'.A → p ∉ w'.as → w.H p = none → w'.H p = some (.lst xs) → RepL K G w' xs l → p ∉ ps → ParL K G w w' fs vs ds ps → ParL K G w w' (true :: fs) (.ref p :: vs) (.lst l :: ds) (p :: ps)
theorem ParL.pre {K : PySem.W.Frag} {G : Str → Addr} {w w1 w' : Wd} (h : ∀ a, w1.H a = none → w.H a = none) : ∀ {fs : List Bool} {vs : List V} {ds : List D} {ps : List Addr}, ParL K G w1 w' fs vs ds ps → ParL K G w w' fs vs ds ps
  | _, _, _, _, .nil => .nil
  | _, _, _, _, .val r t => .val r (ParL.pre h t)
  | _, _, _, _, .new a b c d e f t => .new a b (h _ c) d e f (ParL.pre h t)
theorem ParL.fresh {K : PySem.W.Frag} {G : Str → Addr} {w w' : Wd} : ∀ {fs : List Bool} {vs : List V} {ds : List D} {ps : List Addr}, ParL K G w w' fs vs ds ps → ∀ p ∈ ps, w.H p = none
  | _, _, _, _, .nil => fun _ h => nomatch h
  | _, _, _, _, .val r t => ParL.fresh t
  | _, _, _, _, .new a b c d e f t => fun p hp => (List.mem_cons.mp hp).elim (fun z => z ▸ c) (ParL.fresh t p)
theorem ParL.length {K : PySem.W.Frag} {G : Str → Addr} {w w' : Wd} : ∀ {fs : List Bool} {vs : List V} {ds : List D} {ps : List Addr}, ParL K G w w' fs vs ds ps → vs.length = ds.length ∧ fs.length = ds.length
  | _, _, _, _, .nil => ⟨rfl, rfl⟩
  | _, _, _, _, .val r t => by have := ParL.length t; simp [this.1, this.2]
  | _, _, _, _, .new a b c d e f t => by have := ParL.length t; simp [this.1, this.2]
def rdP (K : PySem.W.Frag) (G : Str → Addr) (E : XK) (Os : List Nat) (fs : List Bool) (m : M (List D)) : TA := fun σ H Q => ∃ w : Wd, w.H = H ∧ rdW K G E Os m (fun w' ds => ∀ vs ps, ParL K G w w' fs vs ds ps → Q vs w'.H) σ w
abbrev RP (X : Cx) (G : Str → Addr) (E : XK) (Os : List Nat) (fs : List Bool) (es : List Expr) (m : M (List D)) : Prop := PA X es (rdP X.K G E Os fs m)
def setE : Env → List Nat → List D → Env
  | env, i :: is, d :: ds => setE (env.set i (some d)) is ds
  | env, _, _ => env
def setV : L2.St → List Nat → List V → L2.St
  | σ, i :: is, v :: vs => setV (σ.set i (some v)) is vs
  | σ, _, _ => σ
def ownP : List Nat → List Nat → List Bool → List Nat
  | Os, i :: is, true :: fs => ownP (i :: Os) is fs
  | Os, _ :: is, false :: fs => ownP Os is fs
  | Os, _, _ => Os
def sPar (is : List Nat) (mr : M (List D)) : S := fun env st => match mr env st with
  | some (.ok ds, st') => if ds.length = is.length ∧ is.all (fun i => decide (i < env.length)) = true then some (.nx (setE env is ds), st') else none
  | some (.exn x l, st') => some (.exn x l, st')
  | none => none
section
variable {X : Cx} {G : Str → Addr} {E : XK} {fr : Bool} {Ol Os O1 Os' : List Nat} {e a b c : Expr} {es : List Expr} {m ma mb mc : M D} {mr : M (List D)} {pos p p2 p3 : Pos} {s : Stmt} {rest bd bd2 : List Stmt} {m1 m2 : S} {mt : M Bool} {fs : List Bool}
theorem rp_nil : RP X G E Os [] [] mNil := pa_nil.imp fun σ H Q ⟨w, hw, r⟩ => by
  obtain ⟨ow, env, st, o, h1, h2, h3, h4, h5⟩ := r
  cases h4
  subst hw
  exact h5 w Le.refl h2 [] [] .nil
theorem rp_val (ha : RE X G E Os e m) (hr : RP X G E Os fs es mr) (hs : starEach (e :: es) X.env = (false, eval e X.env) :: starEach es X.env := by rfl) : RP X G E Os (false :: fs) (e :: es) (mCons m mr) :=
  (pa_cons ha hr hs).imp fun σ H Q ⟨w, hw, r⟩ => ⟨w, hw, r.bnd.mono fun w1 x l1 r1 v hv => ⟨w1, rfl, r1.bnd.mono fun w2 xs l2 r2 vs ps hvs => by
    obtain ⟨y, st, e1, so, q⟩ := r2.lft
    cases e1
    exact q w2 Le.refl so (v :: vs) ps (.val (hv.le l2 r1.sub) (hvs.pre l1.fr.h))⟩⟩
theorem rp_new (ha : RF X G E Os e m) (hr : RP X G E Os fs es mr) (hs : starEach (e :: es) X.env = (false, eval e X.env) :: starEach es X.env := by rfl) : RP X G E Os (true :: fs) (e :: es) (mCons m mr) :=
  (pa_cons ha hr hs).imp fun σ H Q ⟨w, hw, r⟩ => ⟨w, hw, r.bnd.mono fun w1 x l1 r1 v hv => ⟨w1, rfl, r1.bnd.mono fun w2 xs l2 r2 vs ps hvs => by
    obtain ⟨y, st, e1, so, q⟩ := r2.lft
    cases e1
    obtain ⟨p, ys, l, rfl, rfl, g1, g2, g3, g4, g5⟩ := hv
    refine q w2 Le.refl so (.ref p :: vs) (p :: ps) (.new (l2.up _ g1) (fun z => ?_) g3 (l2.fr.o _ _ g4 g2) (RepL.le l2 r1.sub g5) (fun z => ?_) (hvs.pre l1.fr.h))
    · obtain ⟨n, e1, e2⟩ := l2.n
      rw [e1] at z
      rcases List.mem_append.mp z with z | z
      · exact g2 z
      · have := e2 _ z
        rw [g4] at this
        cases this
    · have := hvs.fresh p z
      rw [g4] at this
      cases this⟩⟩
theorem setE_length : ∀ (is : List Nat) (ds : List D) (env : Env), (setE env is ds).length = env.length
  | [], _, _ => by unfold setE; rfl
  | _ :: _, [], _ => by unfold setE; rfl
  | i :: is, d :: ds, env => by unfold setE; rw [setE_length is ds, List.length_set]
theorem par_set {K : PySem.W.Frag} {w0 w : Wd} {B0 : List Addr} {ow0 : Ow} {st : Sto} (hlive : ∀ a ∈ B0, ∃ o, w0.H a = some o) : ∀ {fs : List Bool} {vs : List V} {ds : List D} {ps : List Addr}, ParL K G w0 w fs vs ds ps → ∀ (is : List Nat) (Os : List Nat) (B : List Addr) (ow : Ow) (σ : L2.St) (env : Env),
    is.length = ds.length → is.all (fun i => decide (i < env.length)) = true → is.Nodup → (∀ i ∈ is, i ∉ Os) → ow.map (·.1) = Os → (∀ p ∈ ps, p ∉ ow.map (·.2)) → At K G w B ow σ env st → SLe K w0 B0 ow0 w B ow →
    ∃ B' ow', ow'.map (·.1) = ownP Os is fs ∧ At K G w B' ow' (setV σ is vs) (setE env is ds) st ∧ SLe K w0 B0 ow0 w B' ow'
  | _, _, _, _, .nil, is, Os, B, ow, σ, env, hl, _, _, _, ho, _, a, sl => by
    have e : is = [] := List.eq_nil_of_length_eq_zero hl
    subst e
    exact ⟨B, ow, ho, a, sl⟩
  | _, _, _, _, .val (v := v) (d := d) r t, [], Os, B, ow, σ, env, hl, _, _, _, ho, _, a, sl => by cases hl
  | _, _, _, _, .val (v := v) (d := d) r t, i :: is, Os, B, ow, σ, env, hl, hb, nd, hd, ho, hp, a, sl => by
    rw [List.all_cons, Bool.and_eq_true] at hb
    have hn : ∀ q ∈ ow, q.1 ≠ i := fun q hq z => hd i List.mem_cons_self (by rw [← ho, ← z]; exact List.mem_map_of_mem hq)
    exact par_set hlive t is Os B ow (σ.set i (some v)) (env.set i (some d)) (by simpa using hl) (by rw [List.length_set]; exact hb.2) (List.nodup_cons.mp nd).2 (fun j hj => hd j (List.mem_cons_of_mem _ hj)) ho hp ⟨a.mem, a.nb, a.asB, a.nd, a.nd1, a.so, a.en.set hn r⟩ sl
  | _, _, _, _, .new h1 h2 h3 h4 h5 h6 t, [], Os, B, ow, σ, env, hl, _, _, _, ho, _, a, sl => by cases hl
  | _, _, _, _, .new (p := p) (l := l) h1 h2 h3 h4 h5 h6 t, i :: is, Os, B, ow, σ, env, hl, hb, nd, hd, ho, hp, a, sl => by
    rw [List.all_cons, Bool.and_eq_true] at hb
    have hn : ∀ q ∈ ow, q.1 ≠ i := fun q hq z => hd i List.mem_cons_self (by rw [← ho, ← z]; exact List.mem_map_of_mem hq)
    obtain ⟨B2, a2, sl2⟩ := a.own hn (of_decide_eq_true hb.1) h1 h2 h3 h4 h5 (hp p List.mem_cons_self) (fun z => by
      obtain ⟨o, e⟩ := hlive p z
      rw [h3] at e
      cases e) sl
    refine par_set hlive t is (i :: Os) B2 ((i, p) :: ow) _ _ (by simpa using hl) (by rw [List.length_set]; exact hb.2) (List.nodup_cons.mp nd).2 (fun j hj z => ?_) (by rw [List.map_cons, ho]) (fun q hq z => ?_) a2 sl2
    · rcases List.mem_cons.mp z with z | z
      · exact (List.nodup_cons.mp nd).1 (z ▸ hj)
      · exact hd j (List.mem_cons_of_mem _ hj) z
    · rw [List.map_cons, List.mem_cons] at z
      rcases z with z | z
      · exact h6 (by have z2 : q = p := z; rw [← z2]; exact hq)
      · exact hp q (List.mem_cons_of_mem _ hq) z
theorem par_go {K : PySem.W.Frag} {Dn : Ends} {σ : L2.St} {H : Hp} {is : List Nat} (nd : is.Nodup) (hd : ∀ i ∈ is, i ∉ Os) (h : rdS K G E fr Ol Os (ownP Os is fs) (sPar is mr) Dn σ H) :
    rdP K G E Os fs mr σ H fun vs H1 => vs.length = is.length ∧ Dn.nx (setV σ is vs) H1 := by
  obtain ⟨w, B, ow, env, st, o, h1, h2, h3, h4, h5⟩ := h
  unfold sPar at h4
  cases q : mr env st with
  | none => rw [q] at h4; cases h4
  | some r =>
    rw [q] at h4
    refine ⟨w, h1, ow, env, st, r, h2, h3.so, h3.en, q, ?_⟩
    obtain ⟨r, st'⟩ := r
    cases r with
    | exn x l =>
      cases h4
      exact exn_out h3 h5 _
    | ok ds =>
      intro w' l so vs ps hp
      obtain ⟨⟨hl, hb⟩, rfl⟩ := ite_some (show (if ds.length = is.length ∧ is.all (fun i => decide (i < env.length)) = true then some (Fl.nx (setE env is ds), st') else none) = some o from h4)
      obtain ⟨B', a', sl⟩ := h3.le l so
      have liv : ∀ a ∈ B, ∃ o, w.H a = some o := fun a ha => h3.so.live a ((h3.mem a).mpr (.inl ha))
      obtain ⟨B2, ow2, e2, a2, sl2⟩ := par_set liv hp is Os B' ow σ env hl.symm hb nd hd h2 (fun p hp' z => by
        obtain ⟨o, e⟩ := h3.so.live p ((h3.mem p).mpr (.inr z))
        rw [hp.fresh p hp'] at e
        cases e) a' sl
      exact ⟨by rw [hp.length.1, hl], h5 w' B2 ow2 _ sl2 e2 a2⟩
theorem rs_par2 (i j : Nat) {x y : Str} {px py pt pt2 : Pos} {kt k2} (hc : X.calm = true) (hN : X.N.Nodup) (ha : RP X G E Os fs [a, b] mr) (hw : swappedStores [.Tuple [.Name x px, .Name y py] kt pt] (.Tuple [a, b] k2 pt2) X.env = pure (some [x, y]))
    (hi : X.N[i]? = some x := by rfl) (hj : X.N[j]? = some y := by rfl) (hij : i ≠ j := by decide) (hx : X.env.scope.names.lookup x = some .local := by rfl) (hy : X.env.scope.names.lookup y = some .local := by rfl) (hO : (Os.contains i || Os.contains j) = false := by rfl)
    (hs : swapsWithSole [.Tuple [.Name x px, .Name y py] kt pt] (.Tuple [a, b] k2 pt2) pos.line X.env = pure false := by rfl) : RS X G E fr Ol Os (ownP Os [i, j] fs) (.Assign [.Tuple [.Name x px, .Name y py] kt pt] (.Tuple [a, b] k2 pt2) pos) (sPar [i, j] mr) :=
  (ps_par hc hN hi hj hij hx hy ha hw hs).imp fun Dn σ H h => by
    have hd : ∀ l ∈ [i, j], l ∉ Os := fun l hl z => by
      rw [Bool.or_eq_false_iff] at hO
      rcases List.mem_cons.mp hl with rfl | hl
      · rw [List.contains_iff_mem.mpr z] at hO; cases hO.1
      · rw [List.mem_singleton.mp hl] at z
        rw [List.contains_iff_mem.mpr z] at hO; cases hO.2
    obtain ⟨w, hw, r⟩ := par_go (is := [i, j]) (by simp [hij]) hd h
    refine ⟨w, hw, r.mono fun w' ds _ q vs ps hp => ?_⟩
    obtain ⟨hl, q⟩ := q vs ps hp
    match vs, hl, q with
    | [v, u], _, q => exact ⟨v, u, rfl, q⟩
theorem rs_par3 (i j l : Nat) {x y z : Str} {px py pz pt pt2 : Pos} {kt k2} (hc : X.calm = true) (hN : X.N.Nodup) (ha : RP X G E Os fs [a, b, c] mr) (hw : swappedStores [.Tuple [.Name x px, .Name y py, .Name z pz] kt pt] (.Tuple [a, b, c] k2 pt2) X.env = pure (some [x, y, z]))
    (hi : X.N[i]? = some x := by rfl) (hj : X.N[j]? = some y := by rfl) (hl : X.N[l]? = some z := by rfl) (hij : i ≠ j := by decide) (hil : i ≠ l := by decide) (hjl : j ≠ l := by decide) (hx : X.env.scope.names.lookup x = some .local := by rfl) (hy : X.env.scope.names.lookup y = some .local := by rfl) (hz : X.env.scope.names.lookup z = some .local := by rfl) (hO : (Os.contains i || (Os.contains j || Os.contains l)) = false := by rfl)
    (hs : swapsWithSole [.Tuple [.Name x px, .Name y py, .Name z pz] kt pt] (.Tuple [a, b, c] k2 pt2) pos.line X.env = pure false := by rfl) : RS X G E fr Ol Os (ownP Os [i, j, l] fs) (.Assign [.Tuple [.Name x px, .Name y py, .Name z pz] kt pt] (.Tuple [a, b, c] k2 pt2) pos) (sPar [i, j, l] mr) :=
  (ps_par3 hc hN hi hj hl hij hil hjl hx hy hz ha hw hs).imp fun Dn σ H h => by
    have hd : ∀ q ∈ [i, j, l], q ∉ Os := fun q hq z => by
      rw [Bool.or_eq_false_iff, Bool.or_eq_false_iff] at hO
      rcases List.mem_cons.mp hq with rfl | hq
      · rw [List.contains_iff_mem.mpr z] at hO; cases hO.1
      · rcases List.mem_cons.mp hq with rfl | hq
        · rw [List.contains_iff_mem.mpr z] at hO; cases hO.2.1
        · rw [List.mem_singleton.mp hq] at z
          rw [List.contains_iff_mem.mpr z] at hO; cases hO.2.2
    obtain ⟨w, hw, r⟩ := par_go (is := [i, j, l]) (by simp [hij, hil, hjl]) hd h
    refine ⟨w, hw, r.mono fun w' ds _ q vs ps hp => ?_⟩
    obtain ⟨hl, q⟩ := q vs ps hp
    match vs, hl, q with
    | [v, u, t], _, q => exact ⟨v, u, t, rfl, q⟩
end
end Pw
namespace Pw
open PySem PySem.Spec PyProof.Rows L2
/-! ## targets -/
abbrev Gt := D → Env → Option Env
def gV (i : Nat) : Gt := fun d env => if i < env.length then some (env.set i (some d)) else none
def gAll : List Gt → List D → Env → Option Env
  | [], [], env => some env
  | g :: gs, d :: ds, env => match g d env with
    | some env' => gAll gs ds env'
    | none => none
  | _, _, _ => none
def gT (gs : List Gt) : Gt := fun d env => match d with
  | .tup l => gAll gs l env
  | _ => none
/-- what a target does to the slots: those of sl alone change -/
def Chg (sl : List Nat) (σ σ' : L2.St) : Prop := σ'.length = σ.length ∧ ∀ j, j ∉ sl → σ'[j]? = σ[j]?
def rdG (K : PySem.W.Frag) (G : Str → Addr) (Os sl : List Nat) (g : Gt) : TG := fun v σ H Q => ∃ (w : Wd) (ow : Ow) (env env' : Env) (d : D),
  w.H = H ∧ ow.map (·.1) = Os ∧ EnvOk K G w ow σ env ∧ Rep K G w v d ∧ g d env = some env' ∧ ∀ σ', EnvOk K G w ow σ' env' → Chg sl σ σ' → Q σ' H
def rdGs (K : PySem.W.Frag) (G : Str → Addr) (Os sl : List Nat) (gs : List Gt) : TGs := fun vs σ H Q => ∃ (w : Wd) (ow : Ow) (env env' : Env) (ds : List D),
  w.H = H ∧ ow.map (·.1) = Os ∧ EnvOk K G w ow σ env ∧ RepL K G w vs ds ∧ gAll gs ds env = some env' ∧ ∀ σ', EnvOk K G w ow σ' env' → Chg sl σ σ' → Q σ' H
theorem _root_.L2.PG.imp {X : Cx} {e : Expr} {t t' : TG} (h : PG X e t) (i : ∀ v σ H Q, t' v σ H Q → t v σ H Q) : PG X e t' := ⟨fun pins s σ H v u Q I r q => h.run pins s σ H v u Q I r (i _ _ _ _ q)⟩
theorem _root_.L2.PGs.imp {X : Cx} {e : List Expr} {t t' : TGs} (h : PGs X e t) (i : ∀ v σ H Q, t' v σ H Q → t v σ H Q) : PGs X e t' := ⟨fun pins s σ H v u Q I r q => h.run pins s σ H v u Q I r (i _ _ _ _ q)⟩
theorem _root_.L2.PI.imp {X : Cx} {tg e : Expr} {t t' : TI} (h : PI X tg e t) (i : ∀ σ H Q, t' σ H Q → t σ H Q) : PI X tg e t' := ⟨fun pins s σ H R I q => h.run pins s σ H R I (i _ _ _ q)⟩
abbrev RG (X : Cx) (G : Str → Addr) (Os sl : List Nat) (e : Expr) (g : Gt) : Prop := PG X e (rdG X.K G Os sl g)
abbrev RGs (X : Cx) (G : Str → Addr) (Os sl : List Nat) (es : List Expr) (gs : List Gt) : Prop := PGs X es (rdGs X.K G Os sl gs)
section
variable {X : Cx} {G : Str → Addr} {E : XK} {fr : Bool} {Ol Os O1 Os' sl sl2 : List Nat} {e a b c tg : Expr} {es : List Expr} {m ma mb mc : M D} {mr : M (List D)} {pos p p2 p3 : Pos} {s : Stmt} {rest bd bd2 : List Stmt} {m1 m2 : S} {mt : M Bool} {g : Gt} {gs : List Gt}
theorem Chg.refl {σ : L2.St} : Chg sl σ σ := ⟨rfl, fun _ _ => rfl⟩
theorem rg_name (i : Nat) {x : Str} (hN : X.N.Nodup) (hi : X.N[i]? = some x := by rfl) (hx : Loc X.env.scope x := by first | exact Or.inl rfl | exact Or.inr rfl) (hO : Os.contains i = false := by rfl)
    (hf : X.fn x = true ∨ X.env.scope.names.lookup x = some .local := by first | exact .inl rfl | exact .inr rfl | assumption) : RG X G Os [i] (.Name x pos) (gV i) :=
  (pg_name hN hi hx hf).imp fun v σ H Q ⟨w, ow, env, env', d, h1, h2, h3, h4, h5, h6⟩ => by
    unfold gV at h5
    obtain ⟨hl, rfl⟩ := ite_some h5
    exact h6 _ (h3.set (not_own h2 hO) h4) ⟨by rw [List.length_set], fun j hj => List.getElem?_set_ne fun z => hj (by simp [z])⟩
theorem rgs_nil : RGs X G Os [] [] [] := pgs_nil.imp fun v σ H Q ⟨w, ow, env, env', ds, h1, h2, h3, h4, h5, h6⟩ => by
  cases h4 with
  | nil =>
    cases h5
    exact ⟨rfl, h6 _ h3 .refl⟩
  | cons _ _ => cases h5
theorem rgs_cons (h : RG X G Os sl e g) (ht : RGs X G Os sl2 es gs) (hs : (assignEach (e :: es) X.env).map (·.2) = assign e X.env :: (assignEach es X.env).map (·.2) := by rfl) : RGs X G Os (sl ++ sl2) (e :: es) (g :: gs) :=
  (pgs_cons h ht hs).imp fun v σ H Q ⟨w, ow, env, env', ds, h1, h2, h3, h4, h5, h6⟩ => by
    cases h4 with
    | nil => cases h5
    | @cons v0 vs d ds r t =>
      have h5' : (match g d env with
        | some env1 => gAll gs ds env1
        | none => none) = some env' := h5
      cases q : g d env with
      | none => rw [q] at h5'; cases h5'
      | some env1 =>
        rw [q] at h5'
        exact ⟨v0, vs, rfl, w, ow, env, env1, d, h1, h2, h3, r, q, fun σ1 e1 c1 => ⟨w, ow, env1, env', ds, h1, h2, e1, t, h5', fun σ2 e2 c2 => h6 σ2 e2 ⟨c2.1.trans c1.1, fun j hj => (c2.2 j fun z => hj (List.mem_append_right _ z)).trans (c1.2 j fun z => hj (List.mem_append_left _ z))⟩⟩⟩
theorem rg_tup {k : Nat} {n : Nat} (hc : X.calm = true) (h : RGs X G Os sl es gs) (hn : (assignEach es X.env).length = n := by rfl) (hg : gs.length = n := by rfl) (hst : (assignEach es X.env).findIdx? (·.1) = none := by rfl) : RG X G Os sl (.Tuple es k pos) (gT gs) :=
  (pg_tup hc h hn hst).imp fun v σ H Q ⟨w, ow, env, env', d, h1, h2, h3, h4, h5, h6⟩ => by
    unfold gT at h5
    split at h5
    · rename_i l
      obtain ⟨a, xs, rfl, hq, r⟩ := (show Bor X.K G w v (.tup l) from .inl h4).tup
      have hl : ∀ (gs : List Gt) (l : List D) (env env' : Env), gAll gs l env = some env' → l.length = gs.length := by
        intro gs
        induction gs with
        | nil => intro l env env' h; cases l with
          | nil => rfl
          | cons _ _ => cases h
        | cons g gs ih => intro l env env' h; cases l with
          | nil => cases h
          | cons d ds =>
            have h' : (match g d env with
              | some env1 => gAll gs ds env1
              | none => none) = some env' := h
            split at h'
            · rw [List.length_cons, List.length_cons, ih _ _ _ h']
            · cases h'
      subst h1
      exact ⟨a, xs, rfl, hq, by rw [r.length, hl _ _ _ _ h5, hg], w, ow, env, env', l, rfl, h2, h3, r, h5, h6⟩
    · cases h5
/-- target = e -/
def sAsg (g : Gt) (me : M D) : S := sEx me fun d env st => match g d env with
  | some env' => some (.nx env', st)
  | none => none
theorem rs_asg (he : RE X G E Os e m) (hg : RG X G Os sl tg g) (hs : swapsWithSole [tg] e pos.line X.env = pure false := by rfl) (hw : swappedStores [tg] e X.env = pure none := by rfl) (h1 : (assignEach [tg] X.env).map (·.2) = [assign tg X.env] := by rfl) : RS X G E fr Ol Os Os (.Assign [tg] e pos) (sAsg g m) :=
  (ps_asg he hg hs hw h1).imp fun Dn σ H h => by
    obtain ⟨w, hw, r⟩ := ex_go h
    refine ⟨w, hw, r.mono fun w' d l ⟨B', ow, env, st', o, h1, a, h2, h3⟩ v hv => ?_⟩
    cases q : g d env with
    | none => rw [q] at h2; cases h2
    | some env' =>
      rw [q] at h2
      cases h2
      exact ⟨w', ow, env, env', d, rfl, h1, a.en, hv, q, fun σ' e' _ => h3 w' B' ow σ' SLe.refl h1 ⟨a.mem, a.nb, a.asB, a.nd, a.nd1, a.so, e'⟩⟩
/-! ## while -/
def whileF (mt : M Bool) (body : S) : Nat → S
  | 0 => fun _ _ => none
  | n + 1 => fun env st => match mt env st with
    | some (.ok true, st1) => (match body env st1 with
      | some (.nx env', st2) => whileF mt body n env' st2
      | some (.ct env', st2) => whileF mt body n env' st2
      | some (.bk env', st2) => some (.nx env', st2)
      | o => o)
    | some (.ok false, st1) => some (.nx env, st1)
    | some (.exn x l, st1) => some (.exn x l, st1)
    | none => none
/-- more turns than any loop takes -/
def manyTurns : Nat := 2 ^ 64
def sWhile (mt : M Bool) (body : S) : S := whileF mt body manyTurns
theorem whileF_go {K : PySem.W.Frag} {Dn : Ends} {σ : L2.St} {H : Hp} {tc : TT} {tb : TS} {N : Nat}
    (h1 : ∀ σ H Q, rdT K G E Os mt σ H Q → tc σ H Q) (h2 : ∀ Dn σ H, rdS K G E fr Os Os Os m1 Dn σ H → tb Dn σ H) (h : rdS K G E fr Ol Os Os (whileF mt m1 N) Dn σ H) : tWhile tc tb Dn σ H := by
  refine ⟨fun n σ H => rdS K G E fr Ol Os Os (whileF mt m1 n) Dn σ H, ⟨N, h⟩, fun n σ H q => ?_⟩
  cases n with
  | zero =>
    obtain ⟨w, B, ow, env, st, o, _, _, _, h4, _⟩ := q
    cases h4
  | succ n =>
    obtain ⟨w, B, ow, env, st, o, g1, g2, g3, g4, g5⟩ := q
    have g4' : (match mt env st with
      | some (.ok true, st1) => (match m1 env st1 with
        | some (.nx env', st2) => whileF mt m1 n env' st2
        | some (.ct env', st2) => whileF mt m1 n env' st2
        | some (.bk env', st2) => some (.nx env', st2)
        | o => o)
      | some (.ok false, st1) => some (.nx env, st1)
      | some (.exn x l, st1) => some (.exn x l, st1)
      | none => none) = some o := g4
    cases qm : mt env st with
    | none => rw [qm] at g4'; cases g4'
    | some r =>
      rw [qm] at g4'
      refine h1 _ _ _ ⟨w, g1, ow, env, st, r, g2, g3.so, g3.en, qm, ?_⟩
      obtain ⟨r, st1⟩ := r
      cases r with
      | exn x l =>
        cases g4'
        exact exn_out g3 g5 _
      | ok b =>
        intro w' l so
        obtain ⟨B', a', l'⟩ := g3.le l so
        cases b with
        | false =>
          cases g4'
          exact iteF (g5.le l' w' B' ow σ SLe.refl g2 a')
        | true =>
          refine iteT ⟨fun σ' H' => rdS K G E fr Ol Os Os (whileF mt m1 n) Dn σ' H', fun σ' H' z => ⟨n, Nat.lt_succ_self n, z⟩, h2 _ _ _ ?_⟩
          have g4'' : (match m1 env st1 with
            | some (.nx env', st2) => whileF mt m1 n env' st2
            | some (.ct env', st2) => whileF mt m1 n env' st2
            | some (.bk env', st2) => some (.nx env', st2)
            | o => o) = some o := g4'
          have g5' := g5.le l'
          cases qb : m1 env st1 with
          | none => rw [qb] at g4''; cases g4''
          | some r2 =>
            rw [qb] at g4''
            refine ⟨w', B', ow, env, st1, r2, rfl, g2, a', qb, ?_⟩
            obtain ⟨f, st2⟩ := r2
            cases f with
            | nx env' => exact fun w2 B2 ow2 σ2 l2 e2 a2 => ⟨w2, B2, ow2, env', st2, o, rfl, e2, a2, g4'', g5'.le l2⟩
            | ct env' => exact fun w2 B2 ow2 σ2 l2 e2 a2 => ⟨w2, B2, ow2, env', st2, o, rfl, e2, a2, g4'', g5'.le l2⟩
            | bk env' => cases g4''; exact g5'
            | rt d => cases g4''; exact g5'
            | exn x l => cases g4''; exact g5'
theorem rs_while (tk : PassesOwn (model X.prog X.w) X.A X.env X.xe) (hc : RT X G E Os c mt) (hb : RSs X G E fr Os Os Os bd m1) : RS X G E fr Ol Os Os (.While c bd [] pos) (sWhile mt m1) :=
  (ps_while tk hc hb).imp fun Dn σ H h => whileF_go (fun _ _ _ q => q) (fun _ _ _ q => q) h
end
end Pw
namespace Pw
open PySem PySem.Spec PyProof.Rows L2 RZ
/-! ## what is walked -/
section
variable {K : PySem.W.Frag} {G : Str → Addr}
theorem CRep.grow {w w' : Wd} {a : Addr} {c : Cell} (l : Le K [] w w') (r : CRep K G w a c) : CRep K G w' a c := by
  cases r with
  | lst e r => exact .lst (l.fr.o _ _ e (by simp)) (RepL.le l (by simp) r)
  | ins e q r => exact .ins (l.fr.o _ _ e (by simp)) q (RepL.le l (by simp) r)
/-- only new objects beside -/
structure Gro (K : PySem.W.Frag) (w w' : Wd) : Prop where
  as : w'.as = w.as
  A : w'.A = w.A
  fr : Fr K [] w.H w'.H
theorem Gro.refl {w : Wd} : Gro K w w := ⟨rfl, rfl, Fr.refl⟩
theorem Gro.le {w w' : Wd} {C : List Addr} (g : Gro K w w') : Le K C w w' := ⟨⟨[], by rw [g.as]; simp, by simp⟩, fun a h => by rw [g.A]; exact h, fun a h => by rw [g.A] at h; exact .inl h, g.fr.sub (by simp)⟩
theorem StoOk.grow {w w' : Wd} {st : Sto} (s : StoOk K G w st) (g : Gro K w w') : StoOk K G w' st := by
  refine ⟨by rw [g.as]; exact s.len, by rw [g.as]; exact s.nd, fun a ha => ?_, fun a ha => ?_, fun k c e => ?_⟩
  · rw [g.as] at ha
    rw [g.A]
    exact s.sub a ha
  · rw [g.A] at ha
    obtain ⟨o, e⟩ := s.live a ha
    exact ⟨o, g.fr.o _ _ e (by simp)⟩
  · obtain ⟨a, e1, r⟩ := s.at_ k c e
    exact ⟨a, by rw [g.as]; exact e1, r.grow g.le⟩
theorem At.grow {w w' : Wd} {B : List Addr} {ow : Ow} {σ : L2.St} {env : Env} {st : Sto} (a : At K G w B ow σ env st) (g : Gro K w w') : At K G w' B ow σ env st ∧ SLe K w B ow w' B ow :=
  ⟨⟨fun x => by rw [g.A]; exact a.mem x, a.nb, fun x hx => a.asB x (by rw [g.as] at hx; exact hx), a.nd, a.nd1, a.so.grow g, a.en.le g.le a.so.sub⟩, ⟨⟨[], by rw [g.as]; simp, by simp⟩, fun _ h => h, fun _ h => .inl h, g.fr.sub (by simp), fun p hp => .inl (List.mem_map_of_mem hp)⟩⟩
/-- a value through statements -/
theorem Rep.sle {w w' : Wd} {B B' : List Addr} {ow ow' : Ow} (s : SLe K w B ow w' B' ow') (m : ∀ a, a ∈ w.A ↔ a ∈ B ∨ a ∈ ow.map (·.2)) (m' : ∀ a, a ∈ w'.A ↔ a ∈ B' ∨ a ∈ ow'.map (·.2)) (hs : ∀ a ∈ w.as, a ∈ w.A) {v : V} {d : D} (r : Rep K G w v d) : Rep K G w' v d := by
  have l : Le K (w.as ++ ow.map (·.2)) w { w' with A := w.A ++ w'.A } := by
    refine ⟨s.n, fun a h => List.mem_append_left _ h, fun a h => ?_, s.fr⟩
    rcases List.mem_append.mp h with h | h
    · exact .inl h
    · rcases (m' a).mp h with h | h
      · rcases s.dn a h with h | h | h
        · exact .inl ((m a).mpr (.inl h))
        · exact .inl ((m a).mpr (.inr h))
        · exact .inr h
      · obtain ⟨p, hp, rfl⟩ := List.mem_map.mp h
        rcases s.ow p hp with h | h
        · exact .inl ((m _).mpr (.inr h))
        · exact .inr h
  refine Rep.sub (w := { w' with A := w.A ++ w'.A }) (w' := w') rfl rfl (fun a _ _ h => List.mem_append_right _ h) (r.le l fun c hc => ?_)
  rcases List.mem_append.mp hc with h | h
  · exact hs c h
  · exact (m c).mpr (.inr h)
/-- J yields ds, as long as prs holds -/
structure ItOk (K : PySem.W.Frag) (G : Str → Addr) (J : It) (w : Wd) (ds : List D) (prs : Wd → Prop) : Prop where
  base : prs w
  keep : ∀ w1 w2, prs w1 → (∀ v d, Rep K G w1 v d → Rep K G w2 v d) → prs w2
  go : ∀ w1 i d, prs w1 → ds[i]? = some d → J.go i w1.H
  yl : ∀ w1 i d x H', prs w1 → (∀ a ∈ w1.as, a ∈ w1.A) → ds[i]? = some d → J.yld i w1.H x H' → ∃ w2, w2.H = H' ∧ Gro K w1 w2 ∧ Rep K G w2 x d
  stop : ∀ w1, prs w1 → J.stop ds.length w1.H
theorem it_list {w : Wd} {v : V} {l : List D} (h : Rep K G w v (.lst l)) : ∃ a, v = .ref a ∧ (∃ xs, SqL K w.H a xs) ∧ ItOk K G (Itl K a) w l (fun w1 => Rep K G w1 (.ref a) (.lst l)) := by
  cases h with
  | @lst a xs ds h1 h2 h3 =>
    refine ⟨a, rfl, ⟨xs, .of h2⟩, ⟨.lst h1 h2 h3, fun w1 w2 p q => q _ _ p, fun w1 i d p e => ?_, fun w1 i d x H' p hs e y => ?_, fun w1 p => ?_⟩⟩
    · cases p with
      | lst _ g2 g3 =>
        obtain ⟨v, e1, _⟩ := g3.get' e
        exact ⟨_, v, .of g2, e1⟩
    · cases p with
      | lst _ g2 g3 =>
        obtain ⟨rfl, y⟩ := y
        obtain ⟨v, e1, r⟩ := g3.get' e
        have := y _ (.of g2)
        rw [e1] at this
        cases this
        exact ⟨w1, rfl, .refl, r⟩
    · cases p with
      | lst _ g2 g3 => exact ⟨_, .of g2, by rw [g3.length]; exact Nat.le_refl _⟩
theorem it_tup {w : Wd} {v : V} {l : List D} (h : Rep K G w v (.tup l)) : ∃ a, v = .ref a ∧ (∃ xs, SqT K w.H a xs) ∧ ItOk K G (Itt K a) w l (fun w1 => Rep K G w1 (.ref a) (.tup l)) := by
  cases h with
  | @tup a xs ds h2 h3 =>
    refine ⟨a, rfl, ⟨xs, h2⟩, ⟨.tup h2 h3, fun w1 w2 p q => q _ _ p, fun w1 i d p e => ?_, fun w1 i d x H' p hs e y => ?_, fun w1 p => ?_⟩⟩
    · cases p with
      | tup g2 g3 =>
        obtain ⟨v, e1, _⟩ := g3.get' e
        exact ⟨_, v, g2, e1⟩
    · cases p with
      | tup g2 g3 =>
        obtain ⟨rfl, y⟩ := y
        obtain ⟨v, e1, r⟩ := g3.get' e
        have := y _ g2
        rw [e1] at this
        cases this
        exact ⟨w1, rfl, .refl, r⟩
    · cases p with
      | tup g2 g3 => exact ⟨_, g2, by rw [g3.length]; exact Nat.le_refl _⟩
/-- lo, lo + 1, .. -/
def rangeL (lo : Int) : Nat → List D
  | 0 => []
  | n + 1 => .int lo :: rangeL (lo + 1) n
theorem rangeL_length : ∀ (n : Nat) (lo : Int), (rangeL lo n).length = n
  | 0, _ => rfl
  | n + 1, lo => by unfold rangeL; rw [List.length_cons, rangeL_length n]
theorem rangeL_get : ∀ (n : Nat) (lo : Int) (i : Nat), i < n → (rangeL lo n)[i]? = some (.int (lo + i))
  | 0, _, i, h => absurd h (Nat.not_lt_zero _)
  | n + 1, lo, 0, _ => by unfold rangeL; simp
  | n + 1, lo, i + 1, h => by
    unfold rangeL
    rw [List.getElem?_cons_succ, rangeL_get n (lo + 1) i (by omega)]
    congr 2
    omega
theorem it_range {w : Wd} {lo : Int} {n : Nat} : ItOk K G (Itr lo n) w (rangeL lo n) (fun _ => True) := by
  refine ⟨trivial, fun _ _ _ _ => trivial, fun w1 i d _ e => ?_, fun w1 i d x H' _ hs e y => ?_, fun w1 _ => by show n ≤ _; rw [rangeL_length]; exact Nat.le_refl _⟩
  · have := (List.getElem?_eq_some_iff.mp e).1
    rw [rangeL_length] at this
    exact this
  · obtain ⟨rfl, rfl⟩ := y
    have h := (List.getElem?_eq_some_iff.mp e).1
    rw [rangeL_length] at h
    rw [rangeL_get n lo i h] at e
    cases e
    exact ⟨w1, rfl, .refl, .int _⟩
/-- a text, sign by sign -/
def strL (s : Str) : List D := s.cps.toList.map fun c => .str ⟨#[c]⟩
theorem it_str {w : Wd} {x : Str} : ItOk K G (Its x) w (strL x) (fun _ => True) := by
  have len : (strL x).length = x.cps.size := by unfold strL; rw [List.length_map]; rfl
  refine ⟨trivial, fun _ _ _ _ => trivial, fun w1 i d _ e => ?_, fun w1 i d y H' _ hs e q => ?_, fun w1 _ => by show x.cps.size ≤ _; rw [len]; exact Nat.le_refl _⟩
  · have := (List.getElem?_eq_some_iff.mp e).1
    rw [len] at this
    exact this
  · obtain ⟨rfl, c, e1, rfl⟩ := q
    unfold strL at e
    rw [List.getElem?_map, Array.getElem?_toList, e1] at e
    cases e
    exact ⟨w1, rfl, .refl, .str _⟩
/-- pairs -/
def zipL : List D → List D → List D
  | a :: r, b :: t => .tup [a, b] :: zipL r t
  | _, _ => []
theorem zipL_get : ∀ (l r : List D) (i : Nat) (d : D), (zipL l r)[i]? = some d → ∃ a b, l[i]? = some a ∧ r[i]? = some b ∧ d = .tup [a, b]
  | a :: l, b :: r, 0, d, h => by
    have h' : some (D.tup [a, b]) = some d := h
    exact ⟨a, b, rfl, rfl, (Option.some.inj h').symm⟩
  | a :: l, b :: r, i + 1, d, h => zipL_get l r i d h
  | [], _, i, d, h => nomatch (show (none : Option D) = some d from by simpa [zipL] using h)
  | _ :: _, [], i, d, h => nomatch (show (none : Option D) = some d from by simpa [zipL] using h)
theorem zipL_len : ∀ (l r : List D), (zipL l r).length = min l.length r.length
  | a :: l, b :: r => by
    unfold zipL
    rw [List.length_cons, List.length_cons, List.length_cons, zipL_len l r]
    omega
  | [], r => by simp [zipL]
  | _ :: _, [] => by simp [zipL]
theorem it_zipL {w : Wd} {v u : V} {l r : List D} (h : Rep K G w v (.lst l)) (g : Rep K G w u (.lst r)) : ∃ a b xs ys, v = .ref a ∧ u = .ref b ∧ SqL K w.H a xs ∧ SqL K w.H b ys ∧ ItOk K G (Itz K a b) w (zipL l r) (fun w1 => Rep K G w1 (.ref a) (.lst l) ∧ Rep K G w1 (.ref b) (.lst r)) := by
  cases h with
  | @lst a xs ds h1 h2 h3 =>
    cases g with
    | @lst b ys es g1 g2 g3 =>
      refine ⟨a, b, xs, ys, rfl, rfl, .of h2, .of g2, ⟨⟨.lst h1 h2 h3, .lst g1 g2 g3⟩, fun w1 w2 p q => ⟨q _ _ p.1, q _ _ p.2⟩, fun w1 i d p e => ?_, fun w1 i d x H' p hs e y => ?_, fun w1 p => ?_⟩⟩
      · obtain ⟨x, y, e1, e2, rfl⟩ := zipL_get _ _ _ _ e
        obtain ⟨p1, p2⟩ := p
        cases p1 with
        | lst _ q2 q3 =>
          cases p2 with
          | lst _ t2 t3 =>
            obtain ⟨vx, f1, _⟩ := q3.get' e1
            obtain ⟨vy, f2, _⟩ := t3.get' e2
            exact ⟨_, _, vx, vy, .of q2, .of t2, f1, f2⟩
      · obtain ⟨x1, y1, e1, e2, rfl⟩ := zipL_get _ _ _ _ e
        obtain ⟨p1, p2⟩ := p
        cases p1 with
        | lst _ q2 q3 =>
          cases p2 with
          | lst _ t2 t3 =>
            obtain ⟨vx, f1, r1⟩ := q3.get' e1
            obtain ⟨vy, f2, r2⟩ := t3.get' e2
            obtain ⟨T, z1, z2, rfl, nT, rfl, k1, k2⟩ := y
            have m1 := k1 _ (.of q2)
            have m2 := k2 _ (.of t2)
            rw [f1] at m1
            rw [f2] at m2
            cases m1; cases m2
            refine ⟨{ w1 with H := upd w1.H T (.tup [vx, vy]) }, rfl, ⟨rfl, rfl, Fr.new nT⟩, .tup (.inl (.inl upd_same)) (.cons (r1.le (Le.new (C := w1.as) nT) hs) (.cons (r2.le (Le.new (C := w1.as) nT) hs) .nil))⟩
      · obtain ⟨p1, p2⟩ := p
        cases p1 with
        | lst _ q2 q3 =>
          cases p2 with
          | lst _ t2 t3 =>
            refine ⟨_, _, .of q2, .of t2, ?_⟩
            rw [zipL_len, q3.length, t3.length]
            omega
theorem it_zipT {w : Wd} {v u : V} {l r : List D} (h : Rep K G w v (.tup l)) (g : Rep K G w u (.tup r)) : ∃ a b xs ys, v = .ref a ∧ u = .ref b ∧ SqT K w.H a xs ∧ SqT K w.H b ys ∧ ItOk K G (ItzT K a b) w (zipL l r) (fun w1 => Rep K G w1 (.ref a) (.tup l) ∧ Rep K G w1 (.ref b) (.tup r)) := by
  cases h with
  | @tup a xs ds h2 h3 =>
    cases g with
    | @tup b ys es g2 g3 =>
      refine ⟨a, b, xs, ys, rfl, rfl, h2, g2, ⟨⟨.tup h2 h3, .tup g2 g3⟩, fun w1 w2 p q => ⟨q _ _ p.1, q _ _ p.2⟩, fun w1 i d p e => ?_, fun w1 i d x H' p hs e y => ?_, fun w1 p => ?_⟩⟩
      · obtain ⟨x, y, e1, e2, rfl⟩ := zipL_get _ _ _ _ e
        obtain ⟨p1, p2⟩ := p
        cases p1 with
        | tup q2 q3 =>
          cases p2 with
          | tup t2 t3 =>
            obtain ⟨vx, f1, _⟩ := q3.get' e1
            obtain ⟨vy, f2, _⟩ := t3.get' e2
            exact ⟨_, _, vx, vy, q2, t2, f1, f2⟩
      · obtain ⟨x1, y1, e1, e2, rfl⟩ := zipL_get _ _ _ _ e
        obtain ⟨p1, p2⟩ := p
        cases p1 with
        | tup q2 q3 =>
          cases p2 with
          | tup t2 t3 =>
            obtain ⟨vx, f1, r1⟩ := q3.get' e1
            obtain ⟨vy, f2, r2⟩ := t3.get' e2
            obtain ⟨T, z1, z2, rfl, nT, rfl, k1, k2⟩ := y
            have m1 := k1 _ q2
            have m2 := k2 _ t2
            rw [f1] at m1
            rw [f2] at m2
            cases m1; cases m2
            refine ⟨{ w1 with H := upd w1.H T (.tup [vx, vy]) }, rfl, ⟨rfl, rfl, Fr.new nT⟩, .tup (.inl (.inl upd_same)) (.cons (r1.le (Le.new (C := w1.as) nT) hs) (.cons (r2.le (Le.new (C := w1.as) nT) hs) .nil))⟩
      · obtain ⟨p1, p2⟩ := p
        cases p1 with
        | tup q2 q3 =>
          cases p2 with
          | tup t2 t3 =>
            refine ⟨_, _, q2, t2, ?_⟩
            rw [zipL_len, q3.length, t3.length]
            omega
end
def rdI (K : PySem.W.Frag) (G : Str → Addr) (E : XK) (Os : List Nat) (m : M (List D)) : TI := fun σ H R => ∃ w : Wd, w.H = H ∧ rdW K G E Os m (fun w' ds => ∀ J prs, ItOk K G J w' ds prs → R J w'.H) σ w
abbrev RI (X : Cx) (G : Str → Addr) (E : XK) (Os : List Nat) (tg e : Expr) (m : M (List D)) : Prop := PI X tg e (rdI X.K G E Os m)
section
variable {X : Cx} {G : Str → Addr} {E : XK} {fr : Bool} {Ol Os O1 Os' sl sl2 : List Nat} {e a b c tg iter : Expr} {es : List Expr} {m ma mb mc : M D} {mr mi : M (List D)} {pos p p2 p3 : Pos} {s : Stmt} {rest bd bd2 : List Stmt} {m1 m2 : S} {mt : M Bool} {g : Gt} {gs : List Gt}
/-- a list, a tuple, a text -/
def mItL (m : M D) : M (List D) := bnd m fun d => lft (match d with | .lst l => some l | _ => none)
def mItT (m : M D) : M (List D) := bnd m fun d => lft (match d with | .tup l => some l | _ => none)
def mItS (m : M D) : M (List D) := bnd m fun d => lft (match d with | .str s => some (strL s) | _ => none)
theorem ri_list (h : RE X G E Os e m) : RI X G E Os tg e (mItL m) := (pi_list h).imp fun σ H R ⟨w, hw, r⟩ => ⟨w, hw, r.bnd.mono fun w1 d l1 r1 v hv => by
  obtain ⟨y, st, e1, so, q⟩ := r1.lft
  split at e1
  · cases e1
    obtain ⟨a, rfl, hx, ok⟩ := it_list hv
    exact ⟨a, rfl, hx, q w1 Le.refl so _ _ ok⟩
  · cases e1⟩
theorem ri_tup (h : RE X G E Os e m) : RI X G E Os tg e (mItT m) := (pi_tup h).imp fun σ H R ⟨w, hw, r⟩ => ⟨w, hw, r.bnd.mono fun w1 d l1 r1 v hv => by
  obtain ⟨y, st, e1, so, q⟩ := r1.lft
  split at e1
  · cases e1
    obtain ⟨a, rfl, hx, ok⟩ := it_tup hv
    exact ⟨a, rfl, hx, q w1 Le.refl so _ _ ok⟩
  · cases e1⟩
theorem ri_str (h : RE X G E Os e m) : RI X G E Os tg e (mItS m) := (pi_str h).imp fun σ H R ⟨w, hw, r⟩ => ⟨w, hw, r.bnd.mono fun w1 d l1 r1 v hv => by
  obtain ⟨y, st, e1, so, q⟩ := r1.lft
  split at e1
  · cases e1
    cases hv
    exact ⟨_, rfl, q w1 Le.refl so _ _ it_str⟩
  · cases e1⟩
def mRng1 (mr : M (List D)) : M (List D) := bnd mr fun ds => lft (match ds with | [.int j] => if -(2 ^ 62) ≤ j ∧ j < 2 ^ 62 then some (rangeL 0 j.toNat) else none | _ => none)
def mRng2 (mr : M (List D)) : M (List D) := bnd mr fun ds => lft (match ds with | [.int i, .int j] => if -(2 ^ 62) ≤ i ∧ i < 2 ^ 62 ∧ -(2 ^ 62) ≤ j ∧ j < 2 ^ 62 then some (rangeL i (j - i).toNat) else none | _ => none)
theorem ri_rng1 (hm : X.mg "range" = none) (ha : RA X G E Os [a] mr) (hg : Gl X "range" := by rfl) (hs : starEach [a] X.env = [(false, eval a X.env)] := by rfl) : RI X G E Os tg (.Call (.Name "range" p) [a] [] pos) (mRng1 mr) :=
  (pi_range1 hg hm ha hs).imp fun σ H R ⟨w, hw, r⟩ => ⟨w, hw, r.bnd.mono fun w1 d l1 r1 v hv => by
    obtain ⟨y, st, e1, so, q⟩ := r1.lft
    split at e1
    · obtain ⟨⟨g1, g2⟩, rfl⟩ := ite_some e1
      cases hv with
      | cons r t =>
        cases t; cases r
        exact ⟨_, rfl, g1, g2, q w1 Le.refl so _ _ it_range⟩
    · cases e1⟩
theorem ri_rng2 (hm : X.mg "range" = none) (ha : RA X G E Os [a, b] mr) (hg : Gl X "range" := by rfl) (hs : starEach [a, b] X.env = [(false, eval a X.env), (false, eval b X.env)] := by rfl) (hs2 : starEach [b] X.env = [(false, eval b X.env)] := by rfl) : RI X G E Os tg (.Call (.Name "range" p) [a, b] [] pos) (mRng2 mr) :=
  (pi_range2 hg hm ha hs hs2).imp fun σ H R ⟨w, hw, r⟩ => ⟨w, hw, r.bnd.mono fun w1 d l1 r1 v hv => by
    obtain ⟨y, st, e1, so, q⟩ := r1.lft
    split at e1
    · obtain ⟨g1, rfl⟩ := ite_some e1
      cases hv with
      | cons r t =>
        cases t with
        | cons r' t =>
          cases t; cases r; cases r'
          exact ⟨_, _, rfl, g1, q w1 Le.refl so _ _ it_range⟩
    · cases e1⟩
def mZip (mr : M (List D)) : M (List D) := bnd mr fun ds => lft (match ds with | [.lst l, .lst r] => some (zipL l r) | [.tup l, .tup r] => some (zipL l r) | _ => none)
theorem ri_zip {elts : List Expr} {kk : Nat} {tpos : Pos} (hm : X.mg "zip" = none) (ha : RA X G E Os [a, b] mr) (hg : Gl X "zip" := by rfl) (hs : starEach [a, b] X.env = (false, eval a X.env) :: starEach [b] X.env := by rfl) (hpl : (backTo pos (starEach [b] X.env)).any (·.1) = false := by rfl) :
    RI X G E Os (.Tuple elts kk tpos) (.Call (.Name "zip" p) [a, b] [] pos) (mZip mr) :=
  (pi_zipA hg hm ha hs hpl).imp fun σ H R ⟨w, hw, r⟩ => ⟨w, hw, r.bnd.mono fun w1 d l1 r1 v hv => by
    obtain ⟨y, st, e1, so, q⟩ := r1.lft
    split at e1
    · cases e1
      cases hv with
      | cons r t =>
        cases t with
        | cons r' t =>
          cases t
          obtain ⟨a', b', xs, ys, rfl, rfl, g1, g2, ok⟩ := it_zipL r r'
          exact ⟨a', b', xs, ys, rfl, .inl ⟨g1, g2, q w1 Le.refl so _ _ ok⟩⟩
    · cases e1
      cases hv with
      | cons r t =>
        cases t with
        | cons r' t =>
          cases t
          obtain ⟨a', b', xs, ys, rfl, rfl, g1, g2, ok⟩ := it_zipT r r'
          exact ⟨a', b', xs, ys, rfl, .inr ⟨g1, g2, q w1 Le.refl so _ _ ok⟩⟩
    · cases e1⟩
/-! ## for -/
def forL (g : Gt) (body : S) : List D → S
  | [] => fun env st => some (.nx env, st)
  | d :: r => fun env st => match g d env with
    | none => none
    | some env1 => (match body env1 st with
      | some (.nx env', st2) => forL g body r env' st2
      | some (.ct env', st2) => forL g body r env' st2
      | some (.bk env', st2) => some (.nx env', st2)
      | o => o)
def sFor (mi : M (List D)) (g : Gt) (body : S) : S := fun env st => match mi env st with
  | some (.ok ds, st') => forL g body ds env st'
  | some (.exn x l, st') => some (.exn x l, st')
  | none => none
theorem for_go {K : PySem.W.Frag} {Dn : Ends} {σ : L2.St} {H : Hp} {tb : TS} (h2 : ∀ Dn σ H, rdS K G E fr Os Os Os m1 Dn σ H → tb Dn σ H) (h : rdS K G E fr Ol Os Os (sFor mi g m1) Dn σ H) : tFor (rdI K G E Os mi) (rdG K G Os sl g) tb Dn σ H := by
  obtain ⟨w, B, ow, env, st, o, h1, h2', h3, h4, h5⟩ := h
  unfold sFor at h4
  cases q : mi env st with
  | none => rw [q] at h4; cases h4
  | some r =>
    rw [q] at h4
    refine ⟨w, h1, ow, env, st, r, h2', h3.so, h3.en, q, ?_⟩
    obtain ⟨r, st'⟩ := r
    cases r with
    | exn x l =>
      cases h4
      exact exn_out h3 h5 _
    | ok ds =>
      intro w' l so J prs ok
      obtain ⟨B', a', l'⟩ := h3.le l so
      refine ⟨fun i n σ H => i + n = ds.length ∧ ∃ (w : Wd) (B : List Addr) (ow : Ow) (env : Env) (st : Sto) (o : Fl × Sto), w.H = H ∧ ow.map (·.1) = Os ∧ At K G w B ow σ env st ∧ prs w ∧ forL g m1 (ds.drop i) env st = some o ∧ OutS K G E fr Dn Os Ol w B ow o,
        ⟨ds.length, by omega, w', B', ow, env, st', o, rfl, h2', a', ok.base, h4, h5.le l'⟩, ?_⟩
      rintro i n σ1 H1 ⟨hin, w1, B1, ow1, env1, st1, o1, rfl, e1, a1, p1, f1, q1⟩
      by_cases hi : i < ds.length
      · have hd : ds.drop i = ds[i] :: ds.drop (i + 1) := List.drop_eq_getElem_cons hi
        rw [hd] at f1
        have ei : ds[i]? = some ds[i] := List.getElem?_eq_getElem hi
        have f1' : (match g ds[i] env1 with
          | none => none
          | some env2 => (match m1 env2 st1 with
            | some (.nx env', st2) => forL g m1 (ds.drop (i + 1)) env' st2
            | some (.ct env', st2) => forL g m1 (ds.drop (i + 1)) env' st2
            | some (.bk env', st2) => some (.nx env', st2)
            | o => o)) = some o1 := f1
        cases qg : g ds[i] env1 with
        | none => rw [qg] at f1'; cases f1'
        | some env2 =>
          rw [qg] at f1'
          refine .inr ⟨ok.go w1 i _ p1 ei, fun σ' H' => i + 1 + (n - 1) = ds.length ∧ ∃ (w : Wd) (B : List Addr) (ow : Ow) (env : Env) (st : Sto) (o : Fl × Sto), w.H = H' ∧ ow.map (·.1) = Os ∧ At K G w B ow σ' env st ∧ prs w ∧ forL g m1 (ds.drop (i + 1)) env st = some o ∧ OutS K G E fr Dn Os Ol w B ow o,
            fun σ' H' z => ⟨n - 1, by omega, z⟩, fun x H' y => ?_⟩
          obtain ⟨w2, rfl, gr, rx⟩ := ok.yl w1 i _ x H' p1 a1.so.sub ei y
          obtain ⟨a2, l2⟩ := a1.grow gr
          have p2 : prs w2 := ok.keep w1 w2 p1 fun v d r => r.le (gr.le (C := w1.as)) a1.so.sub
          refine ⟨w2, ow1, env1, env2, ds[i], rfl, e1, a2.en, rx, qg, fun σ' en' _ => h2 _ _ _ ?_⟩
          have a3 : At K G w2 B1 ow1 σ' env2 st1 := ⟨a2.mem, a2.nb, a2.asB, a2.nd, a2.nd1, a2.so, en'⟩
          have keep : ∀ {w3 B3 ow3 σ3 env3 st3}, SLe K w2 B1 ow1 w3 B3 ow3 → At K G w3 B3 ow3 σ3 env3 st3 → prs w3 := fun {w3 B3 ow3 σ3 env3 st3} s a4 => ok.keep w2 w3 p2 fun v d r => r.sle s a3.mem a4.mem a3.so.sub
          have q2 := q1.le l2
          have f1'' : (match m1 env2 st1 with
            | some (.nx env', st2) => forL g m1 (ds.drop (i + 1)) env' st2
            | some (.ct env', st2) => forL g m1 (ds.drop (i + 1)) env' st2
            | some (.bk env', st2) => some (.nx env', st2)
            | o => o) = some o1 := f1'
          cases qb : m1 env2 st1 with
          | none => rw [qb] at f1''; cases f1''
          | some r2 =>
            rw [qb] at f1''
            refine ⟨w2, B1, ow1, env2, st1, r2, rfl, e1, a3, qb, ?_⟩
            obtain ⟨f, st2⟩ := r2
            cases f with
            | nx env' => exact fun w3 B3 ow3 σ3 l3 e3 a4 => ⟨by omega, w3, B3, ow3, env', st2, o1, rfl, e3, a4, keep l3 a4, f1'', q2.le l3⟩
            | ct env' => exact fun w3 B3 ow3 σ3 l3 e3 a4 => ⟨by omega, w3, B3, ow3, env', st2, o1, rfl, e3, a4, keep l3 a4, f1'', q2.le l3⟩
            | bk env' => cases f1''; exact q2
            | rt d => cases f1''; exact q2
            | exn x l => cases f1''; exact q2
      · have hd : ds.drop i = [] := List.drop_eq_nil_of_le (by omega)
        rw [hd] at f1
        cases f1
        have ei : i = ds.length := by omega
        subst ei
        exact .inl ⟨ok.stop w1 p1, q1 w1 B1 ow1 σ1 SLe.refl e1 a1⟩
end
end Pw
namespace Pw
open PySem PySem.Spec PyProof.Rows L2 RZ
section
variable {X : Cx} {G : Str → Addr} {E : XK} {fr : Bool} {Ol Os O1 Os' sl sl2 : List Nat} {e a b c tg iter elt : Expr} {es : List Expr} {m ma mb mc me : M D} {mr mi : M (List D)} {pos p p2 p3 : Pos} {s : Stmt} {rest bd bd2 : List Stmt} {m1 m2 : S} {mt : M Bool} {g : Gt} {gs : List Gt}
theorem rs_for (tk : PassesOwn (model X.prog X.w) X.A X.env X.xe) (hi : RI X G E Os tg iter mi) (hg : RG X G Os sl tg g) (hb : RSs X G E fr Os Os Os bd m1) (hc : X.calm = true := by rfl) (hs : ∀ x, foldedSetIterable iter X.env x = pure x := by intro _; rfl) :
    RS X G E fr Ol Os Os (.For tg iter bd [] pos) (sFor mi g m1) :=
  (ps_for tk hc hi hg hb hs).imp fun Dn σ H h => for_go (fun _ _ _ q => q) h
/-! ## [e for x in xs if t] -/
def wipeE (env : Env) : List Nat → Env
  | [] => env
  | v :: vs => (wipeE env vs).set v none
theorem wipeE_length (env : Env) : ∀ vs, (wipeE env vs).length = env.length
  | [] => rfl
  | v :: vs => by unfold wipeE; rw [List.length_set, wipeE_length]
theorem wipeE_get {env : Env} {i : Nat} {d : D} : ∀ {vs : List Nat}, (wipeE env vs)[i]? = some (some d) → env[i]? = some (some d) ∧ i ∉ vs
  | [], h => ⟨h, by simp⟩
  | v :: vs, h => by
    unfold wipeE at h
    by_cases e : v = i
    · subst e
      by_cases hl : v < (wipeE env vs).length
      · rw [List.getElem?_set_self hl] at h
        cases h
      · rw [List.getElem?_eq_none (by rw [List.length_set]; omega)] at h
        cases h
    · rw [List.getElem?_set_ne e] at h
      obtain ⟨h1, h2⟩ := wipeE_get h
      exact ⟨h1, fun z => (List.mem_cons.mp z).elim (fun q => e q.symm) h2⟩
theorem wipeE_out {env : Env} {i : Nat} : ∀ {vs : List Nat}, i ∉ vs → (wipeE env vs)[i]? = env[i]?
  | [], _ => rfl
  | v :: vs, h => by
    unfold wipeE
    rw [List.getElem?_set_ne fun z => h (by simp [z]), wipeE_out fun z => h (List.mem_cons_of_mem _ z)]
theorem wipe_eq {σ σ' : L2.St} {vs : List Nat} (h : ∀ j, j ∉ vs → σ'[j]? = σ[j]?) (hl : σ'.length = σ.length) : wipe σ' vs = wipe (wipe σ vs) vs := by
  have at_ : ∀ (σ : L2.St) (vs : List Nat) (j : Nat), j ∈ vs → j < σ.length → (wipe σ vs)[j]? = some none := by
    intro σ vs
    induction vs with
    | nil => intro j h _; cases h
    | cons v vs ih =>
      intro j hj hl
      unfold wipe
      by_cases e : v = j
      · subst e
        exact List.getElem?_set_self (by rw [wipe_length]; exact hl)
      · rw [List.getElem?_set_ne e]
        exact ih j ((List.mem_cons.mp hj).resolve_left fun z => e z.symm) hl
  have out : ∀ (σ : L2.St) (vs : List Nat) (j : Nat), j ∉ vs → (wipe σ vs)[j]? = σ[j]? := by
    intro σ vs
    induction vs with
    | nil => intro j _; rfl
    | cons v vs ih =>
      intro j hj
      unfold wipe
      rw [List.getElem?_set_ne fun z => hj (by simp [z]), ih j fun z => hj (List.mem_cons_of_mem _ z)]
  refine List.ext_getElem? fun j => ?_
  by_cases hj : j ∈ vs
  · by_cases hlt : j < σ.length
    · rw [at_ σ' vs j hj (by omega), at_ (wipe σ vs) vs j hj (by rw [wipe_length]; exact hlt)]
    · rw [List.getElem?_eq_none (by rw [wipe_length]; omega), List.getElem?_eq_none (by rw [wipe_length, wipe_length]; omega)]
  · rw [out σ' vs j hj, out _ vs j hj, out σ vs j hj, h j hj]
theorem wipe_wipe {σ : L2.St} {vs : List Nat} : wipe (wipe σ vs) vs = wipe σ vs := (wipe_eq (σ := σ) (σ' := σ) (fun _ _ => rfl) rfl).symm
theorem env_wipe {K : PySem.W.Frag} {w : Wd} {ow : Ow} {σ : L2.St} {env : Env} {vs : List Nat} (a : EnvOk K G w ow σ env) (h : ∀ p ∈ ow, p.1 ∉ vs) : EnvOk K G w ow (wipe σ vs) (wipeE env vs) := by
  have out : ∀ (σ : L2.St) (vs : List Nat) (j : Nat), j ∉ vs → (wipe σ vs)[j]? = σ[j]? := by
    intro σ vs
    induction vs with
    | nil => intro j _; rfl
    | cons v vs ih =>
      intro j hj
      unfold wipe
      rw [List.getElem?_set_ne fun z => hj (by simp [z]), ih j fun z => hj (List.mem_cons_of_mem _ z)]
  refine ⟨by rw [wipe_length, wipeE_length]; exact a.len, fun p hp => ?_, fun i d e hi => ?_⟩
  · obtain ⟨h1, xs, l, e1, e2, e3, r⟩ := a.own p hp
    exact ⟨h1, xs, l, by rw [wipeE_out (h p hp)]; exact e1, by rw [out _ _ _ (h p hp)]; exact e2, e3, r⟩
  · obtain ⟨e1, e2⟩ := wipeE_get e
    obtain ⟨v, e3, r⟩ := a.var i d e1 hi
    exact ⟨v, by rw [out _ _ _ e2]; exact e3, r⟩
def lcL (env : Env) (g : Gt) (mt : M Bool) (me : M D) : List D → Sto → Option (List D × Sto)
  | [] => fun st => some ([], st)
  | d :: r => fun st => match g d env with
    | none => none
    | some env1 => (match mt env1 st with
      | some (.ok true, st1) => (match me env1 st1 with
        | some (.ok y, st2) => (match lcL env g mt me r st2 with
          | some (ys, st3) => some (y :: ys, st3)
          | none => none)
        | _ => none)
      | some (.ok false, st1) => lcL env g mt me r st1
      | _ => none)
def lcR (vs : List Nat) (g : Gt) (mt : M Bool) (me : M D) (ds : List D) : M D := fun env st => match lcL (wipeE env vs) g mt me ds st with
  | some (l, st') => if l.length ≤ sizeLine then some (.ok (.lst l), st') else none
  | none => none
def mLc (vs : List Nat) (mi : M (List D)) (g : Gt) (mt : M Bool) (me : M D) : M D := bnd mi fun ds => lcR vs g mt me ds
def mYes : M Bool := fun _ st => some (.ok true, st)
abbrev RTs (X : Cx) (G : Str → Addr) (E : XK) (Os : List Nat) (es : List Expr) (m : M Bool) : Prop := PTs X es (rdT X.K G E Os m)
theorem rts_nil : RTs X G E Os [] mYes := ⟨fun pins s σ H Q I ⟨w, hw, ow, env, st, o, h1, h2, h3, h4, h5⟩ => pts_nil.run pins s σ H Q I (by
  cases h4
  subst hw
  exact h5 w Le.refl h2)⟩
theorem rts_one (h : RT X G E Os e mt) : RTs X G E Os [e] mt := pts_one h
theorem lc_go {K : PySem.W.Frag} {σ : L2.St} {H : Hp} {Q : VK} {vs : List Nat} (hsl : ∀ i ∈ sl, i ∈ vs) (hO : ∀ i ∈ Os, i ∉ vs) (h : rdF K G E Os (mLc vs mi g mt me) σ H Q) :
    tLc (rdI K G E Os mi) (rdG K G Os sl g) (rdT K G L2.E0 Os mt) (rdE K G L2.E0 Os me) vs σ H Q := by
  obtain ⟨w, hw, r⟩ := h
  refine ⟨w, hw, r.bnd.mono fun w1 ds l1 r1 J prs ok D hD => ?_⟩
  obtain ⟨ow, env, st, o, h1, so, en, h4, h5⟩ := r1
  unfold lcR at h4
  cases q : lcL (wipeE env vs) g mt me ds st with
  | none => rw [q] at h4; cases h4
  | some r0 =>
    obtain ⟨l, st'⟩ := r0
    rw [q] at h4
    have h4' : (if l.length ≤ sizeLine then some (Res.ok (.lst l), st') else none) = some o := h4
    obtain ⟨hz, rfl⟩ := ite_some h4'
    have hwD : w.H D = none := l1.fr.h D hD
    have hDas : ∀ w2 : Wd, Le K w1.as w1 w2 → D ∉ w1.as → w2.H D ≠ none → True := fun _ _ _ _ => trivial
    have nDas : D ∉ w1.as := fun z => by
      obtain ⟨o, e⟩ := so.live D (so.sub D z)
      rw [hD] at e
      cases e
    -- the loop's state: what is made so far, what is left
    refine ⟨fun i n H => i + n = ds.length ∧ ∃ (w2 : Wd) (st2 : Sto) (acc : List V) (dacc rst : List Pw.D), w2.H = H ∧ Le K w1.as w1 w2 ∧ StoOk K G w2 st2 ∧ EnvOk K G w2 ow (wipe σ vs) (wipeE env vs) ∧ prs w2 ∧ D ∈ w2.A ∧ D ∉ w2.as ∧ w2.H D = some (.lst acc) ∧ RepL K G w2 acc dacc ∧
      lcL (wipeE env vs) g mt me (ds.drop i) st2 = some (rst, st') ∧ dacc ++ rst = l, ⟨ds.length, by omega, { w1 with H := upd w1.H D (.lst []), A := D :: w1.A }, st, [], [], l, rfl, Le.newA hD, so.newA hD, ?_, ?_, List.mem_cons_self, nDas, upd_same, .nil, q, rfl⟩, ?_⟩
    · exact env_wipe (en.le (Le.newA hD) so.sub) fun p hp => hO _ (by rw [← h1]; exact List.mem_map_of_mem hp)
    · exact ok.keep w1 _ ok.base fun v d r => r.le (Le.newA (C := w1.as) hD) so.sub
    rintro i n H2 ⟨hin, w2, st2, acc, dacc, rst, rfl, le2, so2, en2, p2, mA, nA, hDl, racc, q2, el⟩
    by_cases hi : i < ds.length
    · have hd : ds.drop i = ds[i] :: ds.drop (i + 1) := List.drop_eq_getElem_cons hi
      rw [hd] at q2
      have ei : ds[i]? = some ds[i] := List.getElem?_eq_getElem hi
      have q2' : (match g ds[i] (wipeE env vs) with
        | none => none
        | some env1 => (match mt env1 st2 with
          | some (.ok true, st1) => (match me env1 st1 with
            | some (.ok y, st2) => (match lcL (wipeE env vs) g mt me (ds.drop (i + 1)) st2 with
              | some (ys, st3) => some (y :: ys, st3)
              | none => none)
            | _ => none)
          | some (.ok false, st1) => lcL (wipeE env vs) g mt me (ds.drop (i + 1)) st1
          | _ => none)) = some (rst, st') := q2
      cases qg : g ds[i] (wipeE env vs) with
      | none => rw [qg] at q2'; cases q2'
      | some env1 =>
        rw [qg] at q2'
        replace q2' : (match mt env1 st2 with
          | some (.ok true, st1) => (match me env1 st1 with
            | some (.ok y, st2) => (match lcL (wipeE env vs) g mt me (ds.drop (i + 1)) st2 with
              | some (ys, st3) => some (y :: ys, st3)
              | none => none)
            | _ => none)
          | some (.ok false, st1) => lcL (wipeE env vs) g mt me (ds.drop (i + 1)) st1
          | _ => none) = some (rst, st') := q2'
        refine .inr ⟨ok.go w2 i _ p2 ei, fun H3 => i + 1 + (n - 1) = ds.length ∧ ∃ (w2 : Wd) (st2 : Sto) (acc : List V) (dacc rst : List Pw.D), w2.H = H3 ∧ Le K w1.as w1 w2 ∧ StoOk K G w2 st2 ∧ EnvOk K G w2 ow (wipe σ vs) (wipeE env vs) ∧ prs w2 ∧ D ∈ w2.A ∧ D ∉ w2.as ∧ w2.H D = some (.lst acc) ∧ RepL K G w2 acc dacc ∧
          lcL (wipeE env vs) g mt me (ds.drop (i + 1)) st2 = some (rst, st') ∧ dacc ++ rst = l, fun H' z => ⟨n - 1, by omega, z⟩, fun x H' y => ?_⟩
        obtain ⟨w3, rfl, gr, rx⟩ := ok.yl w2 i _ x H' p2 so2.sub ei y
        have le3 : Le K w2.as w2 w3 := gr.le
        refine ⟨w3, ow, wipeE env vs, env1, ds[i], rfl, h1, en2.le le3 so2.sub, rx, qg, fun σ' en' chg => ⟨?_, ?_⟩⟩
        · rw [wipe_eq (σ := wipe σ vs) (fun j hj => chg.2 j fun z => hj (hsl j z)) chg.1, wipe_wipe, wipe_wipe]
        have so3 : StoOk K G w3 st2 := so2.grow gr
        have step : ∀ {w4 w5 : Wd}, Le K w4.as w4 w5 → D ∈ w4.A → D ∉ w4.as → (∀ a ∈ w4.as, a ∈ w4.A) → w4.H D = some (.lst acc) → RepL K G w4 acc dacc → prs w4 → EnvOk K G w4 ow (wipe σ vs) (wipeE env vs) → (D ∈ w5.A ∧ D ∉ w5.as ∧ w5.H D = some (.lst acc) ∧ RepL K G w5 acc dacc ∧ prs w5 ∧ EnvOk K G w5 ow (wipe σ vs) (wipeE env vs)) := by
          intro w4 w5 le hA hn hs hl hr hp he
          refine ⟨le.up D hA, fun z => ?_, le.fr.o _ _ hl hn, RepL.le le hs hr, ok.keep w4 w5 hp fun v d r => r.le le hs, he.le le hs⟩
          obtain ⟨n, e1, e2⟩ := le.n
          rw [e1] at z
          rcases List.mem_append.mp z with z | z
          · exact hn z
          · have := e2 D z
            rw [hl] at this
            cases this
        obtain ⟨a1, a2, a3, a4, a5, a6⟩ := step le3 mA nA so2.sub hDl racc p2 en2
        -- the test
        cases qt : mt env1 st2 with
        | none => rw [qt] at q2'; cases q2'
        | some rt =>
          obtain ⟨rt, st3⟩ := rt
          rw [qt] at q2'
          refine ⟨w3, rfl, ow, env1, st2, (rt, st3), h1, so3, en', qt, ?_⟩
          cases rt with
          | exn x l => cases q2'
          | ok b =>
            intro w4 le4 so4
            obtain ⟨b1, b2, b3, b4, b5, b6⟩ := step le4 a1 a2 so3.sub a3 a4 a5 a6
            cases b with
            | false => exact iteF ⟨by omega, w4, st3, acc, dacc, rst, rfl, (le2.trans le3).trans le4, so4, b6, b5, b1, b2, b3, b4, q2', el⟩
            | true =>
              refine iteT ?_
              have q2'' : (match me env1 st3 with
                | some (.ok y, st2) => (match lcL (wipeE env vs) g mt me (ds.drop (i + 1)) st2 with
                  | some (ys, st3) => some (y :: ys, st3)
                  | none => none)
                | _ => none) = some (rst, st') := q2'
              cases qe : me env1 st3 with
              | none => rw [qe] at q2''; cases q2''
              | some re =>
                obtain ⟨re, st4⟩ := re
                rw [qe] at q2''
                refine ⟨w4, rfl, ow, env1, st3, (re, st4), h1, so4, en'.le le4 so3.sub, qe, ?_⟩
                cases re with
                | exn x l => cases q2''
                | ok y =>
                  intro w5 le5 so5 v hv
                  obtain ⟨c1, c2, c3, c4, c5, c6⟩ := step le5 b1 b2 so4.sub b3 b4 b5 b6
                  cases qr : lcL (wipeE env vs) g mt me (ds.drop (i + 1)) st4 with
                  | none =>
                    have z : (match lcL (wipeE env vs) g mt me (ds.drop (i + 1)) st4 with
                      | some (ys, st3) => some (y :: ys, st3)
                      | none => none) = some (rst, st') := q2''
                    rw [qr] at z
                    cases z
                  | some rr =>
                    have z : (match lcL (wipeE env vs) g mt me (ds.drop (i + 1)) st4 with
                      | some (ys, st3) => some (y :: ys, st3)
                      | none => none) = some (rst, st') := q2''
                    rw [qr] at z
                    obtain ⟨ys, st5⟩ := rr
                    cases z
                    have hlen : (dacc ++ y :: ys).length ≤ sizeLine := by rw [el]; exact hz
                    rw [List.length_append, List.length_cons] at hlen
                    have mu : Le K [D] w5 { w5 with H := upd w5.H D (.lst (acc ++ [v])) } := ⟨⟨[], by simp, by simp⟩, fun _ h => h, fun _ h => .inl h, Fr.mut c3⟩
                    have hC : ∀ x ∈ [D], x ∈ w5.A := fun x hx => by rw [List.mem_singleton.mp hx]; exact c1
                    have nD : ∀ x ∈ w5.as, x ≠ D := fun x hx z => c2 (z ▸ hx)
                    refine ⟨acc, c3, by rw [c4.length]; omega, by omega, { w5 with H := upd w5.H D (.lst (acc ++ [v])) }, st4, acc ++ [v], dacc ++ [y], ys, rfl, ?_, ?_, ?_, ok.keep w5 _ c5 fun v d r => r.le mu hC, c1, c2, upd_same, RepL.le mu hC (c4.append (.cons hv .nil)), qr, by rw [List.append_assoc]; exact el⟩
                    · -- from w1 on
                      have le6 := ((le2.trans le3).trans le4).trans le5
                      refine ⟨le6.n, le6.up, le6.dn, ⟨fun x u e n => ?_, fun x xs e => (mu.fr.t x xs (le6.fr.t x xs e)), fun x o u e => mu.fr.z x o u (le6.fr.z x o u e), fun x e => le6.fr.h x (mu.fr.h x e)⟩⟩
                      have : x ≠ D := fun z => by rw [z, hD] at e; cases e
                      show upd w5.H D _ x = _
                      rw [upd_ne this]
                      exact le6.fr.o x u e n
                    · refine ⟨so5.len, so5.nd, so5.sub, fun x hx => ?_, fun k c e => ?_⟩
                      · obtain ⟨u, e⟩ := so5.live x hx
                        by_cases z : x = D
                        · subst z; exact ⟨_, upd_same⟩
                        · exact ⟨u, by show upd w5.H D _ x = _; rw [upd_ne z]; exact e⟩
                      · obtain ⟨x, e1, r⟩ := so5.at_ k c e
                        have nx := nD x (List.mem_of_getElem? e1)
                        refine ⟨x, e1, ?_⟩
                        cases r with
                        | lst e5 r' => exact .lst (by show upd w5.H D _ x = _; rw [upd_ne nx]; exact e5) (RepL.le mu hC r')
                        | ins e5 e6 r' => exact .ins (by show upd w5.H D _ x = _; rw [upd_ne nx]; exact e5) e6 (RepL.le mu hC r')
                    · refine ⟨c6.len, fun p hp => ?_, fun j d e hj => ?_⟩
                      · obtain ⟨⟨g1, g2⟩, zs, l', f1, f2, f3, r'⟩ := c6.own p hp
                        have np : p.2 ≠ D := fun z => by
                          obtain ⟨_, xs0, l0, _, _, f0, _⟩ := en.own p hp
                          rw [z, hD] at f0
                          cases f0
                        exact ⟨⟨g1, g2⟩, zs, l', f1, f2, by show upd w5.H D _ p.2 = _; rw [upd_ne np]; exact f3, RepL.le mu hC r'⟩
                      · obtain ⟨v', f1, r'⟩ := c6.var j d e hj
                        exact ⟨v', f1, Rep.le mu hC r'⟩
    · have hd : ds.drop i = [] := List.drop_eq_nil_of_le (by omega)
      rw [hd] at q2
      have q2' : some (([] : List Pw.D), st2) = some (rst, st') := q2
      cases q2'
      rw [List.append_nil] at el
      subst el
      have ei : i = ds.length := by omega
      subst ei
      exact .inl ⟨ok.stop w2 p2, h5 w2 le2 so2 _ ⟨D, acc, _, rfl, rfl, mA, nA, hwD, hDl, racc⟩⟩
theorem rf_lc {scope : Scope} {own : List (Str × Nat)} {ifs : List Expr} (hN : X.N.Nodup) (ok : BlkOk X.N X.env.scope scope own) (hi : RI X G E Os tg iter mi)
    (hg : ∀ (s : Shared) (H : Hp) (C : Addr) (cl : List (Str × Addr)) (fp : List Addr), RG (X.blk s H scope (compEnvC scope cl C X.env) fp) G Os sl tg g)
    (ht : ∀ (s : Shared) (H : Hp) (C : Addr) (cl : List (Str × Addr)) (fp : List Addr), RTs (X.blk s H scope (compEnvC scope cl C X.env) fp) G L2.E0 Os ifs mt)
    (he : ∀ (s : Shared) (H : Hp) (C : Addr) (cl : List (Str × Addr)) (fp : List Addr), RE (X.blk s H scope (compEnvC scope cl C X.env) fp) G L2.E0 Os elt me)
    (hsl : sl.all (fun i => (own.map (·.2)).contains i) = true := by rfl) (hO : Os.all (fun i => !(own.map (·.2)).contains i) = true := by rfl) (hc : X.calm = true := by rfl) (hs : ∀ x, foldedSetIterable iter X.env x = pure x := by intro _; rfl) :
    RF X G E Os (.ListComp elt [⟨tg, iter, ifs, 0⟩] scope pos) (mLc (own.map (·.2)) mi g mt me) :=
  (pe_lc hc hN hi ok hg ht he hs).imp fun σ H Q h => lc_go (fun i hi => List.contains_iff_mem.mp (List.all_eq_true.mp hsl i hi)) (fun i hi z => by
    have := List.all_eq_true.mp hO i hi
    rw [List.contains_iff_mem.mpr z] at this
    cases this) h
end
end Pw
namespace Pw
open PySem PySem.Spec PyProof.Rows L2 RZ
section
variable {X : Cx} {G : Str → Addr} {E : XK} {fr : Bool} {Ol Os O1 Os' sl sl2 : List Nat} {e a b c tg iter elt : Expr} {es : List Expr} {m ma mb mc me : M D} {mr mi : M (List D)} {pos p p2 p3 : Pos} {s : Stmt} {rest bd bd2 : List Stmt} {m1 m2 : S} {mt : M Bool} {g : Gt} {gs : List Gt}
/-! ## x = [e for ..] on one line -/
theorem own_go {K : PySem.W.Frag} {Dn : Ends} {σ : L2.St} {H : Hp} {te : TE} {i : Nat} (hO : Os.contains i = false) (ht : ∀ σ H Q, rdF K G E Os m σ H Q → te σ H Q) (h : rdS K G E fr Ol Os (i :: Os) (sOwn i m) Dn σ H) : tAsg te (gName i) Dn σ H := by
  obtain ⟨w, hw, r⟩ := exF_go h
  refine ht _ _ _ ⟨w, hw, r.mono fun w' d l ⟨B, B', ow, env, st', o, h1, hm, hl, sl, a, h2, h3⟩ v hv => ?_⟩
  obtain ⟨p, xs, q, rfl, rfl, g1, g2, g3, g4, r⟩ := hv
  have h2' : (if i < env.length then some (Fl.nx (env.set i (some (.lst q))), st') else none) = some o := h2
  obtain ⟨hi', rfl⟩ := ite_some h2'
  obtain ⟨B2, a2, sl2⟩ := a.own (not_own h1 hO) hi' g1 g2 g3 g4 r (fun z => by
    obtain ⟨o, e⟩ := hl p ((hm p).mpr (.inr z))
    rw [g3] at e; cases e) (fun z => by
    obtain ⟨o, e⟩ := hl p ((hm p).mpr (.inl z))
    rw [g3] at e; cases e) sl
  exact h3 w' B2 ((i, p) :: ow) _ sl2 (by rw [List.map_cons, h1]) a2
theorem rf_rd {K : PySem.W.Frag} {σ : L2.St} {H : Hp} {Q : VK} (h : rdE K G E Os m σ H Q) : rdF K G E Os m σ H Q := by
  obtain ⟨w, hw, ow, env, st, o, h1, h2, h3, h4, h5⟩ := h
  refine ⟨w, hw, ow, env, st, o, h1, h2, h3, h4, ?_⟩
  obtain ⟨r, st'⟩ := o
  cases r with
  | exn x l => exact h5
  | ok d =>
    intro w' l so v hv
    obtain ⟨A', l', so', r⟩ := new_rep hv l so h2.live
    exact h5 _ l' so' v r
theorem lc_hO {own : List (Str × Nat)} (hO : Os.all (fun i => !(own.map (·.2)).contains i) = true) : ∀ i ∈ Os, i ∉ own.map (·.2) := fun i hi z => by
  have := List.all_eq_true.mp hO i hi
  rw [List.contains_iff_mem.mpr z] at this
  cases this
theorem rs_ownLc (i : Nat) {x : Str} {scope : Scope} {own : List (Str × Nat)} {ifs : List Expr} (hN : X.N.Nodup) (ok : BlkOk X.N X.env.scope scope own) (hi : RI X G E Os tg iter mi)
    (hg : ∀ (s : Shared) (H : Hp) (C : Addr) (cl : List (Str × Addr)) (fp : List Addr), RG (X.blk s H scope (compEnvC scope cl C X.env) fp) G Os sl tg g)
    (ht : ∀ (s : Shared) (H : Hp) (C : Addr) (cl : List (Str × Addr)) (fp : List Addr), RTs (X.blk s H scope (compEnvC scope cl C X.env) fp) G L2.E0 Os ifs mt)
    (he : ∀ (s : Shared) (H : Hp) (C : Addr) (cl : List (Str × Addr)) (fp : List Addr), RE (X.blk s H scope (compEnvC scope cl C X.env) fp) G L2.E0 Os elt me)
    (hy : X.N[i]? = some x := by rfl) (hyl : X.env.scope.names.lookup x = some .local := by rfl) (hsw : swapsWith (.ListComp elt [⟨tg, iter, ifs, 0⟩] scope pos) (some (.Name x p2)) p.line X.env = pure true := by exact sw_true rfl rfl rfl (by decide +kernel))
    (hsl : sl.all (fun i => (own.map (·.2)).contains i) = true := by rfl) (hO : Os.all (fun i => !(own.map (·.2)).contains i) = true := by rfl) (hOi : Os.contains i = false := by rfl) (hc : X.calm = true := by rfl) (hs : ∀ x, foldedSetIterable iter X.env x = pure x := by intro _; rfl) :
    RS X G E fr Ol Os (i :: Os) (.Assign [.Name x p2] (.ListComp elt [⟨tg, iter, ifs, 0⟩] scope pos) p) (sOwn i (mLc (own.map (·.2)) mi g mt me)) :=
  (ps_setLc hc hN hy hyl hsw hi ok hg ht he hs).imp fun Dn σ H h => own_go hOi (fun _ _ _ q => lc_go (fun i hi => List.contains_iff_mem.mp (List.all_eq_true.mp hsl i hi)) (lc_hO hO) q) h
theorem rs_setLc (i : Nat) {x : Str} {scope : Scope} {own : List (Str × Nat)} {ifs : List Expr} (hN : X.N.Nodup) (ok : BlkOk X.N X.env.scope scope own) (hi : RI X G E Os tg iter mi)
    (hg : ∀ (s : Shared) (H : Hp) (C : Addr) (cl : List (Str × Addr)) (fp : List Addr), RG (X.blk s H scope (compEnvC scope cl C X.env) fp) G Os sl tg g)
    (ht : ∀ (s : Shared) (H : Hp) (C : Addr) (cl : List (Str × Addr)) (fp : List Addr), RTs (X.blk s H scope (compEnvC scope cl C X.env) fp) G L2.E0 Os ifs mt)
    (he : ∀ (s : Shared) (H : Hp) (C : Addr) (cl : List (Str × Addr)) (fp : List Addr), RE (X.blk s H scope (compEnvC scope cl C X.env) fp) G L2.E0 Os elt me)
    (hy : X.N[i]? = some x := by rfl) (hyl : X.env.scope.names.lookup x = some .local := by rfl) (hsw : swapsWith (.ListComp elt [⟨tg, iter, ifs, 0⟩] scope pos) (some (.Name x p2)) p.line X.env = pure true := by exact sw_true rfl rfl rfl (by decide +kernel))
    (hsl : sl.all (fun i => (own.map (·.2)).contains i) = true := by rfl) (hO : Os.all (fun i => !(own.map (·.2)).contains i) = true := by rfl) (hOi : Os.contains i = false := by rfl) (hc : X.calm = true := by rfl) (hs : ∀ x, foldedSetIterable iter X.env x = pure x := by intro _; rfl) :
    RS X G E fr Ol Os Os (.Assign [.Name x p2] (.ListComp elt [⟨tg, iter, ifs, 0⟩] scope pos) p) (sSet i (mLc (own.map (·.2)) mi g mt me)) :=
  (ps_setLc hc hN hy hyl hsw hi ok hg ht he hs).imp fun Dn σ H h => by
    refine lc_go (E := E) (g := g) (mt := mt) (me := me) (mi := mi) (fun i hi => List.contains_iff_mem.mp (List.all_eq_true.mp hsl i hi)) (lc_hO hO) (rf_rd ?_)
    exact set_go hOi h
/-! ## module constants that are tuples -/
/-- what a written tuple holds, by the head -/
def KTup (K : PySem.W.Frag) (mg : Str → Option Value) (G : Str → Addr) (x : Str) (d : D) : Prop := ∃ a, mg x = some (.ref a) ∧ ∀ w : Wd, Rep K G w (.ref a) d
theorem re_gtup {x : Str} {d : D} (h : KTup X.K X.mg G x d) (hg : Gl X x := by rfl) (hd : (x == ("__debug__" : Str)) = false := by decide) : RE X G E Os (.Name x pos) (mLit d) := by
  obtain ⟨a, h1, h2⟩ := h
  exact re_glob (v := .ref a) h1 rfl h2 hg hd
/-! ## x += n -/
def sAug (i : Nat) (me : M D) : S := fun env st => match env[i]? with
  | some (some (.int a)) => sEx me (fun d env st => match d with
    | .int b => if i < env.length then some (.nx (env.set i (some (.int (a + b)))), st) else none
    | _ => none) env st
  | _ => none
theorem rs_aug (i : Nat) {x : Str} (hN : X.N.Nodup) (he : RE X G E Os e m) (hi : X.N[i]? = some x := by rfl) (hx : Loc X.env.scope x := by first | exact Or.inl rfl | exact Or.inr rfl) (hO : Os.contains i = false := by rfl)
    (hf : X.fn x = true ∨ X.env.scope.names.lookup x = some .local := by first | exact .inl rfl | exact .inr rfl | assumption) : RS X G E fr Ol Os Os (.AugAssign (.Name x p) .Add e pos) (sAug i m) :=
  (ps_aug hN hi hx he ip_add hf).imp fun Dn σ H h => by
    obtain ⟨w, B, ow, env, st, o, h1, h2, h3, h4, h5⟩ := h
    unfold sAug at h4
    split at h4
    · rename_i av ei
      obtain ⟨v, e1, r⟩ := h3.en.var i _ ei (not_own h2 hO)
      cases r
      obtain ⟨w1, hw, r1⟩ := ex_go (Os' := Os) ⟨w, B, ow, env, st, o, h1, h2, h3, h4, h5⟩
      refine ⟨_, e1, w1, hw, r1.mono fun w' d l ⟨B', ow', env', st', o', k1, a', k2, k3⟩ v hv => ?_⟩
      cases hv with
      | int j =>
        have k2' : (if i < env'.length then some (Fl.nx (env'.set i (some (.int (av + j)))), st') else none) = some o' := k2
        obtain ⟨hi', rfl⟩ := ite_some k2'
        exact ⟨_, _, rfl, rfl, k3 w' B' ow' _ SLe.refl k1 ⟨a'.mem, a'.nb, a'.asB, a'.nd, a'.nd1, a'.so, a'.en.set (not_own k1 hO) (.int _)⟩⟩
      | _ => cases k2
    · cases h4
end
end Pw
namespace Pw
open PySem PySem.Spec PyProof.Rows L2 RZ
section
variable {X : Cx} {G : Str → Addr} {E : XK} {fr : Bool} {Ol Os O1 Os' sl sl2 : List Nat} {e a b c tg iter elt : Expr} {es : List Expr} {m ma mb mc me : M D} {mr mi : M (List D)} {pos p p2 p3 : Pos} {s : Stmt} {rest bd bd2 : List Stmt} {m1 m2 : S} {mt : M Bool} {g : Gt} {gs : List Gt}
theorem re_chain {op op' : CmpOp} {f f' : D → D → Option D} (h : CmpOk X G op f) (h' : CmpOk X G op' f') (ha : RB X G E Os a ma) (hb : RB X G E Os b mb) (hc : RB X G E Os c mc) (hm : lastMarks [op, op'] [b, c] = false := by with_unfolding_all rfl) :
    RE X G E Os (.Compare a [op, op'] [b, c] pos) (mChain f f' ma mb mc) := by
  obtain ⟨r, h1, h2⟩ := h.ex
  obtain ⟨r', h3, h4⟩ := h'.ex
  refine (pe_chain h1 h3 ha hb hc hm).imp fun σ H Q ⟨w, hw, q⟩ => ⟨w, hw, q.bnd.mono fun w1 x l1 r1 v hv => ⟨w1, rfl, r1.bnd.mono fun w2 y l2 r2 u hu => ?_⟩⟩
  obtain ⟨t, st, e1, so, q3⟩ := r2.bnd.lft
  refine h2 w2 st v u x y t _ so (hv.le l2 r1.sub) hu e1 fun w' vt l s rt => ?_
  have q4 := q3 w' l s
  split at q4
  · cases rt
    exact ⟨_, rfl, iteT ⟨w', rfl, q4.bnd.mono fun w4 z l4 r4 vz hz => by
      obtain ⟨t', st', e1', so', q'⟩ := r4.lft
      exact h4 w4 st' u vz y z t' Q so' ((hu.le l r2.sub).le l4 q4.sub) hz e1' fun w' v l s rv => q' w' l s v rv⟩⟩
  · cases rt
    obtain ⟨z, st, e1, so, q⟩ := rdW.lft q4
    cases e1
    exact ⟨_, rfl, iteF (q w' Le.refl so _ (.bl _))⟩
  · obtain ⟨z, st, e1, so, q⟩ := rdW.lft q4
    cases e1
/-! ## a list or a tuple walked -/
def mItA (m : M D) : M (List D) := bnd m fun d => lft (match d with | .lst l => some l | .tup l => some l | _ => none)
theorem _root_.L2.PI.or {t1 t2 : TI} (h1 : PI X tg e t1) (h2 : PI X tg e t2) : PI X tg e (fun σ H R => t1 σ H R ∨ t2 σ H R) := ⟨fun pins s σ H R I q => q.elim (h1.run pins s σ H R I) (h2.run pins s σ H R I)⟩
theorem ri_seq (h : RE X G E Os e m) : RI X G E Os tg e (mItA m) := by
  refine ⟨fun pins s σ H R I q => (PI.or (pi_list h) (pi_tup h)).run pins s σ H R I ?_⟩
  obtain ⟨w, hw, ow, env, st, o, h1, h2, h3, h4, h5⟩ := q
  unfold mItA bnd at h4
  cases hm : m env st with
  | none => rw [hm] at h4; cases h4
  | some r =>
    obtain ⟨r, st'⟩ := r
    rw [hm] at h4
    cases r with
    | exn x l =>
      have e1 : (Res.exn x l, st') = o := Option.some.inj h4
      subst e1
      exact .inl ⟨w, hw, ow, env, st, (.exn x l, st'), h1, h2, h3, hm, h5⟩
    | ok d =>
      cases d with
      | lst l =>
        cases h4
        refine .inl ⟨w, hw, ow, env, st, (.ok (.lst l), st'), h1, h2, h3, hm, fun w1 l1 s1 v hv => ?_⟩
        obtain ⟨a, rfl, hx, ok⟩ := it_list hv
        exact ⟨a, rfl, hx, h5 w1 l1 s1 _ _ ok⟩
      | tup l =>
        cases h4
        refine .inr ⟨w, hw, ow, env, st, (.ok (.tup l), st'), h1, h2, h3, hm, fun w1 l1 s1 v hv => ?_⟩
        obtain ⟨a, rfl, hx, ok⟩ := it_tup hv
        exact ⟨a, rfl, hx, h5 w1 l1 s1 _ _ ok⟩
      | _ => cases h4
/-! ## enumerate of a list -/
def enumL : Int → List D → List D
  | _, [] => []
  | k, d :: r => .tup [.int k, d] :: enumL (k + 1) r
theorem enumL_get : ∀ (l : List D) (k : Int) (i : Nat), (enumL k l)[i]? = (l[i]?).map fun d => .tup [.int (k + i), d]
  | [], _, _ => by simp [enumL]
  | d :: r, k, 0 => by simp [enumL]
  | d :: r, k, i + 1 => by
    unfold enumL
    rw [List.getElem?_cons_succ, enumL_get r (k + 1) i, List.getElem?_cons_succ]
    congr 1
    funext d
    have : k + 1 + (i : Int) = k + ((i + 1 : Nat) : Int) := by omega
    rw [this]
theorem enumL_len : ∀ (l : List D) (k : Int), (enumL k l).length = l.length
  | [], _ => rfl
  | d :: r, k => by unfold enumL; rw [List.length_cons, List.length_cons, enumL_len r]
theorem it_enum {K : PySem.W.Frag} {w : Wd} {v : V} {l : List D} (h : Rep K G w v (.lst l)) : ∃ a xs, v = .ref a ∧ SqL K w.H a xs ∧ ItOk K G (Ite K a) w (enumL 0 l) (fun w1 => Rep K G w1 (.ref a) (.lst l)) := by
  cases h with
  | @lst a xs ds h1 h2 h3 =>
    refine ⟨a, xs, rfl, .of h2, ⟨.lst h1 h2 h3, fun w1 w2 p q => q _ _ p, fun w1 i d p e => ?_, fun w1 i d x H' p hs e y => ?_, fun w1 p => ?_⟩⟩
    · cases p with
      | lst _ g2 g3 =>
        rw [enumL_get] at e
        obtain ⟨d', e1, rfl⟩ := Option.map_eq_some_iff.mp e
        obtain ⟨v, e2, _⟩ := g3.get' e1
        exact ⟨_, v, .of g2, e2⟩
    · cases p with
      | lst _ g2 g3 =>
        rw [enumL_get] at e
        obtain ⟨d', e1, rfl⟩ := Option.map_eq_some_iff.mp e
        obtain ⟨v, e2, r⟩ := g3.get' e1
        obtain ⟨T, x1, rfl, nT, rfl, k1⟩ := y
        have m1 := k1 _ (.of g2)
        rw [e2] at m1
        cases m1
        refine ⟨{ w1 with H := upd w1.H T (.tup [.int (i : Nat), v]) }, rfl, ⟨rfl, rfl, Fr.new nT⟩, ?_⟩
        rw [show ((0 : Int) + (i : Int)) = ((i : Nat) : Int) by omega]
        exact .tup (.inl (.inl upd_same)) (.cons (.int _) (.cons (r.le (Le.new (C := w1.as) nT) hs) .nil))
    · cases p with
      | lst _ g2 g3 => exact ⟨_, .of g2, by rw [enumL_len, g3.length]; exact Nat.le_refl _⟩
def mEnum (m : M D) : M (List D) := bnd m fun d => lft (match d with | .lst l => some (enumL 0 l) | _ => none)
theorem ri_enum {elts : List Expr} {kk : Nat} {tpos : Pos} (hm : X.mg "enumerate" = none) (h : RE X G E Os e m) (hg : Gl X "enumerate" := by rfl) (hs : starEach [e] X.env = [(false, eval e X.env)] := by rfl) :
    RI X G E Os (.Tuple elts kk tpos) (.Call (.Name "enumerate" p) [e] [] pos) (mEnum m) :=
  (pi_enum hg hm (pa_cons h pa_nil hs) hs).imp fun σ H R ⟨w, hw, r⟩ => ⟨w, hw, r.bnd.mono fun w1 d l1 r1 v hv => by
    obtain ⟨y, st, e1, so, q⟩ := r1.lft
    split at e1
    · cases e1
      obtain ⟨a, xs, rfl, hx, ok⟩ := it_enum hv
      exact ⟨a, xs, rfl, hx, q w1 Le.refl so _ _ ok⟩
    · cases e1⟩
/-! ## a new list or another -/
def mOrL (ma mb : M D) : M D := bnd ma fun x => match x with | .lst [] => mb | .lst (y :: r) => lft (some (.lst (y :: r))) | _ => lft none
theorem rf_or (ha : RF X G E Os a ma) (hb : RF X G E Os b mb) : RF X G E Os (.BoolOp .Or [a, b] pos) (mOrL ma mb) :=
  (pe_orT ha (pe_one hb)).imp fun σ H Q ⟨w, hw, r⟩ => ⟨w, hw, r.bnd.mono fun w1 x l1 r1 v hv => by
    obtain ⟨p, xs, l, rfl, rfl, g1, g2, g3, g4, g5⟩ := hv
    cases g5 with
    | nil =>
      refine ⟨false, .inl ⟨[], .of g4, rfl⟩, iteF ⟨w1, rfl, r1.mono fun w2 d l2 q v2 hv2 => q v2 ?_⟩⟩
      obtain ⟨p', xs', l', a1, a2, a3, a4, a5, a6, a7⟩ := hv2
      exact ⟨p', xs', l', a1, a2, a3, a4, l1.fr.h _ a5, a6, a7⟩
    | cons hv t =>
      refine ⟨true, .inl ⟨_, .of g4, rfl⟩, iteT ?_⟩
      obtain ⟨y, st, e1, so, q⟩ := r1.lft
      cases e1
      exact q w1 Le.refl so _ ⟨p, _, _, rfl, rfl, g1, g2, g3, g4, .cons hv t⟩⟩
/-! ## x[i] = e -/
theorem ex_goW {K : PySem.W.Frag} {Dn : Ends} {σ : L2.St} {me : M D} {k : D → S} {w : Wd} {B : List Addr} {ow : Ow} {env : Env} {st : Sto} {o : Fl × Sto} (h2 : ow.map (·.1) = Os) (h3 : At K G w B ow σ env st) (h4 : sEx me k env st = some o) (h5 : OutS K G E fr Dn Os' Ol w B ow o) :
    rdW K G E Os me (fun w' d => Le K w.as w w' ∧ ∃ (B' : List Addr) (st' : Sto), At K G w' B' ow σ env st' ∧ k d env st' = some o ∧ OutS K G E fr Dn Os' Ol w' B' ow o) σ w := by
  unfold sEx at h4
  cases q : me env st with
  | none => rw [q] at h4; cases h4
  | some r =>
    rw [q] at h4
    refine ⟨ow, env, st, r, h2, h3.so, h3.en, q, ?_⟩
    obtain ⟨r, st'⟩ := r
    cases r with
    | ok d =>
      intro w' l so
      obtain ⟨B', a', l'⟩ := h3.le l so
      exact ⟨l, B', st', a', h4, h5.le l'⟩
    | exn x l =>
      cases h4
      exact exn_out h3 h5 _
def sStO (i : Nat) (mb me : M D) : S := sEx me fun d => sEx mb fun ix env st => match ix, env[i]? with
  | .int j, some (some (.lst l)) => (match ixN l.length j with
    | some n => some (.nx (env.set i (some (.lst (l.set n d)))), st)
    | none => none)
  | _, _ => none
theorem rs_stO (i : Nat) {x : Str} (hb : RE X G E Os b mb) (he : RE X G E Os e m) (hO : Os.contains i = true := by rfl) (hN : X.N[i]? = some x := by rfl) (hv : Vis X.env.scope x := by first | exact Or.inl rfl | exact Or.inr (Or.inl rfl) | exact Or.inr (Or.inr rfl))
    (hs : swapsWithSole [.Subscript (.Name x p2) b p3] e pos.line X.env = pure false := by rfl) (hw : swappedStores [.Subscript (.Name x p2) b p3] e X.env = pure none := by rfl) (h1 : (assignEach [.Subscript (.Name x p2) b p3] X.env).map (·.2) = [assign (.Subscript (.Name x p2) b p3) X.env] := by rfl)
    (ha : ∀ v, assign (.Subscript (.Name x p2) b p3) X.env v = (do
      let ov ← holding [v] (eval (.Name x p2) X.env)
      let iv ← holding [v, ov] (eval b X.env)
      standAt p3
      holding [v, ov, iv] (setItem ov iv v)
      release [v, ov, iv] []) := by intro _; rfl) (hd : (x == ("__debug__" : Str)) = false := by decide) (hcd : (x == ("__classdict__" : Str)) = false := by decide) :
    RS X G E fr Ol Os Os (.Assign [.Subscript (.Name x p2) b p3] e pos) (sStO i mb m) :=
  (ps_asg he (pg_sub (pe_var hN hv hd hcd) hb set_list ha) hs hw h1).imp fun Dn σ H h => by
    obtain ⟨w, B, ow, env, st, o, h1, h2, h3, h4, h5⟩ := h
    refine ⟨w, h1, (ex_goW h2 h3 h4 h5).mono fun w1 d _ ⟨l1, B1, st1, a1, k1, q1⟩ v hv => ?_⟩
    obtain ⟨p, xs, l, g1, g2, g3, g4, g5⟩ := own_of a1 h2 hO
    refine ⟨_, g3, w1, rfl, (ex_goW h2 a1 k1 q1).mono fun w2 ix _ ⟨l2, B2, st2, a2, k2, q2⟩ u hu => ?_⟩
    obtain ⟨p', xs', l', f1, f2, f3, f4, f5⟩ := own_of a2 h2 hO
    rw [g3] at f3
    cases f3
    cases hu with
    | int j =>
      have k2' := k2
      rw [f2] at k2'
      simp only at k2'
      split at k2'
      · rename_i n hn
        cases k2'
        obtain ⟨a3, sl⟩ := a2.rewrite f1 (f5.set (hv.le l2 a1.so.sub) n)
        exact ⟨p, xs', j, n, rfl, rfl, f4, by rw [f5.length]; exact hn, q2 _ B2 ow σ sl h2 a3⟩
      · cases k2'
    | _ => cases k2
/-- a cell is rewritten -/
theorem At.cell {K : PySem.W.Frag} {w : Wd} {B : List Addr} {ow : Ow} {σ : L2.St} {env : Env} {st : Sto} {k : Nat} {p : Addr} {xs ys : List V} {l : List D} (a : At K G w B ow σ env st) (hp : w.as[k]? = some p) (e3 : w.H p = some (.lst xs)) (r : RepL K G w ys l) :
    At K G { w with H := upd w.H p (.lst ys) } B ow σ env (st.set k (.lst l)) ∧ SLe K w B ow { w with H := upd w.H p (.lst ys) } B ow := by
  have hm : p ∈ w.as := List.mem_of_getElem? hp
  have le : Le K [p] w { w with H := upd w.H p (.lst ys) } := ⟨⟨[], by simp, by simp⟩, fun _ h => h, fun _ h => .inl h, Fr.mut e3⟩
  have hC : ∀ c ∈ [p], c ∈ w.A := fun c hc => by rw [List.mem_singleton.mp hc]; exact a.so.sub p hm
  have hlt : k < st.length := by rw [← a.so.len]; exact (List.getElem?_eq_some_iff.mp hp).1
  refine ⟨⟨a.mem, a.nb, a.asB, a.nd, a.nd1, ⟨by rw [List.length_set]; exact a.so.len, a.so.nd, a.so.sub, fun x hx => ?_, fun j c e => ?_⟩, ⟨a.en.len, fun q hq => ?_, fun j d e hj => ?_⟩⟩, ⟨⟨[], by simp, by simp⟩, fun _ h => h, fun _ h => .inl h, le.fr.sub fun x hx => ?_, fun q hq => .inl (List.mem_map_of_mem hq)⟩⟩
  · obtain ⟨o, e⟩ := a.so.live x hx
    by_cases q : x = p
    · subst q; exact ⟨_, upd_same⟩
    · exact ⟨o, by show upd w.H p _ x = _; rw [upd_ne q]; exact e⟩
  · by_cases hj : k = j
    · subst hj
      rw [List.getElem?_set_self hlt] at e
      cases e
      exact ⟨p, hp, .lst upd_same (RepL.le le hC r)⟩
    · rw [List.getElem?_set_ne hj] at e
      obtain ⟨x, g1, r'⟩ := a.so.at_ j c e
      have nx : x ≠ p := fun z => hj (by
        subst z
        obtain ⟨i1, g3⟩ := List.getElem?_eq_some_iff.mp hp
        obtain ⟨i2, g4⟩ := List.getElem?_eq_some_iff.mp g1
        exact (List.getElem_inj (h₀ := i1) (h₁ := i2) a.so.nd).mp (by rw [g3, g4]))
      refine ⟨x, g1, ?_⟩
      cases r' with
      | lst e5 r' => exact .lst (by show upd w.H p _ x = _; rw [upd_ne nx]; exact e5) (RepL.le le hC r')
      | ins e5 e6 r' => exact .ins (by show upd w.H p _ x = _; rw [upd_ne nx]; exact e5) e6 (RepL.le le hC r')
  · obtain ⟨⟨g1, g2⟩, zs, l', f1, f2, f3, r'⟩ := a.en.own q hq
    have nq : q.2 ≠ p := fun z => g2 (z ▸ hm)
    exact ⟨⟨g1, g2⟩, zs, l', f1, f2, by show upd w.H p _ q.2 = _; rw [upd_ne nq]; exact f3, RepL.le le hC r'⟩
  · obtain ⟨v, f1, r'⟩ := a.en.var j d e hj
    exact ⟨v, f1, Rep.le le hC r'⟩
  · rw [List.mem_singleton.mp hx]
    exact List.mem_append_left _ hm
def sStC (i : Nat) (mb me : M D) : S := sEx me fun d env st => match env[i]? with
  | some (some (.cell k)) => sEx mb (fun ix env st => match ix, st[k]? with
    | .int j, some (.lst l) => (match ixN l.length j with
      | some n => some (.nx env, st.set k (.lst (l.set n d)))
      | none => none)
    | _, _ => none) env st
  | _ => none
theorem rs_stC (i : Nat) {x : Str} (hb : RE X G E Os b mb) (he : RE X G E Os e m) (hO : Os.contains i = false := by rfl) (hN : X.N[i]? = some x := by rfl) (hv : Vis X.env.scope x := by first | exact Or.inl rfl | exact Or.inr (Or.inl rfl) | exact Or.inr (Or.inr rfl))
    (hs : swapsWithSole [.Subscript (.Name x p2) b p3] e pos.line X.env = pure false := by rfl) (hw : swappedStores [.Subscript (.Name x p2) b p3] e X.env = pure none := by rfl) (h1 : (assignEach [.Subscript (.Name x p2) b p3] X.env).map (·.2) = [assign (.Subscript (.Name x p2) b p3) X.env] := by rfl)
    (ha : ∀ v, assign (.Subscript (.Name x p2) b p3) X.env v = (do
      let ov ← holding [v] (eval (.Name x p2) X.env)
      let iv ← holding [v, ov] (eval b X.env)
      standAt p3
      holding [v, ov, iv] (setItem ov iv v)
      release [v, ov, iv] []) := by intro _; rfl) (hd : (x == ("__debug__" : Str)) = false := by decide) (hcd : (x == ("__classdict__" : Str)) = false := by decide) :
    RS X G E fr Ol Os Os (.Assign [.Subscript (.Name x p2) b p3] e pos) (sStC i mb m) :=
  (ps_asg he (pg_sub (pe_var hN hv hd hcd) hb set_list ha) hs hw h1).imp fun Dn σ H h => by
    obtain ⟨w, B, ow, env, st, o, h1, h2, h3, h4, h5⟩ := h
    refine ⟨w, h1, (ex_goW h2 h3 h4 h5).mono fun w1 d _ ⟨l1, B1, st1, a1, k1, q1⟩ v hv => ?_⟩
    split at k1
    · rename_i k hk
      obtain ⟨u0, f1, r1⟩ := a1.en.var i _ hk (not_own h2 hO)
      refine ⟨_, f1, w1, rfl, (ex_goW h2 a1 k1 q1).mono fun w2 ix _ ⟨l2, B2, st2, a2, k2, q2⟩ u hu => ?_⟩
      have r2 := r1.le l2 a1.so.sub
      cases r2 with
      | cell hp =>
        cases hu with
        | int j =>
          have k2' := k2
          split at k2'
          · rename_i c l jj g1 hl
            cases g1
            split at k2'
            · rename_i n hn
              cases k2'
              obtain ⟨p', e1, cr⟩ := a2.so.at_ _ _ hl
              rw [hp] at e1
              cases e1
              cases cr with
              | lst e2 rl =>
                obtain ⟨a3, sl⟩ := a2.cell hp e2 (rl.set (hv.le l2 a1.so.sub) n)
                exact ⟨_, _, j, n, rfl, rfl, e2, by rw [rl.length]; exact hn, q2 _ B2 ow σ sl h2 a3⟩
            · cases k2'
          · cases k2'
        | _ => cases k2
    · cases k1
end
end Pw
namespace Pw
open PySem PySem.Spec PyProof.Rows L2 RZ
/-! ## the head -/
def obsM (n : Nat) (fa : List He.Fa) (fn : List He.DefD) (more : PySem.W.Frag → Bool) (g : Addr → Option Obj) : Bool × He.AlD := (more (He.frG g (He.asD g n)), He.obsDG n fa fn g)
def hookM (n : Nat) (fa : List He.Fa) (fn : List He.DefD) (more : PySem.W.Frag → Bool) : PySem.W.Hook where
  α := Bool × He.AlD
  obs := fun s => obsM n fa fn more s.heap.get?
  val := fun _ => (true, He.valD fn)
  says := fun _ h => ∃ K : PySem.W.Frag, K.In h ∧ more K = true ∧ He.SaysD fa fn K
  of := fun _ _ e => ⟨_, He.frG_in, congrArg (fun z : Bool × He.AlD => z.1) e, congrArg (fun z : Bool × He.AlD => z.2) e⟩
  keeps := fun _ _ _ ⟨K, hK, c⟩ k => ⟨K, PySem.W.Frag.In.keeps hK k, c⟩
theorem obsM_eq {n : Nat} {fa : List He.Fa} {fn : List He.DefD} {more : PySem.W.Frag → Bool} {g : Addr → Option Obj} {s : Shared} (h : ∀ a, g a = s.heap.get? a) : obsM n fa fn more g = (hookM n fa fn more).obs s := by
  have e : g = s.heap.get? := funext h
  rw [e] <;> rfl
/-- the module's tuples of plain things -/
def dvD : He.Dv → D
  | .bl b => .bl b
  | .int i => .int i
  | .str x => .str x
  | _ => .non
def dvOk : He.Dv → Bool
  | .non => true
  | .bl _ => true
  | .int _ => true
  | .str _ => true
  | _ => false
def moreT (l : List (Str × List He.Dv)) (K : PySem.W.Frag) : Bool := l.all fun p => p.2.all dvOk && He.tupB K p.1 p.2
section
variable {K : PySem.W.Frag} {mg : Str → Option Value} {G : Str → Addr}
theorem dv_rep {w : Wd} : ∀ (vs : List He.Dv), vs.all dvOk = true → RepL K G w (vs.map (He.Dv.v K)) (vs.map dvD)
  | [], _ => .nil
  | v :: r, h => by
    rw [List.all_cons, Bool.and_eq_true] at h
    refine .cons ?_ (dv_rep r h.2)
    have h1 := h.1
    cases v <;> first | exact .non | exact .bl _ | exact .int _ | exact .str _ | cases h1
theorem ktup_of {x : Str} {vs : List He.Dv} {l : List (Str × List He.Dv)} (h : moreT l K = true) (hm : mg x = some (.ref (He.ga K x))) (i : Nat) (hi : l[i]? = some (x, vs) := by rfl) : KTup K mg G x (.tup (vs.map dvD)) := by
  have q := List.all_eq_true.mp h _ (List.mem_of_getElem? hi)
  rw [Bool.and_eq_true] at q
  exact ⟨_, hm, fun w => .tup (He.tupB_ok q.2 w.H) (dv_rep vs q.1)⟩
theorem fun_of {x q : Str} {st : Stmt} {f : Addr} {fd : FuncData} (F : FunD K x q (defArgs st) (defBody st) (defScope st) [] [] f fd) : Fun K x q st f fd := by
  obtain ⟨oc, od, dV, kV, doc, pm, an, cdv, ct, osl, rfl, lk, hcd, hD, hK⟩ := F.ex
  rcases hD with ⟨_, rfl⟩ | ⟨e, _⟩
  · exact ⟨⟨oc, od, kV, doc, pm, an, cdv, ct, osl, rfl, lk, hcd⟩, F.kp⟩
  · exact absurd rfl e
structure DefOk (K : PySem.W.Frag) (mg : Str → Option Value) (x : Str) (st : Stmt) (ps : List Str) : Prop where
  ex : ∃ fd, Fun K x x st (He.ga K x) fd ∧ Binds K fd ps []
  mg : mg x = some (.ref (He.ga K x))
/-- bindArgs for a def of so many plain parameters -/
def Plain (x : Str) (st : Stmt) (ps : List Str) : Prop := ∀ (kV doc pm : Value) (an : Option Addr) (cdv ct : Value) (us : List Value), us.length = ps.length → bindArgs (PySem.W.fnOf x x (defArgs st) (defBody st) (defScope st) .none kV doc pm an cdv ct) ⟨us, []⟩ = pure (ps.zip us)
theorem defOk_of {x : Str} {st : Stmt} {ps : List Str} {fd : FuncData} (F : FunD K x x (defArgs st) (defBody st) (defScope st) [] [] (He.fAd K (x, none)) fd) (hm : mg x = some (.ref (He.ga K x))) (hb : Plain x st ps) : DefOk K mg x st ps :=
  ⟨⟨fd, fun_of F, (fun_of F).binds hb⟩, hm⟩
theorem excS_of {x : Str} (c : (He.Fa.exc x).ok K = true) (hm : mg x = some (.ref (He.ga K x))) : ExcS K mg (He.ga K) x := by
  obtain ⟨h1, h2, h3, h4⟩ := He.exc_ok c
  exact ⟨h1, hm, h2, h3, h4⟩
end
section
variable {P : Program} {w : World} {K : PySem.W.Frag} {mg : Str → Option Value} {base : Heap}
theorem fn_of {x : Str} {st : Stmt} {N ps : List Str} {k n nn : Nat} {m : S} {Os' : List Nat} (d : DefOk K mg x st ps) (hS : FnScope N ps (defScope st)) (hn : ps.length = n) (hN : N.length = nn)
    (body : ∀ (cdv : Value) (A : Around) (outer : List PySem.Env) (s : Shared) (H : Hp) (E : XK), Room k (A.deeper (envOfC x (defScope st) s.heap.objs.size (He.ga K x) cdv)) →
      Tk (cxOf (L2.CX P w) P w K mg base N x (defScope st) (He.ga K x) cdv A outer s H E) E → PassesOwn (model P w) (A.deeper (envOfC x (defScope st) s.heap.objs.size (He.ga K x) cdv)) (envOfC x (defScope st) s.heap.objs.size (He.ga K x) cdv) (cxOf (L2.CX P w) P w K mg base N x (defScope st) (He.ga K x) cdv A outer s H E).xe → RSs (cxOf (L2.CX P w) P w K mg base N x (defScope st) (He.ga K x) cdv A outer s H E) (He.ga K) E false [] [] Os' (defBody st) m) :
    FnS P w K mg base (He.ga K) (k + 1) x ps (fnSem n nn m) := by
  subst hn hN
  obtain ⟨fd, F, hb⟩ := d.ex
  exact fnS_mk F hS d.mg hb body
theorem law_of {x : Str} {st : Stmt} {fd : FuncData} {N ps : List Str} {k n nn : Nat} {m : S} {Os' : List Nat} (F : Fun K x x st (He.ga K x) fd) (hS : FnScope N ps (defScope st)) (hn : ps.length = n) (hN : N.length = nn)
    (body : ∀ (cdv : Value) (A : Around) (outer : List PySem.Env) (s : Shared) (H : Hp) (E : XK), Room k (A.deeper (envOfC x (defScope st) s.heap.objs.size (He.ga K x) cdv)) →
      Tk (cxOf (L2.CX P w) P w K mg base N x (defScope st) (He.ga K x) cdv A outer s H E) E → PassesOwn (model P w) (A.deeper (envOfC x (defScope st) s.heap.objs.size (He.ga K x) cdv)) (envOfC x (defScope st) s.heap.objs.size (He.ga K x) cdv) (cxOf (L2.CX P w) P w K mg base N x (defScope st) (He.ga K x) cdv A outer s H E).xe → RSs (cxOf (L2.CX P w) P w K mg base N x (defScope st) (He.ga K x) cdv A outer s H E) (He.ga K) E false [] [] Os' (defBody st) m) :
    FnOk P w K mg base (L2.CX P w) (k + 1) (He.ga K x) fd ps (spOf K (He.ga K) n (fnSem n nn m)) := by
  subst hn hN
  exact fnO_mk F hS body
end
theorem walk_ofEB {l : PySem.W.OpenLaw} {n k : Nat} {q : Program} {loose : List Str} {XP : (Str → Option Value) → Heap → Prop} {YP : World → Heap → Prop} {d : DefRec} {CX : World → CXT} {x : Str}
    (hn : l.most = some n) (hn2 : n ≤ sizeLine) (hdf : d.params.defaults = []) (hr : Room k callerA)
    (F : ∀ (w : World) (mg : Str → Option Value) (fa : Addr) (h : Heap), YP w h → h.Ns mainGlobals mg → mg d.name = some (.ref fa) →
      ∃ (K : PySem.W.Frag) (fd : FuncData) (sp : Sp), K.In h ∧ (∀ (s : Shared) (u : Value), BindsTo s fd ⟨[u], []⟩ [(x, u)]) ∧
        (∀ (H : Hp) (a : Addr) (ns : List Int), ns.length ≤ n → (∀ z ∈ ns, Builtin.Int.intBits z ≤ 1048576) → Only H → SqL K H a (ns.map V.int) → sp [.ref a] H (fun v _ => v = .bl true) fun _ _ _ => False) ∧
        ∀ base : Heap, K.In base → base.Ns mainGlobals mg → FnOk l.prog w K mg base (CX w) k fa fd [x] sp)
    (hCX : ∀ (w : World) (H : Hp) (s : Shared) (e : Value) (s' : Shared), CX w [] H s (fun _ _ _ => False) e s' → False) :
    PySem.W.WalkO q loose XP YP l.row.toRowW d [] (fun f vs => PySem.call f vs) := by
  refine Att.attach_callB hn hdf fun w s₀ s₁ mg mb fa o pm cd doc a vs ns G Y ho hd hcd hmg hobj hints hlen hbits hg => ?_
  obtain ⟨K, fd, sp, KX, hb, hsp, hF⟩ := F w mg fa _ Y G.T.g hmg
  exact law_call KX G.T.g G.T.b G.T.builtins G.T.nolimit hg hobj hints (Nat.le_trans hlen hn2) hr hF hb (fun H hO hS => hsp H a ns hlen hbits hO hS) fun H e s' => hCX w H s₁ e s'
theorem cx_no {P : Program} (w : World) (H : Hp) (s : Shared) (e : Value) (s' : Shared) (h : L2.CX P w [] H s (fun _ _ _ => False) e s') : False := by
  obtain ⟨_, _, _, _, _, _, _, _, _, _, _, _, f⟩ := h
  exact f
theorem sp_law {K : PySem.W.Frag} {G : Str → Addr} {F : FSem} {n : Nat} (hF : ∀ ns : List Int, ns.length ≤ n → (∀ z ∈ ns, Builtin.Int.intBits z ≤ 1048576) → ∃ st', F [.scr ns] [] = some (.ok (.bl true), st')) :
    ∀ (H : Hp) (a : Addr) (ns : List Int), ns.length ≤ n → (∀ z ∈ ns, Builtin.Int.intBits z ≤ 1048576) → Only H → SqL K H a (ns.map V.int) → spOf K G 1 F [.ref a] H (fun v _ => v = .bl true) fun _ _ _ => False := by
  intro H a ns h1 h2 h3 h4
  obtain ⟨st', e⟩ := hF ns h1 h2
  have z : SqZ K H a (ns.map V.int) := by
    rcases h4 with (h4 | h4) | h4
    · rcases h3 a with q | ⟨o, xs, q⟩
      · rw [q] at h4; cases h4
      · rw [q] at h4; cases h4
    · exact .inl h4
    · exact .inr h4
  refine ⟨⟨[], [], H⟩, [.scr ns], [], (.ok (.bl true), st'), rfl, ⟨rfl, List.nodup_nil, fun _ h => (nomatch h), fun _ h => (nomatch h), fun k c e => by simp at e⟩, .cons (.scr z) .nil, rfl, e, ?_⟩
  intro w' l s v hv
  cases hv
  rfl
end Pw
namespace Pw
open PySem PySem.Spec PyProof.Rows L2 RZ
theorem rss_none {X : Cx} {G : Str → Addr} {E : XK} {fr : Bool} {Ol Os Os' : List Nat} {ss : List Stmt} : RSs X G E fr Ol Os Os' ss (fun _ _ => none) :=
  ⟨fun _ _ _ _ _ _ ⟨_, _, _, _, _, _, _, _, _, h4, _⟩ => by cases h4⟩
end Pw
namespace Pw
open PySem PySem.Spec PyProof.Rows L2 RZ
section
variable {X : Cx} {G : Str → Addr} {E : XK} {Os : List Nat} {e : Expr} {es : List Expr} {mr : M (List D)} {pos p : Pos}
/-- a call within a def that calls itself: the level is told -/
theorem re_callR {x : Str} {ps : List Str} {F : FSem} {k j n : Nat} (hk : k ≤ j) (f : FnS X.prog X.w X.K X.mg X.base G k x ps F) (hr : Room j X.A) (tk : Tk X E) (ha : RA X G E Os (e :: es) mr) (hn : ps.length = n := by rfl) (hg : Gl X x := by rfl) (hdb : (x == ("__debug__" : Str)) = false := by decide)
    (he : starEach (e :: es) X.env = (false, eval e X.env) :: starEach es X.env := by rfl) (hpl : (backTo pos (starEach es X.env)).any (·.1) = false := by rfl) : RE X G E Os (.Call (.Name x p) (e :: es) [] pos) (mCall F n mr) :=
  re_call f hr tk ha hk hn hg hdb he hpl
theorem re_callR0 {x : Str} {F : FSem} {k j : Nat} (hk : k ≤ j) (f : FnS X.prog X.w X.K X.mg X.base G k x [] F) (hr : Room j X.A) (tk : Tk X E) (hg : Gl X x := by rfl) (hdb : (x == ("__debug__" : Str)) = false := by decide) : RE X G E Os (.Call (.Name x p) [] [] pos) (mCall F 0 mNil) :=
  re_call0 f hr tk hk hg hdb
end
end Pw
namespace Pw
open PySem PySem.Spec PyProof.Rows L2 RZ
/-! ## a new cell -/
section
variable {K : PySem.W.Frag} {G : Str → Addr}
mutual
theorem Rep.ext {w : Wd} {n : List Addr} : ∀ {v : V} {d : D}, Rep K G w v d → Rep K G { w with as := w.as ++ n } v d
  | _, _, .non => .non
  | _, _, .bl b => .bl b
  | _, _, .int i => .int i
  | _, _, .str s => .str s
  | _, _, .fn x => .fn x
  | _, _, .cell h => .cell (by
    show (w.as ++ n)[_]? = _
    rw [List.getElem?_append_left (List.getElem?_eq_some_iff.mp h).1]
    exact h)
  | _, _, .tup h r => .tup h (RepL.ext r)
  | _, _, .lst h1 h2 r => .lst h1 h2 (RepL.ext r)
  | _, _, .scr h => .scr h
  | _, _, .dK h1 h2 h3 r => .dK h1 h2 h3 (RepL.ext r)
  | _, _, .dT h1 h2 h3 r => .dT h1 h2 h3 (RepL.ext r)
theorem RepL.ext {w : Wd} {n : List Addr} : ∀ {v : List V} {d : List D}, RepL K G w v d → RepL K G { w with as := w.as ++ n } v d
  | _, _, .nil => .nil
  | _, _, .cons r t => .cons (Rep.ext r) (RepL.ext t)
end
theorem At.newCell {w0 w : Wd} {B0 B : List Addr} {ow0 ow : Ow} {σ : L2.St} {env : Env} {st : Sto} {i : Nat} {p : Addr} {xs : List V} {l : List D} (a : At K G w B ow σ env st)
    (hi : ∀ q ∈ ow, q.1 ≠ i) (h1 : p ∈ w.A) (h2 : p ∉ w.as) (h3 : w0.H p = none) (h4 : w.H p = some (.lst xs)) (r : RepL K G w xs l) (npo : p ∉ ow.map (·.2)) (sl : SLe K w0 B0 ow0 w B ow) :
    At K G { w with as := w.as ++ [p] } B ow (σ.set i (some (.ref p))) (env.set i (some (.cell st.length))) (st ++ [.lst l]) ∧ SLe K w0 B0 ow0 { w with as := w.as ++ [p] } B ow := by
  have hc : Rep K G { w with as := w.as ++ [p] } (.ref p) (.cell st.length) := .cell (by
    show (w.as ++ [p])[st.length]? = _
    rw [← a.so.len, List.getElem?_append_right (Nat.le_refl _), Nat.sub_self]
    rfl)
  have so : StoOk K G { w with as := w.as ++ [p] } (st ++ [.lst l]) := by
    refine ⟨?_, ?_, fun x hx => ?_, a.so.live, fun k c e => ?_⟩
    · show (w.as ++ [p]).length = (st ++ [Cell.lst l]).length
      rw [List.length_append, List.length_append, a.so.len]
      rfl
    · show (w.as ++ [p]).Nodup
      refine List.nodup_append.mpr ⟨a.so.nd, by simp, fun x hx y hy => ?_⟩
      rw [List.mem_singleton.mp hy]
      exact fun z => h2 (z ▸ hx)
    · rcases List.mem_append.mp hx with hx | hx
      · exact a.so.sub x hx
      · rw [List.mem_singleton.mp hx]; exact h1
    · by_cases hk : k < st.length
      · rw [List.getElem?_append_left hk] at e
        obtain ⟨x, g1, g2⟩ := a.so.at_ k c e
        refine ⟨x, ?_, ?_⟩
        · show (w.as ++ [p])[k]? = _
          rw [List.getElem?_append_left (by rw [a.so.len]; exact hk)]
          exact g1
        · cases g2 with
          | lst e5 r' => exact .lst e5 r'.ext
          | ins e5 e6 r' => exact .ins e5 e6 r'.ext
      · rw [List.getElem?_append_right (by omega)] at e
        have e0 : k - st.length = 0 := by
          have := (List.getElem?_eq_some_iff.mp e).1
          simp at this
          omega
        rw [e0] at e
        cases e
        refine ⟨p, ?_, .lst h4 r.ext⟩
        show (w.as ++ [p])[k]? = _
        rw [List.getElem?_append_right (by rw [a.so.len]; omega), a.so.len, e0]
        rfl
  have en : EnvOk K G { w with as := w.as ++ [p] } ow σ env := by
    refine ⟨a.en.len, fun q hq => ?_, fun j d e hj => ?_⟩
    · obtain ⟨⟨g1, g2⟩, ys, l', e1, e2, e3, r'⟩ := a.en.own q hq
      refine ⟨⟨g1, fun z => ?_⟩, ys, l', e1, e2, e3, r'.ext⟩
      rcases List.mem_append.mp z with z | z
      · exact g2 z
      · rw [List.mem_singleton] at z
        exact npo (z ▸ List.mem_map_of_mem hq)
    · obtain ⟨v, e1, r'⟩ := a.en.var j d e hj
      exact ⟨v, e1, r'.ext⟩
  refine ⟨⟨a.mem, a.nb, fun x hx => ?_, a.nd, a.nd1, so, en.set hi hc⟩, ?_, sl.up, sl.dn, sl.fr, sl.ow⟩
  · rcases List.mem_append.mp hx with hx | hx
    · exact a.asB x hx
    · rw [List.mem_singleton.mp hx]
      exact ((a.mem p).mp h1).resolve_right npo
  · obtain ⟨n, e1, e2⟩ := sl.n
    refine ⟨n ++ [p], by show w.as ++ [p] = _; rw [e1, List.append_assoc], fun x hx => ?_⟩
    rcases List.mem_append.mp hx with hx | hx
    · exact e2 x hx
    · rw [List.mem_singleton.mp hx]; exact h3
end
section
variable {X : Cx} {G : Str → Addr} {E : XK} {fr : Bool} {Ol Os O1 Os' : List Nat} {e : Expr} {m : M D} {pos p2 : Pos}
def sCell (i : Nat) (me : M D) : S := sEx me fun d env st => match d with
  | .lst l => if i < env.length then some (.nx (env.set i (some (.cell st.length))), st ++ [.lst l]) else none
  | _ => none
theorem rs_cell (i : Nat) {x : Str} (hN : X.N.Nodup) (he : RF X G E Os e m) (hi : X.N[i]? = some x := by rfl) (hx : Loc X.env.scope x := by first | exact Or.inl rfl | exact Or.inr rfl) (hO : Os.contains i = false := by rfl) (hs : swapsWith e (some (.Name x p2)) pos.line X.env = pure false := by rfl)
    (hf : X.fn x = true ∨ X.env.scope.names.lookup x = some .local := by first | exact .inl rfl | exact .inr rfl | assumption) : RS X G E fr Ol Os Os (.Assign [.Name x p2] e pos) (sCell i m) :=
  (ps_set hN hi hx he hs hf).imp fun Dn σ H h => by
    obtain ⟨w, hw, r⟩ := exF_go h
    refine ⟨w, hw, r.mono fun w' d l ⟨B, B', ow, env, st', o, h1, hm, hl, sl, a, h2, h3⟩ v hv => ?_⟩
    obtain ⟨p, xs, q, rfl, rfl, g1, g2, g3, g4, r⟩ := hv
    have h2' : (if i < env.length then some (Fl.nx (env.set i (some (.cell st'.length))), st' ++ [.lst q]) else none) = some o := h2
    obtain ⟨hi', rfl⟩ := ite_some h2'
    obtain ⟨a2, sl2⟩ := a.newCell (not_own h1 hO) g1 g2 g3 g4 r (fun z => by
      obtain ⟨o, e⟩ := hl p ((hm p).mpr (.inr z))
      rw [g3] at e; cases e) sl
    exact h3 { w' with as := w'.as ++ [p] } B' ow _ sl2 h1 a2
end
/-! ## a def that hands back a new list -/
def NoNx (m : S) : Prop := ∀ env st env' st', m env st ≠ some (.nx env', st')
theorem noNx_ret {m : M D} : NoNx (sRet m) := fun env st env' st' h => by
  unfold sRet sEx at h
  cases q : m env st with
  | none => rw [q] at h; cases h
  | some r =>
    obtain ⟨r, s⟩ := r
    rw [q] at h
    cases r <;> cases h
theorem noNx_seq {m1 m2 : S} (h2 : NoNx m2) : NoNx (sSeq m1 m2) := fun env st env' st' h => by
  unfold sSeq at h
  cases q : m1 env st with
  | none => rw [q] at h; cases h
  | some r =>
    obtain ⟨f, s⟩ := r
    rw [q] at h
    cases f with
    | nx e => exact h2 _ _ _ _ h
    | _ => cases h
section
variable {P : Program} {w : World} {K : PySem.W.Frag} {mg : Str → Option Value} {base : Heap}
theorem fnF_of {x : Str} {st : Stmt} {N ps : List Str} {k n nn : Nat} {m : S} {Os' : List Nat} (d : DefOk K mg x st ps) (hS : FnScope N ps (defScope st)) (hn : ps.length = n) (hN : N.length = nn) (hf : NoNx m)
    (body : ∀ (cdv : Value) (A : Around) (outer : List PySem.Env) (s : Shared) (H : Hp) (E : XK), Room k (A.deeper (envOfC x (defScope st) s.heap.objs.size (He.ga K x) cdv)) →
      Tk (cxOf (L2.CX P w) P w K mg base N x (defScope st) (He.ga K x) cdv A outer s H E) E → PassesOwn (model P w) (A.deeper (envOfC x (defScope st) s.heap.objs.size (He.ga K x) cdv)) (envOfC x (defScope st) s.heap.objs.size (He.ga K x) cdv) (cxOf (L2.CX P w) P w K mg base N x (defScope st) (He.ga K x) cdv A outer s H E).xe → RSs (cxOf (L2.CX P w) P w K mg base N x (defScope st) (He.ga K x) cdv A outer s H E) (He.ga K) E true [] [] Os' (defBody st) m) :
    FnF P w K mg base (He.ga K) (k + 1) x ps (fnSem n nn m) := by
  subst hn hN
  obtain ⟨fd, F, hb⟩ := d.ex
  exact fnF_mk F hS d.mg hb hf body
end
end Pw
namespace Pw
open PySem PySem.Spec PyProof.Rows L2 RZ
/-! ## sorted, of ints, of pairs of ints -/
def insB {α : Type} (lt : α → α → Bool) (x : α) : List α → List α
  | [] => [x]
  | y :: r => if lt y x then y :: insB lt x r else x :: y :: r
def srt {α : Type} (lt : α → α → Bool) : List α → List α
  | [] => []
  | x :: r => insB lt x (srt lt r)
section
variable {α : Type} {lt : α → α → Bool}
theorem insB_perm (x : α) : ∀ l : List α, (insB lt x l).Perm (x :: l)
  | [] => List.Perm.refl _
  | y :: r => by
    unfold insB
    split
    · exact ((insB_perm x r).cons y).trans (List.Perm.swap x y r)
    · exact List.Perm.refl _
theorem srt_perm : ∀ l : List α, (srt lt l).Perm l
  | [] => List.Perm.refl _
  | x :: r => (insB_perm x _).trans ((srt_perm r).cons x)
theorem insB_pw (tr : ∀ a b c, lt b a = false → lt c b = false → lt c a = false) (as : ∀ a b, lt a b = true → lt b a = false) (x : α) : ∀ l : List α, l.Pairwise (fun a b => lt b a = false) → (insB lt x l).Pairwise (fun a b => lt b a = false)
  | [], _ => List.pairwise_singleton _ _
  | y :: r, h => by
    have h2 := List.pairwise_cons.mp h
    unfold insB
    split
    · rename_i c
      refine List.pairwise_cons.mpr ⟨fun z hz => ?_, insB_pw tr as x r h2.2⟩
      rcases List.mem_cons.mp ((insB_perm x r).mem_iff.mp hz) with rfl | hz
      · exact as _ _ c
      · exact h2.1 z hz
    · rename_i c
      have c2 : lt y x = false := by simpa using c
      refine List.pairwise_cons.mpr ⟨fun z hz => ?_, h⟩
      rcases List.mem_cons.mp hz with rfl | hz
      · exact c2
      · exact tr _ _ _ c2 (h2.1 z hz)
theorem srt_pw (tr : ∀ a b c, lt b a = false → lt c b = false → lt c a = false) (as : ∀ a b, lt a b = true → lt b a = false) : ∀ l : List α, (srt lt l).Pairwise (fun a b => lt b a = false)
  | [] => List.Pairwise.nil
  | x :: r => insB_pw tr as x _ (srt_pw tr as r)
theorem perm_eq {R : α → α → Prop} (anti : ∀ a b, R a b → R b a → a = b) (rf : ∀ a, R a a) : ∀ {l m : List α}, l.Perm m → l.Pairwise R → m.Pairwise R → l = m
  | [], m, p, _, _ => (List.Perm.eq_nil p.symm).symm
  | x :: l, [], p, _, _ => absurd p.length_eq (by simp)
  | x :: l, y :: m, p, hl, hm => by
    have hl2 := List.pairwise_cons.mp hl
    have hm2 := List.pairwise_cons.mp hm
    have e : x = y := by
      rcases List.mem_cons.mp (p.mem_iff.mp (List.mem_cons_self (a := x) (l := l))) with e | hx
      · exact e
      · rcases List.mem_cons.mp (p.mem_iff.mpr (List.mem_cons_self (a := y) (l := m))) with e | hy
        · exact e.symm
        · exact anti _ _ (hl2.1 y hy) (hm2.1 x hx)
    subst e
    rw [perm_eq anti rf p.cons_inv hl2.2 hm2.2]
end
def ltI (a b : Int) : Bool := decide (a < b)
def isort : List Int → List Int := srt ltI
def psort : List (Int × Int) → List (Int × Int) := srt SrtO.lexB
theorem isort_uniq {l m : List Int} (p : m.Perm l) (h : m.Pairwise (· ≤ ·)) : m = isort l := by
  refine perm_eq (R := (· ≤ ·)) (fun a b => Int.le_antisymm) (fun a => Int.le_refl a) (p.trans (srt_perm l).symm) h ((srt_pw (lt := ltI) (fun a b c h1 h2 => ?_) (fun a b h1 => ?_) l).imp fun {a b} h1 => ?_)
  · have := of_decide_eq_false h1; have := of_decide_eq_false h2; exact decide_eq_false (by omega)
  · have := of_decide_eq_true h1; exact decide_eq_false (by omega)
  · have := of_decide_eq_false h1; omega
theorem psort_uniq {l m : List (Int × Int)} (p : m.Perm l) (h : m.Pairwise (fun a b => SrtO.lexB b a = false)) : m = psort l := by
  refine perm_eq (R := fun a b => SrtO.lexB b a = false) (fun a b h1 h2 => ?_) (fun a => SrtO.lexB_no.mpr (by omega)) (p.trans (srt_perm l).symm) h (srt_pw (lt := SrtO.lexB) (fun a b c h1 h2 => ?_) (fun a b h1 => ?_) l)
  · have := SrtO.lexB_no.mp h1; have := SrtO.lexB_no.mp h2
    exact Prod.ext (by omega) (by omega)
  · have := SrtO.lexB_no.mp h1; have := SrtO.lexB_no.mp h2; exact SrtO.lexB_no.mpr (by omega)
  · have := SrtO.lexB_iff.mp h1; exact SrtO.lexB_no.mpr (by omega)
inductive PairsR (K : PySem.W.Frag) (H : Hp) : List V → List (Int × Int) → Prop
  | nil : PairsR K H [] []
  | cons {t : Addr} {xs : List V} {p : Int × Int} {ps : List (Int × Int)} : SqT K H t [.int p.1, .int p.2] → PairsR K H xs ps → PairsR K H (.ref t :: xs) (p :: ps)
theorem PairsR.mem {K : PySem.W.Frag} {H : Hp} : ∀ {xs : List V} {ps : List (Int × Int)}, PairsR K H xs ps → ∀ x ∈ xs, ∃ (t : Addr) (p : Int × Int), x = .ref t ∧ SqT K H t [.int p.1, .int p.2]
  | _, _, .nil => fun _ h => nomatch h
  | _, _, .cons h t => fun x hx => (List.mem_cons.mp hx).elim (fun e => ⟨_, _, e, h⟩) (PairsR.mem t x)
def rSortQ (K : PySem.W.Frag) : List V → Hp → VK → Prop := fun vs H Q => ∃ (a : Addr) (xs : List V) (ps : List (Int × Int)), vs = [.ref a] ∧ SqL K H a xs ∧ PairsR K H xs ps ∧
  ∀ ys p, PairsR K H ys (psort ps) → H p = none → Q (.ref p) (upd H p (.lst ys))
theorem cr_sortQ {X : Cx} : CallR X (.builtin "sorted") (rSortQ X.K) := by
  intro pins s σ H vs us Q I r h
  obtain ⟨a, xs, ps, rfl, hs, hx, q⟩ := h
  obtain ⟨its, rv, hl, hz⟩ := I.list hs
  obtain ⟨u, rfl, ru⟩ := vals1 r
  obtain rfl : u = Value.ref a := ru
  obtain ⟨e1, e2⟩ := refs_back rv fun x m => by
    obtain ⟨t, _, e, _⟩ := hx.mem x m
    exact ⟨t, e⟩
  have key : ∃ k : V → Int × Int, ∀ t p, SqT X.K H t [.int p.1, .int p.2] → k (.ref t) = p := by
    classical
    refine ⟨fun x => if h : ∃ p : Int × Int, ∃ t, x = .ref t ∧ SqT X.K H t [.int p.1, .int p.2] then h.choose else (0, 0), fun t p hp => ?_⟩
    have hex : ∃ p : Int × Int, ∃ t', V.ref t = .ref t' ∧ SqT X.K H t' [.int p.1, .int p.2] := ⟨p, t, rfl, hp⟩
    show (if h : ∃ p : Int × Int, ∃ t', V.ref t = .ref t' ∧ SqT X.K H t' [.int p.1, .int p.2] then h.choose else (0, 0)) = p
    rw [dif_pos hex]
    obtain ⟨t', e, h'⟩ := hex.choose_spec
    cases e
    have := I.tuple_inj h' hp
    injection this with g1 g2
    injection g2 with g2 _
    injection g1 with g1
    injection g2 with g2
    exact Prod.ext g1 g2
  obtain ⟨k, hk⟩ := key
  have hps : xs.map k = ps := by
    clear q e1 hs rv r hz
    induction hx with
    | nil => rfl
    | cons h t ih => rw [List.map_cons, ih, hk _ _ h]
  refine SrtO.sorted_pairsO (k := fun u => k (backV u)) hl.isList (by rw [← rv.length]; exact hz) (fun v hv => ?_) fun h' d out h1 h2 kp hd hn => ?_
  · obtain ⟨t, rfl⟩ := e2 v hv
    have hm : V.ref t ∈ xs := by rw [e1]; exact List.mem_map.mpr ⟨_, hv, rfl⟩
    obtain ⟨t', p, e, ht⟩ := hx.mem _ hm
    cases e
    have ek : k (backV (.ref t)) = p := hk t p ht
    rw [ek]
    obtain ⟨its2, r2, ⟨o, ho, hc, n, hd⟩, _⟩ := I.tuple ht
    obtain ⟨u1, u2, rfl, ri, rj⟩ := vals2 r2
    obtain ⟨t1, rfl⟩ := ri
    obtain ⟨t2, rfl⟩ := rj
    exact ⟨t, o, t1, t2, n, rfl, ho, hc, hd⟩
  · have h3 : ∀ u ∈ out, ∃ a, u = Value.ref a := fun u hu => e2 u (h2.perm.mem_iff.mp hu)
    obtain ⟨n, hn⟩ := hn
    have hb : SrtO.Stb (ltP k) (out.map backV) xs := by
      rw [e1]
      exact SrtO.Stb.map (ltP_swo k) backV h2
    have hsrt : SrtO.Srtd (ltP k) (out.map backV) := SrtO.srtd_map h1
    have hy : ∀ ys : List V, (∀ y ∈ ys, y ∈ xs) → PairsR X.K H ys (ys.map k) := by
      intro ys
      induction ys with
      | nil => exact fun _ => .nil
      | cons y r ih =>
        intro hm
        obtain ⟨t, p, rfl, hp⟩ := hx.mem y (hm y List.mem_cons_self)
        rw [List.map_cons, hk t p hp]
        exact .cons hp (ih fun z hz => hm z (List.mem_cons_of_mem _ hz))
    have hq : (out.map backV).map k = psort ps := by
      rw [← hps]
      refine psort_uniq (hb.perm.map k) (List.pairwise_map.mpr hsrt)
    refine ⟨.ref d, upd H d (.lst (out.map backV)), I.laid (t' := s.toks) kp hd ⟨?_, out, n, vals_back h3, hn⟩, rfl, q _ d ?_ (I.hok.fresh hd)⟩
    · rw [hb.len]
      exact hz
    · rw [← hq]
      exact hy _ fun y hy => hb.perm.mem_iff.mp hy
/-! ### on data -/
def intsD : List D → Option (List Int)
  | [] => some []
  | .int i :: r => (intsD r).map (i :: ·)
  | _ :: _ => none
def pairsD : List D → Option (List (Int × Int))
  | [] => some []
  | .tup [.int i, .int j] :: r => (pairsD r).map ((i, j) :: ·)
  | _ :: _ => none
def pairD (p : Int × Int) : D := .tup [.int p.1, .int p.2]
def fSorted : List D → Option D
  | [.lst l] => match intsD l with
    | some ns => some (.lst ((isort ns).map .int))
    | none => (pairsD l).map fun ps => .lst ((psort ps).map pairD)
  | _ => none
section
variable {K : PySem.W.Frag} {G : Str → Addr} {w : Wd}
theorem intsD_eq : ∀ {l : List D} {ns : List Int}, intsD l = some ns → l = ns.map .int
  | [], _, h => by cases h; rfl
  | .int i :: r, ns, h => by
    unfold intsD at h
    obtain ⟨ms, e, rfl⟩ := Option.map_eq_some_iff.mp h
    rw [intsD_eq e]
    rfl
  | .non :: _, _, h => nomatch h
  | .bl _ :: _, _, h => nomatch h
  | .str _ :: _, _, h => nomatch h
  | .fn _ :: _, _, h => nomatch h
  | .cell _ :: _, _, h => nomatch h
  | .tup _ :: _, _, h => nomatch h
  | .lst _ :: _, _, h => nomatch h
  | .scr _ :: _, _, h => nomatch h
  | .dK _ :: _, _, h => nomatch h
  | .dT _ :: _, _, h => nomatch h
theorem ints_V : ∀ {ns : List Int} {vs : List V}, RepL K G w vs (ns.map .int) → vs = ns.map V.int
  | [], _, .nil => rfl
  | _ :: _, _, .cons h t => by cases h; rw [ints_V t]; rfl
theorem pairsD_rep : ∀ {l : List D} {ps : List (Int × Int)} {vs : List V}, pairsD l = some ps → RepL K G w vs l → PairsR K w.H vs ps
  | [], _, _, h, .nil => by cases h; exact .nil
  | d :: r, ps, _, h, .cons hv t => by
    unfold pairsD at h
    split at h
    · rename_i e; cases e
    · rename_i i j r' e
      cases e
      obtain ⟨qs, e, rfl⟩ := Option.map_eq_some_iff.mp h
      cases hv with
      | tup h1 h2 =>
        cases h2 with
        | cons a b =>
          cases b with
          | cons b c =>
            cases c; cases a; cases b
            exact .cons h1 (pairsD_rep e t)
    · cases h
theorem pairs_back : ∀ {ps : List (Int × Int)} {vs : List V}, PairsR K w.H vs ps → RepL K G w vs (ps.map pairD)
  | [], _, .nil => .nil
  | _ :: _, _, .cons h t => .cons (.tup h (.cons (.int _) (.cons (.int _) .nil))) (pairs_back t)
theorem b_sorted {X : Cx} : CallOk X G (.builtin "sorted") fSorted := by
  refine ⟨_, CallR.or (cr_sortedI (X := X)) (cr_sortQ (X := X)), ?_⟩
  intro w st vs ds z Q so hv h q
  unfold fSorted at h
  split at h
  · obtain ⟨v, rfl, hu⟩ := hv.one
    obtain ⟨a, xs, rfl, h1, r⟩ := hu.lst
    split at h
    · rename_i ns e
      cases h
      have e2 := intsD_eq e
      subst e2
      have e3 := ints_V r
      subst e3
      refine .inl ⟨a, ns, rfl, .of h1, fun ns' p hp hs hn => ?_⟩
      rw [isort_uniq hp hs]
      exact q { w with H := upd w.H p _ } _ (Le.new hn) (so.new hn) (rep_newL so hn (ints_rep _))
    · obtain ⟨ps, e, rfl⟩ := Option.map_eq_some_iff.mp h
      refine .inr ⟨a, xs, ps, rfl, .of h1, pairsD_rep e r, fun ys p hy hn => ?_⟩
      exact q { w with H := upd w.H p _ } _ (Le.new hn) (so.new hn) (rep_newL so hn (pairs_back hy))
  · cases h
end
end Pw
/-! int of texts of up to 4,300 figures -/
namespace Pw
open PySem PySem.Spec PyProof.Rows L2 RZ PySem.NumText
theorem wp_textB {M : Model} {A : Around} {E : Value → Shared → Prop} {s : Shared} {Q : Value → Shared → Prop} {v : Value} {text : List Nat} {n : Int} (hD : s.heap.NoDigits)
    (hs : ¬ (text.takeWhile (· != 0)).length ≤ 640) (hr : (int_private% "readNumeral") 4300 10 (text.takeWhile (· != 0)) = (int_private% "Numeral.value") n)
    (ha : ((text.takeWhile (· != 0)).length == text.length) = true) (h : Q (.int n s.toks) { s with toks := s.toks + 1 }) :
    wpAny M A ((int_private% "intFromText") v text 10) Q E s := by
  obtain ⟨mc, hns, hnone⟩ := hD
  obtain ⟨hp, g, d, tk, os⟩ := s
  have lim : ∀ {Q' : Nat → Shared → Prop}, Q' 4300 ⟨hp, g, d, tk, os⟩ → wpAny M A Builtin.intMaxStrDigits Q' E ⟨hp, g, d, tk, os⟩ := fun {Q'} q => by
    unfold Builtin.intMaxStrDigits
    refine wpAny_bind (wpAny_nsGet hns ?_)
    rw [hnone]
    exact wpAny_pure q
  repeat (any_goals (first
    | assumption
    | (with_reducible refine wpAny_ite_false (decide_eq_false hs) ?_)
    | (with_reducible refine lim ?_)
    | (with_reducible refine wpAny_ite_true (decide_eq_true ha) ?_)
    | wp_step))
  all_goals (try rw [hr])
  all_goals (try dsimp only)
  repeat (any_goals (first
    | assumption
    | (with_reducible refine wpAny_ite_true (decide_eq_true ha) ?_)
    | wp_step))
theorem meets_textB {x : PySem.Str} {u : Tok} {n : Int} (hl : x.length ≤ 4300) (hn : PySem.intText? x = some n) :
    Meets (Builtin.«int.__new__» ⟨[.type "int", .str x u], []⟩) (fun _ R s => s.heap.NoDigits ∧ R (.ok (.ret (.int n s.toks))) { s with toks := s.toks + 1 }) :=
  fun prog w A R s0 h => by
    by_cases hsh : (numSeenOf x).length ≤ 640
    · have hr0 : (int_private% "readNumeral") 0 10 (numSeenOf x) = (int_private% "Numeral.value") n ∧ ((numSeenOf x).length == (numTextOf x).length) = true := by
        rcases read0 x hsh with ⟨m, h1, h2, h3⟩ | ⟨h1, _⟩
        · rw [hn] at h1
          injection h1 with h1
          subst h1
          exact ⟨h3, h2⟩
        · rw [hn] at h1
          cases h1
      obtain ⟨hD, h⟩ := h
      obtain ⟨hp, g, d, tk, os⟩ := s0
      have f1 := F.conv_sub_int
      have f2 := F.madeHere_int
      have f3 := PySem.W.KIN.str_int
      have f4 := PySem.W.KIN.str_idx
      have f5 := PySem.W.KIN.str_trunc
      have f6 : typeOf (.str x u) = pure (.type "str") := rfl
      have hk := PySem.W.KIN.Hid.mk (And.intro hsh hr0)
      clear hsh hr0 hl hn
      repeat (any_goals (first
        | assumption
        | ((with_reducible show wpAny _ _ ((int_private% "intFromText") _ _ _) _ _ _); refine PySem.W.KIN.wp_text hk.out.1 hk.out.2.1 hk.out.2.2 ?_)
        | wp_step))
      all_goals first | exact h | skip
    · have hr0 : (int_private% "readNumeral") 4300 10 (numSeenOf x) = (int_private% "Numeral.value") n ∧ ((numSeenOf x).length == (numTextOf x).length) = true := by
        rcases read4300 x (Nat.le_trans hl (by rw [sizeLine_eq]; decide)) with ⟨m, h1, h2, h3⟩ | ⟨h1, _⟩
        · rw [hn] at h1
          injection h1 with h1
          subst h1
          exact ⟨h3, h2⟩
        · rw [hn] at h1
          cases h1
      obtain ⟨hD, h⟩ := h
      obtain ⟨hp, g, d, tk, os⟩ := s0
      have f1 := F.conv_sub_int
      have f2 := F.madeHere_int
      have f3 := PySem.W.KIN.str_int
      have f4 := PySem.W.KIN.str_idx
      have f5 := PySem.W.KIN.str_trunc
      have f6 : typeOf (.str x u) = pure (.type "str") := rfl
      have hk := PySem.W.KIN.Hid.mk (And.intro hD (And.intro hsh hr0))
      clear hD hsh hr0 hl hn
      repeat (any_goals (first
        | assumption
        | ((with_reducible show wpAny _ _ ((int_private% "intFromText") _ _ _) _ _ _); refine wp_textB hk.out.1 hk.out.2.1 hk.out.2.2.1 hk.out.2.2.2 ?_)
        | wp_step))
      all_goals first | exact h | skip
/-- the module's frame knows of no other limit -/
def DigK (K : PySem.W.Frag) : Prop := ∃ o es ep, K.lookup cStatics = some o ∧ o.data = .dict es ep ∧ StrKeys es ∧ nsFind es "sys.int_max_str_digits" = none
theorem DigK.of {K : PySem.W.Frag} {h : Heap} (d : DigK K) (X : K.In h) : h.NoDigits := by
  obtain ⟨o, es, ep, h1, h2, h3, h4⟩ := d
  exact ⟨fun x => nsFind es x, ⟨o, es, ep, X _ _ h1, h2, h3, fun _ => rfl⟩, h4⟩
def keyStrB : Value → Bool
  | .str _ _ => true
  | _ => false
def digB (K : PySem.W.Frag) : Bool := match K.lookup cStatics with
  | some o => (match o.data with
    | .dict es _ => es.all (fun e => keyStrB e.key) && (nsFind es "sys.int_max_str_digits").isNone
    | _ => false)
  | none => false
theorem digB_ok {K : PySem.W.Frag} (h : digB K = true) : DigK K := by
  unfold digB at h
  split at h
  · rename_i o e
    split at h
    · rename_i es ep e2
      rw [Bool.and_eq_true, Option.isNone_iff_eq_none] at h
      refine ⟨o, es, ep, e, e2, fun x hx => ?_, h.2⟩
      have q := (Array.all_eq_true_iff_forall_mem.mp h.1) x hx
      cases hk : x.key <;> rw [hk] at q <;> first | exact ⟨_, _, rfl⟩ | cases q
    · cases h
  · cases h
section
variable {X : Cx} {G : Str → Addr} {E : XK} {Os : List Nat} {e : Expr} {es : List Expr} {m : M D} {pos : Pos}
theorem call_int_strB (hD : DigK X.K) : CallR X (.type "int") (fun xs H Q => ∃ a n, xs = [.str a] ∧ PySem.intText? a = some n ∧ a.length ≤ 4300 ∧ Q (.int n) H) := by
  intro pins s σ H xs us Q I rs h
  obtain ⟨a, n, rfl, hn, hl, h⟩ := h
  cases rs with
  | cons r1 rs =>
    cases rs
    obtain ⟨t, rfl⟩ := r1
    exact call_int_1 (meets_textB hl hn) ⟨hD.of I.kIn, ⟨rfl, ⟨.int n, H, I.tok _, ⟨_, rfl⟩, h⟩⟩⟩
def fIntB : List D → Option D
  | [.int i] => some (.int i)
  | [.bl b] => some (.int (if b then 1 else 0))
  | [.str s] => match PySem.intText? s with
    | some n => if s.length ≤ 4300 then some (.int n) else none
    | none => none
  | _ => none
theorem b_intB (hD : DigK X.K) : CallOk X G (.type "int") fIntB := .mk1 (CallR.or call_int1 (call_int_strB hD)) fun w st vs ds z Q so hv h q => by
  unfold fIntB at h
  split at h
  · cases h
    obtain ⟨v, rfl, hu⟩ := hv.one
    cases hu.int
    exact .inl (.inl ⟨_, rfl, q w _ Le.refl so (.int _)⟩)
  · cases h
    obtain ⟨v, rfl, hu⟩ := hv.one
    cases hu.bl
    exact .inl (.inr ⟨_, rfl, q w _ Le.refl so (.int _)⟩)
  · split at h
    · rename_i n hn
      obtain ⟨hz, rfl⟩ := ite_some h
      obtain ⟨v, rfl, hu⟩ := hv.one
      cases hu.str
      exact .inr ⟨_, _, rfl, hn, hz, q w _ Le.refl so (.int _)⟩
    · cases h
  · cases h
end
/-- a function behind a seal: the kernel does not look into it -/
theorem sealF (F : FSem) : ∃ G, G = F := ⟨F, rfl⟩
/-! the head, with the frame of the machine's own statics -/
def asE (g : Addr → Option Obj) (n : Nat) : List Addr := He.asD g n ++ [cStatics]
def obsE (n : Nat) (fa : List He.Fa) (fn : List He.DefD) (more : PySem.W.Frag → Bool) (g : Addr → Option Obj) : Bool × He.AlD := (more (He.frG g (asE g n)), He.obsD fa fn (He.frG g (asE g n)))
def hookE (n : Nat) (fa : List He.Fa) (fn : List He.DefD) (more : PySem.W.Frag → Bool) : PySem.W.Hook where
  α := Bool × He.AlD
  obs := fun s => obsE n fa fn more s.heap.get?
  val := fun _ => (true, He.valD fn)
  says := fun _ h => ∃ K : PySem.W.Frag, K.In h ∧ more K = true ∧ He.SaysD fa fn K
  of := fun _ _ e => ⟨_, He.frG_in, congrArg (fun z : Bool × He.AlD => z.1) e, congrArg (fun z : Bool × He.AlD => z.2) e⟩
  keeps := fun _ _ _ ⟨K, hK, c⟩ k => ⟨K, PySem.W.Frag.In.keeps hK k, c⟩
theorem obsE_eq {n : Nat} {fa : List He.Fa} {fn : List He.DefD} {more : PySem.W.Frag → Bool} {g : Addr → Option Obj} {s : Shared} (h : ∀ a, g a = s.heap.get? a) : obsE n fa fn more g = (hookE n fa fn more).obs s := by
  have e : g = s.heap.get? := funext h
  rw [e] <;> rfl
def moreE (l : List (Str × List He.Dv)) (K : PySem.W.Frag) : Bool := moreT l K && digB K
theorem moreE.t {l : List (Str × List He.Dv)} {K : PySem.W.Frag} (h : moreE l K = true) : moreT l K = true := (Bool.and_eq_true_iff.mp h).1
theorem moreE.d {l : List (Str × List He.Dv)} {K : PySem.W.Frag} (h : moreE l K = true) : DigK K := digB_ok (Bool.and_eq_true_iff.mp h).2
end Pw
/-! x[::-1], max and min of a list of ints -/
namespace Pw
open PySem PySem.Spec PyProof.Rows L2 RZ HT
section
variable {prog : Program} {w : World} {A : Around} {E : Value → Shared → Prop} {s : Shared}
theorem places_rev (n : Nat) : Builtin.Slice.slicePlaces ((n : Int) - 1) (-1) (-1) = n := by
  unfold Builtin.Slice.slicePlaces
  have h1 : ¬ ((-1 : Int) > 0) := by decide
  rw [if_neg h1]
  by_cases h : (n : Int) - 1 > -1
  · rw [if_pos h, show (- -1 : Int) = 1 by decide, Int.ediv_one]
    omega
  · rw [if_neg h]
    omega
theorem sliceApplied_rev {sl : Addr} {vl vu vs : Value} {n : Nat} {Q : Int × Int × Nat → Shared → Prop} (hs : s.heap.IsSliceOf sl vl vu vs) (pl : IsPart vl none) (pu : IsPart vu none) (ps : IsPart vs (some (-1)))
    (h : Q ((n : Int) - 1, -1, n) s) : wpAny (model prog w) A (Builtin.Slice.sliceApplied (.ref sl) (pure (n : Int))) Q E s := by
  obtain ⟨os, hos, hcs, hds⟩ := id hs
  unfold Builtin.Slice.sliceApplied Builtin.Slice.sliceFields
  refine wpAny_bind (wpAny_bind (wpAny_field hos hds (x := vl) rfl (wpAny_bind (wpAny_field hos hds (x := vu) rfl (wpAny_bind (wpAny_field hos hds (x := vs) rfl (wpAny_pure ?_)))))))
  refine wpAny_bind (slicePart_ ps ?_)
  show wpAny _ _ (if ((-1 : Int) == 0) = true then _ else _) _ _ s
  rw [if_neg (by decide)]
  refine wpAny_bind (slicePart_ pl (wpAny_bind (slicePart_ pu (wpAny_bind (wpAny_pure ?_)))))
  show wpAny _ _ (match Builtin.Slice.sliceAdjust none none (-1) (n : Int) with | (lo, hi) => pure (lo, (-1 : Int), Builtin.Slice.slicePlaces lo hi (-1))) _ _ s
  show wpAny _ _ (pure ((n : Int) - 1, (-1 : Int), Builtin.Slice.slicePlaces ((n : Int) - 1) (-1) (-1))) _ _ s
  rw [places_rev]
  exact wpAny_pure h
theorem fm_congr {α β : Type} {f g : α → Option β} : ∀ {l : List α}, (∀ a ∈ l, f a = g a) → l.filterMap f = l.filterMap g
  | [], _ => rfl
  | a :: r, h => by rw [List.filterMap_cons, List.filterMap_cons, h a List.mem_cons_self, fm_congr fun b hb => h b (List.mem_cons_of_mem _ hb)]
theorem pick_rev (xs : Array Value) : ((List.range xs.size).filterMap fun (m : Nat) => xs[((xs.size : Int) - 1 + (m : Int) * (-1)).toNat]?).toArray = xs.toList.reverse.toArray := by
  have e : (List.range xs.size).filterMap (fun (m : Nat) => xs[((xs.size : Int) - 1 + (m : Int) * (-1)).toNat]?) = ((List.range xs.size).map fun k => xs.size - 1 - k).filterMap (xs[·]?) := by
    rw [List.filterMap_map]
    refine fm_congr fun m hm => ?_
    have := List.mem_range.mp hm
    show xs[_]? = xs[xs.size - 1 - m]?
    congr 1
    omega
  rw [e, PySem.W.krv_range, List.filterMap_reverse, PySem.W.krv_all]
theorem getItem_tuple_rev {t sl : Addr} {items : Array Value} {vl vu vs : Value} {Q : Value → Shared → Prop} (ht : IsTup s.heap t items) (hs : s.heap.IsSliceOf sl vl vu vs) (pl : IsPart vl none) (pu : IsPart vu none) (ps : IsPart vs (some (-1)))
    (h : Q (.ref s.heap.objs.size) { s with heap := s.heap.push { cls := .type "tuple", data := .seq items.toList.reverse.toArray } })
    (hsz : items.size ≤ sizeLine) : wpAny (model prog w) A (getItem (.ref t) (.ref sl)) Q E s := by
  have htake : sizeOk (.seq items.toList.reverse.toArray) := by
    show items.toList.reverse.toArray.size ≤ sizeLine
    rw [List.size_toArray, List.length_reverse, Array.length_toList]
    exact hsz
  obtain ⟨os, hos, hcs, hds⟩ := id hs
  have hTs : s.TypeIs (.ref sl) "slice" := ⟨os, hos, hcs⟩
  unfold getItem
  try with_reducible refine wpAny_holding ?_
  first | refine wpAny_bind (wpAny_pure ?_) | skip
  refine wpAny_bind (wpAny_sequenceKey ht.typeIs (by decide) ?_)
  refine wpAny_bind (wpAny_callSpecial?_slot (name := Str.ofString "__getitem__") ht.typeIs PyProof.Rows.slot_tuple_getitem
    (wpAny_call_entry PyProof.Rows.slot_tuple_getitem ht.typeIs entry_tuple_getitem ?_ (args_tuple_getitem _ _)))
  show wpAny _ _ (Builtin.Tuple.tupleItemsOf (.ref t) >>= _) _ _ s
  refine wpAny_bind (tupleItemsOf_ ht ?_)
  refine wpAny_bind (wpAny_typeOf hTs ?_)
  rw [if_pos (by decide)]
  refine wpAny_bind (sliceApplied_rev (n := items.size) hs pl pu ps ?_)
  have hno : ¬ ((((items.size : Int) - 1) == 0 && (-1 : Int) == 1 && items.size == items.size) = true) := by
    intro q
    rw [Bool.and_eq_true, Bool.and_eq_true] at q
    exact absurd q.1.2 (by decide)
  show wpAny _ _ (if (((items.size : Int) - 1) == 0 && (-1 : Int) == 1 && items.size == items.size) = true then _ else _) _ _ s
  rw [if_neg hno, pick_rev]
  first
    | exact wpAny_bind (m := Builtin.Tuple.tupleExact _) (wpAny_newObj_type (wpAny_pure ⟨_, rfl, wpAny_pure h⟩) htake)
    | exact wpAny_bind (m := Builtin.Tuple.tupleExact _) (wpAny_newObj_type (wpAny_bind (wpAny_pure (wpAny_pure ⟨_, rfl, wpAny_pure h⟩))) htake)
    | exact wpAny_bind (wpAny_bind (m := Builtin.Tuple.tupleExact _) (wpAny_newObj_type (wpAny_pure (wpAny_pure ⟨_, rfl, wpAny_pure h⟩)) htake))
    | exact wpAny_bind (wpAny_bind (m := Builtin.Tuple.tupleExact _) (wpAny_newObj_type (wpAny_pure ⟨_, rfl, wpAny_pure h⟩) htake))
end
def tRevA (K : PySem.W.Frag) (te : TE) : TE := fun σ H Q => te σ H fun x H1 => (∃ a xs, x = .ref a ∧ SqL K H1 a xs ∧ ∀ p, H1 p = none → Q (.ref p) (upd H1 p (.lst xs.reverse))) ∨ (∃ a xs, x = .ref a ∧ SqT K H1 a xs ∧ ∀ p, H1 p = none → Q (.ref p) (upd H1 p (.tup xs.reverse)))
section
variable {X : Cx}
theorem pe_revA {e : Expr} {te : TE} {k : Nat} {p1 p2 p3 pos : Pos} (he : PE X e te) : PE X (.Subscript e (.Slice none none (some (.UnaryOp .USub (.Constant (.int 1) k p1) p2)) p3) pos) (tRevA X.K te) := by
  refine ⟨fun pins s σ H Q I h => ?_⟩
  refine Subscript_ (thn (he.run pins s σ H _ I h) fun v s1 ⟨x, H1, I1, r1, q1⟩ => ?_)
  have hst : PO X (some (.UnaryOp .USub (.Constant (.int 1) k p1) p2)) (tPart (tUn (rU fun i => .int (-i)) (tC (.int 1)))) := po_some (pe_un un_neg pe_int)
  rcases q1 with ⟨a, xs, ex, hx, q⟩ | ⟨a, xs, ex, hx, q⟩
  · subst ex
    cases r1
    refine wpAny_Slice (thn (po_none.run pins s1 σ H1 (fun o H2 => o = none ∧ H2 = H1) I1 ⟨rfl, rfl⟩) fun vl s2 ⟨l, H2, I2, pl, el, e2⟩ => ?_)
    subst el e2
    refine thn (po_none.run pins s2 σ H2 (fun o H3 => o = none ∧ H3 = H2) I2 ⟨rfl, rfl⟩) fun vu s3 ⟨u, H3, I3, pu, eu, e3⟩ => ?_
    subst eu e3
    refine thn (hst.run pins s3 σ H3 (fun o H4 => o = some (-1) ∧ H4 = H3) I3 ⟨1, rfl, -1, rfl, rfl, rfl⟩) fun vs s4 ⟨o, H4, I4, ps, eo, e4⟩ => ?_
    subst eo e4
    have I5 : Inv X pins σ H4 { s4 with heap := s4.heap.push { cls := .type "slice", data := .fields #[vl, vu, vs] } } := I4.kept (t' := s4.toks) fun b ob q => Heap.get?_push_of_some _ q
    obtain ⟨its, r, ht, hz⟩ := I5.list hx
    have hlen := r.length
    show wpAny (model X.prog X.w) X.A (subscriptTail e (.Slice none none (some (.UnaryOp .USub (.Constant (.int 1) k p1) p2)) p3) (.ref a) (.ref s4.heap.objs.size)) (EP X pins σ Q) X.xe { s4 with heap := s4.heap.push { cls := .type "slice", data := .fields #[vl, vu, vs] } }
    refine tail_any (ops := [.ref a, .ref s4.heap.objs.size]) ht.isList.typeIs (PySem.slot_list_getitem.lookup) ?_ (by with_unfolding_all rfl)
    refine wpAny_getItem_list_slice ht.isList (Heap.IsSliceOf.new _ vl vu vs) pl pu ps (by decide) ?_ (by rw [List.size_toArray]; omega)
    rw [PySem.W.krv_pick]
    refine ⟨.ref _, _, I5.laid (t' := s4.toks) (o := .lst xs.reverse) (fun b ob q => Heap.get?_push_of_some _ q) (Nat.le_refl _) ?_, rfl, q _ (I5.hok.fresh (Nat.le_refl _))⟩
    exact ⟨by rw [List.length_reverse]; exact hz, _, 0, r.reverse, Heap.get?_push_size _ rfl⟩
  · subst ex
    cases r1
    refine wpAny_Slice (thn (po_none.run pins s1 σ H1 (fun o H2 => o = none ∧ H2 = H1) I1 ⟨rfl, rfl⟩) fun vl s2 ⟨l, H2, I2, pl, el, e2⟩ => ?_)
    subst el e2
    refine thn (po_none.run pins s2 σ H2 (fun o H3 => o = none ∧ H3 = H2) I2 ⟨rfl, rfl⟩) fun vu s3 ⟨u, H3, I3, pu, eu, e3⟩ => ?_
    subst eu e3
    refine thn (hst.run pins s3 σ H3 (fun o H4 => o = some (-1) ∧ H4 = H3) I3 ⟨1, rfl, -1, rfl, rfl, rfl⟩) fun vs s4 ⟨o, H4, I4, ps, eo, e4⟩ => ?_
    subst eo e4
    have I5 : Inv X pins σ H4 { s4 with heap := s4.heap.push { cls := .type "slice", data := .fields #[vl, vu, vs] } } := I4.kept (t' := s4.toks) fun b ob q => Heap.get?_push_of_some _ q
    obtain ⟨its, r, ht, hz⟩ := I5.tuple hx
    have hlen := r.length
    show wpAny (model X.prog X.w) X.A (subscriptTail e (.Slice none none (some (.UnaryOp .USub (.Constant (.int 1) k p1) p2)) p3) (.ref a) (.ref s4.heap.objs.size)) (EP X pins σ Q) X.xe { s4 with heap := s4.heap.push { cls := .type "slice", data := .fields #[vl, vu, vs] } }
    refine tail_any (ops := [.ref a, .ref s4.heap.objs.size]) ht.typeIs PyProof.Rows.slot_tuple_getitem.lookup ?_ (by with_unfolding_all rfl)
    refine getItem_tuple_rev ht (Heap.IsSliceOf.new _ vl vu vs) pl pu ps ?_ (by rw [List.size_toArray]; omega)
    refine ⟨.ref _, _, I5.laid (t' := s4.toks) (o := .tup xs.reverse) (fun b ob q => Heap.get?_push_of_some _ q) (Nat.le_refl _) ?_, rfl, q _ (I5.hok.fresh (Nat.le_refl _))⟩
    exact ⟨by rw [List.length_reverse]; exact hz, _, r.reverse, IsTup.new _ _⟩
variable {G : Str → Addr} {E : XK} {Os : List Nat} {a : Expr} {ma : M D} {k : Nat} {p1 p2 p3 pos : Pos}
def dRev : D → Option D
  | .tup l => some (.tup l.reverse)
  | .lst l => some (.lst l.reverse)
  | _ => none
def mRev (ma : M D) : M D := bnd ma fun x => lft (dRev x)
theorem re_rev (ha : RB X G E Os a ma) : RE X G E Os (.Subscript a (.Slice none none (some (.UnaryOp .USub (.Constant (.int 1) k p1) p2)) p3) pos) (mRev ma) :=
  (pe_revA ha).imp fun σ H Q ⟨w, hw, r⟩ => ⟨w, hw, r.bnd.mono fun w1 x l1 r1 v hv => by
    obtain ⟨z, st, e1, so, q⟩ := r1.lft
    unfold dRev at e1
    split at e1
    · cases e1
      obtain ⟨a', xs, rfl, h1, rl⟩ := hv.tup
      refine .inr ⟨_, xs, rfl, h1, fun p hp => ?_⟩
      exact q { w1 with H := upd w1.H p _ } (Le.new hp) (so.new hp) _ (.tup (.inl (.inl upd_same)) (RepL.le (Le.new (C := w1.as) hp) so.sub rl.reverse))
    · cases e1
      obtain ⟨a', xs, rfl, h1, rl⟩ := hv.lst
      exact .inl ⟨_, xs, rfl, .of h1, fun p hp => q { w1 with H := upd w1.H p _ } (Le.new hp) (so.new hp) _ (rep_newL so hp rl.reverse)⟩
    · cases e1⟩
/-! the greatest, the least of a list of ints -/
def fMax : List D → Option D
  | [.lst l] => match intsD l with
    | some ns => ns.max?.map .int
    | none => none
  | _ => none
def fMin : List D → Option D
  | [.lst l] => match intsD l with
    | some ns => ns.min?.map .int
    | none => none
  | _ => none
theorem b_max (hc : X.calm = true) : CallOk X G (.builtin "max") fMax := .mk1 (cr_max hc) fun w st vs ds z Q so hv h q => by
  unfold fMax at h
  split at h
  · obtain ⟨v, rfl, hu⟩ := hv.one
    obtain ⟨a, xs, rfl, h1, r⟩ := hu.lst
    split at h
    · rename_i ns e
      obtain ⟨m, hm, rfl⟩ := Option.map_eq_some_iff.mp h
      have e2 := intsD_eq e
      subst e2
      have e3 := ints_V r
      subst e3
      obtain ⟨k1, k2⟩ := List.max?_eq_some_iff.mp hm
      refine ⟨a, ns, rfl, .of h1, List.length_pos_of_mem k1, fun m' h1 h2 => ?_⟩
      have e4 : m' = m := Int.le_antisymm (k2 _ h1) (h2 _ k1)
      rw [e4]
      exact q w _ Le.refl so (.int _)
    · cases h
  · cases h
theorem b_min (hc : X.calm = true) : CallOk X G (.builtin "min") fMin := .mk1 (cr_min hc) fun w st vs ds z Q so hv h q => by
  unfold fMin at h
  split at h
  · obtain ⟨v, rfl, hu⟩ := hv.one
    obtain ⟨a, xs, rfl, h1, r⟩ := hu.lst
    split at h
    · rename_i ns e
      obtain ⟨m, hm, rfl⟩ := Option.map_eq_some_iff.mp h
      have e2 := intsD_eq e
      subst e2
      have e3 := ints_V r
      subst e3
      obtain ⟨k1, k2⟩ := List.min?_eq_some_iff.mp hm
      refine ⟨a, ns, rfl, .of h1, List.length_pos_of_mem k1, fun m' h1 h2 => ?_⟩
      have e4 : m' = m := Int.le_antisymm (h2 _ k1) (k2 _ h1)
      rw [e4]
      exact q w _ Le.refl so (.int _)
    · cases h
  · cases h
end
end Pw
/-! {"a": x, "b": y, ..}[i], with written keys -/
namespace Pw
open PySem PySem.Spec PyProof.Rows L2 RZ
def lookK : List Str → List D → Str → Option D
  | k :: ks, d :: ds, z => if k = z then some d else lookK ks ds z
  | _, _, _ => none
def mDix (keys : List Str) (mr : M (List D)) (mi : M D) : M D := bnd mr fun ds => bnd mi fun i => match i with
  | .str z => lft (lookK keys ds z)
  | _ => lft none
theorem Fr.mutK {K : PySem.W.Frag} {H : Hp} {p : Addr} {xs : List (Key × V)} {o : HO} (h : H p = some (.dK xs)) : Fr K [p] H (upd H p o) := by
  refine ⟨fun a u e n => ?_, fun a ys e => ?_, fun a ob u e => ?_, fun a e => ?_⟩
  · rw [upd_ne (by intro z; subst z; exact n (List.mem_singleton.mpr rfl))]; exact e
  · rcases e with (e | ⟨q, e⟩) | e
    · exact .inl (.inl (by rw [upd_ne (ne_of e h (by intro z; cases z))]; exact e))
    · exact .inl (.inr ⟨q, by rw [upd_ne (ne_of e h (by intro z; cases z))]; exact e⟩)
    · exact .inr e
  · rw [upd_ne (ne_of e h (by intro z; cases z))]; exact e
  · by_cases q : a = p
    · subst q; rw [upd_same] at e; cases e
    · rw [upd_ne q] at e; exact e
def zipK : List Str → List V → List (V × V)
  | k :: ks, v :: vs => (.str k, v) :: zipK ks vs
  | _, _ => []
def kvsK : List Str → List V → List (Key × V)
  | k :: ks, v :: vs => (.inr k, v) :: kvsK ks vs
  | _, _ => []
theorem zip_kvs : ∀ (ks : List Str) (vs : List V), zipK ks vs = (kvsK ks vs).map fun kv => (kV kv.1, kv.2)
  | [], _ => by cases ‹List V› <;> rfl
  | _ :: _, [] => rfl
  | k :: ks, v :: vs => by
    show (.str k, v) :: zipK ks vs = (.str k, v) :: _
    rw [zip_kvs ks vs]
theorem kvs_len : ∀ (ks : List Str) (vs : List V), (kvsK ks vs).length ≤ ks.length
  | [], vs => by cases vs <;> exact Nat.le_refl _
  | _ :: _, [] => Nat.zero_le _
  | k :: ks, v :: vs => Nat.succ_le_succ (kvs_len ks vs)
theorem kvs_keys : ∀ (ks : List Str) (vs : List V) (x : Key × V), x ∈ kvsK ks vs → ∃ k ∈ ks, x.1 = .inr k
  | [], vs, x, h => by cases vs <;> cases h
  | _ :: _, [], x, h => by cases h
  | k :: ks, v :: vs, x, h => by
    rcases List.mem_cons.mp h with rfl | h
    · exact ⟨k, List.mem_cons_self, rfl⟩
    · obtain ⟨j, hj, e⟩ := kvs_keys ks vs x h
      exact ⟨j, List.mem_cons_of_mem _ hj, e⟩
theorem merge_kvs : ∀ (ks : List Str) (vs : List V) (acc : List (Key × V)), ks.Nodup → (∀ x ∈ acc, ∀ k ∈ ks, x.1 ≠ .inr k) → mergeK acc (kvsK ks vs) = acc ++ kvsK ks vs
  | [], vs, acc, _, _ => by cases vs <;> exact (List.append_nil _).symm
  | _ :: _, [], acc, _, _ => (List.append_nil _).symm
  | k :: ks, v :: vs, acc, hn, ha => by
    obtain ⟨h1, h2⟩ := List.nodup_cons.mp hn
    have e : putK acc (.inr k) v = acc ++ [(.inr k, v)] := by
      unfold putK
      rw [if_neg]
      intro z
      obtain ⟨x, hx, q⟩ := List.any_eq_true.mp z
      exact ha x hx k List.mem_cons_self (of_decide_eq_true q)
    show mergeK (putK acc (.inr k) v) (kvsK ks vs) = acc ++ ((.inr k, v) :: kvsK ks vs)
    rw [e, merge_kvs ks vs _ h2 fun x hx j hj => ?_, List.append_assoc]
    · rfl
    · rcases List.mem_append.mp hx with hx | hx
      · exact ha x hx j (List.mem_cons_of_mem _ hj)
      · rw [List.mem_singleton.mp hx]
        intro z
        injection z with z
        exact h1 (z ▸ hj)
theorem val_kvs {K : PySem.W.Frag} {G : Str → Addr} {w : Wd} : ∀ {ks : List Str} {vs : List V} {ds : List D} {z : Str} {d : D}, RepL K G w vs ds → lookK ks ds z = some d → ∃ v, valV (kvsK ks vs) (.inr z) = some v ∧ Rep K G w v d
  | [], _, _, _, _, _, h => by cases ‹List D› <;> cases h
  | _ :: _, _, _, _, _, .nil, h => by cases h
  | k :: ks, v :: vs, d0 :: ds, z, d, .cons r t, h => by
    unfold lookK at h
    by_cases q : k = z
    · rw [if_pos q] at h
      cases h
      exact ⟨v, valV_pos (by rw [q]), r⟩
    · rw [if_neg q] at h
      obtain ⟨u, e, r'⟩ := val_kvs t h
      refine ⟨u, ?_, r'⟩
      show valV ((.inr k, v) :: kvsK ks vs) (.inr z) = _
      rw [valV_neg (by intro y; injection y with y; exact q y)]
      exact e
section
variable {X : Cx} {G : Str → Addr} {E : XK} {Os : List Nat} {e a b c : Expr} {es ves : List Expr} {kes : List (Option Expr)} {m mi : M D} {mr : M (List D)} {pos p1 p2 : Pos} {keys : List Str}
/-- the pairs of a display -/
structure RPs (X : Cx) (G : Str → Addr) (E : XK) (Os : List Nat) (pos : Pos) (kes : List (Option Expr)) (ves : List Expr) (keys : List Str) (mr : M (List D)) : Prop where
  ex : ∃ trs, PPs X pos kes ves trs ∧ kes.all (·.isSome) = true ∧ kes.length = ves.length ∧ kes.length = keys.length ∧
    ∀ (σ : L2.St) (Q : List (V × V) → Hp → Prop) (w : Wd), rdW X.K G E Os mr (fun w' ds => ∀ vs, RepL X.K G w' vs ds → Q (zipK keys vs) w'.H) σ w → tPairs trs σ w.H Q
theorem rps_nil : RPs X G E Os pos [] [] [] mNil := ⟨[], pps_nil, rfl, rfl, rfl, fun σ Q w ⟨ow, env, st, o, h1, h2, h3, h4, h5⟩ => by
  cases h4
  exact h5 w Le.refl h2 [] .nil⟩
theorem rps_cons {k : Str} {j : Nat} (he : RE X G E Os e m) (hr : RPs X G E Os pos kes ves keys mr) : RPs X G E Os pos (some (.Constant (.str k) j p1) :: kes) (e :: ves) (k :: keys) (mCons m mr) := by
  obtain ⟨trs, h1, h2, h3, h4, h5⟩ := hr.ex
  refine ⟨_, pps_cons pe_str he h1, by rw [List.all_cons, h2]; rfl, by rw [List.length_cons, List.length_cons, h3], by rw [List.length_cons, List.length_cons, h4], fun σ Q w r => ?_⟩
  unfold tPairs tC
  refine ⟨w, rfl, r.bnd.mono fun w1 x l1 r1 v hv => h5 σ _ w1 (r1.bnd.mono fun w2 xs l2 r2 vs hvs => ?_)⟩
  obtain ⟨z, st, e1, so, q⟩ := r2.lft
  cases e1
  exact q w2 Le.refl so (v :: vs) (.cons (hv.le l2 r1.sub) hvs)
theorem re_dix (hu : X.A.units + 1 < cLine) (hp : RPs X G E Os p1 kes ves keys mr) (hi : RE X G E Os b mi) (hn : keys.Nodup := by decide) (h0 : keys ≠ [] := by decide) (h15 : keys.length ≤ 15 := by decide) (hs : NoSl b := by exact fun _ _ => rfl) :
    RE X G E Os (.Subscript (.Dict kes ves p1) b pos) (mDix keys mr mi) := by
  obtain ⟨trs, g1, g2, g3, g4, g5⟩ := hp.ex
  have k0 : kes ≠ [] := by
    intro z
    rw [z] at g4
    exact h0 (List.length_eq_zero_iff.mp g4.symm)
  refine (pe_dget hu (pe_disp g1 g2 g3 k0 (by rw [g4]; exact h15)) hi hs).imp fun σ H Q ⟨w, hw, r⟩ => ?_
  subst hw
  intro p hp
  obtain ⟨ow, env, st, o, h1, so, en, h4, h5⟩ := r
  have le1 : Le X.K w.as w { w with H := upd w.H p (.dK []), A := p :: w.A } := Le.newA hp
  have so1 := so.newA (o := .dK []) hp
  have en1 := en.le le1 so.sub
  have np : p ∉ w.as := fun z => by
    obtain ⟨u, e⟩ := so.live p (so.sub p z)
    rw [hp] at e
    cases e
  unfold mDix bnd at h4
  refine g5 σ _ { w with H := upd w.H p (.dK []), A := p :: w.A } ?_
  cases hm : mr env st with
  | none => rw [hm] at h4; cases h4
  | some o1 =>
    obtain ⟨r1, st1⟩ := o1
    rw [hm] at h4
    refine ⟨ow, env, st, (r1, st1), h1, so1, en1, hm, ?_⟩
    cases r1 with
    | exn n l =>
      have q : some (Res.exn n l, st1) = some o := h4
      cases q
      exact fun w' c dd l' s' => h5 w' c dd (le1.trans l') s'
    | ok ds =>
      intro w2 l2 so2 vs hvs
      have le2 : Le X.K w.as w w2 := le1.trans l2
      have hp2 : w2.H p = some (.dK []) := l2.fr.o p _ upd_same np
      have pA : p ∈ w2.A := l2.up p List.mem_cons_self
      have np2 : p ∉ w2.as := fun z => by
        obtain ⟨n, e1, e2⟩ := l2.n
        rw [e1] at z
        rcases List.mem_append.mp z with z | z
        · exact np z
        · have this : upd w.H p (.dK []) p = none := e2 p z
          rw [upd_same] at this
          cases this
      refine ⟨hp2, kvsK keys vs, zip_kvs keys vs, Nat.le_trans (kvs_len keys vs) h15, ?_⟩
      have em : mergeK [] (kvsK keys vs) = kvsK keys vs := by
        rw [merge_kvs keys vs [] hn (fun x hx => nomatch hx)]
        rfl
      rw [em]
      have mu : Le X.K [p] w2 { w2 with H := upd w2.H p (.dK (kvsK keys vs)) } := ⟨⟨[], by simp, by simp⟩, fun _ h => h, fun _ h => .inl h, Fr.mutK hp2⟩
      have hC : ∀ x ∈ [p], x ∈ w2.A := fun x hx => by rw [List.mem_singleton.mp hx]; exact pA
      have nD : ∀ x ∈ w2.as, x ≠ p := fun x hx z => np2 (z ▸ hx)
      -- from w on
      have le3 : Le X.K w.as w { w2 with H := upd w2.H p (.dK (kvsK keys vs)) } := by
        refine ⟨le2.n, le2.up, le2.dn, ⟨fun x u e n => ?_, fun x xs e => (mu.fr.t x xs (le2.fr.t x xs e)), fun x o u e => mu.fr.z x o u (le2.fr.z x o u e), fun x e => le2.fr.h x (mu.fr.h x e)⟩⟩
        have : x ≠ p := fun z => by rw [z, hp] at e; cases e
        show upd w2.H p _ x = _
        rw [upd_ne this]
        exact le2.fr.o x u e n
      have so3 : StoOk X.K G { w2 with H := upd w2.H p (.dK (kvsK keys vs)) } st1 := by
        refine ⟨so2.len, so2.nd, so2.sub, fun x hx => ?_, fun k c e => ?_⟩
        · obtain ⟨u, e⟩ := so2.live x hx
          by_cases z : x = p
          · subst z; exact ⟨_, upd_same⟩
          · exact ⟨u, by show upd w2.H p _ x = _; rw [upd_ne z]; exact e⟩
        · obtain ⟨x, e1, r⟩ := so2.at_ k c e
          have nx := nD x (List.mem_of_getElem? e1)
          refine ⟨x, e1, ?_⟩
          cases r with
          | lst e5 r' => exact .lst (by show upd w2.H p _ x = _; rw [upd_ne nx]; exact e5) (RepL.le mu hC r')
          | ins e5 e6 r' => exact .ins (by show upd w2.H p _ x = _; rw [upd_ne nx]; exact e5) e6 (RepL.le mu hC r')
      have en3 : EnvOk X.K G { w2 with H := upd w2.H p (.dK (kvsK keys vs)) } ow σ env := en.le le3 so.sub
      simp only at h4
      cases hmi : mi env st1 with
      | none => rw [hmi] at h4; cases h4
      | some o2 =>
        obtain ⟨r2, st2⟩ := o2
        rw [hmi] at h4
        try simp only at h4
        refine ⟨{ w2 with H := upd w2.H p (.dK (kvsK keys vs)) }, rfl, ow, env, st1, (r2, st2), h1, so3, en3, hmi, ?_⟩
        cases r2 with
        | exn n l =>
          cases h4
          exact fun w' c dd l' s' => h5 w' c dd (le3.trans l') s'
        | ok iv =>
          intro w4 l4 so4 y hy
          have le4 : Le X.K w.as w w4 := le3.trans l4
          cases iv with
          | str z =>
            have h7 : lft (lookK keys ds z) env st2 = some o := h4
            unfold lft at h7
            cases hk : lookK keys ds z with
            | none => rw [hk] at h7; cases h7
            | some d =>
              rw [hk] at h7
              cases h7
              cases hy
              obtain ⟨v, ev, rv⟩ := val_kvs hvs hk
              have r4 : Rep X.K G w4 v d := Rep.le l4 so3.sub (Rep.le mu hC rv)
              refine ⟨p, v, rfl, .inl ⟨kvsK keys vs, .inr z, .inl ?_, rfl, ev.symm⟩, h5 w4 le4 so4 v r4⟩
              exact l4.fr.o p _ upd_same np2
          | _ => cases h4
theorem re_dixR {k : Nat} (hr : Room k X.A) (hp : RPs X G E Os p1 kes ves keys mr) (hi : RE X G E Os b mi) (hn : keys.Nodup := by decide) (h0 : keys ≠ [] := by decide) (h15 : keys.length ≤ 15 := by decide) (hs : NoSl b := by exact fun _ _ => rfl) :
    RE X G E Os (.Subscript (.Dict kes ves p1) b pos) (mDix keys mr mi) := re_dix (by have := hr.units; omega) hp hi hn h0 h15 hs
end
end Pw
/-! enumerate of a tuple -/
namespace Pw
open PySem PySem.Spec PyProof.Rows L2 RZ
section
variable {prog : Program} {w : World} {A : Around} {E : Value → Shared → Prop} {s : Shared}
set_option maxHeartbeats 4000000 in
theorem meets_enum1 {v : Value} {o : Obj} {H : Heap → Prop} (B : Begins v o H) :
    Meets (Builtin.«enumerate.__new__» ⟨[.type "enumerate", v], []⟩) (fun _ R s => H s.heap ∧
      R (.ok (.ret (.ref (s.heap.push o).objs.size))) { s with heap := (s.heap.push o).push { cls := .type "enumerate", data := .fields #[.none, .bool false, .ref s.heap.objs.size, rawInt 0, .none, .none] } }) :=
  .of_wp fun prog w A R s h => by
    obtain ⟨hp, g, d, tk, os⟩ := s; obtain ⟨h1, h⟩ := h
    have hsub := sub_enumerate
    have q1 : ∀ {A' : Around} {E : Value → Shared → Prop} {Q : Value → Shared → Prop}, Q (.ref hp.objs.size) ⟨hp.push o, g, d, tk, os⟩ → wpAny (model prog w) A' (pyIter v) Q E ⟨hp, g, d, tk, os⟩ :=
      fun q => B.iter prog w _ _ ⟨hp, g, d, tk, os⟩ _ h1 q
    wp_walk using q1
    refine wpAny_stack_any fun st => wpAny_pure ?_
    split
    · rename_i c _ _ _ _ _
      cases (c == Value.type "enumerate")
      · wp_walk using q1
        exact ⟨_, rfl, h⟩
      · wp_walk using q1
        exact ⟨_, rfl, h⟩
    · wp_walk using q1
      exact ⟨_, rfl, h⟩
theorem call_enum1 {v : Value} {o : Obj} {H : Heap → Prop} {Q : Value → Shared → Prop} (B : Begins v o H) (h1 : H s.heap)
    (h : ∀ h', IsEnum h' (s.heap.objs.size + 1) s.heap.objs.size 0 .none → h'.get? s.heap.objs.size = some o → h'.objs.size = s.heap.objs.size + 2 →
      (∀ b o, s.heap.get? b = some o → h'.get? b = some o) → Q (.ref (s.heap.objs.size + 1)) { s with heap := h' }) :
    wpAny (model prog w) A (call (.type "enumerate") [v]) Q E s := by
  refine callType_new F.called_enumerate (by decide) (F.typeCall_enumerate_1 _) (F.newCall_enumerate_1 _) (fun obj => F.args_object_init_2 obj _) F.entry_enumerate_new
    (meets_enum1 B) ⟨h1, ?_⟩
  have hz : (s.heap.push o).objs.size = s.heap.objs.size + 1 := Heap.size_push ..
  show _ ∧ _
  rw [hz]
  have he : IsEnum ((s.heap.push o).push { cls := .type "enumerate", data := .fields #[.none, .bool false, .ref s.heap.objs.size, rawInt 0, .none, .none] }) (s.heap.objs.size + 1) s.heap.objs.size 0 .none := by
    have := Heap.get?_push_size (s.heap.push o) (o := { cls := .type "enumerate", data := .fields #[.none, .bool false, .ref s.heap.objs.size, rawInt 0, .none, .none] }) rfl
    rw [hz] at this; exact this
  refine ⟨⟨_, he, rfl⟩, h _ he (Heap.get?_push_of_some _ (Heap.get?_push_size _ B.free)) (by rw [Heap.size_push, hz]) fun b o x => Heap.get?_push_of_some _ (Heap.get?_push_of_some _ x)⟩
theorem draws_end {it t : Addr} {items : Array Value} {i : Nat} (hh : A.handled = none) (hx : items[i]? = none) :
    Draws prog w A it [it, t] i (fun _ _ => True) (fun k h => k = i ∧ h.IsTupleIter it t i ∧ h.IsTuple t items) where
  live := fun _ _ st => let ⟨o, ho, _⟩ := st.2.1; ⟨o, ho⟩
  frame := fun _ _ _ st hk => ⟨st.1, st.2.1.at fun o e => hk it (by simp) o e, st.2.2.at fun o e => hk t (by simp) o e⟩
  item := fun k s Q E hi st hQ => absurd st.1 (by omega)
  done := fun s Q E st hE => wpAny_nextOf_tuple_end hh st.2.1 st.2.2 hx hE
end
/-- the tuple at a, each item in a new pair -/
def IteT (K : PySem.W.Frag) (a : Addr) : It :=
  ⟨fun i H => ∃ (xs : List V) (x : V), SqT K H a xs ∧ xs[i]? = some x, fun i H v H' => ∃ T x, v = .ref T ∧ H T = none ∧ H' = upd H T (.tup [.int (i : Nat), x]) ∧ ∀ xs, SqT K H a xs → xs[i]? = some x, fun i H => ∃ xs : List V, SqT K H a xs ∧ xs.length ≤ i⟩
theorem enum_apart {h : Heap} {e it a : Addr} {c : Int} {old : Value} {items : Array Value} (he : IsEnum h e it c old) (ht : IsTup h a items) : e ≠ a := fun q => by
  subst q
  obtain ⟨o, ho, hc, n, hd⟩ := ht
  have z : h.get? e = some _ := he
  rw [z] at ho
  cases ho
  cases hd
theorem turn_enumT {P : Program} {w : World} {K : PySem.W.Frag} {elts : List Expr} {kk : Nat} {tpos : Pos} (a e it : Addr) :
    Turn P w K (.Tuple elts kk tpos) (IteT K a) [e, it] e (fun i h => (∃ old, IsEnum h e it ((i : Nat) : Int) old) ∧ h.IsTupleIter it a i ∧ e ≠ it) where
  mem := by simp
  obj := fun i h st b hb => by
    obtain ⟨⟨old, he⟩, ⟨o, ho, hc, hd⟩, _⟩ := st
    have e' : b = e ∨ b = it := by simpa using hb
    rcases e' with z | z
    · rw [z]; exact ⟨_, he, fun v q => nomatch q⟩
    · rw [z]; exact ⟨o, ho, fun v q => by rw [hd] at q; cases q⟩
  keep := fun i h h' st k => let ⟨⟨old, he⟩, hi, hne⟩ := st; ⟨⟨old, k e (by simp) _ he⟩, hi.at fun o q => k it (by simp) o q, hne⟩
  item := by
    intro X hP hw hK hc i pins s σ H E I hf st hg
    subst hP hw hK
    obtain ⟨⟨old, he⟩, hit, hne⟩ := st
    obtain ⟨xs, x, hq, hx⟩ := hg
    obtain ⟨its, rv, p, hz⟩ := I.tuple hq
    obtain ⟨u, hu, ru⟩ := rv.get hx
    have hel : e < s.heap.objs.size := Heap.lt_size he
    have hil : it < s.heap.objs.size := by obtain ⟨_, q, _⟩ := hit; exact Heap.lt_size q
    have hit0 : a ≠ it := fun q => by
      subst q
      obtain ⟨o, ho, hc, _⟩ := p
      obtain ⟨o', ho', hc', _⟩ := hit
      rw [ho] at ho'
      cases ho'
      rw [hc] at hc'
      exact absurd hc' (by decide)
    have hea : e ∉ [it, a] := by simp [hne, enum_apart he p]
    have hlt : i < its.toArray.size := by
      have := (List.getElem?_eq_some_iff.mp hu).1
      simpa using this
    refine wpAny_pyNext_enum_itemC (Draws.tuple (A := X.A.in1) (show X.A.in1.handled = none from I.ok.hd hc) it a hit0 its.toArray) he ⟨hit, p⟩ hlt hne hea fun y h' tk hy ho hst' hT hsz hk => ?_
    have hy' : y = u := by
      have : its.toArray[i]? = some u := by simpa using hu
      rw [this] at hy
      exact (Option.some.inj hy).symm
    subst hy'
    refine ⟨_, rfl, wpAny_letOwnedTupleGo_enum (s := { s with heap := h', toks := tk + 1 }) ho fun h'' he' sb => ?_⟩
    have hT2 : h''.get? s.heap.objs.size = some { cls := .type "tuple", data := .seq #[.int i tk, y] } := (sb.2 _ (Nat.ne_of_gt hel)).trans hT
    have new : ObjOk X.prog X.w (upd H s.heap.objs.size (.tup [.int (i : Nat), x])) h'' s.heap.objs.size (.tup [.int (i : Nat), x]) :=
      ⟨by show 2 ≤ sizeLine; decide, [.int i tk, y], .cons ⟨_, rfl⟩ (.cons ru .nil), ⟨_, hT2, rfl, _, rfl⟩⟩
    have I1 : Inv X pins σ (upd H s.heap.objs.size (.tup [.int (i : Nat), x])) { s with heap := h'', toks := tk + 1 } :=
      I.turnedNew (ch := [e, it]) (fun b ob hb q => (sb.2 b (fun z => hb (by simp [z]))).trans (hk b ob (fun z => hb (by simp [z])) (fun z => hb (by simp [z])) q)) hf (Nat.le_refl _) new
    refine ⟨.ref s.heap.objs.size, _, I1, rfl, ⟨_, x, rfl, I.hok.fresh (Nat.le_refl _), rfl, fun ys hy => by rw [I.tuple_inj hy hq]; exact hx⟩, ⟨⟨y, ?_⟩, hst'.1.at fun o q => (sb.2 it (Ne.symm hne)).trans q, hne⟩, fun b hb => ?_⟩
    · have e1 : ((i + 1 : Nat) : Int) = (i : Int) + 1 := by omega
      rw [e1]; exact he'
    · have hb' : b < s.heap.objs.size := by
        have e' : b = e ∨ b = it := by simpa using hb
        rcases e' with z | z
        · rw [z]; exact hel
        · rw [z]; exact hil
      rw [upd_ne (Nat.ne_of_lt hb')]
      exact (hf b hb).1
  done := by
    intro X hP hw hK hc i pins s σ H E I hf st hg
    subst hP hw hK
    obtain ⟨⟨old, he⟩, hit, hne⟩ := st
    obtain ⟨xs, hq, hx⟩ := hg
    obtain ⟨its, rv, p, hz⟩ := I.tuple hq
    obtain ⟨f0, f1, f2, f3, f4, f5⟩ := hf it (by simp)
    have hl := rv.length
    exact wpAny_pyNext_enum_endD (draws_end (I.ok.hd hc) (by simp; omega)) he ⟨rfl, hit, p⟩ fun h' eb => ⟨rfl, I.turned (t' := s.toks) (fun b o hb q => eb b o hb q) f0 f1 f3 f4 f5⟩
  self := fun A i s Q E st h => let ⟨⟨_, he⟩, _⟩ := st; wpAny_pyIter_enum he h
theorem pi_enumT {X : Cx} {e : Expr} {ta : TA} {p pos tpos : Pos} {elts : List Expr} {kk : Nat} (hg : Gl X "enumerate") (hm : X.mg "enumerate" = none) (ha : PA X [e] ta) (hs : starEach [e] X.env = [(false, eval e X.env)] := by rfl) :
    PI X (.Tuple elts kk tpos) (.Call (.Name "enumerate" p) [e] [] pos) (fun σ H R => ta σ H fun vs H1 => ∃ a xs, vs = [.ref a] ∧ SqT X.K H1 a xs ∧ R (IteT X.K a) H1) := by
  refine ⟨fun pins s σ H R I h => ?_⟩
  refine Call_ (ld_blt I hg hm boot_enumerate (PyProof.Rows.callWith_type1 (thn (ha.run pos pins s σ H _ I h) fun us s1 ⟨vs, H1, I1, r1, q1⟩ => ?_) hs rfl))
  obtain ⟨a, xs, ex, hq, q⟩ := q1
  subst ex
  cases r1 with
  | cons r rr =>
    cases rr
    cases r
    obtain ⟨its, rv, p', hz⟩ := I1.tuple hq
    refine call_enum1 (begins_tuple a its.toArray) p' fun h' he ho hsz hk => wpAny_pyIter_enum he ?_
    have I2 : Inv X pins σ H1 { s1 with heap := h' } := I1.kept (t' := s1.toks) hk
    refine ⟨s1.heap.objs.size + 1, [s1.heap.objs.size + 1, s1.heap.objs.size], _, _, H1, rfl, I2, turn_enumT a (s1.heap.objs.size + 1) s1.heap.objs.size, ⟨⟨.none, he⟩, ⟨_, ho, rfl, rfl⟩, Nat.succ_ne_self _⟩, fun b hb => ?_, q⟩
    have e' : b = s1.heap.objs.size + 1 ∨ b = s1.heap.objs.size := by simpa using hb
    have hle : s1.heap.objs.size ≤ b := by
      rcases e' with z | z
      · rw [z]; exact Nat.le_add_right _ _
      · rw [z]; exact Nat.le_refl _
    exact I1.fpOk hle (I1.hok.fresh hle)
section
variable {X : Cx} {G : Str → Addr} {E : XK} {fr : Bool} {Ol Os O1 Os' sl sl2 : List Nat} {e a b c tg iter elt : Expr} {es : List Expr} {m ma mb mc me : M D} {pos p p2 p3 : Pos}
theorem it_enumT {K : PySem.W.Frag} {w : Wd} {v : V} {l : List D} (h : Rep K G w v (.tup l)) : ∃ a xs, v = .ref a ∧ SqT K w.H a xs ∧ ItOk K G (IteT K a) w (enumL 0 l) (fun w1 => Rep K G w1 (.ref a) (.tup l)) := by
  cases h with
  | @tup a xs ds h2 h3 =>
    refine ⟨a, xs, rfl, h2, ⟨.tup h2 h3, fun w1 w2 p q => q _ _ p, fun w1 i d p e => ?_, fun w1 i d x H' p hs e y => ?_, fun w1 p => ?_⟩⟩
    · cases p with
      | tup g2 g3 =>
        rw [enumL_get] at e
        obtain ⟨d', e1, rfl⟩ := Option.map_eq_some_iff.mp e
        obtain ⟨v, e2, _⟩ := g3.get' e1
        exact ⟨_, v, g2, e2⟩
    · cases p with
      | tup g2 g3 =>
        rw [enumL_get] at e
        obtain ⟨d', e1, rfl⟩ := Option.map_eq_some_iff.mp e
        obtain ⟨v, e2, r⟩ := g3.get' e1
        obtain ⟨T, x1, rfl, nT, rfl, k1⟩ := y
        have m1 := k1 _ g2
        rw [e2] at m1
        cases m1
        refine ⟨{ w1 with H := upd w1.H T (.tup [.int (i : Nat), v]) }, rfl, ⟨rfl, rfl, Fr.new nT⟩, ?_⟩
        rw [show ((0 : Int) + (i : Int)) = ((i : Nat) : Int) by omega]
        exact .tup (.inl (.inl upd_same)) (.cons (.int _) (.cons (r.le (Le.new (C := w1.as) nT) hs) .nil))
    · cases p with
      | tup g2 g3 => exact ⟨_, g2, by rw [enumL_len, g3.length]; exact Nat.le_refl _⟩
def mEnumT (m : M D) : M (List D) := bnd m fun d => lft (match d with | .tup l => some (enumL 0 l) | _ => none)
theorem ri_enumT {elts : List Expr} {kk : Nat} {tpos : Pos} (hm : X.mg "enumerate" = none) (h : RE X G E Os e m) (hg : Gl X "enumerate" := by rfl) (hs : starEach [e] X.env = [(false, eval e X.env)] := by rfl) :
    RI X G E Os (.Tuple elts kk tpos) (.Call (.Name "enumerate" p) [e] [] pos) (mEnumT m) :=
  (pi_enumT hg hm (pa_cons h pa_nil hs) hs).imp fun σ H R ⟨w, hw, r⟩ => ⟨w, hw, r.bnd.mono fun w1 d l1 r1 v hv => by
    obtain ⟨y, st, e1, so, q⟩ := r1.lft
    split at e1
    · cases e1
      obtain ⟨a, xs, rfl, hx, ok⟩ := it_enumT hv
      exact ⟨a, xs, rfl, hx, q w1 Le.refl so _ _ ok⟩
    · cases e1⟩
/-- of a list or a tuple -/
def mEnumA (m : M D) : M (List D) := bnd m fun d => lft (match d with | .lst l => some (enumL 0 l) | .tup l => some (enumL 0 l) | _ => none)
theorem ri_enumA {elts : List Expr} {kk : Nat} {tpos : Pos} (hm : X.mg "enumerate" = none) (h : RE X G E Os e m) (hg : Gl X "enumerate" := by rfl) (hs : starEach [e] X.env = [(false, eval e X.env)] := by rfl) :
    RI X G E Os (.Tuple elts kk tpos) (.Call (.Name "enumerate" p) [e] [] pos) (mEnumA m) := by
  refine ⟨fun pins s σ H R I q => (PI.or (ri_enum hm h hg hs) (ri_enumT hm h hg hs)).run pins s σ H R I ?_⟩
  obtain ⟨w, hw, ow, env, st, o, h1, h2, h3, h4, h5⟩ := q
  unfold mEnumA bnd at h4
  cases q : m env st with
  | none => rw [q] at h4; cases h4
  | some r =>
    obtain ⟨r, st'⟩ := r
    rw [q] at h4
    cases r with
    | exn x l => exact .inl ⟨w, hw, ow, env, st, o, h1, h2, h3, by unfold mEnum bnd; rw [q]; exact h4, h5⟩
    | ok d =>
      cases d with
      | lst l => exact .inl ⟨w, hw, ow, env, st, o, h1, h2, h3, by unfold mEnum bnd; rw [q]; exact h4, h5⟩
      | tup l => exact .inr ⟨w, hw, ow, env, st, o, h1, h2, h3, by unfold mEnumT bnd; rw [q]; exact h4, h5⟩
      | _ => cases h4
end
end Pw
/-! zip of a list and a tuple, in any mixture -/
namespace Pw
open PySem PySem.Spec PyProof.Rows L2 RZ
def SeqB (b : Bool) (h : Heap) (a : Addr) (items : Array Value) : Prop := match b with
  | true => h.IsList a items
  | false => h.IsTuple a items
def IterB (b : Bool) (h : Heap) (it a : Addr) (i : Nat) : Prop := match b with
  | true => h.IsListIter it a i
  | false => h.IsTupleIter it a i
def SqB (K : PySem.W.Frag) (b : Bool) (H : Hp) (a : Addr) (xs : List V) : Prop := match b with
  | true => SqL K H a xs
  | false => SqT K H a xs
theorem IterB.live {b : Bool} {h : Heap} {it a : Addr} {i : Nat} (k : IterB b h it a i) : ∃ o, h.get? it = some o ∧ ∀ v, o.data ≠ .cell v := by
  cases b
  · obtain ⟨o, e, _, d⟩ := (show h.IsTupleIter it a i from k)
    exact ⟨o, e, fun v q => by rw [d] at q; cases q⟩
  · obtain ⟨o, e, _, d⟩ := (show h.IsListIter it a i from k)
    exact ⟨o, e, fun v q => by rw [d] at q; cases q⟩
theorem IterB.to {b : Bool} {h h' : Heap} {it a : Addr} {i : Nat} (k : IterB b h it a i) (q : ∀ o, h.get? it = some o → h'.get? it = some o) : IterB b h' it a i := by
  cases b
  · exact (show h.IsTupleIter it a i from k).at q
  · exact (show h.IsListIter it a i from k).at q
theorem SeqB.lt {b : Bool} {h : Heap} {a : Addr} {items : Array Value} (k : SeqB b h a items) : a < h.objs.size := by
  cases b
  · obtain ⟨o, e, _⟩ := (show h.IsTuple a items from k)
    exact Heap.lt_size e
  · obtain ⟨o, e, _⟩ := (show h.IsList a items from k)
    exact Heap.lt_size e
theorem seqB_of {X : Cx} {pins : List (Addr × Obj)} {σ : L2.St} {H : Hp} {s : Shared} (I : Inv X pins σ H s) {b : Bool} {a : Addr} {xs : List V} (h : SqB X.K b H a xs) : ∃ its : List Value, Vals xs its ∧ SeqB b s.heap a its.toArray := by
  cases b
  · obtain ⟨its, r, p, _⟩ := I.tuple (show SqT X.K H a xs from h)
    exact ⟨its, r, p⟩
  · obtain ⟨its, r, p, _⟩ := I.list (show SqL X.K H a xs from h)
    exact ⟨its, r, p.isList⟩
theorem sqB_inj {X : Cx} {pins : List (Addr × Obj)} {σ : L2.St} {H : Hp} {s : Shared} (I : Inv X pins σ H s) {b : Bool} {a : Addr} {xs ys : List V} (h : SqB X.K b H a xs) (h' : SqB X.K b H a ys) : xs = ys := by
  cases b
  · exact I.tuple_inj (show SqT X.K H a xs from h) h'
  · exact I.list_inj (show SqL X.K H a xs from h) h'
def obB (b : Bool) (a : Addr) : Obj := match b with
  | true => { cls := .type "list_iterator", data := .fields #[.ref a, .int 0 0] }
  | false => { cls := .type "tuple_iterator", data := .fields #[.ref a, .int 0 0] }
theorem begins_B (b : Bool) (a : Addr) (items : Array Value) : Begins (.ref a) (obB b a) fun h => SeqB b h a items := by
  cases b
  · exact begins_tuple a items
  · exact begins_list a items
theorem iterB_new {b : Bool} {h : Heap} {it a : Addr} (e : h.get? it = some (obB b a)) : IterB b h it a 0 := by
  cases b
  · exact ⟨_, e, rfl, rfl⟩
  · exact ⟨_, e, rfl, rfl⟩
section
variable {prog : Program} {w : World} {A : Around}
theorem drawsB (b : Bool) (hh : A.handled = none) (it a : Addr) (hne : a ≠ it) (items : Array Value) : Draws prog w A it [it, a] items.size (fun i v => items[i]? = some v) (fun i h => IterB b h it a i ∧ SeqB b h a items) := by
  cases b
  · exact Draws.tuple hh it a hne items
  · exact Draws.list hh it a hne items
theorem draws_endL {it t : Addr} {items : Array Value} {i : Nat} (hh : A.handled = none) (hx : items[i]? = none) :
    Draws prog w A it [it, t] i (fun _ _ => True) (fun k h => k = i ∧ h.IsListIter it t i ∧ h.IsList t items) where
  live := fun _ _ st => let ⟨o, ho, _⟩ := st.2.1; ⟨o, ho⟩
  frame := fun _ _ _ st hk => ⟨st.1, st.2.1.at fun o e => hk it (by simp) o e, st.2.2.at fun o e => hk t (by simp) o e⟩
  item := fun k s Q E hi st hQ => absurd st.1 (by omega)
  done := fun s Q E st hE => wpAny_nextOf_list_end hh st.2.1 st.2.2 hx hE
theorem draws_endB (b : Bool) {it t : Addr} {items : Array Value} {i : Nat} (hh : A.handled = none) (hx : items[i]? = none) :
    Draws prog w A it [it, t] i (fun _ _ => True) (fun k h => k = i ∧ IterB b h it t i ∧ SeqB b h t items) := by
  cases b
  · exact draws_end hh hx
  · exact draws_endL hh hx
end
def ItzB (K : PySem.W.Frag) (b1 b2 : Bool) (a b : Addr) : It :=
  ⟨fun i H => ∃ (xs ys : List V) (x y : V), SqB K b1 H a xs ∧ SqB K b2 H b ys ∧ xs[i]? = some x ∧ ys[i]? = some y,
    fun i H v H' => ∃ T x y, v = .ref T ∧ H T = none ∧ H' = upd H T (.tup [x, y]) ∧ (∀ xs, SqB K b1 H a xs → xs[i]? = some x) ∧ ∀ ys, SqB K b2 H b ys → ys[i]? = some y,
    fun i H => ∃ xs ys : List V, SqB K b1 H a xs ∧ SqB K b2 H b ys ∧ (xs.length ≤ i ∨ ys.length ≤ i)⟩
theorem mem5 {α : Type} {c z t o i j : α} (h : c ∈ [z, t, o, i, j]) : c = z ∨ c = t ∨ c = o ∨ c = i ∨ c = j := by simpa using h
theorem turn_zipB {P : Program} {w : World} {K : PySem.W.Frag} {elts : List Expr} {kk : Nat} {tpos : Pos} {b1 b2 : Bool} {a b z TI TO i1 i2 : Addr} (S : ZipSep2 z TI TO i1 i2 [i1, a] [i2, b]) (n1 : a ≠ i1) (n2 : b ≠ i2) :
    Turn P w K (.Tuple elts kk tpos) (ItzB K b1 b2 a b) [z, TI, TO, i1, i2] z (fun i h => IsZip h z TI TO .none ∧ IsTupOf2 h TI (.ref i1) (.ref i2) ∧ (∃ x y, IsTupOf2 h TO x y) ∧ IterB b1 h i1 a i ∧ IterB b2 h i2 b i) where
  mem := by simp
  obj := fun i h st c hc => by
    obtain ⟨q1, q2, ⟨x, y, q3⟩, q4, q5⟩ := st
    obtain ⟨o1, e1, d1⟩ := q4.live
    obtain ⟨o2, e2, d2⟩ := q5.live
    rcases mem5 hc with rfl | rfl | rfl | rfl | rfl
    · exact ⟨_, q1, fun v q => nomatch q⟩
    · exact ⟨_, q2, fun v q => nomatch q⟩
    · exact ⟨_, q3, fun v q => nomatch q⟩
    · exact ⟨_, e1, d1⟩
    · exact ⟨_, e2, d2⟩
  keep := fun i h h' st k => by
    obtain ⟨q1, q2, ⟨x, y, q3⟩, q4, q5⟩ := st
    exact ⟨k z (by simp) _ q1, k TI (by simp) _ q2, ⟨x, y, k TO (by simp) _ q3⟩, q4.to fun o q => k i1 (by simp) o q, q5.to fun o q => k i2 (by simp) o q⟩
  item := by
    intro X hP hw hK hc i pins s σ H E I hf st hg
    subst hP hw hK
    obtain ⟨q1, q2, ⟨x0, y0, q3⟩, q4, q5⟩ := st
    obtain ⟨xs, ys, x, y, hx1, hy1, hx, hy⟩ := hg
    obtain ⟨its, rv, p⟩ := seqB_of I hx1
    obtain ⟨its2, rv2, p2⟩ := seqB_of I hy1
    obtain ⟨u, hu, ru⟩ := rv.get hx
    obtain ⟨u2, hu2, ru2⟩ := rv2.get hy
    have zlt : z < s.heap.objs.size := Heap.lt_size q1
    have hh : X.A.in1.handled = none := I.ok.hd hc
    have l1 : i < its.toArray.size := by
      have := (List.getElem?_eq_some_iff.mp hu).1
      simpa using this
    have l2 : i < its2.toArray.size := by
      have := (List.getElem?_eq_some_iff.mp hu2).1
      simpa using this
    refine wpAny_pyNext_zipD2_item S (drawsB b1 hh i1 a n1 its.toArray) (drawsB b2 hh i2 b n2 its2.toArray) q1 q2 q3 ⟨q4, p⟩ ⟨q5, p2⟩ l1 l2 fun v1 v2 h' tk m1 m2 z' o' r1 r2 tt sz hk => ?_
    have m1' : v1 = u := by
      have : its.toArray[i]? = some u := by simpa using hu
      rw [this] at m1
      exact (Option.some.inj m1).symm
    have m2' : v2 = u2 := by
      have : its2.toArray[i]? = some u2 := by simpa using hu2
      rw [this] at m2
      exact (Option.some.inj m2).symm
    subst m1' m2'
    refine ⟨_, rfl, wpAny_letOwnedTupleGo_zip (s := { s with heap := h', toks := tk }) z' fun h'' zz sb => ?_⟩
    have tt2 : h''.get? s.heap.objs.size = some { cls := .type "tuple", data := .seq #[v1, v2] } := (sb.2 _ (Nat.ne_of_gt zlt)).trans tt
    have new : ObjOk X.prog X.w (upd H s.heap.objs.size (.tup [x, y])) h'' s.heap.objs.size (.tup [x, y]) :=
      ⟨(by decide : 2 ≤ sizeLine), [v1, v2], .cons ru (.cons ru2 .nil), ⟨_, tt2, rfl, _, rfl⟩⟩
    have J : Inv X pins σ (upd H s.heap.objs.size (.tup [x, y])) { s with heap := h'', toks := tk } :=
      I.turnedNew (ch := [z, TI, TO, i1, i2]) (fun c o hb q => by
        have c1 : c ≠ z := fun e => hb (by simp [e])
        have c2 : c ≠ TO := fun e => hb (by simp [e])
        have c3 : c ≠ i1 := fun e => hb (by simp [e])
        have c4 : c ≠ i2 := fun e => hb (by simp [e])
        exact (sb.2 c c1).trans (hk c o c1 c2 c3 c4 q)) hf (Nat.le_refl _) new
    refine ⟨.ref s.heap.objs.size, _, J, rfl, ⟨s.heap.objs.size, x, y, rfl, I.hok.fresh (Nat.le_refl _), rfl, fun l hl => by rw [sqB_inj I hl hx1]; exact hx, fun l hl => by rw [sqB_inj I hl hy1]; exact hy⟩, ⟨zz, ?_, ⟨v1, v2, ?_⟩, ?_, ?_⟩, fun c hcm => ?_⟩
    · exact (sb.2 _ S.TIz).trans (hk _ _ S.TIz S.TITO S.TIi1 S.TIi2 q2)
    · exact (sb.2 _ S.TOz).trans o'
    · exact r1.1.to fun o q => (sb.2 _ (Ne.symm S.zi1)).trans q
    · exact r2.1.to fun o q => (sb.2 _ (Ne.symm S.zi2)).trans q
    · have hlt : c < s.heap.objs.size := by
        obtain ⟨o1, e1, _⟩ := q4.live
        obtain ⟨o2, e2, _⟩ := q5.live
        rcases mem5 hcm with e | e | e | e | e <;> rw [e]
        · exact zlt
        · exact Heap.lt_size q2
        · exact Heap.lt_size q3
        · exact Heap.lt_size e1
        · exact Heap.lt_size e2
      rw [upd_ne (Nat.ne_of_lt hlt)]
      exact (hf c hcm).1
  done := by
    intro X hP hw hK hc i pins s σ H E I hf st hg
    subst hP hw hK
    obtain ⟨q1, q2, ⟨x0, y0, q3⟩, q4, q5⟩ := st
    obtain ⟨xs, ys, hx1, hy1, hend⟩ := hg
    obtain ⟨its, rv, p⟩ := seqB_of I hx1
    obtain ⟨its2, rv2, p2⟩ := seqB_of I hy1
    have l1 := rv.length
    have l2 := rv2.length
    have hh : X.A.in1.handled = none := I.ok.hd hc
    have fin : ∀ (h' : Heap) (tk : Nat), (∀ c o, c ≠ z → c ≠ TO → c ≠ i1 → c ≠ i2 → s.heap.get? c = some o → h'.get? c = some o) → _ := fun h' tk hk =>
      I.turnedL (t' := tk) (h' := h') (ch := [z, TI, TO, i1, i2]) (fun c o hb q => hk c o (fun e => hb (by simp [e])) (fun e => hb (by simp [e])) (fun e => hb (by simp [e])) (fun e => hb (by simp [e])) q) hf
    by_cases h1 : its.toArray[i]? = none
    · by_cases h2 : its2.toArray[i]? = none
      · exact wpAny_pyNext_zipD2_end (i := i) S (draws_endB b1 hh h1) (draws_endB b2 hh h2) q1 q2 q3 ⟨rfl, q4, p⟩ ⟨rfl, q5, p2⟩ (Nat.le_refl _) (Nat.le_refl _) (.inl rfl) fun h' tk hk => ⟨rfl, fin h' tk hk⟩
      · have z2 : i ≤ its2.toArray.size := by
          rcases Nat.lt_or_ge i its2.toArray.size with z | z
          · exact Nat.le_of_lt z
          · exact absurd (Array.getElem?_eq_none z) h2
        exact wpAny_pyNext_zipD2_end (i := i) S (draws_endB b1 hh h1) (drawsB b2 hh i2 b n2 its2.toArray) q1 q2 q3 ⟨rfl, q4, p⟩ ⟨q5, p2⟩ (Nat.le_refl _) z2 (.inl rfl) fun h' tk hk => ⟨rfl, fin h' tk hk⟩
    · have h2 : its2.toArray[i]? = none := by
        rcases hend with z | z
        · exact absurd (by simp; omega) h1
        · simp; omega
      have z1 : i ≤ its.toArray.size := by
        rcases Nat.lt_or_ge i its.toArray.size with z | z
        · exact Nat.le_of_lt z
        · exact absurd (Array.getElem?_eq_none z) h1
      exact wpAny_pyNext_zipD2_end (i := i) S (drawsB b1 hh i1 a n1 its.toArray) (draws_endB b2 hh h2) q1 q2 q3 ⟨q4, p⟩ ⟨rfl, q5, p2⟩ z1 (Nat.le_refl _) (.inr rfl) fun h' tk hk => ⟨rfl, fin h' tk hk⟩
  self := fun A i s Q E st h => wpAny_pyIter_zip st.1 h
theorem out2 {x p q : Nat} (h1 : ¬ x = p) (h2 : ¬ x = q) : x ∉ [p, q] := fun h => by
  rcases List.mem_cons.mp h with z | z
  · exact h1 z
  · exact h2 (List.mem_singleton.mp z)
theorem sep5 (n a b : Nat) (la : a < n) (lb : b < n) : ZipSep2 (n + 4) (n + 2) (n + 3) n (n + 1) [n, a] [n + 1, b] where
  TIz := show ¬ ((n + 2 : Nat) = n + 4) by omega
  TOz := show ¬ ((n + 3 : Nat) = n + 4) by omega
  TITO := show ¬ ((n + 2 : Nat) = n + 3) by omega
  TIi1 := show ¬ ((n + 2 : Nat) = n) by omega
  mem1 := List.mem_cons_self
  zf1 := out2 (by omega) (by omega)
  Tf1 := out2 (by omega) (by omega)
  TIi2 := show ¬ ((n + 2 : Nat) = n + 1) by omega
  mem2 := List.mem_cons_self
  zf2 := out2 (by omega) (by omega)
  Tf2 := out2 (by omega) (by omega)
  sep1_2 := out2 (by omega) (by omega)
  sep2_1 := out2 (by omega) (by omega)
theorem le5 (n c : Nat) (h : c ∈ [n + 4, n + 2, n + 3, n, n + 1]) : n ≤ c := by
  rcases mem5 h with z | z | z | z | z <;> omega
theorem pi_zipB {X : Cx} {e e2 : Expr} {ta : TA} {p pos tpos : Pos} {elts : List Expr} {kk : Nat} (b1 b2 : Bool) (hg : Gl X "zip") (hm : X.mg "zip" = none) (ha : PA X [e, e2] ta)
    (hs : starEach [e, e2] X.env = (false, eval e X.env) :: starEach [e2] X.env := by rfl) (hpl : (backTo pos (starEach [e2] X.env)).any (·.1) = false := by rfl) :
    PI X (.Tuple elts kk tpos) (.Call (.Name "zip" p) [e, e2] [] pos) (fun σ H R => ta σ H fun vs H1 => ∃ a b xs ys, vs = [.ref a, .ref b] ∧ SqB X.K b1 H1 a xs ∧ SqB X.K b2 H1 b ys ∧ R (ItzB X.K b1 b2 a b) H1) := by
  refine ⟨fun pins s σ H R I h => ?_⟩
  refine Call_ (ld_blt I hg hm PyProof.Rows.boot_zip (PyProof.Rows.callWith_type1 (thn (ha.run pos pins s σ H _ I h) fun us s1 ⟨vs, H1, I1, r1, q1⟩ => ?_) hs hpl))
  obtain ⟨a, b, xs, ys, ex, hqx, hqy, q⟩ := q1
  subst ex
  cases r1 with
  | cons r rr =>
    cases rr with
    | cons r' rr =>
      cases rr
      cases r
      cases r'
      obtain ⟨its, rv, p1⟩ := seqB_of I1 hqx
      obtain ⟨its2, rv2, p2⟩ := seqB_of I1 hqy
      have la := p1.lt
      have lb := p2.lt
      refine zip_begins2 (begins_B b1 a its.toArray) (begins_B b2 b its2.toArray) p1 p2 fun h' hz hTI hTO h1 h2 hsz hk => wpAny_pyIter_zip hz ?_
      have I2 : Inv X pins σ H1 { s1 with heap := h' } := I1.kept (t' := s1.toks) hk
      refine ⟨s1.heap.objs.size + 4, [s1.heap.objs.size + 4, s1.heap.objs.size + 2, s1.heap.objs.size + 3, s1.heap.objs.size, s1.heap.objs.size + 1], _, _, H1, rfl, I2, turn_zipB (sep5 _ a b la lb) (Nat.ne_of_lt la) (Nat.ne_of_lt (Nat.lt_succ_of_lt lb)), ⟨hz, hTI, ⟨_, _, hTO⟩, iterB_new h1, iterB_new h2⟩, fun c hcm => ?_, q⟩
      have hle := le5 s1.heap.objs.size c hcm
      exact I1.fpOk hle (I1.hok.fresh hle)
def DB (b : Bool) (l : List D) : D := match b with
  | true => .lst l
  | false => .tup l
section
variable {K : PySem.W.Frag} {G : Str → Addr} {w : Wd}
theorem repB {b : Bool} {v : V} {l : List D} (h : Rep K G w v (DB b l)) : ∃ a xs, v = .ref a ∧ SqB K b w.H a xs ∧ RepL K G w xs l := by
  cases b
  · cases (show Rep K G w v (.tup l) from h) with
    | tup h2 h3 => exact ⟨_, _, rfl, h2, h3⟩
  · cases (show Rep K G w v (.lst l) from h) with
    | lst h1 h2 h3 => exact ⟨_, _, rfl, SqL.of h2, h3⟩
theorem it_zipB {b1 b2 : Bool} {v u : V} {l r : List D} (h : Rep K G w v (DB b1 l)) (g : Rep K G w u (DB b2 r)) : ∃ a b xs ys, v = .ref a ∧ u = .ref b ∧ SqB K b1 w.H a xs ∧ SqB K b2 w.H b ys ∧ ItOk K G (ItzB K b1 b2 a b) w (zipL l r) (fun w1 => Rep K G w1 (.ref a) (DB b1 l) ∧ Rep K G w1 (.ref b) (DB b2 r)) := by
  obtain ⟨a, xs, rfl, h2, h3⟩ := repB h
  obtain ⟨b, ys, rfl, g2, g3⟩ := repB g
  refine ⟨a, b, xs, ys, rfl, rfl, h2, g2, ⟨⟨h, g⟩, fun w1 w2 p q => ⟨q _ _ p.1, q _ _ p.2⟩, fun w1 i d p e => ?_, fun w1 i d x H' p hs e y => ?_, fun w1 p => ?_⟩⟩
  · obtain ⟨x, y, e1, e2, rfl⟩ := zipL_get _ _ _ _ e
    obtain ⟨_, xs1, ea, q2, q3⟩ := repB p.1
    obtain ⟨_, ys1, eb, t2, t3⟩ := repB p.2
    cases ea; cases eb
    obtain ⟨vx, f1, _⟩ := q3.get' e1
    obtain ⟨vy, f2, _⟩ := t3.get' e2
    exact ⟨_, _, vx, vy, q2, t2, f1, f2⟩
  · obtain ⟨x1, y1, e1, e2, rfl⟩ := zipL_get _ _ _ _ e
    obtain ⟨_, xs1, ea, q2, q3⟩ := repB p.1
    obtain ⟨_, ys1, eb, t2, t3⟩ := repB p.2
    cases ea; cases eb
    obtain ⟨vx, f1, r1⟩ := q3.get' e1
    obtain ⟨vy, f2, r2⟩ := t3.get' e2
    obtain ⟨T, z1, z2, rfl, nT, rfl, k1, k2⟩ := y
    have m1 := k1 _ q2
    have m2 := k2 _ t2
    rw [f1] at m1
    rw [f2] at m2
    cases m1; cases m2
    refine ⟨{ w1 with H := upd w1.H T (.tup [vx, vy]) }, rfl, ⟨rfl, rfl, Fr.new nT⟩, .tup (.inl (.inl upd_same)) (.cons (r1.le (Le.new (C := w1.as) nT) hs) (.cons (r2.le (Le.new (C := w1.as) nT) hs) .nil))⟩
  · obtain ⟨_, xs1, ea, q2, q3⟩ := repB p.1
    obtain ⟨_, ys1, eb, t2, t3⟩ := repB p.2
    cases ea; cases eb
    refine ⟨_, _, q2, t2, ?_⟩
    rw [zipL_len, q3.length, t3.length]
    omega
end
/-- of lists and tuples in any mixture -/
def zipMP : List D → Option (List D)
  | [.lst l, .lst r] => some (zipL l r)
  | [.tup l, .tup r] => some (zipL l r)
  | [.lst l, .tup r] => some (zipL l r)
  | [.tup l, .lst r] => some (zipL l r)
  | _ => none
theorem zipMP_kind {ds z : List D} (h : zipMP ds = some z) : ∃ b1 b2 l r, ds = [DB b1 l, DB b2 r] := by
  unfold zipMP at h
  split at h
  · exact ⟨true, true, _, _, rfl⟩
  · exact ⟨false, false, _, _, rfl⟩
  · exact ⟨true, false, _, _, rfl⟩
  · exact ⟨false, true, _, _, rfl⟩
  · cases h
def mZipM (mr : M (List D)) : M (List D) := bnd mr fun ds => lft (zipMP ds)
def zipB (b1 b2 : Bool) : List D → Option (List D)
  | [.lst l, .lst r] => if b1 = true ∧ b2 = true then some (zipL l r) else none
  | [.tup l, .tup r] => if b1 = false ∧ b2 = false then some (zipL l r) else none
  | [.lst l, .tup r] => if b1 = true ∧ b2 = false then some (zipL l r) else none
  | [.tup l, .lst r] => if b1 = false ∧ b2 = true then some (zipL l r) else none
  | _ => none
theorem zipB_some {b1 b2 : Bool} {ds z : List D} (h : zipB b1 b2 ds = some z) : ∃ l r, ds = [DB b1 l, DB b2 r] ∧ z = zipL l r := by
  unfold zipB at h
  split at h
  all_goals first | cases h | (split at h; (rename_i q; obtain ⟨rfl, rfl⟩ := q; cases h; exact ⟨_, _, rfl, rfl⟩); cases h)
def mZipB (b1 b2 : Bool) (mr : M (List D)) : M (List D) := bnd mr fun ds => lft (zipB b1 b2 ds)
section
variable {X : Cx} {G : Str → Addr} {E : XK} {Os : List Nat} {a b : Expr} {mr : M (List D)} {pos p : Pos}
theorem ri_zipB {elts : List Expr} {kk : Nat} {tpos : Pos} (b1 b2 : Bool) (hm : X.mg "zip" = none) (ha : RA X G E Os [a, b] mr) (hg : Gl X "zip" := by rfl) (hs : starEach [a, b] X.env = (false, eval a X.env) :: starEach [b] X.env := by rfl) (hpl : (backTo pos (starEach [b] X.env)).any (·.1) = false := by rfl) :
    RI X G E Os (.Tuple elts kk tpos) (.Call (.Name "zip" p) [a, b] [] pos) (mZipB b1 b2 mr) :=
  (pi_zipB b1 b2 hg hm ha hs hpl).imp fun σ H R ⟨w, hw, r⟩ => ⟨w, hw, r.bnd.mono fun w1 d l1 r1 v hv => by
    obtain ⟨y, st, e1, so, q⟩ := r1.lft
    obtain ⟨l, r, rfl, rfl⟩ := zipB_some e1
    cases hv with
    | cons r t =>
      cases t with
      | cons r' t =>
        cases t
        obtain ⟨a', b', xs, ys, rfl, rfl, g1, g2, ok⟩ := it_zipB r r'
        exact ⟨a', b', xs, ys, rfl, g1, g2, q w1 Le.refl so _ _ ok⟩⟩
theorem ri_zipM {elts : List Expr} {kk : Nat} {tpos : Pos} (hm : X.mg "zip" = none) (ha : RA X G E Os [a, b] mr) (hg : Gl X "zip" := by rfl) (hs : starEach [a, b] X.env = (false, eval a X.env) :: starEach [b] X.env := by rfl) (hpl : (backTo pos (starEach [b] X.env)).any (·.1) = false := by rfl) :
    RI X G E Os (.Tuple elts kk tpos) (.Call (.Name "zip" p) [a, b] [] pos) (mZipM mr) := by
  refine ⟨fun pins s σ H R I q => ?_⟩
  obtain ⟨w, hw, ow, env, st, o, h1, h2, h3, h4, h5⟩ := q
  unfold mZipM bnd at h4
  cases q : mr env st with
  | none => rw [q] at h4; cases h4
  | some r =>
    obtain ⟨r, st'⟩ := r
    rw [q] at h4
    cases r with
    | exn x l => exact (ri_zipB true true hm ha hg hs hpl).run pins s σ H R I ⟨w, hw, ow, env, st, o, h1, h2, h3, by unfold mZipB bnd; rw [q]; exact h4, h5⟩
    | ok ds =>
      have go : ∀ b1 b2 l r, ds = [DB b1 l, DB b2 r] → (mZipB b1 b2 mr) env st = (mZipM mr) env st := fun b1 b2 l r e => by
        subst e
        unfold mZipB mZipM bnd
        rw [q]
        cases b1 <;> cases b2 <;> rfl
      have hz : ∃ z, zipMP ds = some z := by
        cases hz : zipMP ds with
        | none => exact absurd (show (none : Option (Res (List D) × Sto)) = some o by rw [← h4]; show none = lft (zipMP ds) env st'; rw [hz]; rfl) (by simp)
        | some z => exact ⟨z, rfl⟩
      obtain ⟨z, hz⟩ := hz
      obtain ⟨b1, b2, l, r, e⟩ := zipMP_kind hz
      refine (ri_zipB (p := p) (elts := elts) (kk := kk) (tpos := tpos) b1 b2 hm ha hg hs hpl).run pins s σ H R I ⟨w, hw, ow, env, st, o, h1, h2, h3, ?_, h5⟩
      rw [go b1 b2 l r e]
      unfold mZipM bnd
      rw [q]
      exact h4
end
end Pw
/-! the least, the greatest of a tuple of ints -/
namespace Pw
open PySem PySem.Spec PyProof.Rows L2 RZ
section
variable {prog : Program} {w : World} {A : Around} {E : Value → Shared → Prop} {s : Shared} {l : Addr} {xs : Array (Int × Tok)}
theorem iter_intTup {Q : Value → Shared → Prop} (hl : s.heap.IsTuple l (intItems xs))
    (h : ∀ s2 : Shared, s2 = { s with heap := s.heap.push { cls := .type "tuple_iterator", data := .fields #[.ref l, .int 0 0] } } →
      (s2.heap.IsTupleIter s.heap.objs.size l 0 ∧ s2.heap.IsTuple l (intItems xs)) → (∀ b ∈ [s.heap.objs.size, l], b < s2.heap.objs.size) → l ≠ s.heap.objs.size → Q (.ref s.heap.objs.size) s2) :
    wpAny (model prog w) A (pyIter (.ref l)) Q E s := by
  have lt : l < s.heap.objs.size := by obtain ⟨_, e, _⟩ := hl; exact Heap.lt_size e
  refine wpAny_pyIter_tuple hl (h _ rfl ⟨⟨_, Heap.get?_push_size _ rfl, rfl, rfl⟩, Heap.IsTuple.push hl _⟩ (fun b hb => ?_) (Nat.ne_of_lt lt))
  show b < (s.heap.push _).objs.size
  rw [Heap.size_push]
  have hb' : b = s.heap.objs.size ∨ b = l := by simpa using hb
  rcases hb' with rfl | rfl
  · exact Nat.lt_succ_self _
  · exact Nat.lt_succ_of_lt lt
theorem keptT {h' : Heap} (hk : ∀ b o, b ∉ [s.heap.objs.size] → (s.heap.push { cls := .type "tuple_iterator", data := .fields #[.ref l, .int 0 0] }).get? b = some o → h'.get? b = some o) :
    ∀ b o, s.heap.get? b = some o → h'.get? b = some o := fun b o e =>
  hk b o (fun m => absurd (Heap.lt_size e) (by rw [List.mem_singleton.mp m]; exact Nat.lt_irrefl _)) (Heap.get?_push_of_some _ e)
theorem min_intTup {Q : Value → Shared → Prop} (hh : A.handled = none) (hl : s.heap.IsTuple l (intItems xs)) (hne : 0 < xs.size)
    (h : ∀ v h' tk, (intItems xs)[argBest (fun i j => decide (numAt xs i < numAt xs j)) (xs.size - 1)]? = some v → (∀ b o, s.heap.get? b = some o → h'.get? b = some o) → Q v { s with heap := h', toks := tk }) :
    wpAny (model prog w) A (call (.builtin "min") [.ref l]) Q E s := by
  refine call_min_walk (iter_intTup hl fun s2 e st hfp hlI => ?_)
  subst e
  exact ⟨_, _, _, _, _, _, _, rfl, Walks.tuple (A := A.in1) hh _ l hlI (intItems xs), st, hfp, by simpa [intItems] using hne, CmpOf.ints_lt (numAt xs) (fun _ _ => intItems_at), fun v h' tk hP hk => h v h' tk (by simpa [intItems] using hP) (keptT hk)⟩
theorem max_intTup {Q : Value → Shared → Prop} (hh : A.handled = none) (hl : s.heap.IsTuple l (intItems xs)) (hne : 0 < xs.size)
    (h : ∀ v h' tk, (intItems xs)[argBest (fun i j => decide (numAt xs i > numAt xs j)) (xs.size - 1)]? = some v → (∀ b o, s.heap.get? b = some o → h'.get? b = some o) → Q v { s with heap := h', toks := tk }) :
    wpAny (model prog w) A (call (.builtin "max") [.ref l]) Q E s := by
  refine call_max_walk (iter_intTup hl fun s2 e st hfp hlI => ?_)
  subst e
  exact ⟨_, _, _, _, _, _, _, rfl, Walks.tuple (A := A.in1) hh _ l hlI (intItems xs), st, hfp, by simpa [intItems] using hne, CmpOf.ints_gt (numAt xs) (fun _ _ => intItems_at), fun v h' tk hP hk => h v h' tk (by simpa [intItems] using hP) (keptT hk)⟩
end
section
variable {prog : Program} {w : World} {A : Around} {E : Value → Shared → Prop} {s : Shared} {l : Addr} {its : List Value} {ns : List Int} {Q : Value → Shared → Prop}
theorem min_rawT (hh : A.handled = none) (hl : s.heap.IsTuple l its.toArray) (hi : IntsAre its ns) (hne : 0 < ns.length)
    (h : ∀ h' tk M t', (∀ b o, s.heap.get? b = some o → h'.get? b = some o) → M ∈ ns → (∀ a, a ∈ ns → M ≤ a) → Q (.int M t') { s with heap := h', toks := tk }) : wpAny (model prog w) A (call (.builtin "min") [.ref l]) Q E s := by
  obtain ⟨xs, e⟩ := hi.allInts.items
  have en : numsOf (intItems xs).toList = ns := by rw [← e]; exact hi.numsOf
  rw [nums_intItems] at en
  subst en
  rw [e] at hl
  refine min_intTup hh hl (by simpa using hne) fun v h' tk hv hk => ?_
  obtain ⟨t, rfl⟩ := intItems_at hv
  obtain ⟨h1, h2⟩ := argBest_lt (numAt xs) (xs.size - 1)
  have sz : 0 < xs.size := by simpa using hne
  refine h h' tk _ t hk (by rw [numAt_eq]; exact PySem.getD_mem (by rw [List.length_map, Array.length_toList]; omega)) fun a ha => ?_
  obtain ⟨j, hj, rfl⟩ := mem_getD ha
  rw [List.length_map, Array.length_toList] at hj
  rw [← numAt_eq]
  exact h2 j (by omega)
theorem max_rawT (hh : A.handled = none) (hl : s.heap.IsTuple l its.toArray) (hi : IntsAre its ns) (hne : 0 < ns.length)
    (h : ∀ h' tk M t', (∀ b o, s.heap.get? b = some o → h'.get? b = some o) → M ∈ ns → (∀ a, a ∈ ns → a ≤ M) → Q (.int M t') { s with heap := h', toks := tk }) : wpAny (model prog w) A (call (.builtin "max") [.ref l]) Q E s := by
  obtain ⟨xs, e⟩ := hi.allInts.items
  have en : numsOf (intItems xs).toList = ns := by rw [← e]; exact hi.numsOf
  rw [nums_intItems] at en
  subst en
  rw [e] at hl
  refine max_intTup hh hl (by simpa using hne) fun v h' tk hv hk => ?_
  obtain ⟨t, rfl⟩ := intItems_at hv
  obtain ⟨h1, h2⟩ := argBest_gt (numAt xs) (xs.size - 1)
  have sz : 0 < xs.size := by simpa using hne
  refine h h' tk _ t hk (by rw [numAt_eq]; exact PySem.getD_mem (by rw [List.length_map, Array.length_toList]; omega)) fun a ha => ?_
  obtain ⟨j, hj, rfl⟩ := mem_getD ha
  rw [List.length_map, Array.length_toList] at hj
  rw [← numAt_eq]
  exact h2 j (by omega)
end
section
variable {X : Cx} {G : Str → Addr}
def rMinA (K : PySem.W.Frag) : List V → Hp → VK → Prop := fun vs H Q => ∃ (a : Addr) (ns : List Int), vs = [V.ref a] ∧ (SqL K H a (ns.map V.int) ∨ SqT K H a (ns.map V.int)) ∧ 0 < ns.length ∧ ∀ m, m ∈ ns → (∀ y, y ∈ ns → m ≤ y) → Q (.int m) H
def rMaxA (K : PySem.W.Frag) : List V → Hp → VK → Prop := fun vs H Q => ∃ (a : Addr) (ns : List Int), vs = [V.ref a] ∧ (SqL K H a (ns.map V.int) ∨ SqT K H a (ns.map V.int)) ∧ 0 < ns.length ∧ ∀ m, m ∈ ns → (∀ y, y ∈ ns → y ≤ m) → Q (.int m) H
theorem cr_minA (hc : X.calm = true) : CallR X (.builtin "min") (rMinA X.K) := by
  intro pins s σ H vs us Q I r h
  obtain ⟨a, ns, rfl, hs | hs, hne, q⟩ := h
  · exact cr_min hc pins s σ H _ us Q I r ⟨a, ns, rfl, hs, hne, q⟩
  · obtain ⟨its, rv, hl, _⟩ := I.tuple hs
    rw [Vals.ref1 r]
    exact min_rawT (I.ok.hd hc) hl rv.ints hne fun h' tk m t' hk h1 h2 => ⟨.int _, H, I.kept hk, ⟨_, rfl⟩, q m h1 h2⟩
theorem cr_maxA (hc : X.calm = true) : CallR X (.builtin "max") (rMaxA X.K) := by
  intro pins s σ H vs us Q I r h
  obtain ⟨a, ns, rfl, hs | hs, hne, q⟩ := h
  · exact cr_max hc pins s σ H _ us Q I r ⟨a, ns, rfl, hs, hne, q⟩
  · obtain ⟨its, rv, hl, _⟩ := I.tuple hs
    rw [Vals.ref1 r]
    exact max_rawT (I.ok.hd hc) hl rv.ints hne fun h' tk m t' hk h1 h2 => ⟨.int _, H, I.kept hk, ⟨_, rfl⟩, q m h1 h2⟩
def seqI : D → Option (List Int)
  | .lst l => intsD l
  | .tup l => intsD l
  | _ => none
def fMinA : List D → Option D
  | [d] => match seqI d with
    | some ns => ns.min?.map .int
    | none => none
  | _ => none
def fMaxA : List D → Option D
  | [d] => match seqI d with
    | some ns => ns.max?.map .int
    | none => none
  | _ => none
theorem seqI_rep {K : PySem.W.Frag} {w : Wd} {v : V} {d : D} {ns : List Int} (h : seqI d = some ns) (r : Bor K G w v d) : ∃ a, v = .ref a ∧ (SqL K w.H a (ns.map V.int) ∨ SqT K w.H a (ns.map V.int)) := by
  cases d with
  | lst l =>
    obtain ⟨a, xs, rfl, h1, rl⟩ := r.lst
    have e2 := intsD_eq (show intsD l = some ns from h)
    subst e2
    have e3 := ints_V rl
    subst e3
    exact ⟨a, rfl, .inl (.of h1)⟩
  | tup l =>
    obtain ⟨a, xs, rfl, h1, rl⟩ := r.tup
    have e2 := intsD_eq (show intsD l = some ns from h)
    subst e2
    have e3 := ints_V rl
    subst e3
    exact ⟨a, rfl, .inr h1⟩
  | _ => cases h
theorem b_minA (hc : X.calm = true) : CallOk X G (.builtin "min") fMinA := .mk1 (cr_minA hc) fun w st vs ds z Q so hv h q => by
  unfold fMinA at h
  split at h
  · obtain ⟨v, rfl, hu⟩ := hv.one
    split at h
    · rename_i ns e
      obtain ⟨m, hm, rfl⟩ := Option.map_eq_some_iff.mp h
      obtain ⟨a, rfl, hs⟩ := seqI_rep e hu
      obtain ⟨k1, k2⟩ := List.min?_eq_some_iff.mp hm
      refine ⟨a, ns, rfl, hs, List.length_pos_of_mem k1, fun m' h1 h2 => ?_⟩
      rw [Int.le_antisymm (h2 _ k1) (k2 _ h1)]
      exact q w _ Le.refl so (.int _)
    · cases h
  · cases h
theorem b_maxA (hc : X.calm = true) : CallOk X G (.builtin "max") fMaxA := .mk1 (cr_maxA hc) fun w st vs ds z Q so hv h q => by
  unfold fMaxA at h
  split at h
  · obtain ⟨v, rfl, hu⟩ := hv.one
    split at h
    · rename_i ns e
      obtain ⟨m, hm, rfl⟩ := Option.map_eq_some_iff.mp h
      obtain ⟨a, rfl, hs⟩ := seqI_rep e hu
      obtain ⟨k1, k2⟩ := List.max?_eq_some_iff.mp hm
      refine ⟨a, ns, rfl, hs, List.length_pos_of_mem k1, fun m' h1 h2 => ?_⟩
      rw [Int.le_antisymm (k2 _ h1) (h2 _ k1)]
      exact q w _ Le.refl so (.int _)
    · cases h
  · cases h
end
end Pw
/-! doors: a def in a variable; which refusal comes -/
namespace Pw
open PySem PySem.Spec PyProof.Rows L2 RZ
abbrev Doors := List (Str × Nat × FSem)
def DoorsOk (P : Program) (w : World) (K : PySem.W.Frag) (mg : Str → Option Value) (base : Heap) (G : Str → Addr) (k : Nat) (T : Doors) : Prop := ∀ x n F, (x, n, F) ∈ T → ∃ ps, FnS P w K mg base G k x ps F ∧ ps.length = n
section
variable {P : Program} {w : World} {K : PySem.W.Frag} {mg : Str → Option Value} {base : Heap} {G : Str → Addr} {k : Nat} {T : Doors}
theorem doors_nil : DoorsOk P w K mg base G k [] := fun _ _ _ h => nomatch h
theorem doors_cons {x : Str} {ps : List Str} {F : FSem} {j n : Nat} (f : FnS P w K mg base G j x ps F) (r : DoorsOk P w K mg base G k T) (hk : j ≤ k := by decide) (hn : ps.length = n := by rfl) : DoorsOk P w K mg base G k ((x, n, F) :: T) := fun y m F' h => by
  rcases List.mem_cons.mp h with e | h
  · cases e
    exact ⟨ps, f.mono hk, hn⟩
  · exact r y m F' h
end
def findD : Doors → Str → Option (Nat × FSem)
  | [], _ => none
  | (y, n, F) :: r, x => if y = x then some (n, F) else findD r x
theorem findD_mem : ∀ {T : Doors} {x : Str} {n : Nat} {F : FSem}, findD T x = some (n, F) → (x, n, F) ∈ T
  | (y, m, F') :: r, x, n, F, h => by
    unfold findD at h
    split at h
    · rename_i e
      cases h
      subst e
      exact List.mem_cons_self
    · exact List.mem_cons_of_mem _ (findD_mem h)
def doorK (T : Doors) (mr : M (List D)) : D → M D
  | .fn x => (match findD T x with
    | some (n, F) => mCall F n mr
    | none => lft none)
  | _ => lft none
def mCallV (T : Doors) (i : Nat) (mr : M (List D)) : M D := bnd (mVar i) (doorK T mr)
section
variable {X : Cx} {G : Str → Addr} {E : XK} {Os : List Nat} {e : Expr} {es : List Expr} {mr : M (List D)} {pos p : Pos}
theorem re_callV {T : Doors} {k j : Nat} {x : Str} (hT : DoorsOk X.prog X.w X.K X.mg X.base G k T) (i : Nat) (hr : Room j X.A) (tk : Tk X E) (ha : RA X G E Os (e :: es) mr) (hk : k ≤ j := by decide) (hN : X.N[i]? = some x := by rfl)
    (hv : Vis X.env.scope x := by first | exact Or.inl rfl | exact Or.inr (Or.inl rfl) | exact Or.inr (Or.inr rfl)) (hO : Os.contains i = false := by rfl) (hdb : (x == ("__debug__" : Str)) = false := by decide) (hcd : (x == ("__classdict__" : Str)) = false := by decide)
    (he : starEach (e :: es) X.env = (false, eval e X.env) :: starEach es X.env := by rfl) (hpl : (backTo pos (starEach es X.env)).any (·.1) = false := by rfl) : RE X G E Os (.Call (.Name x p) (e :: es) [] pos) (mCallV T i mr) := by
  refine ⟨fun pins s σ H Q I h => ?_⟩
  obtain ⟨w, hw, ow, env, st, o, h1, h2, h3, h4, h5⟩ := h
  unfold mCallV bnd at h4
  cases q : mVar i env st with
  | none => rw [q] at h4; cases h4
  | some r =>
    rw [q] at h4
    obtain ⟨r, st'⟩ := r
    have ev : (∃ d, env[i]? = some (some d) ∧ r = .ok d ∧ st' = st) := by
      unfold mVar at q
      split at q
      · rename_i d hd
        cases q
        exact ⟨d, hd, rfl, rfl⟩
      · cases q
    obtain ⟨d, hd, rfl, rfl⟩ := ev
    have h4 : doorK T mr d env st' = some o := h4
    cases d with
    | fn y =>
      unfold doorK at h4
      cases hf : findD T y with
      | none => simp only [hf] at h4; cases h4
      | some nF =>
        obtain ⟨n, F⟩ := nF
        simp only [hf] at h4
        obtain ⟨ps, f, hn⟩ := hT _ _ _ (findD_mem hf)
        subst hn
        obtain ⟨v, e1, r1⟩ := h3.var i _ hd fun p hp z => by
          have : i ∈ Os := by rw [← h1, ← z]; exact List.mem_map_of_mem hp
          rw [List.contains_iff_mem.mpr this] at hO
          cases hO
        cases r1
        obtain ⟨fd, g1, g2⟩ := f.ex
        subst hw
        refine (pe_callL (i := i) (f := G y) (sp := spOf X.K G ps.length F) (dvs := []) (E := E) g1 (hr.mono hk) hN hv f.kp g2 .nil (passes_call tk fun _ _ _ _ h => h) ha hdb hcd he hpl).run pins s σ w.H Q I ⟨e1, w, rfl, ?_⟩
        have rr : rdW X.K G E Os (mCall F ps.length mr) (fun w' d => ∀ v, Rep X.K G w' v d → Q v w'.H) σ w := ⟨ow, env, st', o, h1, h2, h3, h4, h5⟩
        exact rr.bnd.mono fun w1 ds l1 r1 vs hvs => by
          show spOf X.K G ps.length F (vs ++ []) w1.H Q E
          rw [List.append_nil]
          exact call_sp r1 hvs
    | _ => cases h4
end
/-! ## try .. except X as x: three words -/
/-- what the clauses wish, one after the other; nothing else comes -/
def wSlip (K : PySem.W.Frag) (D : Ends) : List (Value × Nat × (Addr → Value → Option Addr → TS)) → WX
  | [] => fun _ _ _ _ => False
  | (c, i, ts) :: r => fun cls d σ H => ∃ b, PySem.W.exmOne K cls c = some b ∧ (b = true → ∀ a, H a = none → ts a cls d { nx := fun σ' H' => D.nx (σ'.set i none) H', rt := D.rt, bk := fun σ' H' => D.bk (σ'.set i none) H', ct := fun σ' H' => D.ct (σ'.set i none) H' } (σ.set i (some (.ref a))) H) ∧
    (b = false → wSlip K D r cls d σ H)
inductive HdN (X : Cx) : List ExceptHandler → List (Value × Nat × (Addr → Value → Option Addr → TS)) → Prop
  | nil : HdN X [] []
  | cons {x n : Str} {c : Value} {i : Nat} {ts : Addr → Value → Option Addr → TS} {b0 : Stmt} {suite : List Stmt} {np pos' : Pos} {hds : List ExceptHandler} {l : List (Value × Nat × (Addr → Value → Option Addr → TS))} (hc : Names X x c) (hi : X.N[i]? = some n) (hln : X.env.kindOf n = some .local)
      (hsu : ∀ (a : Addr) (oe : Obj) (cls : Value) (d : Option Addr) (pn : List (Addr × Obj)), Zc cls d oe → (∃ vs, oe.data = .fields vs) → PSs (X.suite a ((a, oe) :: pn)) (b0 :: suite) (ts a cls d)) (r : HdN X hds l) :
      HdN X (.ExceptHandler (some (.Name x np)) (some n) (b0 :: suite) pos' :: hds) ((c, i, ts) :: l)
section
variable {X : Cx} {body : List Stmt} {h0 : ExceptHandler} {hds : List ExceptHandler} {l : List (Value × Nat × (Addr → Value → Option Addr → TS))} {pos : Pos} {tb : WX → TS}
theorem ps_slip (hs : X.stack = X.env :: X.outer) (hf : X.env.frame = some X.env.locals) (hN : X.N.Nodup)
    (hb : ∀ (W : WX) (pn : List (Addr × Obj)) (xe : Value → Shared → Prop), Takes (X.tr pn xe) W → PassesOwn (model X.prog X.w) X.A X.env xe → PSs (X.tr pn xe) body (tb W))
    (hh : HdN X (h0 :: hds) l) : PS X (.Try body (h0 :: hds) [] [] pos) (fun D σ H => tb (wSlip X.K D l) D σ H) := by
  refine ⟨fun pins s σ H D I h => ?_⟩
  have ok := I.ok
  have hfr : X.A.frames = some (X.env :: X.outer) := by rw [ok.frames, hs]
  refine wpAny_Try_except ?_
  refine wpAny_mono ((hb (wSlip X.K D l) (X.pn ++ pins) (fun e s1 => wpAny (model X.prog X.w) X.A (noteFrame e X.env) (fun _ s2 => wpAny (model X.prog X.w) X.A (setFlight e none) (fun _ s3 =>
    wpAny (model X.prog X.w) X.A (handleBy e X.env (h0 :: hds)) (SP X pins D) X.xe s3) X.xe s2) X.xe s1) (fun u s' xx => ?_) PassesOwn.looking).run [] s σ H D (I.toTry _) h) (fun f s1 hsp => ?_) (fun e s1 he => he)
  · obtain ⟨a, B, sI, pins', σ', H', cls, d, rfl, J', nb, up, sky, na, os, ag, w⟩ := xx
    have J : Inv X pins σ' H' sI := J'.ofTry ok
    have sky' : Sky B (X.env :: X.outer) a (Zc cls d) X.env.locals s'.heap := by rw [← hs]; exact sky
    show wpAny (model X.prog X.w) X.A (noteFrame (.ref a) X.env) _ _ _
    refine Sky.land Zc.steady hfr hf sky' fun h3 fl3 up3 => ?_
    have J3 : Inv X pins σ' H' { s' with heap := h3 } := J.landed nb fl3.1 (up.trans up3) os ag
    obtain ⟨oe3, vs3, he3, hz3, hd3⟩ := fl3.there
    have notFr : ∀ {h : Heap} {o : Obj} {vs : Array Value}, h.FunFrames B (X.env :: X.outer) → h.get? a = some o → o.data = .fields vs → a ∉ frs (X.env :: X.outer) := fun {h o vs} ff e dd hm => by
      obtain ⟨_, o', e', hnf⟩ := ff.mem hm
      rw [e] at e'
      cases e'
      exact hnf _ dd
    have nfr := notFr fl3.2.2.1 he3 hd3
    have nL : a ≠ X.env.locals := fun z => nfr (List.mem_filterMap.mpr ⟨X.env, List.mem_cons_self, by rw [hf, z]⟩)
    have nF : a ∉ X.fs := fun hm => by
      obtain ⟨e, he, q⟩ := List.mem_filterMap.mp hm
      exact nfr (List.mem_filterMap.mpr ⟨e, List.mem_cons_of_mem _ he, q⟩)
    have S3 := J3.suite he3 hd3 na nL nF
    have go : ∀ {hds' : List ExceptHandler} {l' : List (Value × Nat × (Addr → Value → Option Addr → TS))}, HdN X hds' l' → wSlip X.K D l' cls d σ' H' →
        wpAny (model X.prog X.w) X.A (handleBy (.ref a) X.env hds') (SP X pins D) X.xe { s' with heap := h3 } := by
      intro hds' l' hk
      induction hk with
      | nil => exact fun w => w.elim
      | @cons x nn c i ts b0 suite np pos' hds2 l2 hc hi hln hsu r ih =>
        intro w
        obtain ⟨b, hb1, hyes, hno⟩ := w
        have hloc : Loc X.env.scope nn := .inl hln
        refine wpAny_handleBy_cons (codeAny_handlers_test ?_) (by intro q; cases q)
        have LT : PySem.W.Looks (model X.prog X.w) h3 (typeOf (.ref a)) cls := fun A Q E s k q => wpAny_typeOf_ref (k _ _ he3) (by rw [hz3.1]; exact q)
        have LM := PySem.W.exm_one (M := model X.prog X.w) (J3.kIn) LT hb1
        have test : ∀ {Q : Value → Shared → Prop} {E : Value → Shared → Prop}, Q c { s' with heap := h3 } → wpAny (model X.prog X.w) (X.A.mark (some (.ref a))) (eval (.Name x np) X.env) Q E { s' with heap := h3 } := fun {Q E} q => by
          obtain ⟨hg, hdbg, hm | ⟨hm, hv, hnn⟩⟩ := hc
          · exact ld_glob (X := X.suite a ((a, oe3) :: (X.pn ++ pins))) S3 hg hm q hdbg
          · exact ld_blt (X := X.suite a ((a, oe3) :: (X.pn ++ pins))) S3 hg hm hv q hnn hdbg
        refine test (LM.here ?_)
        cases b with
        | true =>
          refine codeAny_handlers_suite_as ?_
          refine HandSPX.lands_againZ fl3 fun h4 fl4 up4 => ?_
          have J4 : Inv X pins σ' H' { s' with heap := h4 } := J.landed nb fl4.1 ((up.trans up3).trans up4) os ag
          obtain ⟨oe4, vs4, he4, hz4, hd4⟩ := fl4.there
          have S4 := J4.suite he4 hd4 na nL nF
          refine store_ok (X := X.suite a ((a, oe4) :: (X.pn ++ pins))) (v := .ref a) S4 hN hi hloc rfl (fun s5 S5 => ?_) (.inr hln)
          refine wpAny_mono ((hsu a oe4 cls d (X.pn ++ pins) hz4 ⟨_, hd4⟩).run [] s5 _ H' _ S5 (hyes rfl a na)) (fun f s6 hsp => ?_) (fun _ _ z => False.elim z)
          have fin : ∀ {σ6 : L2.St} {H6 : Hp} {Q : Shared → Prop}, Inv (X.suite a ((a, oe4) :: (X.pn ++ pins))) [] σ6 H6 s6 → (∀ s7, Inv X pins (σ6.set i none) H6 s7 → Q s7) →
              wpAny (model X.prog X.w) X.A (do bindName X.env nn .none; unbindBehindTheSuite X.env nn pos') (fun _ s7 => Q s7) X.xe s6 := fun {σ6 H6 Q} S6 hq => gone_ok (S6.unsuite ok) hN hi hln hq
          cases f with
          | next =>
            obtain ⟨σ6, H6, S6, q6⟩ := hsp
            exact fin S6 fun s7 J7 => ⟨_, _, J7, q6⟩
          | brk =>
            obtain ⟨σ6, H6, S6, q6⟩ := hsp
            exact fin S6 fun s7 J7 => ⟨_, _, J7, q6⟩
          | cont =>
            obtain ⟨σ6, H6, S6, q6⟩ := hsp
            exact fin S6 fun s7 J7 => ⟨_, _, J7, q6⟩
          | ret u =>
            obtain ⟨v6, σ6, H6, S6, r6, q6⟩ := hsp
            exact fin S6 fun s7 J7 => ⟨_, _, _, J7, r6, q6⟩
        | false =>
          show wpAny _ X.A (handleBy (.ref a) X.env hds2) _ _ _
          exact ih (hno rfl)
    exact go hh w
  · cases f with
    | next =>
      obtain ⟨σ', H', J', q⟩ := hsp
      exact wpAny_execs_nil ⟨σ', H', J'.ofTry ok, q⟩
    | brk =>
      obtain ⟨σ', H', J', q⟩ := hsp
      exact ⟨σ', H', J'.ofTry ok, q⟩
    | cont =>
      obtain ⟨σ', H', J', q⟩ := hsp
      exact ⟨σ', H', J'.ofTry ok, q⟩
    | ret u =>
      obtain ⟨v, σ', H', J', r, q⟩ := hsp
      exact ⟨v, σ', H', J'.ofTry ok, r, q⟩
end
end Pw
/-! which refusal comes, told by a word -/
namespace Pw
open PySem PySem.Spec PyProof.Rows L2 RZ
/-- what is known of own exception classes -/
structure SlipK (K : PySem.W.Frag) (G : Str → Addr) (xs : List Str) : Prop where
  c : ∀ x ∈ xs, ExcC K (G x) ∧ PySem.W.kitOne K (.ref (G x)) (.type "ValueError") = some true
  m : ∀ x ∈ xs, ∀ y ∈ xs, PySem.W.exmOne K (.ref (G x)) (.ref (G y)) = some (x == y)
def tsW (K : PySem.W.Frag) (i : Nat) (word : Str) : Addr → Value → Option Addr → TS := fun a cls d D σ H => ∃ D0, cls = .ref D0 ∧ d = none ∧ ExcC K D0 ∧ PySem.W.kitOne K (.ref D0) (.type "ValueError") = some true ∧ σ[i]? = some (some (.ref a)) ∧ D.rt (.str word) H
abbrev hdS (x n word odd : Str) (np p p1 p2 p3 p4 p5 q q2 pos' : Pos) (j j2 : Nat) : ExceptHandler := .ExceptHandler (some (.Name x np)) (some n) [.Return (some (.IfExp (.Call (.Name "isinstance" p) [.Name n p1, .Name "ValueError" p2] [] p3) (.Constant (.str word) j q) (.Constant (.str odd) j2 q2) p4)) p5] pos'
section
variable {X : Cx}
theorem suite_word {i : Nat} {n word odd : Str} {p p1 p2 p3 p4 p5 q q2 : Pos} {j j2 : Nat} (hN : X.N[i]? = some n) (hv : Vis X.env.scope n) (hm : X.mg "isinstance" = none) (hm2 : X.mg "ValueError" = none) (hg : Gl X "isinstance") (hg2 : Gl X "ValueError")
    (hd : (n == ("__debug__" : Str)) = false) (hcd : (n == ("__classdict__" : Str)) = false)
    (he : starEach [.Name n p1, .Name "ValueError" p2] X.env = [(false, eval (.Name n p1) X.env), (false, eval (.Name "ValueError" p2) X.env)]) (he2 : starEach [.Name "ValueError" p2] X.env = [(false, eval (.Name "ValueError" p2) X.env)])
    (a : Addr) (oe : Obj) (cls : Value) (d : Option Addr) (pn : List (Addr × Obj)) (hz : Zc cls d oe) (hf : ∃ vs, oe.data = .fields vs) :
    PSs (X.suite a ((a, oe) :: pn)) [.Return (some (.IfExp (.Call (.Name "isinstance" p) [.Name n p1, .Name "ValueError" p2] [] p3) (.Constant (.str word) j q) (.Constant (.str odd) j2 q2) p4)) p5] (tsW X.K i word a cls d) := by
  refine ⟨fun pins s σ H D I h => ?_⟩
  obtain ⟨D0, rfl, rfl, C, hk, hσ, hrt⟩ := h
  have h1 : PE (X.suite a ((a, oe) :: pn)) (.Name n p1) (tVar i) := pe_var hN hv hd hcd
  have h2 : PE (X.suite a ((a, oe) :: pn)) (.Name "ValueError" p2) (tC (.ty "ValueError")) := pe_bltn hg2 hm2 (by decide +kernel) rfl (by decide) (by decide)
  have h3 : PA (X.suite a ((a, oe) :: pn)) [.Name "ValueError" p2] (tCons (tC (.ty "ValueError")) tNil) := pa_cons h2 pa_nil he2
  have h4 : PA (X.suite a ((a, oe) :: pn)) [.Name n p1, .Name "ValueError" p2] (tCons (tVar i) (tCons (tC (.ty "ValueError")) tNil)) := pa_cons h1 h3 (by rw [he2]; exact he)
  have h5 := pe_callB (X := X.suite a ((a, oe) :: pn)) (p := p) (pos := p3) (call_isE C hz hf) hg hm (by decide +kernel) h4 (by decide) (by decide) (by rw [he2]; exact he) (by rw [he2]; rfl)
  refine (pss_one (ps_ret (pe_ifExp (pt_val h5) pe_str pe_str))).run pins s σ H D I ?_
  show ∃ v, σ[i]? = some (some v) ∧ _
  refine ⟨.ref a, hσ, ?_⟩
  exact ⟨.ty "ValueError", .type "ValueError", true, rfl, fun u r => by cases r; rfl, hk, true, rfl, hrt⟩
end
def wordOf : List (Str × Nat × Str) → Str → Option Str
  | [], _ => none
  | (y, _, wd) :: r, x => if y = x then some wd else wordOf r x
def sSlip (m : M D) (hs : List (Str × Nat × Str)) : S := fun env st => match m env st with
  | some (.ok _, st') => some (.nx env, st')
  | some (.exn x [], st') => (match wordOf hs x with
    | some wd => some (.rt (.str wd), st')
    | none => none)
  | _ => none
def slipTS (K : PySem.W.Frag) (G : Str → Addr) : List (Str × Nat × Str) → List (Value × Nat × (Addr → Value → Option Addr → TS))
  | [] => []
  | (x, i, wd) :: r => (.ref (G x), i, tsW K i wd) :: slipTS K G r
theorem slip_wish {K : PySem.W.Frag} {G : Str → Addr} {xs : List Str} (sk : SlipK K G xs) {Dn : Ends} {n : Nat} : ∀ {hs : List (Str × Nat × Str)} {x wd : Str}, (∀ h ∈ hs, h.1 ∈ xs ∧ h.2.1 < n) → x ∈ xs → wordOf hs x = some wd → ∀ (σ : L2.St) (H : Hp), σ.length = n → Dn.rt (.str wd) H → wSlip K Dn (slipTS K G hs) (.ref (G x)) none σ H
  | [], _, _, _, _, h, _, _, _, _ => by cases h
  | (y, i, w') :: r, x, wd, hl, hx, h, σ, H, hσ, hrt => by
    have hy := hl _ List.mem_cons_self
    refine ⟨x == y, sk.m x hx y hy.1, fun e a na => ?_, fun e => ?_⟩
    · have exy : x = y := eq_of_beq e
      subst exy
      unfold wordOf at h
      rw [if_pos rfl] at h
      cases h
      obtain ⟨c1, c2⟩ := sk.c x hx
      refine ⟨G x, rfl, rfl, c1, c2, ?_, hrt⟩
      have : i < σ.length := by rw [hσ]; exact hy.2
      simp [this]
    · unfold wordOf at h
      rw [if_neg (fun z => by subst z; simp at e)] at h
      exact slip_wish sk (fun h hh => hl h (List.mem_cons_of_mem _ hh)) hx h σ H hσ hrt
section
variable {X : Cx} {G : Str → Addr} {Ol : List Nat} {c : Expr} {m : M D} {pos pe : Pos}
theorem wordOf_mem : ∀ {hs : List (Str × Nat × Str)} {x wd : Str}, wordOf hs x = some wd → ∃ i, (x, i, wd) ∈ hs
  | (y, i, w') :: r, x, wd, h => by
    unfold wordOf at h
    split at h
    · rename_i e
      cases h
      subst e
      exact ⟨i, List.mem_cons_self⟩
    · obtain ⟨k, hk⟩ := wordOf_mem h
      exact ⟨k, List.mem_cons_of_mem _ hk⟩
theorem rs_slipN {E : XK} {hds : List ExceptHandler} {h0 : ExceptHandler} {hs : List (Str × Nat × Str)} {xs : List Str} (hst : X.stack = X.env :: X.outer) (hf : X.env.frame = some X.env.locals) (hN : X.N.Nodup) (sk : SlipK X.K G xs) (hsl : ∀ h ∈ hs, h.1 ∈ xs ∧ h.2.1 < X.N.length)
    (he : ∀ (pn : List (Addr × Obj)) (xe : Value → Shared → Prop) (E' : XK), Tk (X.tr pn xe) E' → RE (X.tr pn xe) G E' [] c m) (hw : swapsWith c none pe.line X.env = pure false) (hh : HdN X (h0 :: hds) (slipTS X.K G hs)) :
    RS X G E false Ol [] [] (.Try [.Expr c pe] (h0 :: hds) [] [] pos) (sSlip m hs) :=
  (ps_slip (tb := fun W => tDrop (rdE X.K G (fun cl d H => ∀ σ : L2.St, σ.length = X.N.length → W cl d σ H) [] m)) hst hf hN (fun W pn xe tk _ => by
    have tk' : Tk (X.tr pn xe) (fun cl d H => ∀ σ : L2.St, σ.length = X.N.length → W cl d σ H) := fun u s' ⟨a, B, sI, pins, σ, H, cls, d, e, I, nb, up, sky, na, os, ag, w⟩ =>
      tk u s' ⟨a, B, sI, pins, σ, H, cls, d, e, I, nb, up, sky, na, os, ag, w σ I.len⟩
    exact pss_one (ps_expr (he pn xe _ tk') hw)) hh).imp fun Dn σ H h => by
    obtain ⟨w, B, ow, env, st, o, h1, h2, h3, h4, h5⟩ := h
    have e0 : ow = [] := List.map_eq_nil_iff.mp h2
    subst e0
    unfold sSlip at h4
    cases q : m env st with
    | none => rw [q] at h4; cases h4
    | some r =>
      rw [q] at h4
      obtain ⟨r, st'⟩ := r
      cases r with
      | ok d =>
        cases h4
        refine ⟨w, h1, [], env, st, (.ok d, st'), rfl, h3.so, h3.en, q, fun w' l so v hv => ?_⟩
        obtain ⟨B', a', l'⟩ := h3.le l so
        exact h5 w' B' [] σ l' rfl a'
      | exn x l =>
        cases l with
        | cons _ _ => cases h4
        | nil =>
          cases hwd : wordOf hs x with
          | none => simp only [hwd] at h4; cases h4
          | some wd =>
            simp only [hwd] at h4
            cases h4
            refine ⟨w, h1, [], env, st, (.exn x [], st'), rfl, h3.so, h3.en, q, fun w' cc dd l so xr σ' hσ' => ?_⟩
            obtain ⟨B', a', l'⟩ := h3.le l so
            cases xr with
            | plain =>
              obtain ⟨i, hi⟩ := wordOf_mem hwd
              refine slip_wish sk hsl (hsl _ hi).1 hwd σ' w'.H hσ' ?_
              exact h5 w' B' (.str wd) l' (fun z => by rw [a'.mem]; simp) so (.str wd)
theorem rs_slip {E : XK} {x1 x2 x3 n1 n2 n3 w1 w2 w3 od1 od2 od3 : Str} {i1 i2 i3 : Nat} {np p p1 p2 p3 p4 p5 q q2 pos' : Pos} {np' p' p1' p2' p3' p4' p5' q' q2' pos'' : Pos} {npa pa p1a p2a p3a p4a p5a qa q2a posa : Pos} {j j2 j' j2' ja j2a : Nat}
    (sk : SlipK X.K G [x1, x2, x3]) (e1 : X.mg x1 = some (.ref (G x1))) (e2 : X.mg x2 = some (.ref (G x2))) (e3 : X.mg x3 = some (.ref (G x3))) (hm : X.mg "isinstance" = none) (hm2 : X.mg "ValueError" = none) (hN : X.N.Nodup)
    (he : ∀ (pn : List (Addr × Obj)) (xe : Value → Shared → Prop) (E' : XK), Tk (X.tr pn xe) E' → RE (X.tr pn xe) G E' [] c m)
    (hst : X.stack = X.env :: X.outer := by rfl) (hf : X.env.frame = some X.env.locals := by rfl) (hw : swapsWith c none pe.line X.env = pure false := by rfl)
    (hg : Gl X "isinstance" := by rfl) (hg2 : Gl X "ValueError" := by rfl) (hg3 : Gl X x1 := by rfl) (hg4 : Gl X x2 := by rfl) (hg5 : Gl X x3 := by rfl)
    (d1 : (x1 == ("__debug__" : Str)) = false := by decide) (d2 : (x2 == ("__debug__" : Str)) = false := by decide) (d3 : (x3 == ("__debug__" : Str)) = false := by decide)
    (hi1 : X.N[i1]? = some n1 := by rfl) (hi2 : X.N[i2]? = some n2 := by rfl) (hi3 : X.N[i3]? = some n3 := by rfl)
    (k1 : X.env.kindOf n1 = some .local := by rfl) (k2 : X.env.kindOf n2 = some .local := by rfl) (k3 : X.env.kindOf n3 = some .local := by rfl)
    (v1 : Vis X.env.scope n1 := by first | exact Or.inl rfl | exact Or.inr (Or.inl rfl) | exact Or.inr (Or.inr rfl)) (v2 : Vis X.env.scope n2 := by first | exact Or.inl rfl | exact Or.inr (Or.inl rfl) | exact Or.inr (Or.inr rfl)) (v3 : Vis X.env.scope n3 := by first | exact Or.inl rfl | exact Or.inr (Or.inl rfl) | exact Or.inr (Or.inr rfl))
    (b1 : (n1 == ("__debug__" : Str)) = false := by decide) (b2 : (n2 == ("__debug__" : Str)) = false := by decide) (b3 : (n3 == ("__debug__" : Str)) = false := by decide) (c1 : (n1 == ("__classdict__" : Str)) = false := by decide) (c2 : (n2 == ("__classdict__" : Str)) = false := by decide) (c3 : (n3 == ("__classdict__" : Str)) = false := by decide)
    (s1 : starEach [.Name n1 p1, .Name "ValueError" p2] X.env = [(false, eval (.Name n1 p1) X.env), (false, eval (.Name "ValueError" p2) X.env)] := by rfl) (s2 : starEach [.Name n2 p1', .Name "ValueError" p2'] X.env = [(false, eval (.Name n2 p1') X.env), (false, eval (.Name "ValueError" p2') X.env)] := by rfl) (s3 : starEach [.Name n3 p1a, .Name "ValueError" p2a] X.env = [(false, eval (.Name n3 p1a) X.env), (false, eval (.Name "ValueError" p2a) X.env)] := by rfl)
    (t1 : starEach [.Name "ValueError" p2] X.env = [(false, eval (.Name "ValueError" p2) X.env)] := by rfl) (t2 : starEach [.Name "ValueError" p2'] X.env = [(false, eval (.Name "ValueError" p2') X.env)] := by rfl) (t3 : starEach [.Name "ValueError" p2a] X.env = [(false, eval (.Name "ValueError" p2a) X.env)] := by rfl) :
    RS X G E false Ol [] [] (.Try [.Expr c pe] [hdS x1 n1 w1 od1 np p p1 p2 p3 p4 p5 q q2 pos' j j2, hdS x2 n2 w2 od2 np' p' p1' p2' p3' p4' p5' q' q2' pos'' j' j2', hdS x3 n3 w3 od3 npa pa p1a p2a p3a p4a p5a qa q2a posa ja j2a] [] [] pos) (sSlip m [(x1, i1, w1), (x2, i2, w2), (x3, i3, w3)]) := by
  refine rs_slipN hst hf hN sk (fun h hh => ?_) he hw ?_
  · have hh' : h = (x1, i1, w1) ∨ h = (x2, i2, w2) ∨ h = (x3, i3, w3) := by simpa using hh
    rcases hh' with rfl | rfl | rfl
    · exact ⟨by simp, (List.getElem?_eq_some_iff.mp hi1).1⟩
    · exact ⟨by simp, (List.getElem?_eq_some_iff.mp hi2).1⟩
    · exact ⟨by simp, (List.getElem?_eq_some_iff.mp hi3).1⟩
  · refine .cons ⟨hg3, d1, .inl e1⟩ hi1 k1 (fun a oe cls d pn hz hf => suite_word hi1 v1 hm hm2 hg hg2 b1 c1 s1 t1 a oe cls d pn hz hf) ?_
    refine .cons ⟨hg4, d2, .inl e2⟩ hi2 k2 (fun a oe cls d pn hz hf => suite_word hi2 v2 hm hm2 hg hg2 b2 c2 s2 t2 a oe cls d pn hz hf) ?_
    exact .cons ⟨hg5, d3, .inl e3⟩ hi3 k3 (fun a oe cls d pn hz hf => suite_word hi3 v3 hm hm2 hg hg2 b3 c3 s3 t3 a oe cls d pn hz hf) .nil
end
/-! ## what the head says of them -/
def excQ (K : PySem.W.Frag) (D : Addr) : Bool := PySem.W.findIn K (.ref D) "__getattribute__" == some (some (.builtin "BaseException.__getattribute__")) && PySem.W.findIn K (.ref D) "__getattr__" == some none && PySem.W.subIn K (.ref D) (.type "BaseException") == some true &&
  PySem.W.hasDictIn K D && PySem.W.findIn K (.ref D) "__class__" == some (some (.builtin "object.__class__")) && PySem.W.specialIn K (.builtin "object.__class__") "__get__" == some (some (.builtin "getset_descriptor.__get__")) && PySem.W.takesIn K (.builtin "object.__class__") == some true && PySem.W.mroIn K D (.type "object") == some true &&
  PySem.W.kitOne K (.ref D) (.type "ValueError") == some true
def slipB (K : PySem.W.Frag) (xs : List Str) : Bool := xs.all fun x => excQ K (He.ga K x) && xs.all fun y => PySem.W.exmOne K (.ref (He.ga K x)) (.ref (He.ga K y)) == some (x == y)
theorem slip_of {K : PySem.W.Frag} {xs : List Str} (h : slipB K xs = true) : SlipK K (He.ga K) xs := by
  have h := List.all_eq_true.mp h
  refine ⟨fun x hx => ?_, fun x hx y hy => ?_⟩
  · have q := (Bool.and_eq_true_iff.mp (h x hx)).1
    unfold excQ at q
    simp only [Bool.and_eq_true, beq_iff_eq] at q
    obtain ⟨⟨⟨⟨⟨⟨⟨⟨q1, q2⟩, q3⟩, q4⟩, q5⟩, q6⟩, q7⟩, q8⟩, q9⟩ := q
    exact ⟨⟨q1, q2, q3, q4, q5, q6, q7, q8⟩, q9⟩
  · have q := (Bool.and_eq_true_iff.mp (h x hx)).2
    exact eq_of_beq (List.all_eq_true.mp q y hy)
def moreX (l : List (Str × List He.Dv)) (xs : List Str) (K : PySem.W.Frag) : Bool := moreE l K && slipB K xs
theorem moreX.e {l : List (Str × List He.Dv)} {xs : List Str} {K : PySem.W.Frag} (h : moreX l xs K = true) : moreE l K = true := (Bool.and_eq_true_iff.mp h).1
theorem moreX.s {l : List (Str × List He.Dv)} {xs : List Str} {K : PySem.W.Frag} (h : moreX l xs K = true) : SlipK K (He.ga K) xs := slip_of (Bool.and_eq_true_iff.mp h).2
end Pw
/-! calls with keywords -/
namespace Pw
open PySem PySem.Spec PyProof.Rows L2 RZ
/-- the parameters' order: perm tells of each parameter its place among what is told -/
def permL {α : Type} (z : α) (perm : List Nat) (l : List α) : List α := perm.map fun i => l.getD i z
theorem vals_perm {perm : List Nat} {xs : List V} {us : List Value} (r : Vals xs us) : Vals (permL .non perm xs) (permL .none perm us) := by
  induction perm with
  | nil => exact .nil
  | cons i t ih =>
    refine .cons ?_ ih
    show RelV (xs.getD i .non) (us.getD i .none)
    cases h : xs[i]? with
    | some x =>
      obtain ⟨u, hu, q⟩ := Vals.get r h
      rw [List.getD_eq_getElem?_getD, List.getD_eq_getElem?_getD, h, hu]
      exact q
    | none =>
      have hl := List.getElem?_eq_none_iff.mp h
      have : us[i]? = none := List.getElem?_eq_none_iff.mpr (by rw [← r.length]; exact hl)
      rw [List.getD_eq_getElem?_getD, List.getD_eq_getElem?_getD, h, this]
      exact rfl
theorem repL_perm {K : PySem.W.Frag} {G : Str → Addr} {w : Wd} {perm : List Nat} {xs : List V} {ds : List D} (r : RepL K G w xs ds) : RepL K G w (permL .non perm xs) (permL .non perm ds) := by
  induction perm with
  | nil => exact .nil
  | cons i t ih =>
    refine .cons ?_ ih
    show Rep K G w (xs.getD i .non) (ds.getD i .non)
    cases h : ds[i]? with
    | some d =>
      obtain ⟨v, hv, q⟩ := r.get' h
      rw [List.getD_eq_getElem?_getD, List.getD_eq_getElem?_getD, h, hv]
      exact q
    | none =>
      have hl := List.getElem?_eq_none_iff.mp h
      have : xs[i]? = none := List.getElem?_eq_none_iff.mpr (by rw [r.length]; exact hl)
      rw [List.getD_eq_getElem?_getD, List.getD_eq_getElem?_getD, h, this]
      exact .non
structure DefOkK (K : PySem.W.Frag) (mg : Str → Option Value) (x : Str) (st : Stmt) (ps : List Str) (n : Nat) (ks : List Str) (perm : List Nat) : Prop where
  ex : ∃ fd, Fun K x x st (He.ga K x) fd ∧ KBn K fd ps n ks (fun us ws => permL .none perm (us ++ ws)) (fun vs zs => permL .non perm (vs ++ zs))
  mg : mg x = some (.ref (He.ga K x))
def PlainK (x : Str) (st : Stmt) (ps : List Str) (n : Nat) (ks : List Str) (perm : List Nat) : Prop := ∀ (kV doc pm : Value) (an : Option Addr) (cdv ct : Value) (us ws : List Value), us.length = n → ws.length = ks.length → bindArgs (PySem.W.fnOf x x (defArgs st) (defBody st) (defScope st) .none kV doc pm an cdv ct) ⟨us, ks.zip ws⟩ = pure (ps.zip (permL .none perm (us ++ ws)))
theorem defOkK_of {K : PySem.W.Frag} {mg : Str → Option Value} {x : Str} {st : Stmt} {ps : List Str} {n : Nat} {ks : List Str} {perm : List Nat} {fd : FuncData} (F : FunD K x x (defArgs st) (defBody st) (defScope st) [] [] (He.fAd K (x, none)) fd) (hm : mg x = some (.ref (He.ga K x))) (hb : PlainK x st ps n ks perm) : DefOkK K mg x st ps n ks perm := by
  refine ⟨⟨fd, fun_of F, ?_⟩, hm⟩
  obtain ⟨oc, od, kV, doc, pm, an, cdv, ct, osl, e, lk, hcd⟩ := (fun_of F).ex
  subst e
  exact ⟨fun s us ws _ l1 l2 => .of_eq (hb kV doc pm an cdv ct us ws l1 l2), fun r1 r2 => vals_perm (Vals.append r1 r2)⟩
structure FnK (P : Program) (w : World) (K : PySem.W.Frag) (mg : Str → Option Value) (base : Heap) (G : Str → Addr) (k : Nat) (x : Str) (ps : List Str) (n : Nat) (ks : List Str) (perm : List Nat) (F : FSem) : Prop where
  ex : ∃ fd, FnOk P w K mg base (L2.CX P w) k (G x) fd ps (spOf K G ps.length F) ∧ KBn K fd ps n ks (fun us ws => permL .none perm (us ++ ws)) (fun vs zs => permL .non perm (vs ++ zs))
  mg : mg x = some (.ref (G x))
  kp : PySem.W.keepIn K (.ref (G x)) = true
section
variable {P : Program} {w : World} {K : PySem.W.Frag} {mg : Str → Option Value} {base : Heap}
theorem fnK_of {x : Str} {st : Stmt} {N ps : List Str} {k n nn q : Nat} {ks : List Str} {perm : List Nat} {m : S} {Os' : List Nat} (d : DefOkK K mg x st ps q ks perm) (hS : FnScope N ps (defScope st)) (hn : ps.length = n) (hN : N.length = nn)
    (body : ∀ (cdv : Value) (A : Around) (outer : List PySem.Env) (s : Shared) (H : Hp) (E : XK), Room k (A.deeper (envOfC x (defScope st) s.heap.objs.size (He.ga K x) cdv)) →
      Tk (cxOf (L2.CX P w) P w K mg base N x (defScope st) (He.ga K x) cdv A outer s H E) E → PassesOwn (model P w) (A.deeper (envOfC x (defScope st) s.heap.objs.size (He.ga K x) cdv)) (envOfC x (defScope st) s.heap.objs.size (He.ga K x) cdv) (cxOf (L2.CX P w) P w K mg base N x (defScope st) (He.ga K x) cdv A outer s H E).xe → RSs (cxOf (L2.CX P w) P w K mg base N x (defScope st) (He.ga K x) cdv A outer s H E) (He.ga K) E false [] [] Os' (defBody st) m) :
    FnK P w K mg base (He.ga K) (k + 1) x ps q ks perm (fnSem n nn m) := by
  subst hn hN
  obtain ⟨fd, F, hb⟩ := d.ex
  exact ⟨⟨fd, fnO_mk F hS body, hb⟩, d.mg, F.kp⟩
end
theorem PK_imp {X : Cx} {kws : List Keyword} {t u : TA} (h : PK X kws t) (k : ∀ σ H Q, u σ H Q → t σ H Q) : PK X kws u := ⟨fun pos pins s σ H Q I q => h.run pos pins s σ H Q I (k σ H Q q)⟩
section
variable {X : Cx} {G : Str → Addr} {E : XK} {Os : List Nat} {e : Expr} {es : List Expr} {m : M D} {mr mk : M (List D)} {pos p kpos : Pos} {kws : List Keyword} {nm : Option Str}
abbrev RK (X : Cx) (G : Str → Addr) (E : XK) (Os : List Nat) (kws : List Keyword) (m : M (List D)) : Prop := PK X kws (rdA X.K G E Os m)
theorem rk_nil : RK X G E Os [] mNil := PK_imp pk_nil fun σ H Q ⟨w, hw, r⟩ => by
  obtain ⟨ow, env, st, o, h1, h2, h3, h4, h5⟩ := r
  cases h4
  subst hw
  exact h5 w Le.refl h2 [] .nil
theorem rk_cons (ha : RE X G E Os e m) (hr : RK X G E Os kws mk) : RK X G E Os (⟨nm, e, kpos⟩ :: kws) (mCons m mk) :=
  PK_imp (pk_cons ha hr) fun σ H Q ⟨w, hw, r⟩ => ⟨w, hw, r.bnd.mono fun w1 x l1 r1 v hv => ⟨w1, rfl, r1.bnd.mono fun w2 xs l2 r2 vs hvs => by
    obtain ⟨y, st, e1, so, q⟩ := r2.lft
    cases e1
    exact q w2 Le.refl so (v :: vs) (.cons (hv.le l2 r1.sub) hvs)⟩⟩
def mCallK (F : FSem) (nn n k : Nat) (perm : List Nat) (mr mk : M (List D)) : M D := bnd mr fun ds => bnd mk fun zs => if ds.length = n ∧ zs.length = k ∧ perm.length = nn then fun _ st => F (permL .non perm (ds ++ zs)) st else lft none
theorem callk_sp {F : FSem} {nn n k : Nat} {perm : List Nat} {w1 : Wd} {ds zs : List D} {σ : L2.St} {vs ys : List V} {Q : VK} {K : PySem.W.Frag} (r1 : rdW K G E Os (if ds.length = n ∧ zs.length = k ∧ perm.length = nn then fun _ st => F (permL .non perm (ds ++ zs)) st else lft none) (fun w' d => ∀ v, Rep K G w' v d → Q v w'.H) σ w1) (hvs : RepL K G w1 vs ds) (hys : RepL K G w1 ys zs) :
    vs.length = n ∧ ys.length = k ∧ spOf K G nn F (permL .non perm (vs ++ ys)) w1.H Q E := by
  obtain ⟨ow, env, st, o, h1, h2, h3, h4, h5⟩ := r1
  by_cases hn : ds.length = n ∧ zs.length = k ∧ perm.length = nn
  · rw [if_pos hn] at h4
    obtain ⟨g1, g2, g3⟩ := hn
    refine ⟨by rw [hvs.length, g1], by rw [hys.length, g2], w1, permL .non perm (ds ++ zs), st, o, rfl, h2, repL_perm (hvs.append hys), ?_, h4, h5⟩
    unfold permL
    rw [List.length_map, g3]
  · rw [if_neg hn] at h4
    cases h4
theorem re_callK {x : Str} {ps ks : List Str} {F : FSem} {k j n nn : Nat} {perm : List Nat} (f : FnK X.prog X.w X.K X.mg X.base G k x ps n ks perm F) (hr : Room j X.A) (tk : Tk X E) (ha : RA X G E Os (e :: es) mr) (hkw : RK X G E Os kws mk) (hk : k ≤ j := by decide) (hn : ps.length = nn := by rfl) (hg : Gl X x := by rfl)
    (hall : (backToKw pos (keywordEach kws X.env)).all (·.1.isSome) = true := by rfl) (hks : (backToKw pos (keywordEach kws X.env)).filterMap (·.1) = ks := by rfl)
    (hdb : (x == ("__debug__" : Str)) = false := by decide) (he : starEach (e :: es) X.env = (false, eval e X.env) :: starEach es X.env := by rfl)
    (hpl : ((backTo pos (starEach (e :: es) X.env)).any (·.1) || (backToKw pos (keywordEach kws X.env)).any (·.1.isNone)) = false := by rfl) : RE X G E Os (.Call (.Name x p) (e :: es) kws pos) (mCallK F nn n ks.length perm mr mk) := by
  subst hn
  obtain ⟨fd, h1, h2⟩ := f.ex
  exact (pe_callN h1 (hr.mono hk) hg f.mg f.kp h2 (passes_call tk fun _ _ _ _ h => h) ha hkw hall hks hdb he hpl).imp fun σ H Q ⟨w, hw, r⟩ => ⟨w, hw, r.bnd.mono fun w1 ds l1 r1 vs hvs => ⟨w1, rfl, r1.bnd.mono fun w2 zs l2 r2 ys hys =>
    callk_sp r2 (hvs.le l2 r1.sub) hys⟩⟩
/-- nothing by position -/
theorem pe_callN0 {CX : CXT} {k : Nat} {f : Addr} {fd : FuncData} {ps ks : List Str} {sp : Sp} {x : Str} {tk : TA} {g : List Value → List Value → List Value} {gV : List V → List V → List V} (F : FnOk X.prog X.w X.K X.mg X.base CX k f fd ps sp) (hr : Room k X.A) (hg : Gl X x) (hm : X.mg x = some (.ref f)) (hk : PySem.W.keepIn X.K (.ref f) = true) (hb : KBn X.K fd ps 0 ks g gV) (hx : Passes CX X E)
    (hkw : PK X kws tk) (hall : (backToKw pos (keywordEach kws X.env)).all (·.1.isSome) = true) (hks : (backToKw pos (keywordEach kws X.env)).filterMap (·.1) = ks) (hdb : (x == ("__debug__" : Str)) = false)
    (hpl : ((backTo pos (starEach [] X.env)).any (·.1) || (backToKw pos (keywordEach kws X.env)).any (·.1.isNone)) = false) :
    PE X (.Call (.Name x p) [] kws pos) (fun σ H Q => tk σ H fun zs H2 => zs.length = ks.length ∧ sp (gV [] zs) H2 Q E) := by
  refine ⟨fun pins s σ H Q I h => ?_⟩
  refine wpAny_Call_Name_kw (ld_glob I hg hm ?_ hdb)
  refine PySem.W.callWith_KW0 (h₀ := X.base) I.ok.mod.kin hk hall (thn (hkw.run pos pins s σ H _ I h) fun ws s2 ⟨zs, H2, I2, rz, l2, q2⟩ => ⟨I2.kIn, ?_⟩) hpl
  rw [hks]
  exact run_fnN F hr hb hx I2 .nil rz rfl l2 q2
theorem re_callK0 {x : Str} {ps ks : List Str} {F : FSem} {k j nn : Nat} {perm : List Nat} (f : FnK X.prog X.w X.K X.mg X.base G k x ps 0 ks perm F) (hr : Room j X.A) (tk : Tk X E) (hkw : RK X G E Os kws mk) (hk : k ≤ j := by decide) (hn : ps.length = nn := by rfl) (hg : Gl X x := by rfl)
    (hall : (backToKw pos (keywordEach kws X.env)).all (·.1.isSome) = true := by rfl) (hks : (backToKw pos (keywordEach kws X.env)).filterMap (·.1) = ks := by rfl)
    (hdb : (x == ("__debug__" : Str)) = false := by decide)
    (hpl : ((backTo pos (starEach [] X.env)).any (·.1) || (backToKw pos (keywordEach kws X.env)).any (·.1.isNone)) = false := by rfl) : RE X G E Os (.Call (.Name x p) [] kws pos) (mCallK F nn 0 ks.length perm mNil mk) := by
  subst hn
  obtain ⟨fd, h1, h2⟩ := f.ex
  exact (pe_callN0 h1 (hr.mono hk) hg f.mg f.kp h2 (passes_call tk fun _ _ _ _ h => h) hkw hall hks hdb hpl).imp fun σ H Q ⟨w, hw, r⟩ => ⟨w, hw, by
    have r0 : rdW X.K G E Os (bnd mk fun zs => if ([] : List D).length = 0 ∧ zs.length = ks.length ∧ perm.length = ps.length then fun _ st => F (permL .non perm ([] ++ zs)) st else lft none) (fun w' d => ∀ v, Rep X.K G w' v d → Q v w'.H) σ w := by
      obtain ⟨ow, env, st, o, g1, g2, g3, g4, g5⟩ := r
      exact ⟨ow, env, st, o, g1, g2, g3, g4, g5⟩
    exact r0.bnd.mono fun w2 zs l2 r2 ys hys => (callk_sp r2 .nil hys).2⟩
end
end Pw
/-! evaluation of the pure terms: one rule for each word, by simp -/
namespace Pw
open PySem PySem.Spec PyProof.Rows L2 RZ
variable {α β : Type}
def bK (o : Option (Res α × Sto)) (k : α → M β) (env : Env) : Option (Res β × Sto) := match o with
  | some (.ok x, st) => k x env st
  | some (.exn n l, st) => some (.exn n l, st)
  | none => none
def oK (o : Option α) (st : Sto) : Option (Res α × Sto) := match o with
  | some a => some (.ok a, st)
  | none => none
def vK (o : Option (Option D)) (st : Sto) : Option (Res D × Sto) := match o with
  | some (some d) => some (.ok d, st)
  | _ => none
def eK (o : Option (Res α × Sto)) (k : α → S) (env : Env) : Option (Fl × Sto) := match o with
  | some (.ok x, st) => k x env st
  | some (.exn n l, st) => some (.exn n l, st)
  | none => none
def qK (o : Option (Fl × Sto)) (m : S) : Option (Fl × Sto) := match o with
  | some (.nx e, st) => m e st
  | o => o
def fK (o : Option (Fl × Sto)) : Option (Res D × Sto) := match o with
  | some (.rt d, st') => some (.ok d, st')
  | some (.nx _, st') => some (.ok .non, st')
  | some (.exn x l, st') => some (.exn x l, st')
  | _ => none
section
variable {x : α} {k : α → M β} {ks : α → S} {env : Env} {st : Sto} {n : Str} {l : List D} {m m1 m2 : S} {d : D} {e : Env}
@[simp] theorem bK_ok : bK (some (.ok x, st)) k env = k x env st := rfl
@[simp] theorem bK_exn : bK (some (.exn n l, st)) k env = some (.exn n l, st) := rfl
@[simp] theorem bK_none : bK none k env = none := rfl
@[simp] theorem oK_some : oK (some x) st = some (.ok x, st) := rfl
@[simp] theorem oK_none : oK (none : Option α) st = none := rfl
@[simp] theorem vK_some : vK (some (some d)) st = some (.ok d, st) := rfl
@[simp] theorem eK_ok : eK (some (.ok x, st)) ks env = ks x env st := rfl
@[simp] theorem eK_exn : eK (some (.exn n l, st)) ks env = some (.exn n l, st) := rfl
@[simp] theorem eK_none : eK none ks env = none := rfl
@[simp] theorem qK_nx : qK (some (.nx e, st)) m = m e st := rfl
@[simp] theorem qK_rt : qK (some (.rt d, st)) m = some (.rt d, st) := rfl
@[simp] theorem qK_bk : qK (some (.bk e, st)) m = some (.bk e, st) := rfl
@[simp] theorem qK_ct : qK (some (.ct e, st)) m = some (.ct e, st) := rfl
@[simp] theorem qK_exn : qK (some (.exn n l, st)) m = some (.exn n l, st) := rfl
@[simp] theorem qK_none : qK none m = none := rfl
@[simp] theorem fK_rt : fK (some (.rt d, st)) = some (.ok d, st) := rfl
@[simp] theorem fK_nx : fK (some (.nx e, st)) = some (.ok .non, st) := rfl
@[simp] theorem fK_exn : fK (some (.exn n l, st)) = some (.exn n l, st) := rfl
@[simp] theorem bnd_ap {m : M α} : bnd m k env st = bK (m env st) k env := by
  unfold bnd bK
  rfl
@[simp] theorem lft_ap {o : Option α} : lft o env st = oK o st := rfl
@[simp] theorem sEx_ap {me : M D} {kd : D → S} : sEx me kd env st = eK (me env st) kd env := by
  unfold sEx eK
  rcases me env st with _ | ⟨_ | _, _⟩ <;> rfl
@[simp] theorem sTest_ap {mt : M Bool} {kb : Bool → S} : sTest mt kb env st = eK (mt env st) kb env := by
  unfold sTest eK
  rcases mt env st with _ | ⟨_ | _, _⟩ <;> rfl
@[simp] theorem sSeq_ap : sSeq m1 m2 env st = qK (m1 env st) m2 := rfl
@[simp] theorem mVar_ap {i : Nat} : mVar i env st = vK env[i]? st := rfl
@[simp] theorem mLit_ap : mLit d env st = some (.ok d, st) := rfl
@[simp] theorem mNil_ap : mNil env st = some (.ok [], st) := rfl
@[simp] theorem sNext_ap : sNext env st = some (.nx env, st) := rfl
@[simp] theorem sBreak_ap : sBreak env st = some (.bk env, st) := rfl
@[simp] theorem sCont_ap : sCont env st = some (.ct env, st) := rfl
@[simp] theorem sRetN_ap : sRetN env st = some (.rt .non, st) := rfl
@[simp] theorem sRaise_ap : sRaise n env st = some (.exn n [], st) := rfl
@[simp] theorem mYes_ap : mYes env st = some (.ok true, st) := rfl
@[simp] theorem mNoP_ap : mNoP env st = some (.ok none, st) := rfl
variable {ma mb mc : M D} {mr : M (List D)} {mt : M Bool} {f g : D → D → Option D}
@[simp] theorem mCons_ap : mCons ma mr env st = bK (ma env st) (fun x => bnd mr fun xs => lft (some (x :: xs))) env := bnd_ap
@[simp] theorem mTup_ap : mTup mr env st = bK (mr env st) (fun xs => lft (if xs.length ≤ sizeLine then some (.tup xs) else none)) env := bnd_ap
@[simp] theorem mLst_ap : mLst mr env st = bK (mr env st) (fun xs => lft (if xs.length ≤ sizeLine then some (.lst xs) else none)) env := bnd_ap
@[simp] theorem mBin_ap : mBin f ma mb env st = bK (ma env st) (fun x => bnd mb fun y => lft (f x y)) env := bnd_ap
@[simp] theorem mUn_ap {u : D → Option D} : mUn u ma env st = bK (ma env st) (fun x => lft (u x)) env := bnd_ap
def boolK : D → Option Bool
  | .bl b => some b
  | _ => none
@[simp] theorem boolK_bl {b : Bool} : boolK (.bl b) = some b := rfl
@[simp] theorem mTst_ap : mTst ma env st = bK (ma env st) (fun d => lft (boolK d)) env := by
  unfold mTst boolK
  exact bnd_ap
def iteK (b : Bool) (m1 m2 : M α) : M α := match b with
  | true => m1
  | false => m2
@[simp] theorem iteK_t {m1 m2 : M α} : iteK true m1 m2 = m1 := rfl
@[simp] theorem iteK_f {m1 m2 : M α} : iteK false m1 m2 = m2 := rfl
theorem iteK_if {b : Bool} {m1 m2 : M α} : iteK b m1 m2 env st = if b = true then m1 env st else m2 env st := by cases b <;> rfl
@[simp] theorem mIf_ap : mIf mt ma mb env st = bK (mt env st) (fun x => iteK x ma mb) env := by
  unfold mIf iteK
  exact bnd_ap
variable {ta tb : M Bool}
@[simp] theorem mAnd_ap : mAnd ta tb env st = bK (ta env st) (fun x => iteK x tb (lft (some false))) env := by
  unfold mAnd iteK
  exact bnd_ap
@[simp] theorem mOr_ap : mOr ta tb env st = bK (ta env st) (fun x => iteK x (lft (some true)) tb) env := by
  unfold mOr iteK
  exact bnd_ap
@[simp] theorem mNot_ap : mNot ta env st = bK (ta env st) (fun x => lft (some (!x))) env := bnd_ap
def andK : D → M D → M D
  | .bl true, m => m
  | .bl false, _ => lft (some (.bl false))
  | _, _ => lft none
def orK : D → M D → M D
  | .bl false, m => m
  | .bl true, _ => lft (some (.bl true))
  | _, _ => lft none
@[simp] theorem andK_t : andK (.bl true) ma = ma := rfl
@[simp] theorem andK_f : andK (.bl false) ma = lft (some (.bl false)) := rfl
@[simp] theorem orK_t : orK (.bl true) ma = lft (some (.bl true)) := rfl
@[simp] theorem orK_f : orK (.bl false) ma = ma := rfl
@[simp] theorem mAndV_ap : mAndV ma mb env st = bK (ma env st) (fun x => andK x mb) env := by
  unfold mAndV
  rw [bnd_ap]
  congr 1
  funext x
  cases x <;> first | rfl | (rename_i b; cases b <;> rfl)
@[simp] theorem mOrV_ap : mOrV ma mb env st = bK (ma env st) (fun x => orK x mb) env := by
  unfold mOrV
  rw [bnd_ap]
  congr 1
  funext x
  cases x <;> first | rfl | (rename_i b; cases b <;> rfl)
def notD : D → Option D
  | .bl b => some (.bl (!b))
  | _ => none
@[simp] theorem notD_bl {b : Bool} : notD (.bl b) = some (.bl (!b)) := rfl
@[simp] theorem mNotV_ap : mNotV ma env st = bK (ma env st) (fun x => lft (notD x)) env := by
  unfold mNotV notD
  exact bnd_ap
def chK (f : D → D → Option D) (y t : D) (mc : M D) : M D := match t with
  | .bl true => bnd mc fun z => lft (f y z)
  | .bl false => lft (some (.bl false))
  | _ => lft none
@[simp] theorem chK_t {y : D} : chK f y (.bl true) mc = bnd mc fun z => lft (f y z) := rfl
@[simp] theorem chK_f {y : D} : chK f y (.bl false) mc = lft (some (.bl false)) := rfl
@[simp] theorem mChain_ap : mChain f g ma mb mc env st = bK (ma env st) (fun x => bnd mb fun y => bnd (lft (f x y)) fun t => chK g y t mc) env := by
  unfold mChain chK
  exact bnd_ap
@[simp] theorem mCB_ap {fb : List D → Option D} : mCB fb mr env st = bK (mr env st) (fun xs => lft (fb xs)) env := bnd_ap
@[simp] theorem mIdx_ap : mIdx ma mb env st = bK (ma env st) (fun x => bnd mb fun y => idxS x y) env := bnd_ap
def intP : D → Option (Option Int)
  | .int i => some (some i)
  | _ => none
@[simp] theorem intP_int {i : Int} : intP (.int i) = some (some i) := rfl
@[simp] theorem mPart_ap : mPart ma env st = bK (ma env st) (fun d => lft (intP d)) env := by
  unfold mPart intP
  exact bnd_ap
@[simp] theorem mCut_ap {ml mh : M (Option Int)} : mCut ma ml mh env st = bK (ma env st) (fun x => bnd ml fun l => bnd mh fun h => lft (dCut x l h)) env := bnd_ap
@[simp] theorem mIs_ap {t : Tn} : mIs t ma env st = bK (ma env st) (fun x => lft (match x.tn with | some a => some (.bl (a.sub t)) | none => none)) env := bnd_ap
@[simp] theorem mIsT_ap {ts : List Tn} : mIsT ts ma env st = bK (ma env st) (fun x => lft (match x.tn with | some a => some (.bl (ts.any a.sub)) | none => none)) env := bnd_ap
def callK (F : FSem) (n : Nat) (ds : List D) (st : Sto) : Option (Res D × Sto) := if ds.length = n then F ds st else none
@[simp] theorem mCall_ap {F : FSem} {k : Nat} : mCall F k mr env st = bK (mr env st) (fun ds _ st => callK F k ds st) env := by
  unfold mCall
  rw [bnd_ap]
  congr 1
  funext ds e s
  unfold callK
  split <;> rfl
@[simp] theorem callK_0 {F : FSem} : callK F 0 [] st = F [] st := rfl
@[simp] theorem callK_1 {F : FSem} {a : D} : callK F 1 [a] st = F [a] st := rfl
@[simp] theorem callK_2 {F : FSem} {a b : D} : callK F 2 [a, b] st = F [a, b] st := rfl
@[simp] theorem callK_3 {F : FSem} {a b c : D} : callK F 3 [a, b, c] st = F [a, b, c] st := rfl
@[simp] theorem callK_4 {F : FSem} {a b c d : D} : callK F 4 [a, b, c, d] st = F [a, b, c, d] st := rfl
@[simp] theorem callK_5 {F : FSem} {a b c d e : D} : callK F 5 [a, b, c, d, e] st = F [a, b, c, d, e] st := rfl
/-! statements -/
@[simp] theorem sSet_ap {i : Nat} : sSet i ma env st = eK (ma env st) (fun d env st => if i < env.length then some (.nx (env.set i (some d)), st) else none) env := sEx_ap
@[simp] theorem sRet_ap : sRet ma env st = eK (ma env st) (fun d _ st => some (.rt d, st)) env := sEx_ap
@[simp] theorem sDo_ap : sDo ma env st = eK (ma env st) (fun _ env st => some (.nx env, st)) env := sEx_ap
def iteS (b : Bool) (m1 m2 : S) : S := match b with
  | true => m1
  | false => m2
@[simp] theorem iteS_t : iteS true m1 m2 = m1 := rfl
@[simp] theorem iteS_f : iteS false m1 m2 = m2 := rfl
@[simp] theorem sIf_ap : sIf mt m1 m2 env st = eK (mt env st) (fun b => iteS b m1 m2) env := by
  unfold sIf iteS
  exact sTest_ap
def ownK (i : Nat) (d : D) (env : Env) (st : Sto) : Option (Fl × Sto) := match d with
  | .lst l => if i < env.length then some (.nx (env.set i (some (.lst l))), st) else none
  | _ => none
@[simp] theorem ownK_lst {i : Nat} : ownK i (.lst l) env st = if i < env.length then some (.nx (env.set i (some (.lst l))), st) else none := rfl
@[simp] theorem sOwn_ap {i : Nat} : sOwn i ma env st = eK (ma env st) (ownK i) env := sEx_ap
def cellK (i : Nat) (d : D) (env : Env) (st : Sto) : Option (Fl × Sto) := match d with
  | .lst l => if i < env.length then some (.nx (env.set i (some (.cell st.length))), st ++ [.lst l]) else none
  | _ => none
@[simp] theorem cellK_lst {i : Nat} : cellK i (.lst l) env st = if i < env.length then some (.nx (env.set i (some (.cell st.length))), st ++ [.lst l]) else none := rfl
@[simp] theorem sCell_ap {i : Nat} : sCell i ma env st = eK (ma env st) (cellK i) env := sEx_ap
@[simp] theorem sPar_ap {is : List Nat} : sPar is mr env st = eK (mr env st) (fun ds env st => if ds.length = is.length ∧ is.all (fun i => decide (i < env.length)) = true then some (.nx (setE env is ds), st) else none) env := by
  unfold sPar eK
  rcases mr env st with _ | ⟨_ | _, _⟩ <;> rfl
def gK (o : Option Env) (st : Sto) : Option (Fl × Sto) := match o with
  | some env => some (.nx env, st)
  | none => none
@[simp] theorem gK_some : gK (some e) st = some (.nx e, st) := rfl
@[simp] theorem sAsg_ap {gt : Gt} : sAsg gt ma env st = eK (ma env st) (fun d env st => gK (gt d env) st) env := by
  unfold sAsg gK
  exact sEx_ap
@[simp] theorem gV_ap {i : Nat} : gV i d env = if i < env.length then some (env.set i (some d)) else none := rfl
@[simp] theorem gT_ap {gs : List Gt} : gT gs (.tup l) env = gAll gs l env := rfl
@[simp] theorem gAll_nil : gAll [] [] env = some env := rfl
def gN (o : Option Env) (gs : List Gt) (ds : List D) : Option Env := match o with
  | some env => gAll gs ds env
  | none => none
@[simp] theorem gN_some {gs : List Gt} : gN (some e) gs l = gAll gs l e := rfl
@[simp] theorem gAll_cons {gt : Gt} {gs : List Gt} : gAll (gt :: gs) (d :: l) env = gN (gt d env) gs l := rfl
def appK (i : Nat) (d : D) (env : Env) (st : Sto) : Option (Fl × Sto) := match env[i]? with
  | some (some (.lst l)) => if l.length < sizeLine then some (.nx (env.set i (some (.lst (l ++ [d])))), st) else none
  | _ => none
@[simp] theorem sApp_ap {i : Nat} : sApp i ma env st = eK (ma env st) (appK i) env := sEx_ap
theorem appK_at {i : Nat} (h : env[i]? = some (some (.lst l))) (hl : l.length < sizeLine) : appK i d env st = some (.nx (env.set i (some (.lst (l ++ [d])))), st) := by
  unfold appK
  rw [h]
  exact if_pos hl
@[simp] theorem fnSem_ap {N n : Nat} {ds : List D} : fnSem n N m ds st = if ds.length = n then fK (m (ds.map some ++ List.replicate (N - ds.length) none) st) else none := by
  unfold fnSem fK
  rfl
/-! operators -/
variable {a b : Int}
@[simp] theorem dAdd_int : dAdd (.int a) (.int b) = some (.int (a + b)) := rfl
@[simp] theorem dSub_int : dSub (.int a) (.int b) = some (.int (a - b)) := rfl
@[simp] theorem dNeg_int : dNeg (.int a) = some (.int (-a)) := rfl
@[simp] theorem dLt_int : dLt (.int a) (.int b) = some (.bl (decide (a < b))) := rfl
@[simp] theorem dLe_int : dLe (.int a) (.int b) = some (.bl (decide (a ≤ b))) := rfl
@[simp] theorem dGt_int : dGt (.int a) (.int b) = some (.bl (decide (b < a))) := rfl
@[simp] theorem dGe_int : dGe (.int a) (.int b) = some (.bl (decide (b ≤ a))) := rfl
theorem eqv_int : PyData.eqv (.int a) (.int b) = decide (a = b) := by
  unfold PyData.eqv
  rfl
@[simp] theorem dEq_int : dEq (.int a) (.int b) = some (.bl (decide (a = b))) := by
  show Option.map D.bl (some (PyData.eqv (.int a) (.int b))) = _
  rw [eqv_int]
  rfl
@[simp] theorem dNe_int : dNe (.int a) (.int b) = some (.bl (!decide (a = b))) := by
  show Option.map (fun b => D.bl (!b)) (some (PyData.eqv (.int a) (.int b))) = _
  rw [eqv_int]
  rfl
theorem dMul_int (h : IntMulOk a b) : dMul (.int a) (.int b) = some (.int (a * b)) := if_pos h
theorem dFdiv_int (h : CDivA a b) : dFdiv (.int a) (.int b) = some (.int (a.fdiv b)) := if_pos h
theorem dMod_int (h : b ≠ 0) : dMod (.int a) (.int b) = some (.int (a.fmod b)) := if_pos h
@[simp] theorem fAbs_int : fAbs [.int a] = some (.int (if a < 0 then -a else a)) := rfl
@[simp] theorem fInt_int : fInt [.int a] = some (.int a) := rfl
@[simp] theorem fInt_bl {c : Bool} : fInt [.bl c] = some (.int (if c then 1 else 0)) := rfl
@[simp] theorem fLen_tup : fLen [.tup l] = some (.int l.length) := rfl
@[simp] theorem fLen_lst : fLen [.lst l] = some (.int l.length) := rfl
@[simp] theorem fLen_scr {ns : List Int} : fLen [.scr ns] = some (.int ns.length) := rfl
end
theorem cdiv_ok {a b : Int} (h : b ≠ 0) (h2 : b.natAbs < 2 ^ 9000) : CDivA a b := by
  refine ⟨h, ?_⟩
  have h0 : b.natAbs ≠ 0 := by omega
  exact (Nat.log2_lt h0).mpr h2
end Pw
namespace Pw
open PySem PySem.Spec PyProof.Rows L2 RZ
theorem mulR {a b : Int} (h : b.natAbs < 2 ^ 64) : IntMulOk a b := IntMulOk.of_right (PyProof.Rows.intBits_le h)
theorem mulL {a b : Int} (h : a.natAbs < 2 ^ 64) : IntMulOk a b := IntMulOk.of_left (PyProof.Rows.intBits_le h)
section
variable {env : Env} {st r : Sto} {x y z d : D} {l : List D} {m ma mb : M D} {i k : Nat}
theorem ixN_nat {n j : Nat} (h : j < n) : ixN n (j : Int) = some j := by
  unfold ixN
  rw [if_pos (Int.natCast_nonneg _), if_pos (by omega)]
  rfl
theorem atI_nat {α : Type} {l : List α} {j : Nat} {d : α} (h : l[j]? = some d) : atI l (j : Int) = some d := by
  have hl : j < l.length := (List.getElem?_eq_some_iff.mp h).1
  unfold atI
  rw [ixN_nat hl]
  exact h
theorem idx_cell {j : Nat} (hs : st[k]? = some (.lst l)) (h : l[j]? = some d) : idxS (.cell k) (.int j) env st = some (.ok d, st) := by
  unfold idxS
  simp only [hs, atI_nat h]
@[simp] theorem idx_cell0 : idxS (.cell 0) (.int 0) env (.lst (x :: l) :: r) = some (.ok x, .lst (x :: l) :: r) := idx_cell (j := 0) rfl rfl
@[simp] theorem idx_cell1 : idxS (.cell 0) (.int 1) env (.lst (x :: y :: l) :: r) = some (.ok y, .lst (x :: y :: l) :: r) := idx_cell (j := 1) rfl rfl
@[simp] theorem idx_cell2 : idxS (.cell 0) (.int 2) env (.lst (x :: y :: z :: l) :: r) = some (.ok z, .lst (x :: y :: z :: l) :: r) := idx_cell (j := 2) rfl rfl
@[simp] theorem idx_tup {j : Int} : idxS (.tup l) (.int j) env st = oK (atI l j) st := rfl
@[simp] theorem idx_lst {j : Int} : idxS (.lst l) (.int j) env st = oK (atI l j) st := rfl
@[simp] theorem idx_scr {ns : List Int} {j : Int} : idxS (.scr ns) (.int j) env st = oK ((atI ns j).map .int) st := rfl
@[simp] theorem atI_0 {α : Type} {d : α} {l : List α} : atI (d :: l) 0 = some d := atI_nat (j := 0) rfl
@[simp] theorem atI_1 {α : Type} {d e : α} {l : List α} : atI (d :: e :: l) 1 = some e := atI_nat (j := 1) rfl
@[simp] theorem atI_2 {α : Type} {d e f : α} {l : List α} : atI (d :: e :: f :: l) 2 = some f := atI_nat (j := 2) rfl
@[simp] theorem atI_3 {α : Type} {d e f g : α} {l : List α} : atI (d :: e :: f :: g :: l) 3 = some g := atI_nat (j := 3) rfl
def stP (k : Nat) (d ix : D) (env : Env) (st : Sto) : Option (Fl × Sto) := match ix, st[k]? with
  | .int j, some (.lst l) => (match ixN l.length j with
    | some n => some (.nx env, st.set k (.lst (l.set n d)))
    | none => none)
  | _, _ => none
def cK (o : Option (Option D)) (mb : M D) (d : D) (env : Env) (st : Sto) : Option (Fl × Sto) := match o with
  | some (some (.cell k)) => eK (mb env st) (fun ix env st => stP k d ix env st) env
  | _ => none
@[simp] theorem cK_cell : cK (some (some (.cell k))) mb d env st = eK (mb env st) (fun ix env st => stP k d ix env st) env := rfl
@[simp] theorem sStC_ap : sStC i mb m env st = eK (m env st) (fun d env st => cK env[i]? mb d env st) env := by
  unfold sStC
  rw [sEx_ap]
  congr 1
  funext d e s
  unfold cK
  cases h : e[i]? with
  | none => rfl
  | some v => cases v with
    | none => rfl
    | some v => cases v <;> first | rfl | (
        rename_i k
        show sEx mb _ e s = eK (mb e s) (fun ix env st => stP k d ix env st) e
        rw [sEx_ap]
        rfl)
theorem stP_at {j : Nat} (hs : st[k]? = some (.lst l)) (h : j < l.length) : stP k d (.int j) env st = some (.nx env, st.set k (.lst (l.set j d))) := by
  unfold stP
  simp only [hs, ixN_nat h]
@[simp] theorem stP_0 : stP 0 d (.int 0) env (.lst (x :: l) :: r) = some (.nx env, .lst (d :: l) :: r) := stP_at (j := 0) (l := x :: l) rfl (Nat.zero_lt_succ _)
@[simp] theorem stP_2 : stP 0 d (.int 2) env (.lst (x :: y :: z :: l) :: r) = some (.nx env, .lst (x :: y :: d :: l) :: r) := stP_at (j := 2) (l := x :: y :: z :: l) rfl (by rw [List.length_cons, List.length_cons, List.length_cons]; omega)
end
/-- the draws' cell -/
def Tin (n : Nat) (st : Sto) : Prop := ∃ a b c : Int, st = [.lst [.int a, .int b, .int c]] ∧ 0 ≤ a ∧ 0 ≤ b ∧ b < 2 ^ 62 ∧ 0 ≤ c ∧ c ≤ n
theorem Tin.mono {n m : Nat} {st : Sto} (h : Tin n st) (k : n ≤ m) : Tin m st := by
  obtain ⟨a, b, c, h1, h2, h3, h4, h5, h6⟩ := h
  exact ⟨a, b, c, h1, h2, h3, h4, h5, by omega⟩
theorem sl : sizeLine = 16777216 := sizeLine_eq
end Pw
namespace Pw
open PySem PySem.Spec PyProof.Rows L2 RZ
theorem fmod_nn (a : Int) {b : Int} (h : 0 < b) : 0 ≤ a.fmod b := by
  rw [Int.fmod_eq_emod_of_nonneg _ (Int.le_of_lt h)]
  exact Int.emod_nonneg _ (by omega)
theorem cdiv64 {a b : Int} (h : b ≠ 0) (h2 : b.natAbs < 2 ^ 64) : CDivA a b := by
  refine ⟨h, Nat.lt_trans ((Nat.log2_lt (by omega)).mpr h2) (by decide)⟩
end Pw
namespace Pw
open PySem PySem.Spec PyProof.Rows L2 RZ
theorem atI_mem {α : Type} {l : List α} {r : Int} (h0 : 0 ≤ r) (h1 : r < l.length) : ∃ d, d ∈ l ∧ atI l r = some d := by
  obtain ⟨k, rfl⟩ := Int.eq_ofNat_of_zero_le h0
  have hk : k < l.length := by omega
  exact ⟨_, List.getElem_mem hk, atI_nat (List.getElem?_eq_getElem hk)⟩
end Pw
namespace Pw
open PySem PySem.Spec PyProof.Rows L2 RZ
section
variable {env : Env} {st : Sto} {d : D} {l : List D} {m mb : M D} {i : Nat} {g : Gt} {body : S}
def stoP (i : Nat) (d ix : D) (env : Env) (st : Sto) : Option (Fl × Sto) := match ix, env[i]? with
  | .int j, some (some (.lst l)) => (match ixN l.length j with
    | some n => some (.nx (env.set i (some (.lst (l.set n d)))), st)
    | none => none)
  | _, _ => none
@[simp] theorem sStO_ap : sStO i mb m env st = eK (m env st) (fun d env st => eK (mb env st) (fun ix env st => stoP i d ix env st) env) env := by
  unfold sStO
  rw [sEx_ap]
  congr 1
  funext d e s
  exact sEx_ap
theorem stoP_at {j : Nat} (hs : env[i]? = some (some (.lst l))) (h : j < l.length) : stoP i d (.int j) env st = some (.nx (env.set i (some (.lst (l.set j d)))), st) := by
  unfold stoP
  simp only [hs, ixN_nat h]
theorem forL_inv (I : Env → Sto → Prop) : ∀ {ds : List D} {env : Env} {st : Sto},
    (∀ d ∈ ds, ∀ env st, I env st → ∃ env1, g d env = some env1 ∧ ∃ env2 st2, (body env1 st = some (.nx env2, st2) ∨ body env1 st = some (.ct env2, st2)) ∧ I env2 st2) →
    I env st → ∃ env2 st2, forL g body ds env st = some (.nx env2, st2) ∧ I env2 st2
  | [], env, st, _, h => ⟨env, st, rfl, h⟩
  | d :: r, env, st, hs, h => by
    obtain ⟨env1, e1, env2, st2, e2, h2⟩ := hs d List.mem_cons_self env st h
    obtain ⟨env3, st3, e3, h3⟩ := forL_inv I (ds := r) (fun d hd => hs d (List.mem_cons_of_mem _ hd)) h2
    refine ⟨env3, st3, ?_, h3⟩
    unfold forL
    rw [e1]
    rcases e2 with e2 | e2
    · simp only [e2, e3]
    · simp only [e2, e3]
@[simp] theorem sFor_ap {mi : M (List D)} : sFor mi g body env st = eK (mi env st) (fun ds env st => forL g body ds env st) env := by
  unfold sFor eK
  rcases mi env st with _ | ⟨_ | _, _⟩ <;> rfl
@[simp] theorem forL_nil : forL g body [] env st = some (.nx env, st) := rfl
def lstP : D → Option (List D)
  | .lst l => some l
  | _ => none
@[simp] theorem lstP_lst : lstP (.lst l) = some l := rfl
def enuP : D → Option (List D)
  | .lst l => some (enumL 0 l)
  | _ => none
@[simp] theorem enuP_lst : enuP (.lst l) = some (enumL 0 l) := rfl
@[simp] theorem mEnum_ap : mEnum m env st = bK (m env st) (fun d => lft (enuP d)) env := by
  unfold mEnum enuP
  exact bnd_ap
def enuA : D → Option (List D)
  | .lst l => some (enumL 0 l)
  | .tup l => some (enumL 0 l)
  | _ => none
@[simp] theorem enuA_lst : enuA (.lst l) = some (enumL 0 l) := rfl
@[simp] theorem enuA_tup : enuA (.tup l) = some (enumL 0 l) := rfl
@[simp] theorem mEnumA_ap : mEnumA m env st = bK (m env st) (fun d => lft (enuA d)) env := by
  unfold mEnumA enuA
  exact bnd_ap
@[simp] theorem mItL_ap : mItL m env st = bK (m env st) (fun d => lft (lstP d)) env := by
  unfold mItL lstP
  exact bnd_ap
def tupP : D → Option (List D)
  | .tup l => some l
  | _ => none
@[simp] theorem tupP_tup : tupP (.tup l) = some l := rfl
@[simp] theorem mItT_ap : mItT m env st = bK (m env st) (fun d => lft (tupP d)) env := by
  unfold mItT tupP
  exact bnd_ap
def seqP : D → Option (List D)
  | .lst l => some l
  | .tup l => some l
  | _ => none
@[simp] theorem seqP_lst : seqP (.lst l) = some l := rfl
@[simp] theorem seqP_tup : seqP (.tup l) = some l := rfl
@[simp] theorem mItA_ap : mItA m env st = bK (m env st) (fun d => lft (seqP d)) env := by
  unfold mItA seqP
  exact bnd_ap
theorem enumL_mem {d : D} {l : List D} {k : Int} (h : d ∈ enumL k l) : ∃ (i : Nat) (x : D), i < l.length ∧ x ∈ l ∧ d = .tup [.int (k + i), x] := by
  obtain ⟨i, hi⟩ := List.mem_iff_getElem?.mp h
  rw [enumL_get] at hi
  obtain ⟨x, e, rfl⟩ := Option.map_eq_some_iff.mp hi
  exact ⟨i, x, (List.getElem?_eq_some_iff.mp e).1, List.mem_of_getElem? e, rfl⟩
def orLK : D → M D → M D
  | .lst [], m => m
  | .lst (y :: r), _ => lft (some (.lst (y :: r)))
  | _, _ => lft none
@[simp] theorem orLK_nil : orLK (.lst []) m = m := rfl
@[simp] theorem orLK_cons {x : D} : orLK (.lst (x :: l)) m = lft (some (.lst (x :: l))) := rfl
@[simp] theorem mOrL_ap : mOrL m mb env st = bK (m env st) (fun x => orLK x mb) env := by
  unfold mOrL
  rw [bnd_ap]
  congr 1
  funext x
  cases x <;> first | rfl | (rename_i q; cases q <;> rfl)
@[simp] theorem fList_lst : fList [.lst l] = some (.lst l) := rfl
@[simp] theorem fList_tup : fList [.tup l] = some (.lst l) := rfl
@[simp] theorem fTuple_lst : fTuple [.lst l] = some (.tup l) := rfl
@[simp] theorem fTuple_tup : fTuple [.tup l] = some (.tup l) := rfl
@[simp] theorem dCut_scr {ns : List Int} {lo hi : Option Int} : dCut (.scr ns) lo hi = some (.lst ((cutL ns lo hi).map .int)) := rfl
@[simp] theorem dCut_lst {lo hi : Option Int} : dCut (.lst l) lo hi = some (.lst (cutL l lo hi)) := rfl
@[simp] theorem dCut_tup {lo hi : Option Int} : dCut (.tup l) lo hi = some (.tup (cutL l lo hi)) := rfl
@[simp] theorem ints_len_le {ns : List Int} : (List.map D.int ns).length = ns.length := List.length_map _
end
end Pw
namespace Pw
open PySem PySem.Spec PyProof.Rows L2 RZ
theorem dPow_int {a b : Int} (h : CPow a b) : dPow (.int a) (.int b) = some (.int (a ^ b.toNat)) := if_pos h
end Pw
namespace Pw
open PySem PySem.Spec PyProof.Rows L2 RZ
section
variable {env env' : Env} {st st1 st2 : Sto} {d : D} {l : List D} {mt : M Bool} {n : Nat} {g : Gt} {body : S}
theorem wh_step (h : mt env st = some (.ok true, st1)) (hb : body env st1 = some (.nx env', st2)) : whileF mt body (n + 1) env st = whileF mt body n env' st2 := by
  show (match mt env st with
    | some (.ok true, st1) => (match body env st1 with
      | some (.nx env', st2) => whileF mt body n env' st2
      | some (.ct env', st2) => whileF mt body n env' st2
      | some (.bk env', st2) => some (.nx env', st2)
      | o => o)
    | some (.ok false, st1) => some (.nx env, st1)
    | some (.exn x l, st1) => some (.exn x l, st1)
    | none => none) = _
  rw [h]
  simp only [hb]
theorem wh_stop (h : mt env st = some (.ok false, st1)) : whileF mt body (n + 1) env st = some (.nx env, st1) := by
  show (match mt env st with
    | some (.ok true, st1) => (match body env st1 with
      | some (.nx env', st2) => whileF mt body n env' st2
      | some (.ct env', st2) => whileF mt body n env' st2
      | some (.bk env', st2) => some (.nx env', st2)
      | o => o)
    | some (.ok false, st1) => some (.nx env, st1)
    | some (.exn x l, st1) => some (.exn x l, st1)
    | none => none) = _
  rw [h]
@[simp] theorem sWhile_ap : sWhile mt body env st = whileF mt body manyTurns env st := rfl
theorem for_nx (h : g d env = some env') (hb : ∀ {e1 s1}, body env' st = some (.nx e1, s1) → True) : True := trivial
theorem for_step {e1 : Env} (h : g d env = some env') (hb : body env' st = some (.nx e1, st1)) : forL g body (d :: l) env st = forL g body l e1 st1 := by
  show (match g d env with
    | none => none
    | some env1 => (match body env1 st with
      | some (.nx env', st2) => forL g body l env' st2
      | some (.ct env', st2) => forL g body l env' st2
      | some (.bk env', st2) => some (.nx env', st2)
      | o => o)) = _
  rw [h]
  simp only [hb]
theorem for_brk {e1 : Env} (h : g d env = some env') (hb : body env' st = some (.bk e1, st1)) : forL g body (d :: l) env st = some (.nx e1, st1) := by
  show (match g d env with
    | none => none
    | some env1 => (match body env1 st with
      | some (.nx env', st2) => forL g body l env' st2
      | some (.ct env', st2) => forL g body l env' st2
      | some (.bk env', st2) => some (.nx env', st2)
      | o => o)) = _
  rw [h]
  simp only [hb]
end
theorem half_mod {a b : Nat} (hb : 0 < b) (hr : 0 < a % b) : 2 * (b % (a % b)) < b := by
  have h1 := Nat.mod_lt a hb
  have h2 := Nat.mod_lt b hr
  by_cases h : 2 * (a % b) ≤ b
  · omega
  · have h3 : b / (a % b) = 1 := by
      rw [Nat.div_eq_iff hr]
      omega
    have h4 := Nat.div_add_mod b (a % b)
    rw [h3] at h4
    omega
theorem fmod_nat (a b : Nat) : (a : Int).fmod (b : Int) = ((a % b : Nat) : Int) := by
  rw [Int.fmod_eq_emod_of_nonneg _ (Int.natCast_nonneg _)]
  rfl
theorem gcd_step {a b : Nat} : Nat.gcd a b = Nat.gcd b (a % b) := by
  rw [Nat.gcd_comm a b, Nat.gcd_rec b a, Nat.gcd_comm]
def rngP : List D → Option (List D)
  | [.int j] => if -(2 ^ 62) ≤ j ∧ j < 2 ^ 62 then some (rangeL 0 j.toNat) else none
  | _ => none
@[simp] theorem rngP_1 {j : Int} : rngP [.int j] = if -(2 ^ 62) ≤ j ∧ j < 2 ^ 62 then some (rangeL 0 j.toNat) else none := rfl
@[simp] theorem mRng1_ap {mr : M (List D)} {env : Env} {st : Sto} : mRng1 mr env st = bK (mr env st) (fun ds => lft (rngP ds)) env := by
  unfold mRng1
  rw [bnd_ap]
  unfold rngP
  rfl
def rngP2 : List D → Option (List D)
  | [.int i, .int j] => if -(2 ^ 62) ≤ i ∧ i < 2 ^ 62 ∧ -(2 ^ 62) ≤ j ∧ j < 2 ^ 62 then some (rangeL i (j - i).toNat) else none
  | _ => none
@[simp] theorem rngP2_2 {i j : Int} : rngP2 [.int i, .int j] = if -(2 ^ 62) ≤ i ∧ i < 2 ^ 62 ∧ -(2 ^ 62) ≤ j ∧ j < 2 ^ 62 then some (rangeL i (j - i).toNat) else none := rfl
@[simp] theorem mRng2_ap {mr : M (List D)} {env : Env} {st : Sto} : mRng2 mr env st = bK (mr env st) (fun ds => lft (rngP2 ds)) env := by
  unfold mRng2
  rw [bnd_ap]
  unfold rngP2
  rfl
@[simp] theorem setE_nil {env : Env} : setE env [] [] = env := rfl
@[simp] theorem setE_cons {env : Env} {i : Nat} {is : List Nat} {d : D} {ds : List D} : setE env (i :: is) (d :: ds) = setE (env.set i (some d)) is ds := rfl
theorem abs_nat (a : Int) : (if a < 0 then -a else a) = ((a.natAbs : Nat) : Int) := by
  split <;> omega
end Pw
namespace Pw
open PySem PySem.Spec PyProof.Rows L2 RZ
theorem forL_acc {σ : Type} {g : Gt} {body : S} {st : Sto} (R : Nat → σ → Env → Prop) (f : σ → D → σ) : ∀ {ds : List D} {i : Nat} {s : σ} {env : Env},
    (∀ k s d env, ds[k]? = some d → R (i + k) s env → ∃ env1 env2, g d env = some env1 ∧ body env1 st = some (.nx env2, st) ∧ R (i + k + 1) (f s d) env2) →
    R i s env → ∃ env2, forL g body ds env st = some (.nx env2, st) ∧ R (i + ds.length) (ds.foldl f s) env2
  | [], i, s, env, _, h => ⟨env, rfl, h⟩
  | d :: r, i, s, env, hs, h => by
    obtain ⟨env1, env2, e1, e2, h2⟩ := hs 0 s d env rfl h
    obtain ⟨env3, e3, h3⟩ := forL_acc R f (ds := r) (i := i + 1) (s := f s d) (env := env2) (fun k s d env hk hR => by
      have := hs (k + 1) s d env hk (by rw [show i + (k + 1) = i + 1 + k by omega]; exact hR)
      rw [show i + (k + 1) + 1 = i + 1 + k + 1 by omega] at this
      exact this) h2
    refine ⟨env3, ?_, ?_⟩
    · rw [for_step e1 e2]
      exact e3
    · rw [List.length_cons, show i + (r.length + 1) = i + 1 + r.length by omega]
      exact h3
/-- lo, lo + 1, .. -/
def rngI (lo : Int) : Nat → List Int
  | 0 => []
  | n + 1 => lo :: rngI (lo + 1) n
theorem rangeL_eq : ∀ (n : Nat) (lo : Int), rangeL lo n = (rngI lo n).map .int
  | 0, _ => rfl
  | n + 1, lo => by
    unfold rangeL rngI
    rw [rangeL_eq n, List.map_cons]
theorem rngI_mem : ∀ {n : Nat} {lo x : Int}, x ∈ rngI lo n → lo ≤ x ∧ x < lo + n
  | n + 1, lo, x, h => by
    unfold rngI at h
    rcases List.mem_cons.mp h with rfl | h
    · omega
    · have := rngI_mem h
      omega
theorem rngI_len : ∀ (n : Nat) (lo : Int), (rngI lo n).length = n
  | 0, _ => rfl
  | n + 1, lo => by unfold rngI; rw [List.length_cons, rngI_len n]
end Pw
namespace Pw
open PySem PySem.Spec PyProof.Rows L2 RZ
theorem pairsD_map : ∀ l : List (Int × Int), pairsD (l.map pairD) = some l
  | [] => rfl
  | (a, b) :: r => by
    show (pairsD (r.map pairD)).map ((a, b) :: ·) = _
    rw [pairsD_map r]
    rfl
theorem intsD_map : ∀ l : List Int, intsD (l.map .int) = some l
  | [] => rfl
  | a :: r => by
    show (intsD (r.map .int)).map (a :: ·) = _
    rw [intsD_map r]
    rfl
theorem fSorted_pairs (l : List (Int × Int)) : fSorted [.lst (l.map pairD)] = some (.lst ((psort l).map pairD)) := by
  cases l with
  | nil => rfl
  | cons a r =>
    have h : intsD ((a :: r).map pairD) = none := rfl
    show (match intsD ((a :: r).map pairD) with
      | some ns => some (D.lst ((isort ns).map .int))
      | none => (pairsD ((a :: r).map pairD)).map fun ps => .lst ((psort ps).map pairD)) = _
    rw [h, pairsD_map]
    rfl
theorem fSorted_ints (l : List Int) : fSorted [.lst (l.map .int)] = some (.lst ((isort l).map .int)) := by
  show (match intsD (l.map .int) with
    | some ns => some (D.lst ((isort ns).map .int))
    | none => (pairsD (l.map .int)).map fun ps => .lst ((psort ps).map pairD)) = _
  rw [intsD_map]
end Pw
namespace Pw
open PySem PySem.Spec PyProof.Rows L2 RZ
section
variable {env : Env} {st st1 st2 : Sto} {d : D} {l ds : List D} {mt : M Bool} {n : Nat} {g : Gt} {me : M D} {mi : M (List D)} {vs : List Nat}
theorem lcL_map (f : D → D) : ∀ {ds : List D}, (∀ d ∈ ds, ∃ env1, g d env = some env1 ∧ mt env1 st = some (.ok true, st) ∧ me env1 st = some (.ok (f d), st)) → lcL env g mt me ds st = some (ds.map f, st)
  | [], _ => rfl
  | d :: r, h => by
    obtain ⟨env1, e1, e2, e3⟩ := h d List.mem_cons_self
    have e4 := lcL_map f (ds := r) fun d hd => h d (List.mem_cons_of_mem _ hd)
    unfold lcL
    simp only [e1, e2, e3, e4, List.map_cons]
theorem mLc_ok (h1 : mi env st = some (.ok ds, st1)) (h2 : lcL (wipeE env vs) g mt me ds st1 = some (l, st2)) (hl : l.length ≤ sizeLine) : mLc vs mi g mt me env st = some (.ok (.lst l), st2) := by
  unfold mLc
  rw [bnd_ap, h1, bK_ok]
  unfold lcR
  rw [h2]
  exact if_pos hl
theorem bools_map : ∀ l : List Bool, D.bools (l.map .bl) = some l
  | [] => rfl
  | b :: r => by
    show (D.bools (r.map .bl)).map (b :: ·) = _
    rw [bools_map r]
    rfl
theorem fAll_map (l : List Bool) : fAll [.lst (l.map .bl)] = some (.bl (l.all id)) := by
  show (match D.bools (l.map .bl) with
    | some bs => some (D.bl (bs.all id))
    | none => none) = _
  rw [bools_map]
theorem fAll_true {α : Type} (l : List α) : fAll [.lst (l.map fun _ => .bl true)] = some (.bl true) := by
  have h := fAll_map (l.map fun _ => true)
  rw [List.map_map] at h
  have e : (D.bl ∘ fun _ : α => true) = fun _ => D.bl true := rfl
  rw [e] at h
  rw [h]
  congr 2
  rw [List.all_eq_true]
  intro x hx
  obtain ⟨_, _, rfl⟩ := List.mem_map.mp hx
  rfl
@[simp] theorem wipeE_nil : wipeE env [] = env := rfl
def zipP : List D → Option (List D)
  | [.lst l, .lst r] => some (zipL l r)
  | [.tup l, .tup r] => some (zipL l r)
  | _ => none
@[simp] theorem zipP_lst {r : List D} : zipP [.lst l, .lst r] = some (zipL l r) := rfl
@[simp] theorem zipP_tup {r : List D} : zipP [.tup l, .tup r] = some (zipL l r) := rfl
@[simp] theorem mZip_ap {mr : M (List D)} : mZip mr env st = bK (mr env st) (fun ds => lft (zipP ds)) env := by
  unfold mZip zipP
  rw [bnd_ap]
  try congr 1
@[simp] theorem zipMP_ll {r : List D} : zipMP [.lst l, .lst r] = some (zipL l r) := rfl
@[simp] theorem zipMP_tt {r : List D} : zipMP [.tup l, .tup r] = some (zipL l r) := rfl
@[simp] theorem zipMP_lt {r : List D} : zipMP [.lst l, .tup r] = some (zipL l r) := rfl
@[simp] theorem zipMP_tl {r : List D} : zipMP [.tup l, .lst r] = some (zipL l r) := rfl
@[simp] theorem mZipM_ap {mr : M (List D)} : mZipM mr env st = bK (mr env st) (fun ds => lft (zipMP ds)) env := bnd_ap
theorem zipL_self : ∀ l : List D, zipL l l = l.map fun d => .tup [d, d]
  | [] => rfl
  | d :: r => by
    show D.tup [d, d] :: zipL r r = _
    rw [zipL_self r]
    rfl
@[simp] theorem dEq_bl {a b : Bool} : dEq (.bl a) (.bl b) = some (.bl (a == b)) := by
  show Option.map D.bl (some (PyData.eqv (.bool a) (.bool b))) = _
  unfold PyData.eqv
  rfl
@[simp] theorem dNe_bl {a b : Bool} : dNe (.bl a) (.bl b) = some (.bl (!(a == b))) := by
  show Option.map (fun b => D.bl (!b)) (some (PyData.eqv (.bool a) (.bool b))) = _
  unfold PyData.eqv
  rfl
theorem dEq_str {a b : Str} (ha : SeqAt.shaped (.str a) = true) (hb : SeqAt.shaped (.str b) = true) : dEq (.str a) (.str b) = some (.bl (a == b)) := by
  show Option.map D.bl (if SeqAt.shaped (.str a) = true ∧ SeqAt.shaped (.str b) = true then some (PyData.eqv (.str a) (.str b)) else none) = _
  rw [if_pos ⟨ha, hb⟩]
  unfold PyData.eqv
  rfl
@[simp] theorem dIsN_ap {x : D} : dIsN x .non = some (.bl x.isN) := by
  cases x <;> rfl
end
/-- plain things, of depth less than n -/
def Pl : Nat → D → Prop
  | 0, _ => False
  | n + 1, d => match d with
    | .non => True
    | .bl _ => True
    | .int _ => True
    | .str s => SeqAt.shaped (.str s) = true
    | .tup l => l.length < 2 ^ 20 ∧ ∀ x ∈ l, Pl n x
    | .lst l => l.length < 2 ^ 20 ∧ ∀ x ∈ l, Pl n x
    | _ => False
end Pw
namespace Pw
open PySem PySem.Spec PyProof.Rows L2 RZ
section
variable {env : Env} {st st' : Sto} {T : Doors} {i n : Nat} {F : FSem} {x : Str} {d : D} {m : M D} {mr : M (List D)} {hs : List (Str × Nat × Str)}
@[simp] theorem mCallV_ap : mCallV T i mr env st = bK (mVar i env st) (doorK T mr) env := bnd_ap
theorem doorK_at (h : findD T x = some (n, F)) : doorK T mr (.fn x) = mCall F n mr := by
  unfold doorK
  simp only [h]
def slipK (hs : List (Str × Nat × Str)) (env : Env) : Option (Res D × Sto) → Option (Fl × Sto)
  | some (.ok _, st') => some (.nx env, st')
  | some (.exn x [], st') => (match wordOf hs x with
    | some wd => some (.rt (.str wd), st')
    | none => none)
  | _ => none
@[simp] theorem sSlip_ap : sSlip m hs env st = slipK hs env (m env st) := by
  unfold sSlip slipK
  rcases m env st with _ | ⟨_ | ⟨_, _ | _⟩, _⟩ <;> rfl
@[simp] theorem slipK_ok : slipK hs env (some (.ok d, st')) = some (.nx env, st') := rfl
theorem slipK_exn {wd : Str} (h : wordOf hs x = some wd) : slipK hs env (some (.exn x [], st')) = some (.rt (.str wd), st') := by
  unfold slipK
  simp only [h]
end
end Pw
namespace Pw
open PySem PySem.Spec PyProof.Rows L2 RZ
section
variable {env : Env} {st : Sto} {nn n k : Nat} {perm : List Nat} {F : FSem} {mr mk : M (List D)}
def callKK (F : FSem) (nn n k : Nat) (perm : List Nat) (ds zs : List D) (st : Sto) : Option (Res D × Sto) := if ds.length = n ∧ zs.length = k ∧ perm.length = nn then F (permL .non perm (ds ++ zs)) st else none
@[simp] theorem mCallK_ap : mCallK F nn n k perm mr mk env st = bK (mr env st) (fun ds => bnd mk fun zs _ st => callKK F nn n k perm ds zs st) env := by
  unfold mCallK
  rw [bnd_ap]
  congr 1
  funext ds e s
  rw [bnd_ap, bnd_ap]
  congr 1
  funext zs e2 s2
  unfold callKK
  split <;> rfl
@[simp] theorem permL_nil {α : Type} {z : α} {l : List α} : permL z [] l = [] := rfl
@[simp] theorem permL_cons {α : Type} {z : α} {i : Nat} {t : List Nat} {l : List α} : permL z (i :: t) l = l.getD i z :: permL z t l := rfl
theorem callKK_ok {ds zs : List D} (h1 : ds.length = n) (h2 : zs.length = k) (h3 : perm.length = nn) : callKK F nn n k perm ds zs st = F (permL .non perm (ds ++ zs)) st := if_pos ⟨h1, h2, h3⟩
end
end Pw
/-! more evaluation rules: comprehensions with a test, == of plain things, bounds -/
namespace Pw
open PySem PySem.Spec PyProof.Rows L2 RZ
section
variable {env : Env} {st st1 st2 : Sto} {g : Gt} {mt : M Bool} {me : M D}
theorem lcL_fm {α : Type} (c : α → D) (t : α → Bool) (f : α → D) : ∀ {xs : List α}, (∀ x ∈ xs, ∃ env1, g (c x) env = some env1 ∧ mt env1 st = some (.ok (t x), st) ∧ (t x = true → me env1 st = some (.ok (f x), st))) →
    lcL env g mt me (xs.map c) st = some ((xs.filter t).map f, st)
  | [], _ => rfl
  | x :: r, h => by
    obtain ⟨env1, e1, e2, e3⟩ := h x List.mem_cons_self
    have e4 := lcL_fm c t f (xs := r) fun d hd => h d (List.mem_cons_of_mem _ hd)
    rw [List.map_cons]
    unfold lcL
    by_cases q : t x = true
    · rw [q] at e2
      simp only [e1, e2, e3 q, e4, List.filter_cons_of_pos q, List.map_cons]
    · have q' : t x = false := by simpa using q
      rw [q'] at e2
      rw [List.filter_cons_of_neg q]
      simp only [e1, e2, e4]
/-- a comprehension without a test -/
theorem lcL_m {α : Type} (c : α → D) (f : α → D) {xs : List α} (h : ∀ x ∈ xs, ∃ env1, g (c x) env = some env1 ∧ me env1 st = some (.ok (f x), st)) : lcL env g mYes me (xs.map c) st = some (xs.map f, st) := by
  have e := lcL_fm (env := env) (st := st) (g := g) (mt := mYes) (me := me) c (fun _ => true) f (xs := xs) fun x hx => by
    obtain ⟨env1, e1, e2⟩ := h x hx
    exact ⟨env1, e1, rfl, fun _ => e2⟩
  rw [List.filter_eq_self.mpr (by simp)] at e
  exact e
end
mutual
def eqD : D → D → Bool
  | .non, .non => true
  | .bl a, .bl b => a == b
  | .bl a, .int j => (if a then 1 else 0) == j
  | .int i, .bl b => i == (if b then 1 else 0)
  | .int i, .int j => i == j
  | .str x, .str y => x == y
  | .lst x, .lst y => eqL x y
  | .tup x, .tup y => eqL x y
  | _, _ => false
def eqL : List D → List D → Bool
  | [], [] => true
  | x :: xs, y :: ys => eqD x y && eqL xs ys
  | _, _ => false
end
theorem Pl.mono : ∀ {n m : Nat} {d : D}, Pl n d → n ≤ m → Pl m d
  | 0, _, _, h, _ => h.elim
  | n + 1, 0, _, _, h => absurd h (by omega)
  | n + 1, m + 1, d, h, hm => by
    cases d with
    | non => trivial
    | bl _ => trivial
    | int _ => trivial
    | str _ => exact h
    | tup l => exact ⟨h.1, fun x hx => (h.2 x hx).mono (by omega)⟩
    | lst l => exact ⟨h.1, fun x hx => (h.2 x hx).mono (by omega)⟩
    | fn _ => exact h.elim
    | cell _ => exact h.elim
    | scr _ => exact h.elim
    | dK _ => exact h.elim
    | dT _ => exact h.elim
theorem pl_py : ∀ (n : Nat) (d : D), Pl n d → ∃ p, d.py = some p ∧ p.canLay0 = true ∧ p.depth ≤ n
  | 0, _, h => h.elim
  | n + 1, d, h => by
    have ih := pl_py n
    have key : ∀ l : List D, (∀ x ∈ l, Pl n x) → ∃ ps, D.pyL l = some ps ∧ PyData.canLayAll0 ps = true ∧ PyData.depthAll ps ≤ n := fun l => by
      induction l with
      | nil => exact fun _ => ⟨[], rfl, rfl, Nat.zero_le _⟩
      | cons x r ihr =>
        intro hl
        obtain ⟨p, e1, e2, e3⟩ := ih x (hl x List.mem_cons_self)
        obtain ⟨ps, f1, f2, f3⟩ := ihr fun y hy => hl y (List.mem_cons_of_mem _ hy)
        refine ⟨p :: ps, ?_, ?_, Nat.max_le.mpr ⟨e3, f3⟩⟩
        · unfold D.pyL
          rw [e1, f1]
        · show (p.canLay0 && PyData.canLayAll0 ps) = true
          rw [e2, f2]; rfl
    cases d with
    | non => exact ⟨_, rfl, rfl, Nat.zero_le _⟩
    | bl _ => exact ⟨_, rfl, rfl, Nat.zero_le _⟩
    | int _ => exact ⟨_, rfl, rfl, Nat.zero_le _⟩
    | str s => exact ⟨_, rfl, SeqAt.canLay_of_shaped h, Nat.zero_le _⟩
    | tup l =>
      obtain ⟨ps, f1, f2, f3⟩ := key l h.2
      exact ⟨.tuple ps, by unfold D.py; rw [f1], f2, Nat.succ_le_succ f3⟩
    | lst l =>
      obtain ⟨ps, f1, f2, f3⟩ := key l h.2
      exact ⟨.list ps, by unfold D.py; rw [f1], f2, Nat.succ_le_succ f3⟩
    | fn _ => exact h.elim
    | cell _ => exact h.elim
    | scr _ => exact h.elim
    | dK _ => exact h.elim
    | dT _ => exact h.elim
theorem eqv_eqD : ∀ (n : Nat) (x y : D) (p q : PyData), Pl n x → x.py = some p → y.py = some q → PyData.eqv p q = eqD x y
  | 0, _, _, _, _, h, _, _ => h.elim
  | n + 1, x, y, p, q, h, hp, hq => by
    have ih := eqv_eqD n
    have key : ∀ (l r : List D) (ps qs : List PyData), (∀ z ∈ l, Pl n z) → D.pyL l = some ps → D.pyL r = some qs → PyData.eqvAll ps qs = eqL l r := fun l => by
      induction l with
      | nil =>
        intro r ps qs _ h1 h2
        cases h1
        cases r with
        | nil => cases h2; unfold PyData.eqvAll eqL; rfl
        | cons b r =>
          unfold D.pyL at h2
          split at h2
          · split at h2
            · cases h2; unfold PyData.eqvAll eqL; rfl
            · cases h2
          · cases h2
      | cons a l ihl =>
        intro r ps qs hl h1 h2
        unfold D.pyL at h1
        split at h1
        · rename_i pa ea
          split at h1
          · rename_i pl el
            cases h1
            cases r with
            | nil => cases h2; unfold PyData.eqvAll eqL; rfl
            | cons b r =>
              unfold D.pyL at h2
              split at h2
              · rename_i pb eb
                split at h2
                · rename_i pr er
                  cases h2
                  show (PyData.eqv pa pb && PyData.eqvAll pl pr) = (eqD a b && eqL l r)
                  rw [ih a b pa pb (hl a List.mem_cons_self) ea eb, ihl r pl pr (fun z hz => hl z (List.mem_cons_of_mem _ hz)) el er]
                · cases h2
              · cases h2
          · cases h1
        · cases h1
    have two : ∀ (c : List PyData → PyData) (l : List D) (o : Option PyData), (match D.pyL l with | some r => some (c r) | none => none) = o → ∀ p, o = some p → ∃ ps, D.pyL l = some ps ∧ p = c ps := fun c l o e p hp => by
      subst e
      split at hp
      · rename_i r e
        cases hp
        exact ⟨r, e, rfl⟩
      · cases hp
    cases x with
    | tup l =>
      obtain ⟨ps, f1, rfl⟩ := two .tuple l _ (by unfold D.py; rfl) p hp
      cases y with
      | tup r =>
        obtain ⟨qs, f2, rfl⟩ := two .tuple r _ (by unfold D.py; rfl) q hq
        unfold PyData.eqv
        show PyData.eqvAll ps qs = eqL l r
        exact key l r ps qs h.2 f1 f2
      | lst r =>
        obtain ⟨qs, f2, rfl⟩ := two .list r _ (by unfold D.py; rfl) q hq
        unfold PyData.eqv
        rfl
      | non => cases hq; unfold PyData.eqv; rfl
      | bl _ => cases hq; unfold PyData.eqv; rfl
      | int _ => cases hq; unfold PyData.eqv; rfl
      | str _ => cases hq; unfold PyData.eqv; rfl
      | fn _ => cases hq
      | cell _ => cases hq
      | scr _ => cases hq
      | dK _ => cases hq
      | dT _ => cases hq
    | lst l =>
      obtain ⟨ps, f1, rfl⟩ := two .list l _ (by unfold D.py; rfl) p hp
      cases y with
      | lst r =>
        obtain ⟨qs, f2, rfl⟩ := two .list r _ (by unfold D.py; rfl) q hq
        unfold PyData.eqv
        show PyData.eqvAll ps qs = eqL l r
        exact key l r ps qs h.2 f1 f2
      | tup r =>
        obtain ⟨qs, f2, rfl⟩ := two .tuple r _ (by unfold D.py; rfl) q hq
        unfold PyData.eqv
        rfl
      | non => cases hq; unfold PyData.eqv; rfl
      | bl _ => cases hq; unfold PyData.eqv; rfl
      | int _ => cases hq; unfold PyData.eqv; rfl
      | str _ => cases hq; unfold PyData.eqv; rfl
      | fn _ => cases hq
      | cell _ => cases hq
      | scr _ => cases hq
      | dK _ => cases hq
      | dT _ => cases hq
    | non =>
      cases hp
      cases y with
      | lst r => obtain ⟨qs, f2, rfl⟩ := two .list r _ (by unfold D.py; rfl) q hq; unfold PyData.eqv; rfl
      | tup r => obtain ⟨qs, f2, rfl⟩ := two .tuple r _ (by unfold D.py; rfl) q hq; unfold PyData.eqv; rfl
      | non => cases hq; unfold PyData.eqv; rfl
      | bl _ => cases hq; unfold PyData.eqv; rfl
      | int _ => cases hq; unfold PyData.eqv; rfl
      | str _ => cases hq; unfold PyData.eqv; rfl
      | fn _ => cases hq
      | cell _ => cases hq
      | scr _ => cases hq
      | dK _ => cases hq
      | dT _ => cases hq
    | bl _ =>
      cases hp
      cases y with
      | lst r => obtain ⟨qs, f2, rfl⟩ := two .list r _ (by unfold D.py; rfl) q hq; unfold PyData.eqv; rfl
      | tup r => obtain ⟨qs, f2, rfl⟩ := two .tuple r _ (by unfold D.py; rfl) q hq; unfold PyData.eqv; rfl
      | non => cases hq; unfold PyData.eqv; rfl
      | bl _ => cases hq; unfold PyData.eqv; rfl
      | int _ => cases hq; unfold PyData.eqv; rfl
      | str _ => cases hq; unfold PyData.eqv; rfl
      | fn _ => cases hq
      | cell _ => cases hq
      | scr _ => cases hq
      | dK _ => cases hq
      | dT _ => cases hq
    | int _ =>
      cases hp
      cases y with
      | lst r => obtain ⟨qs, f2, rfl⟩ := two .list r _ (by unfold D.py; rfl) q hq; unfold PyData.eqv; rfl
      | tup r => obtain ⟨qs, f2, rfl⟩ := two .tuple r _ (by unfold D.py; rfl) q hq; unfold PyData.eqv; rfl
      | non => cases hq; unfold PyData.eqv; rfl
      | bl _ => cases hq; unfold PyData.eqv; rfl
      | int _ => cases hq; unfold PyData.eqv; rfl
      | str _ => cases hq; unfold PyData.eqv; rfl
      | fn _ => cases hq
      | cell _ => cases hq
      | scr _ => cases hq
      | dK _ => cases hq
      | dT _ => cases hq
    | str _ =>
      cases hp
      cases y with
      | lst r => obtain ⟨qs, f2, rfl⟩ := two .list r _ (by unfold D.py; rfl) q hq; unfold PyData.eqv; rfl
      | tup r => obtain ⟨qs, f2, rfl⟩ := two .tuple r _ (by unfold D.py; rfl) q hq; unfold PyData.eqv; rfl
      | non => cases hq; unfold PyData.eqv; rfl
      | bl _ => cases hq; unfold PyData.eqv; rfl
      | int _ => cases hq; unfold PyData.eqv; rfl
      | str _ => cases hq; unfold PyData.eqv; rfl
      | fn _ => cases hq
      | cell _ => cases hq
      | scr _ => cases hq
      | dK _ => cases hq
      | dT _ => cases hq
    | fn _ => exact h.elim
    | cell _ => exact h.elim
    | scr _ => exact h.elim
    | dK _ => exact h.elim
    | dT _ => exact h.elim
theorem pl_eqB {x y : D} (hx : Pl 60 x) (hy : Pl 60 y) : dEqB x y = some (eqD x y) := by
  obtain ⟨p, e1, e2, e3⟩ := pl_py 60 x hx
  obtain ⟨q, f1, f2, f3⟩ := pl_py 60 y hy
  have s1 : SeqAt.shaped p = true := by unfold SeqAt.shaped; rw [e2, decide_eq_true (show p.depth ≤ 64 by omega)]; rfl
  have s2 : SeqAt.shaped q = true := by unfold SeqAt.shaped; rw [f2, decide_eq_true (show q.depth ≤ 64 by omega)]; rfl
  unfold dEqB
  rw [e1, f1]
  show (if SeqAt.shaped p = true ∧ SeqAt.shaped q = true then some (PyData.eqv p q) else none) = _
  rw [if_pos ⟨s1, s2⟩, eqv_eqD 60 x y p q hx e1 f1]
theorem dEq_pl {x y : D} (hx : Pl 60 x) (hy : Pl 60 y) : dEq x y = some (.bl (eqD x y)) := by
  unfold dEq
  rw [pl_eqB hx hy]
  rfl
theorem dNe_pl {x y : D} (hx : Pl 60 x) (hy : Pl 60 y) : dNe x y = some (.bl (!eqD x y)) := by
  unfold dNe
  rw [pl_eqB hx hy]
  rfl
theorem eqD_refl : ∀ (n : Nat) (x : D), Pl n x → eqD x x = true
  | 0, _, h => h.elim
  | n + 1, x, h => by
    have ih := eqD_refl n
    have key : ∀ l : List D, (∀ z ∈ l, Pl n z) → eqL l l = true := fun l => by
      induction l with
      | nil => exact fun _ => rfl
      | cons a l ihl =>
        intro hl
        show (eqD a a && eqL l l) = true
        rw [ih a (hl a List.mem_cons_self), ihl fun z hz => hl z (List.mem_cons_of_mem _ hz)]
        rfl
    cases x with
    | tup l => exact key l h.2
    | lst l => exact key l h.2
    | non => rfl
    | bl b => exact beq_self_eq_true b
    | int i => exact beq_self_eq_true i
    | str s => exact beq_self_eq_true s
    | fn _ => exact h.elim
    | cell _ => exact h.elim
    | scr _ => exact h.elim
    | dK _ => exact h.elim
    | dT _ => exact h.elim
theorem dEq_self {x : D} (hx : Pl 60 x) : dEq x x = some (.bl true) := by rw [dEq_pl hx hx, eqD_refl 60 x hx]
theorem dNe_self {x : D} (hx : Pl 60 x) : dNe x x = some (.bl false) := by rw [dNe_pl hx hx, eqD_refl 60 x hx]; rfl
/-! Pl of what stands written -/
section
variable {n : Nat} {l : List D}
theorem pl_int {i : Int} : Pl (n + 1) (.int i) := trivial
theorem pl_bl {b : Bool} : Pl (n + 1) (.bl b) := trivial
theorem pl_non : Pl (n + 1) .non := trivial
theorem pl_tup (h : l.length < 2 ^ 20) (k : ∀ x ∈ l, Pl n x) : Pl (n + 1) (.tup l) := ⟨h, k⟩
theorem pl_lst (h : l.length < 2 ^ 20) (k : ∀ x ∈ l, Pl n x) : Pl (n + 1) (.lst l) := ⟨h, k⟩
theorem pl_pair {p : Int × Int} : Pl (n + 2) (pairD p) := ⟨by show 2 < 2 ^ 20; decide, fun x hx => by
  rcases List.mem_cons.mp hx with rfl | hx
  · trivial
  · rw [List.mem_singleton.mp hx]; trivial⟩
theorem pl_map {α : Type} {f : α → D} {xs : List α} (h : ∀ x ∈ xs, Pl n (f x)) : ∀ y ∈ xs.map f, Pl n y := fun y hy => by
  obtain ⟨x, hx, rfl⟩ := List.mem_map.mp hy
  exact h x hx
theorem pl_pairsT {xs : List (Int × Int)} (h : xs.length < 2 ^ 20) : Pl (n + 3) (.tup (xs.map pairD)) := pl_tup (by rw [List.length_map]; exact h) (pl_map fun _ _ => pl_pair)
theorem pl_pairsL {xs : List (Int × Int)} (h : xs.length < 2 ^ 20) : Pl (n + 3) (.lst (xs.map pairD)) := pl_lst (by rw [List.length_map]; exact h) (pl_map fun _ _ => pl_pair)
theorem pl_intsT {xs : List Int} (h : xs.length < 2 ^ 20) : Pl (n + 2) (.tup (xs.map .int)) := pl_tup (by rw [List.length_map]; exact h) (pl_map fun _ _ => trivial)
theorem pl_intsL {xs : List Int} (h : xs.length < 2 ^ 20) : Pl (n + 2) (.lst (xs.map .int)) := pl_lst (by rw [List.length_map]; exact h) (pl_map fun _ _ => trivial)
end
/-! bounds by bits -/
theorem mulB {a b : Int} {m n : Nat} (ha : a.natAbs < 2 ^ m) (hb : b.natAbs < 2 ^ n) (h : m + n ≤ 134217728 := by decide) : IntMulOk a b := by
  have key : ∀ {x : Int} {k : Nat}, x.natAbs < 2 ^ k → Builtin.Int.intBits x ≤ k := fun {x k} hx => by
    unfold Builtin.Int.intBits
    split
    · exact Nat.zero_le _
    · rename_i h0
      have h1 : x.natAbs ≠ 0 := by
        intro z
        have : x = 0 := Int.natAbs_eq_zero.mp z
        simp [this] at h0
      exact (Nat.log2_lt h1).mpr hx
  exact IntMulOk.of_le (key ha) (key hb) h
end Pw
/-! fractions in least terms: plain arithmetic -/
namespace Pw
/-- in least terms, b > 0 -/
def cutI (a b : Int) : Int × Int := (a / (Int.gcd a b : Nat), b / (Int.gcd a b : Nat))
section
variable {a b c d : Int}
theorem g_pos (hb : 0 < b) : 0 < ((Int.gcd a b : Nat) : Int) := by
  have := Int.gcd_pos_of_ne_zero_right a (show b ≠ 0 by omega)
  omega
theorem cut_a (hb : 0 < b) : (cutI a b).1 * ((Int.gcd a b : Nat) : Int) = a := Int.ediv_mul_cancel (Int.gcd_dvd_left a b)
theorem cut_b (hb : 0 < b) : (cutI a b).2 * ((Int.gcd a b : Nat) : Int) = b := Int.ediv_mul_cancel (Int.gcd_dvd_right a b)
theorem cut_pos (hb : 0 < b) : 0 < (cutI a b).2 := Int.ediv_pos_of_pos_of_dvd hb (Int.le_of_lt (g_pos hb)) (Int.gcd_dvd_right _ _)
theorem cut_le (hb : 0 < b) : (cutI a b).2 ≤ b := Int.ediv_le_self _ (by omega)
theorem cut_mul (hb : 0 < b) : a * (cutI a b).2 = (cutI a b).1 * b := by
  have h1 := cut_a (a := a) hb
  have h2 := cut_b (a := a) hb
  have hg := g_pos (a := a) hb
  generalize ((Int.gcd a b : Nat) : Int) = g at *
  grind
theorem cut_gcd (hb : 0 < b) : Int.gcd (cutI a b).1 (cutI a b).2 = 1 := by
  have hg := g_pos (a := a) hb
  have h1 := cut_a (a := a) hb
  have h2 := cut_b (a := a) hb
  have h3 : Int.gcd ((cutI a b).1 * ((Int.gcd a b : Nat) : Int)) ((cutI a b).2 * ((Int.gcd a b : Nat) : Int)) = Int.gcd (cutI a b).1 (cutI a b).2 * (Int.gcd a b) := by
    rw [Int.gcd_mul_right]
    rfl
  rw [h1, h2] at h3
  have h4 : Int.gcd a b * 1 = Int.gcd a b * Int.gcd (cutI a b).1 (cutI a b).2 := by
    rw [Nat.mul_comm _ (Int.gcd (cutI a b).1 _)]
    omega
  exact (Nat.eq_of_mul_eq_mul_left (by omega) h4).symm
theorem dvd_cop {k m n : Int} (h : k ∣ m * n) (g : Int.gcd k m = 1) : k ∣ n := by
  have h1 := Int.natAbs_dvd_natAbs.mpr h
  rw [Int.natAbs_mul] at h1
  exact Int.natAbs_dvd_natAbs.mp (Nat.Coprime.dvd_of_dvd_mul_left (show Nat.gcd k.natAbs m.natAbs = 1 from g) h1)
theorem cut_uniq {p : Int × Int} (hp : 0 < p.2) (hg : Int.gcd p.1 p.2 = 1) (hb : 0 < b) (h : a * p.2 = p.1 * b) : cutI a b = p := by
  have q0 := cut_pos (a := a) hb
  have q1 := cut_gcd (a := a) hb
  have q2 := cut_mul (a := a) hb
  generalize cutI a b = q at *
  -- p.1 q.2 = q.1 p.2
  have e : p.1 * q.2 = q.1 * p.2 := by
    have : b * (p.1 * q.2) = b * (q.1 * p.2) := by grind
    exact Int.eq_of_mul_eq_mul_left (by omega) this
  have d1 : p.2 ∣ q.2 := by
    have : p.2 ∣ p.1 * q.2 := ⟨q.1, by rw [e, Int.mul_comm]⟩
    exact dvd_cop this (by rw [Int.gcd_comm]; exact hg)
  have d2 : q.2 ∣ p.2 := by
    have : q.2 ∣ q.1 * p.2 := ⟨p.1, by rw [← e, Int.mul_comm]⟩
    exact dvd_cop this (by rw [Int.gcd_comm]; exact q1)
  have e2 : p.2 = q.2 := Int.dvd_antisymm (by omega) (by omega) d1 d2
  rw [e2] at e
  have e1 : p.1 = q.1 := Int.eq_of_mul_eq_mul_right (by omega) e
  exact Prod.ext e1.symm e2.symm
theorem cut_id {p : Int × Int} (hp : 0 < p.2) (hg : Int.gcd p.1 p.2 = 1) : cutI p.1 p.2 = p := cut_uniq hp hg hp rfl
theorem cut_eq (hb : 0 < b) (hd : 0 < d) (h : a * d = c * b) : cutI a b = cutI c d := by
  refine cut_uniq (cut_pos hd) (cut_gcd hd) hb ?_
  have h2 := cut_mul (a := c) hd
  have : d * (a * (cutI c d).2) = d * ((cutI c d).1 * b) := by grind
  exact Int.eq_of_mul_eq_mul_left (by omega) this
theorem cut_inj (hb : 0 < b) (hd : 0 < d) (h : cutI a b = cutI c d) : a * d = c * b := by
  have h1 := cut_mul (a := a) hb
  have h2 := cut_mul (a := c) hd
  have h3 := cut_pos (a := c) hd
  rw [h] at h1
  have : (cutI c d).2 * (a * d) = (cutI c d).2 * (c * b) := by grind
  exact Int.eq_of_mul_eq_mul_left (by omega) this
theorem cut_pos1 (ha : 0 < a) (hb : 0 < b) : 0 < (cutI a b).1 := Int.ediv_pos_of_pos_of_dvd ha (Int.le_of_lt (g_pos hb)) (Int.gcd_dvd_left _ _)
theorem cut_le1 (ha : 0 ≤ a) (hb : 0 < b) : (cutI a b).1 ≤ a := Int.ediv_le_self _ ha
theorem cut_nn (ha : 0 ≤ a) (hb : 0 < b) : 0 ≤ (cutI a b).1 := Int.ediv_nonneg ha (Int.le_of_lt (g_pos hb))
theorem cut_abs (hb : 0 < b) : (cutI a b).1.natAbs ≤ a.natAbs := by
  have h1 := cut_a (a := a) hb
  have hg := g_pos (a := a) hb
  have h2 := congrArg Int.natAbs h1
  rw [Int.natAbs_mul] at h2
  rw [← h2]
  exact Nat.le_mul_of_pos_right _ (by omega)
end
structure FrOk (p : Int × Int) : Prop where
  pos : 0 < p.2
  g : Int.gcd p.1 p.2 = 1
theorem cut_ok {a b : Int} (hb : 0 < b) : FrOk (cutI a b) := ⟨cut_pos hb, cut_gcd hb⟩
end Pw
/-! whole roots; the sign of A + B root d -/
namespace Pw
def isqF (n : Nat) : Nat → Nat
  | 0 => 0
  | k + 1 => if (k + 1) * (k + 1) ≤ n then k + 1 else isqF n k
def isq (n : Nat) : Nat := isqF n n
theorem isqF_le (n : Nat) : ∀ k, isqF n k * isqF n k ≤ n
  | 0 => Nat.zero_le _
  | k + 1 => by
    unfold isqF
    split
    · assumption
    · exact isqF_le n k
theorem isqF_gt (n : Nat) : ∀ k, n < (k + 1) * (k + 1) → n < (isqF n k + 1) * (isqF n k + 1)
  | 0, h => h
  | k + 1, h => by
    unfold isqF
    split
    · exact h
    · exact isqF_gt n k (by omega)
theorem isq_le (n : Nat) : isq n * isq n ≤ n := isqF_le n n
theorem lt_isq (n : Nat) : n < (isq n + 1) * (isq n + 1) := isqF_gt n n (by
  have : n + 1 ≤ (n + 1) * (n + 1) := Nat.le_mul_of_pos_right _ (by omega)
  omega)
theorem sq_mono {a b : Nat} (h : a ≤ b) : a * a ≤ b * b := Nat.mul_le_mul h h
theorem sq_lt {a b : Nat} : a * a < b * b ↔ a < b := by
  constructor
  · intro h
    rcases Nat.lt_or_ge a b with q | q
    · exact q
    · have := sq_mono q; omega
  · intro h
    exact Nat.mul_lt_mul'' h h
theorem isq_lt {n k : Nat} : isq n < k ↔ n < k * k := by
  constructor
  · intro h
    exact Nat.lt_of_lt_of_le (lt_isq n) (sq_mono h)
  · intro h
    exact sq_lt.mp (Nat.lt_of_le_of_lt (isq_le n) h)
theorem le_isq {n k : Nat} : k ≤ isq n ↔ k * k ≤ n := by
  have := @isq_lt n k
  omega
theorem isq_uniq {n k : Nat} (h1 : k * k ≤ n) (h2 : n < (k + 1) * (k + 1)) : isq n = k := by
  have a := le_isq.mpr h1
  have b := isq_lt.mpr h2
  omega
/-! no square -/
def NoSq (d : Nat) : Prop := isq d * isq d ≠ d
theorem noSq_ne {d k : Nat} (h : NoSq d) : d ≠ k * k := by
  intro e
  apply h
  rw [isq_uniq (k := k) (by omega) (by rw [e]; exact sq_lt.mpr (by omega))]
  exact e.symm
theorem dvd_of_sq {a b : Nat} (h : a * a ∣ b * b) : a ∣ b := by
  rw [← Nat.pow_two, ← Nat.pow_two] at h
  exact (Nat.pow_dvd_pow_iff (by decide)).mp h
theorem noSq_mul {d B A : Nat} (h : NoSq d) (hB : 0 < B) : B * B * d ≠ A * A := by
  intro e
  have : B ∣ A := dvd_of_sq ⟨d, e.symm⟩
  obtain ⟨k, rfl⟩ := this
  refine noSq_ne h (k := k) ?_
  have e2 : (B * B) * d = (B * B) * (k * k) := by rw [e, Nat.mul_mul_mul_comm]
  exact Nat.eq_of_mul_eq_mul_left (Nat.mul_pos hB hB) e2
/-- a whole number between B root d and one less, or one more -/
def stI (B d : Int) : Int := if 0 < B then (isq (B * B * d).toNat : Int) else -(isq (B * B * d).toNat : Int) - 1
/-- A + B root d is below 0 -/
def NegR (A B d : Int) : Prop := A + stI B d < 0
structure RootD (d : Int) : Prop where
  pos : 0 < d
  ns : NoSq d.toNat
theorem sq_toNat (B d : Int) (hd : 0 < d) : (B * B * d).toNat = B.natAbs * B.natAbs * d.toNat := by
  have h1 : B * B = ((B.natAbs * B.natAbs : Nat) : Int) := by rw [Int.natCast_mul, Int.natAbs_mul_self' B]
  have h2 : d = ((d.toNat : Nat) : Int) := by omega
  rw [h1]
  conv => lhs; rw [h2]
  rw [← Int.natCast_mul]
  exact Int.toNat_natCast _
theorem natAbs_sq (A : Int) : A * A = ((A.natAbs * A.natAbs : Nat) : Int) := by rw [Int.natCast_mul, Int.natAbs_mul_self' A]
theorem negR_iff {A B d : Int} (hd : RootD d) (hB : B ≠ 0) : NegR A B d ↔ if 0 < B then A < 0 ∧ B * B * d < A * A else A ≤ 0 ∨ A * A < B * B * d := by
  unfold NegR stI
  have e1 := sq_toNat B d hd.pos
  have e2 : B * B * d = ((B.natAbs * B.natAbs * d.toNat : Nat) : Int) := by
    rw [← e1, Int.toNat_of_nonneg]
    have := natAbs_sq B
    rw [this]
    exact Int.mul_nonneg (Int.natCast_nonneg _) (Int.le_of_lt hd.pos)
  have e3 := natAbs_sq A
  have hne := noSq_mul (A := A.natAbs) hd.ns (show 0 < B.natAbs by omega)
  rw [e1, e2, e3]
  generalize B.natAbs * B.natAbs * d.toNat = N at *
  have k1 := @isq_lt N A.natAbs
  have k2 := @le_isq N A.natAbs
  generalize A.natAbs * A.natAbs = S at *
  by_cases hB0 : 0 < B
  · rw [if_pos hB0, if_pos hB0]
    omega
  · rw [if_neg hB0, if_neg hB0]
    omega
theorem negR_scale {A B d g : Int} (hd : RootD d) (hB : B ≠ 0) (hg : 0 < g) : NegR (g * A) (g * B) d ↔ NegR A B d := by
  have hgB : g * B ≠ 0 := Int.mul_ne_zero (by omega) hB
  rw [negR_iff hd hgB, negR_iff hd hB]
  have s1 : (0 < g * B) ↔ 0 < B := ⟨fun h => by
    rcases Int.lt_or_le 0 B with q | q
    · exact q
    · have := Int.mul_nonpos_of_nonneg_of_nonpos (Int.le_of_lt hg) q; omega, fun h => Int.mul_pos hg h⟩
  have s2 : (g * A < 0) ↔ A < 0 := by
    constructor
    · intro h
      rcases Int.lt_or_le A 0 with q | q
      · exact q
      · have := Int.mul_nonneg (Int.le_of_lt hg) q; omega
    · intro h; exact Int.mul_neg_of_pos_of_neg hg h
  have s3 : (g * A ≤ 0) ↔ A ≤ 0 := by
    constructor
    · intro h
      rcases Int.lt_or_le 0 A with q | q
      · have := Int.mul_pos hg q; omega
      · exact q
    · intro h; exact Int.mul_nonpos_of_nonneg_of_nonpos (Int.le_of_lt hg) h
  have hgg : 0 < g * g := Int.mul_pos hg hg
  have q1 : g * B * (g * B) * d = (g * g) * (B * B * d) := by grind
  have q2 : g * A * (g * A) = (g * g) * (A * A) := by grind
  have s4 : (g * B * (g * B) * d < g * A * (g * A)) ↔ B * B * d < A * A := by
    rw [q1, q2]
    exact ⟨fun h => Int.lt_of_mul_lt_mul_left h (Int.le_of_lt hgg), fun h => Int.mul_lt_mul_of_pos_left h hgg⟩
  have s5 : (g * A * (g * A) < g * B * (g * B) * d) ↔ A * A < B * B * d := by
    rw [q1, q2]
    exact ⟨fun h => Int.lt_of_mul_lt_mul_left h (Int.le_of_lt hgg), fun h => Int.mul_lt_mul_of_pos_left h hgg⟩
  by_cases hB0 : 0 < B
  · rw [if_pos (s1.mpr hB0), if_pos hB0, s2, s4]
  · rw [if_neg (fun z => hB0 (s1.mp z)), if_neg hB0, s3, s5]
/-- the greatest whole number below (a + b root d) / c -/
def flI (a b d c : Int) : Int := (a + stI b d) / c
theorem fl_lt {a b d c m : Int} (hc : 0 < c) : flI a b d c < m ↔ NegR (a - m * c) b d := by
  unfold flI NegR
  rw [Int.ediv_lt_iff_lt_mul hc]
  omega
/-! roots in least terms -/
structure Rt where
  a : Int
  b : Int
  d : Int
  c : Int
deriving DecidableEq
def g3 (a b c : Int) : Int := ((Int.gcd (Int.gcd a b : Nat) c : Nat) : Int)
def rtI (a b d c : Int) : Rt := if c < 0 then ⟨a / (-g3 a b c), b / (-g3 a b c), d, c / (-g3 a b c)⟩ else ⟨a / g3 a b c, b / g3 a b c, d, c / g3 a b c⟩
structure RtOk (r : Rt) : Prop where
  b0 : r.b ≠ 0
  dd : RootD r.d
  d1 : 1 < r.d
  c0 : 0 < r.c
  g : g3 r.a r.b r.c = 1
section
variable {a b c d : Int}
theorem g3_pos (hc : c ≠ 0) : 0 < g3 a b c := by
  have := Int.gcd_pos_of_ne_zero_right (Int.gcd a b : Nat) hc
  unfold g3
  omega
theorem g3_a : g3 a b c ∣ a := Int.dvd_trans (Int.gcd_dvd_left _ _) (Int.gcd_dvd_left _ _)
theorem g3_b : g3 a b c ∣ b := Int.dvd_trans (Int.gcd_dvd_left _ _) (Int.gcd_dvd_right _ _)
theorem g3_c : g3 a b c ∣ c := Int.gcd_dvd_right _ _
theorem g3_mul {k : Int} (hk : 0 < k) : g3 (k * a) (k * b) (k * c) = k * g3 a b c := by
  unfold g3
  rw [Int.gcd_mul_left]
  have e : ((k.natAbs * Int.gcd a b : Nat) : Int) = k * (Int.gcd a b : Nat) := by
    rw [Int.natCast_mul]
    congr 1
    omega
  rw [e, Int.gcd_mul_left, Int.natCast_mul]
  congr 1
  omega
theorem g3_le (hc : 0 < c) : g3 a b c ≤ c := Int.le_of_dvd hc g3_c
/-- c > 0 -/
theorem rtI_pos (hc : 0 < c) : rtI a b d c = ⟨a / g3 a b c, b / g3 a b c, d, c / g3 a b c⟩ := if_neg (by omega)
theorem rtI_mul (hc : 0 < c) : a = g3 a b c * (rtI a b d c).a ∧ b = g3 a b c * (rtI a b d c).b ∧ c = g3 a b c * (rtI a b d c).c ∧ (rtI a b d c).d = d := by
  rw [rtI_pos hc]
  exact ⟨(Int.mul_ediv_cancel' g3_a).symm, (Int.mul_ediv_cancel' g3_b).symm, (Int.mul_ediv_cancel' g3_c).symm, rfl⟩
theorem rtI_ok (hc : 0 < c) (hb : b ≠ 0) (hd : RootD d) (hd1 : 1 < d) : RtOk (rtI a b d c) := by
  have hg := g3_pos (a := a) (b := b) (show c ≠ 0 by omega)
  obtain ⟨e1, e2, e3, e4⟩ := rtI_mul (a := a) (b := b) (d := d) hc
  generalize hgg : g3 a b c = g at *
  generalize rtI a b d c = r at *
  refine ⟨?_, by rw [e4]; exact hd, by rw [e4]; exact hd1, ?_, ?_⟩
  · intro z; rw [z] at e2; omega
  · rcases Int.lt_or_le 0 r.c with q | q
    · exact q
    · have := Int.mul_nonpos_of_nonneg_of_nonpos (Int.le_of_lt hg) q; omega
  · rw [e1, e2, e3, g3_mul hg] at hgg
    exact Int.eq_of_mul_eq_mul_left (show g ≠ 0 by omega) (by omega)
theorem rtI_id {r : Rt} (h : RtOk r) : rtI r.a r.b r.d r.c = r := by
  rw [rtI_pos h.c0, h.g]
  simp
/-- less than a fraction: by squares, as the law's own -/
def lessR (r : Rt) (x : Int × Int) : Bool := if r.b * x.2 > 0 then decide (x.1 * r.c - r.a * x.2 > 0) && decide (r.b * x.2 * (r.b * x.2) * r.d < (x.1 * r.c - r.a * x.2) * (x.1 * r.c - r.a * x.2)) else decide (x.1 * r.c - r.a * x.2 ≥ 0) || decide (r.b * x.2 * (r.b * x.2) * r.d > (x.1 * r.c - r.a * x.2) * (x.1 * r.c - r.a * x.2))
theorem lessR_iff {r : Rt} (h : RtOk r) {x : Int × Int} (hx : 0 < x.2) : lessR r x = true ↔ NegR (r.a * x.2 - r.c * x.1) (r.b * x.2) r.d := by
  have hB : r.b * x.2 ≠ 0 := Int.mul_ne_zero h.b0 (by omega)
  rw [negR_iff h.dd hB]
  unfold lessR
  have e : (x.1 * r.c - r.a * x.2) = -(r.a * x.2 - r.c * x.1) := by grind
  rw [e]
  generalize r.a * x.2 - r.c * x.1 = A
  generalize r.b * x.2 = B
  have e2 : -A * -A = A * A := by grind
  rw [e2]
  by_cases hB0 : 0 < B
  · rw [if_pos hB0, if_pos hB0]
    simp
  · rw [if_neg hB0, if_neg hB0]
    simp
def stR (r : Rt) : Int := r.a + stI r.b r.d
def flR (r : Rt) : Int := flI r.a r.b r.d r.c
theorem flR_less {r : Rt} (h : RtOk r) (m : Int) : flR r < m ↔ lessR r (m, 1) = true := by
  rw [lessR_iff h (x := (m, 1)) (by show (0 : Int) < 1; decide)]
  unfold flR
  rw [fl_lt h.c0]
  show _ ↔ NegR (r.a * 1 - r.c * m) (r.b * 1) r.d
  rw [Int.mul_one, Int.mul_one, Int.mul_comm m]
/-- below 0, in least terms as well -/
theorem fl_neg (hc : 0 < c) (hb : b ≠ 0) (hd : RootD d) : flR (rtI a b d c) < 0 ↔ NegR a b d := by
  have hg := g3_pos (a := a) (b := b) (show c ≠ 0 by omega)
  obtain ⟨e1, e2, e3, e4⟩ := rtI_mul (a := a) (b := b) (d := d) hc
  have h1 : 0 < (rtI a b d c).c := by
    rcases Int.lt_or_le 0 (rtI a b d c).c with q | q
    · exact q
    · have := Int.mul_nonpos_of_nonneg_of_nonpos (Int.le_of_lt hg) q; omega
  have h2 : (rtI a b d c).b ≠ 0 := by intro z; rw [z] at e2; omega
  unfold flR
  rw [fl_lt h1, Int.zero_mul, Int.sub_zero, e4]
  have key := negR_scale (A := (rtI a b d c).a) hd h2 hg
  rw [← e1, ← e2] at key
  exact key.symm
theorem under_iff {r : Rt} (h : RtOk r) {x : Int × Int} (hx : 0 < x.2) : flR (rtI (r.a * x.2 - r.c * x.1) (r.b * x.2) r.d (r.c * x.2)) < 0 ↔ lessR r x = true := by
  rw [lessR_iff h hx]
  exact fl_neg (Int.mul_pos h.c0 hx) (Int.mul_ne_zero h.b0 (by omega)) h.dd
/-- the ends close about it -/
def lowR (r : Rt) (W : Int) : Int := r.a * W + stI (r.b * W) r.d
theorem end_low {r : Rt} (h : RtOk r) {W : Int} (hW : 0 < W) : lessR r (cutI (lowR r W) (r.c * W)) = false := by
  have hD : 0 < r.c * W := Int.mul_pos h.c0 hW
  have hx := cut_pos (a := lowR r W) hD
  have hm := cut_mul (a := lowR r W) hD
  have key : ¬ NegR (r.a * (cutI (lowR r W) (r.c * W)).2 - r.c * (cutI (lowR r W) (r.c * W)).1) (r.b * (cutI (lowR r W) (r.c * W)).2) r.d := by
    generalize cutI (lowR r W) (r.c * W) = x at *
    rw [← negR_scale h.dd (Int.mul_ne_zero h.b0 (by omega)) hD]
    have e1 : r.c * W * (r.a * x.2 - r.c * x.1) = (r.c * x.2) * (r.a * W - lowR r W) := by grind
    have e2 : r.c * W * (r.b * x.2) = (r.c * x.2) * (r.b * W) := by grind
    rw [e1, e2, negR_scale h.dd (Int.mul_ne_zero h.b0 (by omega)) (Int.mul_pos h.c0 hx)]
    unfold NegR lowR
    omega
  rw [← lessR_iff h hx] at key
  simpa using key
theorem end_high {r : Rt} (h : RtOk r) {W : Int} (hW : 0 < W) : lessR r (cutI (lowR r W + 1) (r.c * W)) = true := by
  have hD : 0 < r.c * W := Int.mul_pos h.c0 hW
  have hx := cut_pos (a := lowR r W + 1) hD
  have hm := cut_mul (a := lowR r W + 1) hD
  rw [lessR_iff h hx]
  generalize cutI (lowR r W + 1) (r.c * W) = x at *
  rw [← negR_scale h.dd (Int.mul_ne_zero h.b0 (by omega)) hD]
  have e1 : r.c * W * (r.a * x.2 - r.c * x.1) = (r.c * x.2) * (r.a * W - lowR r W - 1) := by grind
  have e2 : r.c * W * (r.b * x.2) = (r.c * x.2) * (r.b * W) := by grind
  rw [e1, e2, negR_scale h.dd (Int.mul_ne_zero h.b0 (by omega)) (Int.mul_pos h.c0 hx)]
  unfold NegR lowR
  omega
theorem cut_fl {x y : Int} (hy : 0 < y) : (cutI x y).1 / (cutI x y).2 = x / y := by
  have h1 := cut_a (a := x) hy
  have h2 := cut_b (a := x) hy
  have hg := g_pos (a := x) hy
  have key := Int.mul_ediv_mul_of_pos_left (cutI x y).1 (cutI x y).2 hg
  rw [h1, h2] at key
  exact key.symm
theorem low_fl {r : Rt} : r.a * 1 + stI (r.b * 1) r.d = r.a + stI r.b r.d := by rw [Int.mul_one, Int.mul_one]
end
end Pw
/-! the sign of A + B root d: sums, products, one over it -/
namespace Pw
/-- A + B root d is above 0 (B not 0) -/
def Ps (A B d : Int) : Prop := 0 ≤ A + stI B d
section
variable {A B C D a b c d m t : Int}
theorem ps_not : Ps A B d ↔ ¬ NegR A B d := by
  unfold Ps NegR
  omega
theorem st_neg (hB : B ≠ 0) : stI (-B) d = -stI B d - 1 := by
  unfold stI
  rw [Int.neg_mul_neg]
  by_cases h : 0 < B
  · rw [if_pos h, if_neg (by omega)]
  · rw [if_neg h, if_pos (by omega)]
    omega
theorem ps_neg (hB : B ≠ 0) : Ps (-A) (-B) d ↔ ¬ Ps A B d := by
  unfold Ps
  rw [st_neg hB]
  omega
theorem ps_or (hB : B ≠ 0) : Ps A B d ∨ Ps (-A) (-B) d := by
  rw [ps_neg hB]
  exact Classical.em _
theorem sq_ne (hd : RootD d) (hB : B ≠ 0) : B * B * d ≠ A * A := by
  have hne := noSq_mul (A := A.natAbs) hd.ns (show 0 < B.natAbs by omega)
  rw [natAbs_sq A, natAbs_sq B]
  intro e
  apply hne
  have h2 : d = ((d.toNat : Nat) : Int) := by have := hd.pos; omega
  rw [h2, ← Int.natCast_mul] at e
  exact Int.ofNat.inj e
theorem sq_nn (A : Int) : 0 ≤ A * A := by rw [natAbs_sq]; exact Int.natCast_nonneg _
theorem sq_pos (hB : B ≠ 0) : 0 < B * B := by
  rw [natAbs_sq]
  have : 0 < B.natAbs * B.natAbs := Nat.mul_pos (by omega) (by omega)
  omega
/-- by the norm -/
theorem ps_iff (hd : RootD d) (hB : B ≠ 0) : Ps A B d ↔ (B * B * d < A * A ∧ 0 < A) ∨ (A * A < B * B * d ∧ 0 < B) := by
  rw [ps_not, negR_iff hd hB]
  have hne := sq_ne (A := A) hd hB
  have h1 := Int.mul_pos (sq_pos hB) hd.pos
  have hA0 : A = 0 → A * A = 0 := fun h => by rw [h]; rfl
  by_cases h : 0 < B
  · rw [if_pos h]
    omega
  · rw [if_neg h]
    omega
theorem abs_of_sq {u v : Int} (h : v * v < u * u) (hu : 0 < u) : 0 < u + v ∧ 0 < u - v := by
  have key : ∀ w : Int, w * w < u * u → w < u := fun w hw => by
    rcases Int.lt_or_le w u with q | q
    · exact q
    · have := Int.mul_le_mul q q (Int.le_of_lt hu) (by omega)
      omega
  have h1 := key v h
  have h2 := key (-v) (by rw [Int.neg_mul_neg]; exact h)
  omega
theorem mul_lt_mul_sq {p q r s : Int} (h1 : p < q) (h2 : r < s) (hp : 0 ≤ p) (hr : 0 ≤ r) : p * r < q * s := by
  have a1 : p * r ≤ q * r := Int.mul_le_mul_of_nonneg_right (Int.le_of_lt h1) hr
  have a2 : q * r < q * s := Int.mul_lt_mul_of_pos_left h2 (by omega)
  omega
theorem ps_mul (hd : RootD d) (hB : B ≠ 0) (hD : D ≠ 0) (hn : A * D + B * C ≠ 0) (h1 : Ps A B d) (h2 : Ps C D d) : Ps (A * C + B * D * d) (A * D + B * C) d := by
  rw [ps_iff hd hB] at h1
  rw [ps_iff hd hD] at h2
  rw [ps_iff hd hn]
  have eN : (A * C + B * D * d) * (A * C + B * D * d) - (A * D + B * C) * (A * D + B * C) * d = (A * A - B * B * d) * (C * C - D * D * d) := by grind
  have hBd := Int.le_of_lt (Int.mul_pos (sq_pos hB) hd.pos)
  have hDd := Int.le_of_lt (Int.mul_pos (sq_pos hD) hd.pos)
  rcases h1 with ⟨n1, p1⟩ | ⟨n1, p1⟩
  · rcases h2 with ⟨n2, p2⟩ | ⟨n2, p2⟩
    · left
      have hN : 0 < (A * A - B * B * d) * (C * C - D * D * d) := Int.mul_pos (by omega) (by omega)
      refine ⟨by omega, ?_⟩
      have k := mul_lt_mul_sq n1 n2 hBd hDd
      exact (abs_of_sq (u := A * C) (v := B * D * d) (by grind) (Int.mul_pos p1 p2)).1
    · right
      have hN : (A * A - B * B * d) * (C * C - D * D * d) < 0 := Int.mul_neg_of_pos_of_neg (by omega) (by omega)
      refine ⟨by omega, ?_⟩
      have k := mul_lt_mul_sq n1 n2 hBd (sq_nn C)
      have k2 : d * ((B * C) * (B * C)) < d * ((A * D) * (A * D)) := by grind
      exact (abs_of_sq (u := A * D) (v := B * C) (Int.lt_of_mul_lt_mul_left k2 (Int.le_of_lt hd.pos)) (Int.mul_pos p1 p2)).1
  · rcases h2 with ⟨n2, p2⟩ | ⟨n2, p2⟩
    · right
      have hN : (A * A - B * B * d) * (C * C - D * D * d) < 0 := Int.mul_neg_of_neg_of_pos (by omega) (by omega)
      refine ⟨by omega, ?_⟩
      have k := mul_lt_mul_sq n1 n2 (sq_nn A) hDd
      have k2 : d * ((A * D) * (A * D)) < d * ((B * C) * (B * C)) := by grind
      have := (abs_of_sq (u := B * C) (v := A * D) (Int.lt_of_mul_lt_mul_left k2 (Int.le_of_lt hd.pos)) (Int.mul_pos p1 p2)).1
      omega
    · left
      have hN : 0 < (A * A - B * B * d) * (C * C - D * D * d) := Int.mul_pos_of_neg_of_neg (by omega) (by omega)
      refine ⟨by omega, ?_⟩
      have k := mul_lt_mul_sq n1 n2 (sq_nn A) (sq_nn C)
      have k1 : (A * C) * (A * C) < (B * D * d) * (B * D * d) := by grind
      have k3 : 0 < B * D * d := Int.mul_pos (Int.mul_pos p1 p2) hd.pos
      have := (abs_of_sq (u := B * D * d) (v := A * C) k1 k3).1
      omega
theorem ps_scale (hd : RootD d) (hB : B ≠ 0) (hg : 0 < t) : Ps (t * A) (t * B) d ↔ Ps A B d := by
  rw [ps_not, ps_not, negR_scale hd hB hg]
theorem ps_more (h : Ps A B d) (ht : 0 ≤ t) : Ps (A + t) B d := by
  unfold Ps at *
  omega
/-! floors of B root d add up -/
theorem isq_add {d x y : Nat} : isq (x * x * d) + isq (y * y * d) ≤ isq ((x + y) * (x + y) * d) := by
  rw [le_isq]
  have h1 := isq_le (x * x * d)
  have h2 := isq_le (y * y * d)
  generalize isq (x * x * d) = k at *
  generalize isq (y * y * d) = l at *
  have h3 : k * l ≤ x * y * d := by
    have : (k * l) * (k * l) ≤ (x * y * d) * (x * y * d) := by
      have := Nat.mul_le_mul h1 h2
      grind
    exact Nat.mul_self_le_mul_self_iff.mp this
  grind
theorem isq_add2 {d x y : Nat} : isq ((x + y) * (x + y) * d) ≤ isq (x * x * d) + isq (y * y * d) + 1 := by
  have h1 := lt_isq (x * x * d)
  have h2 := lt_isq (y * y * d)
  have key : isq ((x + y) * (x + y) * d) < isq (x * x * d) + isq (y * y * d) + 2 := by
    rw [isq_lt]
    generalize isq (x * x * d) = k at *
    generalize isq (y * y * d) = l at *
    have h3 : x * y * d ≤ (k + 1) * (l + 1) := by
      have : (x * y * d) * (x * y * d) ≤ ((k + 1) * (l + 1)) * ((k + 1) * (l + 1)) := by
        have := Nat.mul_le_mul (Nat.le_of_lt h1) (Nat.le_of_lt h2)
        grind
      exact Nat.mul_self_le_mul_self_iff.mp this
    grind
  omega
theorem st_nat {n : Nat} (hn : 0 < n) (hd : 0 < d) : stI (n : Int) d = (isq (n * n * d.toNat) : Int) := by
  unfold stI
  rw [if_pos (by omega), sq_toNat _ _ hd, Int.natAbs_natCast]
theorem st_add (hd : RootD d) (hB : B ≠ 0) (hD : D ≠ 0) (hn : B + D ≠ 0) : stI B d + stI D d ≤ stI (B + D) d := by
  have pos := hd.pos
  have key : ∀ x y : Nat, 0 < x → 0 < y → stI (x : Int) d + stI (y : Int) d ≤ stI ((x + y : Nat) : Int) d ∧ stI ((x + y : Nat) : Int) d ≤ stI (x : Int) d + stI (y : Int) d + 1 := fun x y hx hy => by
    rw [st_nat hx pos, st_nat hy pos, st_nat (by omega) pos]
    have h1 := @isq_add d.toNat x y
    have h2 := @isq_add2 d.toNat x y
    omega
  have neg : ∀ x : Nat, 0 < x → stI (-(x : Int)) d = -stI (x : Int) d - 1 := fun x hx => st_neg (by omega)
  rcases Int.lt_or_le 0 B with h1 | h1
  · obtain ⟨x, rfl⟩ := Int.eq_ofNat_of_zero_le (Int.le_of_lt h1)
    rcases Int.lt_or_le 0 D with h2 | h2
    · obtain ⟨y, rfl⟩ := Int.eq_ofNat_of_zero_le (Int.le_of_lt h2)
      have := (key x y (by omega) (by omega)).1
      rw [Int.natCast_add] at this
      exact this
    · obtain ⟨y, hy⟩ := Int.eq_ofNat_of_zero_le (show 0 ≤ -D by omega)
      have eD : D = -(y : Int) := by omega
      subst eD
      rw [neg y (by omega)]
      rcases Nat.lt_or_ge y x with q | q
      · have k := (key (x - y) y (by omega) (by omega)).2
        rw [Nat.sub_add_cancel (by omega)] at k
        rw [show (x : Int) + -(y : Int) = ((x - y : Nat) : Int) by omega]
        omega
      · have k := (key (y - x) x (by omega) (by omega)).1
        rw [Nat.sub_add_cancel (by omega)] at k
        rw [show (x : Int) + -(y : Int) = -((y - x : Nat) : Int) by omega, neg (y - x) (by omega)]
        omega
  · obtain ⟨x, hx⟩ := Int.eq_ofNat_of_zero_le (show 0 ≤ -B by omega)
    have eB : B = -(x : Int) := by omega
    subst eB
    rw [neg x (by omega)]
    rcases Int.lt_or_le 0 D with h2 | h2
    · obtain ⟨y, rfl⟩ := Int.eq_ofNat_of_zero_le (Int.le_of_lt h2)
      rcases Nat.lt_or_ge x y with q | q
      · have k := (key (y - x) x (by omega) (by omega)).2
        rw [Nat.sub_add_cancel (by omega)] at k
        rw [show -(x : Int) + (y : Int) = ((y - x : Nat) : Int) by omega]
        omega
      · have k := (key (x - y) y (by omega) (by omega)).1
        rw [Nat.sub_add_cancel (by omega)] at k
        rw [show -(x : Int) + (y : Int) = -((x - y : Nat) : Int) by omega, neg (x - y) (by omega)]
        omega
    · obtain ⟨y, hy⟩ := Int.eq_ofNat_of_zero_le (show 0 ≤ -D by omega)
      have eD : D = -(y : Int) := by omega
      subst eD
      rw [neg y (by omega), show -(x : Int) + -(y : Int) = -((x + y : Nat) : Int) by omega, neg (x + y) (by omega)]
      have := (key x y (by omega) (by omega)).2
      omega
theorem ps_add (hd : RootD d) (hB : B ≠ 0) (hD : D ≠ 0) (hn : B + D ≠ 0) (h1 : Ps A B d) (h2 : Ps C D d) : Ps (A + C) (B + D) d := by
  have := st_add hd hB hD hn
  unfold Ps at *
  omega
end
end Pw
/-! a root's number and its next rest -/
namespace Pw
section
variable {A B C D a b c d m t : Int}
theorem g3_neg : g3 (-a) (-b) (-c) = g3 a b c := by
  unfold g3
  rw [Int.neg_gcd, Int.gcd_neg, Int.gcd_neg]
theorem rtI_neg (hc : c < 0) : rtI a b d c = rtI (-a) (-b) d (-c) := by
  have h1 : rtI a b d c = ⟨a / (-g3 a b c), b / (-g3 a b c), d, c / (-g3 a b c)⟩ := if_pos hc
  rw [h1, rtI_pos (by omega), g3_neg]
  have hg := g3_pos (a := a) (b := b) (show c ≠ 0 by omega)
  obtain ⟨x, hx⟩ := @g3_a a b c
  obtain ⟨y, hy⟩ := @g3_b a b c
  obtain ⟨z, hz⟩ := @g3_c a b c
  generalize g3 a b c = g at *
  have e : ∀ w : Int, g * w / (-g) = -(g * w) / g := fun w => by
    rw [Int.ediv_neg, Int.mul_ediv_cancel_left _ (by omega), ← Int.mul_neg, Int.mul_ediv_cancel_left _ (by omega)]
  rw [hx, hy, hz, e, e, e]
theorem rtI_scale {k : Int} (hk : 0 < k) (hc : 0 < c) : rtI (k * a) (k * b) d (k * c) = rtI a b d c := by
  rw [rtI_pos (Int.mul_pos hk hc), rtI_pos hc, g3_mul hk]
  have hg := g3_pos (a := a) (b := b) (show c ≠ 0 by omega)
  congr 1 <;> exact Int.mul_ediv_mul_of_pos _ _ hk
theorem flR_rtI (hc : 0 < c) (hb : b ≠ 0) (hd : RootD d) : flR (rtI a b d c) = flI a b d c := by
  have hg := g3_pos (a := a) (b := b) (show c ≠ 0 by omega)
  obtain ⟨e1, e2, e3, e4⟩ := rtI_mul (a := a) (b := b) (d := d) hc
  have h1 : 0 < (rtI a b d c).c := by
    rw [rtI_pos hc]
    exact Int.ediv_pos_of_pos_of_dvd hc (Int.le_of_lt hg) g3_c
  have h2 : (rtI a b d c).b ≠ 0 := by intro z; rw [z] at e2; omega
  have key : ∀ m, flR (rtI a b d c) < m ↔ flI a b d c < m := fun m => by
    unfold flR
    rw [fl_lt h1, fl_lt hc, e4]
    have k := negR_scale (A := (rtI a b d c).a - m * (rtI a b d c).c) hd h2 hg
    rw [Int.mul_sub, ← e1, ← e2, show g3 a b c * (m * (rtI a b d c).c) = m * (g3 a b c * (rtI a b d c).c) by grind, ← e3] at k
    exact k.symm
  have k1 := key (flR (rtI a b d c))
  have k2 := key (flI a b d c)
  omega
/-- one over a root -/
def turnR (r : Rt) : Rt := rtI (r.c * r.a) (-r.c * r.b) r.d (r.a * r.a - r.b * r.b * r.d)
theorem turn_lt {r : Rt} (h : RtOk r) (hp : Ps r.a r.b r.d) (hm : 0 < m) : flR (turnR r) < m ↔ Ps (m * r.a - r.c) (m * r.b) r.d := by
  have hd := h.dd
  have hb := h.b0
  have hc := h.c0
  have hne := sq_ne (A := r.a) hd hb
  have hmb : m * r.b ≠ 0 := Int.mul_ne_zero (by omega) hb
  have hcb : r.c * r.b ≠ 0 := Int.mul_ne_zero (by omega) hb
  -- for n = + norm or - norm, above 0
  have key : ∀ n s : Int, 0 < n → s * s = 1 → n = s * (r.a * r.a - r.b * r.b * r.d) → (flI (s * (r.c * r.a)) (s * (-r.c * r.b)) r.d n < m ↔ Ps (m * r.a - r.c) (m * r.b) r.d) := fun n s hn hs hN => by
    have hsc : s * (-r.c * r.b) ≠ 0 := by
      refine Int.mul_ne_zero ?_ (Int.mul_ne_zero (by omega) hb)
      intro z; rw [z] at hs; omega
    rw [fl_lt hn]
    -- y = m n - (..), y x = n (m x - c)
    have e1 : (m * n - s * (r.c * r.a)) * r.a + (-(s * (-r.c * r.b))) * r.b * r.d = n * (m * r.a - r.c) := by grind
    have e2 : (m * n - s * (r.c * r.a)) * r.b + (-(s * (-r.c * r.b))) * r.a = n * (m * r.b) := by grind
    have hnm : n * (m * r.b) ≠ 0 := Int.mul_ne_zero (by omega) hmb
    have hsc' : -(s * (-r.c * r.b)) ≠ 0 := by omega
    have f1 : Ps (m * n - s * (r.c * r.a)) (-(s * (-r.c * r.b))) r.d → Ps (m * r.a - r.c) (m * r.b) r.d := fun q => by
      have := ps_mul hd hsc' hb (by rw [e2]; exact hnm) q hp
      rw [e1, e2] at this
      exact (ps_scale hd hmb hn).mp this
    have f2 : Ps (-(m * n - s * (r.c * r.a))) (-(-(s * (-r.c * r.b)))) r.d → ¬ Ps (m * r.a - r.c) (m * r.b) r.d := fun q => by
      have e1' : (-(m * n - s * (r.c * r.a))) * r.a + (-(-(s * (-r.c * r.b)))) * r.b * r.d = n * (-(m * r.a - r.c)) := by grind
      have e2' : (-(m * n - s * (r.c * r.a))) * r.b + (-(-(s * (-r.c * r.b)))) * r.a = n * (-(m * r.b)) := by grind
      have := ps_mul hd (show -(-(s * (-r.c * r.b))) ≠ 0 by omega) hb (by rw [e2']; exact Int.mul_ne_zero (by omega) (by omega)) q hp
      rw [e1', e2'] at this
      exact (ps_neg hmb).mp ((ps_scale hd (by omega) hn).mp this)
    have f3 : NegR (s * (r.c * r.a) - m * n) (s * (-r.c * r.b)) r.d ↔ Ps (m * n - s * (r.c * r.a)) (-(s * (-r.c * r.b))) r.d := by
      have := ps_neg (A := s * (r.c * r.a) - m * n) (d := r.d) hsc
      rw [show -(s * (r.c * r.a) - m * n) = m * n - s * (r.c * r.a) by omega] at this
      rw [this, ps_not, Classical.not_not]
    rw [f3]
    constructor
    · exact f1
    · intro q
      rcases ps_or (A := m * n - s * (r.c * r.a)) (d := r.d) hsc' with z | z
      · exact z
      · exact absurd q (f2 z)
  unfold turnR
  rcases Int.lt_or_le 0 (r.a * r.a - r.b * r.b * r.d) with hN | hN
  · rw [flR_rtI hN (Int.mul_ne_zero (by omega) hb) hd]
    have := key _ 1 hN rfl (by omega)
    rwa [Int.one_mul, Int.one_mul] at this
  · rw [rtI_neg (by omega), flR_rtI (by omega) (by have := Int.mul_ne_zero (show -r.c ≠ 0 by omega) hb; omega) hd]
    have := key (-(r.a * r.a - r.b * r.b * r.d)) (-1) (by omega) rfl (by omega)
    rwa [Int.neg_one_mul, Int.neg_one_mul] at this
/-- held between 0 and 1 -/
structure Rt01 (r : Rt) : Prop where
  ok : RtOk r
  lo : Ps r.a r.b r.d
  hi : Ps (r.c - r.a) (-r.b) r.d
theorem fl_ge {r : Rt} (h : RtOk r) (m : Int) : m ≤ flR r ↔ Ps (r.a - m * r.c) r.b r.d := by
  have := fl_lt (a := r.a) (b := r.b) (d := r.d) (m := m) h.c0
  rw [ps_not, ← this]
  show m ≤ flI _ _ _ _ ↔ _
  omega
theorem rt01_iff {r : Rt} (h : RtOk r) : flR r = 0 ↔ Rt01 r := by
  have h0 := fl_ge h 0
  have h1 := fl_ge h 1
  rw [Int.zero_mul, Int.sub_zero] at h0
  rw [Int.one_mul] at h1
  have h2 := ps_neg (A := r.a - r.c) (d := r.d) h.b0
  rw [show -(r.a - r.c) = r.c - r.a by omega] at h2
  constructor
  · intro e
    exact ⟨h, h0.mp (by omega), h2.mpr fun z => by have := h1.mpr z; omega⟩
  · intro k
    have a1 := h0.mpr k.lo
    have a2 : ¬ 1 ≤ flR r := fun z => h2.mp k.hi (h1.mp z)
    omega
section
variable {r : Rt}
/-- f < 1 over r < f + 1 -/
theorem turn_f (k : Rt01 r) : 1 ≤ flR (turnR r) ∧ Ps ((flR (turnR r) + 1) * r.a - r.c) ((flR (turnR r) + 1) * r.b) r.d ∧ Ps (r.c - flR (turnR r) * r.a) (-(flR (turnR r) * r.b)) r.d := by
  have hf : 1 ≤ flR (turnR r) := by
    have := turn_lt k.ok k.lo (m := 1) (by decide)
    rw [Int.one_mul, Int.one_mul] at this
    have h2 := ps_neg (A := r.a - r.c) (d := r.d) k.ok.b0
    rw [show -(r.a - r.c) = r.c - r.a by omega] at h2
    have := mt this.mp (h2.mp k.hi)
    omega
  refine ⟨hf, (turn_lt k.ok k.lo (by omega)).mp (by omega), ?_⟩
  have h1 := mt (turn_lt k.ok k.lo (m := flR (turnR r)) (by omega)).mpr (by omega)
  have hfb : flR (turnR r) * r.b ≠ 0 := Int.mul_ne_zero (by omega) k.ok.b0
  have h2 := ps_neg (A := flR (turnR r) * r.a - r.c) (d := r.d) hfb
  rw [show -(flR (turnR r) * r.a - r.c) = r.c - flR (turnR r) * r.a by omega] at h2
  exact h2.mpr h1
end
end
end Pw
namespace Pw
inductive Bo where
  | syl | eng | pie | ost | pro
deriving DecidableEq
def Bo.pr : Bo → Bool
  | .pro => true
  | _ => false
/-- the root less 1 for products -/
def baseR (k : Bo) (r : Rt) : Rt := match k with
  | .pro => ⟨r.a - r.c, r.b, r.d, r.c⟩
  | _ => r
def numR (k : Bo) (r : Rt) : Int := match k with
  | .pie => flR (turnR r)
  | .ost => flR (turnR r)
  | k => flR (turnR (baseR k r)) + 1
/-- the next rest, not in least terms -/
def rawR (k : Bo) (r : Rt) (n : Int) : Rt := match k with
  | .syl => ⟨r.a * n - r.c, r.b * n, r.d, r.c * n⟩
  | .eng => ⟨r.a * n - r.c, r.b * n, r.d, r.c⟩
  | .pie => ⟨r.c - r.a * n, -r.b * n, r.d, r.c⟩
  | .ost => ⟨r.c - r.a * n, -r.b * n, r.d, r.c * n⟩
  | .pro => ⟨r.a * n, r.b * n, r.d, r.c * (n + 1)⟩
def redR (r : Rt) : Rt := rtI r.a r.b r.d r.c
def pastR (k : Bo) (r : Rt) (n : Int) : Rt := redR (rawR k r n)
/-- a number put ahead, not in least terms -/
def putR (k : Bo) (r : Rt) (n : Int) : Rt := match k with
  | .syl => ⟨r.a * n + r.c, r.b * n, r.d, r.c * n⟩
  | .eng => ⟨r.a + r.c, r.b, r.d, r.c * n⟩
  | .pie => ⟨r.c - r.a, -r.b, r.d, r.c * n⟩
  | .ost => ⟨r.c - r.a * n, -r.b * n, r.d, r.c * n⟩
  | .pro => ⟨r.a * (n + 1), r.b * (n + 1), r.d, r.c * n⟩
def sclR (g : Int) (r : Rt) : Rt := ⟨g * r.a, g * r.b, r.d, g * r.c⟩
theorem redR_scl {g : Int} {r : Rt} (hg : 0 < g) (hc : 0 < r.c) : redR (sclR g r) = redR r := rtI_scale hg hc
theorem redR_mul {r : Rt} (hc : 0 < r.c) : r = sclR (g3 r.a r.b r.c) (redR r) := by
  obtain ⟨e1, e2, e3, e4⟩ := rtI_mul (a := r.a) (b := r.b) (d := r.d) hc
  unfold sclR redR
  cases r
  simp only at *
  rw [← e1, ← e2, ← e3, e4]
theorem redR_id {r : Rt} (h : RtOk r) : redR r = r := rtI_id h
theorem putR_scl (k : Bo) (r : Rt) (n g : Int) : putR k (sclR g r) n = sclR g (putR k r n) := by
  cases k <;> simp only [putR, sclR, Rt.mk.injEq] <;> refine ⟨?_, ?_, trivial, ?_⟩ <;> grind
/-- held by a book -/
def HeldR (k : Bo) (r : Rt) : Prop := RtOk r ∧ Rt01 (baseR k r)
theorem base_ok {k : Bo} {r : Rt} (h : RtOk r) : RtOk (baseR k r) := by
  have h2 : RtOk ⟨r.a - r.c, r.b, r.d, r.c⟩ := by
    refine ⟨h.b0, h.dd, h.d1, h.c0, ?_⟩
    have h1 : ∀ x y z : Int, g3 (x - z) y z = g3 x y z := fun x y z => by
      have o : ∀ u v w k : Int, k ∣ u → k ∣ v → k ∣ w → k ∣ g3 u v w := fun u v w k h1 h2 h3 => Int.dvd_coe_gcd (Int.dvd_coe_gcd h1 h2) h3
      refine Int.dvd_antisymm (Int.natCast_nonneg _) (Int.natCast_nonneg _) (o _ _ _ _ ?_ g3_b g3_c) (o _ _ _ _ (Int.dvd_sub g3_a g3_c) g3_b g3_c)
      have := Int.dvd_add (g3_a (a := x - z) (b := y) (c := z)) (g3_c (a := x - z) (b := y) (c := z))
      rwa [Int.sub_add_cancel] at this
    exact (h1 _ _ _).trans h.g
  cases k <;> first | exact h | exact h2
theorem num_pos {k : Bo} {r : Rt} (h : HeldR k r) : 1 ≤ numR k r := by
  have := (turn_f h.2).1
  cases k <;> simp only [numR] <;> first | exact this | omega
theorem raw_c {k : Bo} {r : Rt} {n : Int} (h : RtOk r) (hn : 1 ≤ n) : 0 < (rawR k r n).c ∧ (rawR k r n).b ≠ 0 ∧ (rawR k r n).d = r.d := by
  have h1 : 0 < r.c * n := Int.mul_pos h.c0 (by omega)
  have h2 : r.b * n ≠ 0 := Int.mul_ne_zero h.b0 (by omega)
  have h3 : -r.b * n ≠ 0 := Int.mul_ne_zero (by have := h.b0; omega) (by omega)
  have h4 : 0 < r.c * (n + 1) := Int.mul_pos h.c0 (by omega)
  have h5 := h.c0
  cases k <;> exact ⟨by assumption, by assumption, rfl⟩
/-- .. and its number put ahead again makes it -/
theorem put_past {k : Bo} {r : Rt} {n : Int} (h : RtOk r) (hn : 1 ≤ n) : redR (putR k (pastR k r n) n) = r := by
  obtain ⟨hc, hb, hd⟩ := raw_c (k := k) h hn
  have hg : 0 < g3 (rawR k r n).a (rawR k r n).b (rawR k r n).c := g3_pos (by omega)
  have e := redR_mul hc
  have hcr : 0 < (redR (rawR k r n)).c := by
    have : (redR (rawR k r n)).c = (rawR k r n).c / g3 (rawR k r n).a (rawR k r n).b (rawR k r n).c := by
      unfold redR
      rw [rtI_pos hc]
    rw [this]
    exact Int.ediv_pos_of_pos_of_dvd hc (Int.le_of_lt hg) g3_c
  have hcp : 0 < (putR k (redR (rawR k r n)) n).c := by
    cases k <;> exact Int.mul_pos hcr (by omega)
  show redR (putR k (redR (rawR k r n)) n) = r
  rw [← redR_scl hg hcp, ← putR_scl, ← e]
  have h5 := h.c0
  have key : ∃ t : Int, 0 < t ∧ putR k (rawR k r n) n = sclR t r := by
    have nn : 0 < n * n := Int.mul_pos (by omega) (by omega)
    have n1 : 0 < n * (n + 1) := Int.mul_pos (by omega) (by omega)
    cases k
    · exact ⟨n * n, nn, by simp only [putR, rawR, sclR, Rt.mk.injEq]; refine ⟨?_, ?_, trivial, ?_⟩ <;> grind⟩
    · exact ⟨n, by omega, by simp only [putR, rawR, sclR, Rt.mk.injEq]; refine ⟨?_, ?_, trivial, ?_⟩ <;> grind⟩
    · exact ⟨n, by omega, by simp only [putR, rawR, sclR, Rt.mk.injEq]; refine ⟨?_, ?_, trivial, ?_⟩ <;> grind⟩
    · exact ⟨n * n, nn, by simp only [putR, rawR, sclR, Rt.mk.injEq]; refine ⟨?_, ?_, trivial, ?_⟩ <;> grind⟩
    · exact ⟨n * (n + 1), n1, by simp only [putR, rawR, sclR, Rt.mk.injEq]; refine ⟨?_, ?_, trivial, ?_⟩ <;> grind⟩
  obtain ⟨t, ht, et⟩ := key
  rw [et, redR_scl ht h5, redR_id h]
/-- signs in least terms -/
theorem held_red {r : Rt} (hc : 0 < r.c) (hb : r.b ≠ 0) (hd : RootD r.d) (hd1 : 1 < r.d) (lo : Ps r.a r.b r.d) (hi : Ps (r.c - r.a) (-r.b) r.d) : Rt01 (redR r) := by
  have hg : 0 < g3 r.a r.b r.c := g3_pos (by omega)
  have e := redR_mul hc
  have ok : RtOk (redR r) := rtI_ok hc hb hd hd1
  have ed : (redR r).d = r.d := by
    unfold redR
    rw [rtI_pos hc]
  generalize g3 r.a r.b r.c = g at *
  have e1 : r.a = g * (redR r).a := congrArg Rt.a e
  have e2 : r.b = g * (redR r).b := congrArg Rt.b e
  have e3 : r.c = g * (redR r).c := congrArg Rt.c e
  refine ⟨ok, ?_, ?_⟩
  · rw [e1, e2] at lo
    rw [ed]
    exact (ps_scale hd ok.b0 hg).mp lo
  · rw [e1, e2, e3, ← Int.mul_sub, ← Int.mul_neg] at hi
    rw [ed]
    exact (ps_scale hd (by have := ok.b0; omega) hg).mp hi
theorem base_red {k : Bo} {r : Rt} (hc : 0 < r.c) : baseR k (redR r) = redR (baseR k r) := by
  cases k
  case pro =>
    have hg : 0 < g3 r.a r.b r.c := g3_pos (by omega)
    have e := redR_mul hc
    have h1 : 0 < (redR r).c := by
      unfold redR
      rw [rtI_pos hc]
      exact Int.ediv_pos_of_pos_of_dvd hc (Int.le_of_lt hg) g3_c
    have hgg : g3 (redR r).a (redR r).b (redR r).c = 1 := by
      have q := g3_mul (a := (redR r).a) (b := (redR r).b) (c := (redR r).c) hg
      have e1 : r.a = g3 r.a r.b r.c * (redR r).a := congrArg Rt.a e
      have e2 : r.b = g3 r.a r.b r.c * (redR r).b := congrArg Rt.b e
      have e3 : r.c = g3 r.a r.b r.c * (redR r).c := congrArg Rt.c e
      rw [← e1, ← e2, ← e3] at q
      exact Int.eq_of_mul_eq_mul_left (show g3 r.a r.b r.c ≠ 0 by omega) (by omega)
    have h2 : baseR .pro r = sclR (g3 r.a r.b r.c) (baseR .pro (redR r)) := by
      conv => lhs; rw [e]
      simp only [baseR, sclR, Rt.mk.injEq]
      refine ⟨?_, trivial, trivial, trivial⟩
      rw [Int.mul_sub]
    rw [h2, redR_scl (r := baseR .pro (redR r)) hg h1]
    have h3 : g3 ((redR r).a - (redR r).c) (redR r).b (redR r).c = 1 := by
      have o : ∀ u v w k : Int, k ∣ u → k ∣ v → k ∣ w → k ∣ g3 u v w := fun u v w k h1 h2 h3 => Int.dvd_coe_gcd (Int.dvd_coe_gcd h1 h2) h3
      rw [← hgg]
      refine Int.dvd_antisymm (Int.natCast_nonneg _) (Int.natCast_nonneg _) (o _ _ _ _ ?_ g3_b g3_c) (o _ _ _ _ (Int.dvd_sub g3_a g3_c) g3_b g3_c)
      have := Int.dvd_add (g3_a (a := (redR r).a - (redR r).c) (b := (redR r).b) (c := (redR r).c)) (g3_c (a := (redR r).a - (redR r).c) (b := (redR r).b) (c := (redR r).c))
      rwa [Int.sub_add_cancel] at this
    show _ = rtI ((redR r).a - (redR r).c) (redR r).b (redR r).d (redR r).c
    rw [rtI_pos h1, h3]
    simp [baseR]
  all_goals rfl
theorem past_held {k : Bo} {r : Rt} (h : HeldR k r) : HeldR k (pastR k r (numR k r)) := by
  have hn := num_pos h
  obtain ⟨hc, hb, hd⟩ := raw_c (k := k) h.1 hn
  have ok : RtOk (pastR k r (numR k r)) := rtI_ok hc hb (by rw [hd]; exact h.1.dd) (by rw [hd]; exact h.1.d1)
  refine ⟨ok, ?_⟩
  show Rt01 (baseR k (redR _))
  rw [base_red hc]
  obtain ⟨f1, f2, f3⟩ := turn_f h.2
  obtain ⟨h1, h2⟩ := h
  have dd := h1.dd
  have d1 := h1.d1
  have b0 := h1.b0
  have c0 := h1.c0
  cases k
  · -- sylvester
    simp only [baseR, numR] at *
    generalize flR (turnR r) = f at *
    have q2 : 0 < r.c * (f + 1) := Int.mul_pos c0 (by omega)
    have s := ps_add dd (show -(f * r.b) ≠ 0 by have := Int.mul_ne_zero (show f ≠ 0 by omega) b0; omega) (show -r.b ≠ 0 by omega) (show -(f * r.b) + -r.b ≠ 0 by have := Int.mul_ne_zero (show f + 1 ≠ 0 by omega) b0; grind) f3 h2.hi
    refine held_red hc hb (by rw [hd]; exact dd) (by rw [hd]; exact d1) ?_ ?_
    · show Ps (r.a * (f + 1) - r.c) (r.b * (f + 1)) r.d
      rw [Int.mul_comm r.a, Int.mul_comm r.b]; exact f2
    · show Ps (r.c * (f + 1) - (r.a * (f + 1) - r.c)) (-(r.b * (f + 1))) r.d
      have e1 : r.c * (f + 1) - (r.a * (f + 1) - r.c) = r.c - f * r.a + (r.c - r.a) + r.c * f := by grind
      have e2 : -(r.b * (f + 1)) = -(f * r.b) + -r.b := by grind
      rw [e1, e2]
      exact ps_more s (Int.mul_nonneg (by omega) (by omega))
  · simp only [baseR, numR] at *
    generalize flR (turnR r) = f at *
    have s := ps_add dd (show -(f * r.b) ≠ 0 by have := Int.mul_ne_zero (show f ≠ 0 by omega) b0; omega) (show -r.b ≠ 0 by omega) (show -(f * r.b) + -r.b ≠ 0 by have := Int.mul_ne_zero (show f + 1 ≠ 0 by omega) b0; grind) f3 h2.hi
    refine held_red hc hb (by rw [hd]; exact dd) (by rw [hd]; exact d1) ?_ ?_
    · show Ps (r.a * (f + 1) - r.c) (r.b * (f + 1)) r.d
      rw [Int.mul_comm r.a, Int.mul_comm r.b]; exact f2
    · show Ps (r.c - (r.a * (f + 1) - r.c)) (-(r.b * (f + 1))) r.d
      have e1 : r.c - (r.a * (f + 1) - r.c) = r.c - f * r.a + (r.c - r.a) := by grind
      have e2 : -(r.b * (f + 1)) = -(f * r.b) + -r.b := by grind
      rw [e1, e2]
      exact s
  · simp only [baseR, numR] at *
    generalize flR (turnR r) = f at *
    refine held_red hc hb (by rw [hd]; exact dd) (by rw [hd]; exact d1) ?_ ?_
    · show Ps (r.c - r.a * f) (-r.b * f) r.d
      have e2 : -r.b * f = -(f * r.b) := by grind
      rw [e2, Int.mul_comm r.a]; exact f3
    · show Ps (r.c - (r.c - r.a * f)) (-(-r.b * f)) r.d
      have e1 : r.c - (r.c - r.a * f) = f * r.a := by grind
      have e2 : -(-r.b * f) = f * r.b := by grind
      rw [e1, e2]
      exact (ps_scale dd b0 (by omega)).mpr h2.lo
  · simp only [baseR, numR] at *
    generalize flR (turnR r) = f at *
    refine held_red hc hb (by rw [hd]; exact dd) (by rw [hd]; exact d1) ?_ ?_
    · show Ps (r.c - r.a * f) (-r.b * f) r.d
      have e2 : -r.b * f = -(f * r.b) := by grind
      rw [e2, Int.mul_comm r.a]; exact f3
    · show Ps (r.c * f - (r.c - r.a * f)) (-(-r.b * f)) r.d
      have e1 : r.c * f - (r.c - r.a * f) = f * r.a + r.c * (f - 1) := by grind
      have e2 : -(-r.b * f) = f * r.b := by grind
      rw [e1, e2]
      exact ps_more ((ps_scale dd b0 (by omega)).mpr h2.lo) (Int.mul_nonneg (by omega) (by omega))
  · -- product
    simp only [baseR, numR] at *
    generalize flR (turnR ⟨r.a - r.c, r.b, r.d, r.c⟩) = f at *
    have lo := h2.lo
    have hi := h2.hi
    simp only at lo hi
    refine held_red (r := ⟨(rawR .pro r (f + 1)).a - (rawR .pro r (f + 1)).c, (rawR .pro r (f + 1)).b, (rawR .pro r (f + 1)).d, (rawR .pro r (f + 1)).c⟩) hc hb (by show RootD (rawR .pro r (f + 1)).d; rw [hd]; exact dd) (by show 1 < (rawR .pro r (f + 1)).d; rw [hd]; exact d1) ?_ ?_
    · show Ps (r.a * (f + 1) - r.c * (f + 1 + 1)) (r.b * (f + 1)) r.d
      have e1 : r.a * (f + 1) - r.c * (f + 1 + 1) = (f + 1) * (r.a - r.c) - r.c := by grind
      rw [e1, Int.mul_comm r.b]; exact f2
    · show Ps (r.c * (f + 1 + 1) - (r.a * (f + 1) - r.c * (f + 1 + 1))) (-(r.b * (f + 1))) r.d
      have e1 : r.c * (f + 1 + 1) - (r.a * (f + 1) - r.c * (f + 1 + 1)) = (f + 1) * (r.c - (r.a - r.c)) + r.c * 2 := by grind
      have e2 : -(r.b * (f + 1)) = (f + 1) * (-r.b) := by grind
      rw [e1, e2]
      exact ps_more ((ps_scale dd (by omega) (by omega)).mpr hi) (Int.mul_nonneg (by omega) (by omega))
end Pw
namespace Pw
/-! how great numbers and rests are -/
structure RtM (μ γ : Nat) (r : Rt) : Prop where
  a : r.a.natAbs < 2 ^ μ
  b : r.b.natAbs < 2 ^ μ
  d0 : 0 < r.d
  d : r.d < 2 ^ 20
  c : r.c.natAbs < 2 ^ γ
theorem st_le {b d : Int} {S : Nat} (hb : b ≠ 0) (hd : RootD d) (hS : d.toNat < (S + 1) * (S + 1)) : (stI b d).natAbs ≤ b.natAbs * (S + 1) := by
  have e := sq_toNat b d hd.pos
  have h1 : b.natAbs * b.natAbs * d.toNat < (b.natAbs * (S + 1)) * (b.natAbs * (S + 1)) := by
    have p : 0 < b.natAbs * b.natAbs := Nat.mul_pos (by omega) (by omega)
    have := Nat.mul_lt_mul_of_pos_left hS p
    grind
  have h2 := isq_lt.mpr h1
  unfold stI
  rw [e]
  split <;> omega
theorem turn_bound {r : Rt} (h : RtOk r) (hp : Ps r.a r.b r.d) {S : Nat} (hS : r.d.toNat < (S + 1) * (S + 1)) : flR (turnR r) < r.c * ((r.a.natAbs + r.b.natAbs * (S + 1) + 1 : Nat) : Int) := by
  obtain ⟨T, hT⟩ : ∃ T : Int, T = ((r.a.natAbs + r.b.natAbs * (S + 1) + 1 : Nat) : Int) := ⟨_, rfl⟩
  rw [← hT]
  have hd := h.dd
  have hb := h.b0
  have hc := h.c0
  have hT0 : 0 < T := by omega
  have hst := st_le hb hd hS
  have hst2 := st_neg (d := r.d) hb
  have hne := sq_ne (A := r.a) hd hb
  have hTb : T * r.b ≠ 0 := Int.mul_ne_zero (by omega) hb
  have goal : Ps (T * r.a - 1) (T * r.b) r.d := by
    rcases Int.lt_or_le 0 (r.a * r.a - r.b * r.b * r.d) with hN | hN
    · have q : Ps (T - r.a) r.b r.d := by
        unfold Ps
        omega
      have e2 : (T - r.a) * r.b + r.b * r.a = T * r.b := by grind
      have := ps_mul hd hb hb (by rw [e2]; exact hTb) q hp
      rw [e2, show (T - r.a) * r.a + r.b * r.b * r.d = T * r.a - (r.a * r.a - r.b * r.b * r.d) by grind] at this
      have := ps_more (t := r.a * r.a - r.b * r.b * r.d - 1) this (by omega)
      rwa [show T * r.a - (r.a * r.a - r.b * r.b * r.d) + (r.a * r.a - r.b * r.b * r.d - 1) = T * r.a - 1 by omega] at this
    · have q : Ps (T + r.a) (-r.b) r.d := by
        unfold Ps
        omega
      have e2 : (T + r.a) * r.b + -r.b * r.a = T * r.b := by grind
      have := ps_mul hd (show -r.b ≠ 0 by omega) hb (by rw [e2]; exact hTb) q hp
      rw [e2, show (T + r.a) * r.a + -r.b * r.b * r.d = T * r.a + (r.a * r.a - r.b * r.b * r.d) by grind] at this
      have := ps_more (t := -(r.a * r.a - r.b * r.b * r.d) - 1) this (by omega)
      rwa [show T * r.a + (r.a * r.a - r.b * r.b * r.d) + (-(r.a * r.a - r.b * r.b * r.d) - 1) = T * r.a - 1 by omega] at this
  rw [turn_lt h hp (Int.mul_pos hc hT0)]
  have e1 : r.c * T * r.a - r.c = r.c * (T * r.a - 1) := by grind
  have e2 : r.c * T * r.b = r.c * (T * r.b) := by grind
  rw [e1, e2]
  exact (ps_scale hd hTb hc).mpr goal
theorem turn_bits {r : Rt} {μ γ : Nat} (h : RtM μ γ r) (k : Rt01 r) : flR (turnR r) < 2 ^ (γ + μ + 11) := by
  have hd : r.d.toNat < (1023 + 1) * (1023 + 1) := by
    have := h.d
    omega
  have b := turn_bound k.ok k.lo hd
  have h1 := h.a
  have h2 := h.b
  have h3 := h.c
  have c0 := k.ok.c0
  obtain ⟨c, hc⟩ := Int.eq_ofNat_of_zero_le (Int.le_of_lt c0)
  rw [hc] at b h3
  rw [Int.natAbs_natCast] at h3
  have key : c * (r.a.natAbs + r.b.natAbs * (1023 + 1) + 1) ≤ 2 ^ γ * (2 ^ μ * 2 ^ 11) := Nat.mul_le_mul (Nat.le_of_lt h3) (by omega)
  rw [← Nat.pow_add, ← Nat.pow_add, ← Nat.add_assoc] at key
  have e : ((c * (r.a.natAbs + r.b.natAbs * (1023 + 1) + 1) : Nat) : Int) ≤ ((2 ^ (γ + μ + 11) : Nat) : Int) := Int.ofNat_le.mpr key
  rw [Int.natCast_mul, Int.natCast_pow] at e
  exact Int.lt_of_lt_of_le b e
theorem base_M {k : Bo} {r : Rt} {μ γ : Nat} (h : RtM μ γ r) (hg : γ ≤ μ) : RtM (μ + 1) γ (baseR k r) := by
  have h1 := h.a
  have h2 := h.b
  have h3 := h.c
  have h4 : 2 ^ γ ≤ 2 ^ μ := Nat.pow_le_pow_right (by decide) hg
  have e : 2 ^ (μ + 1) = 2 ^ μ * 2 := Nat.pow_succ 2 μ
  cases k
  case pro => exact ⟨by show (r.a - r.c).natAbs < _; omega, by show r.b.natAbs < _; omega, h.d0, h.d, h3⟩
  all_goals exact ⟨by show r.a.natAbs < _; omega, by show r.b.natAbs < _; omega, h.d0, h.d, h3⟩
theorem num_bits {k : Bo} {r : Rt} {μ γ : Nat} (h : RtM μ γ r) (hg : γ ≤ μ) (hh : HeldR k r) : numR k r ≤ 2 ^ (γ + μ + 12) := by
  have := turn_bits (base_M (k := k) h hg) hh.2
  rw [show γ + (μ + 1) + 11 = γ + μ + 12 by omega] at this
  cases k <;> simp only [numR] <;> first | exact Int.le_of_lt this | omega
theorem past_bits {k : Bo} {r : Rt} {μ γ : Nat} (h : RtM μ γ r) (hg : γ ≤ μ) (hh : HeldR k r) : RtM (2 * μ + γ + 14) (2 * γ + μ + 14) (pastR k r (numR k r)) := by
  have n1 := num_pos hh
  have n2 := num_bits h hg hh
  obtain ⟨hc, hb, hd⟩ := raw_c (k := k) hh.1 n1
  have hgp : 0 < g3 (rawR k r (numR k r)).a (rawR k r (numR k r)).b (rawR k r (numR k r)).c := g3_pos (by omega)
  generalize numR k r = n at *
  obtain ⟨m, rfl⟩ := Int.eq_ofNat_of_zero_le (show 0 ≤ n by omega)
  have n3 : m ≤ 2 ^ (γ + μ + 12) := by
    rw [show (2 : Int) ^ (γ + μ + 12) = ((2 ^ (γ + μ + 12) : Nat) : Int) by rw [Int.natCast_pow]; rfl] at n2
    omega
  have h1 := h.a
  have h2 := h.b
  have h3 := h.c
  have h4 : 2 ^ γ ≤ 2 ^ μ := Nat.pow_le_pow_right (by decide) hg
  have p0 : 0 < 2 ^ (γ + μ + 12) := Nat.pow_pos (by decide)
  have e1 : 2 ^ (2 * μ + γ + 14) = 2 ^ μ * 2 ^ (γ + μ + 12) * 4 := by
    rw [← Nat.pow_add, show (4 : Nat) = 2 ^ 2 from rfl, ← Nat.pow_add]
    congr 1
    omega
  have e2 : 2 ^ (2 * γ + μ + 14) = 2 ^ γ * 2 ^ (γ + μ + 12) * 4 := by
    rw [← Nat.pow_add, show (4 : Nat) = 2 ^ 2 from rfl, ← Nat.pow_add]
    congr 1
    omega
  have am : (r.a * (m : Int)).natAbs ≤ 2 ^ μ * 2 ^ (γ + μ + 12) := by
    rw [Int.natAbs_mul, Int.natAbs_natCast]; exact Nat.mul_le_mul (Nat.le_of_lt h1) n3
  have bm : (r.b * (m : Int)).natAbs ≤ 2 ^ μ * 2 ^ (γ + μ + 12) := by
    rw [Int.natAbs_mul, Int.natAbs_natCast]; exact Nat.mul_le_mul (Nat.le_of_lt h2) n3
  have cm : (r.c * (m : Int)).natAbs ≤ 2 ^ γ * 2 ^ (γ + μ + 12) := by
    rw [Int.natAbs_mul, Int.natAbs_natCast]; exact Nat.mul_le_mul (Nat.le_of_lt h3) n3
  have cl : r.c.natAbs ≤ 2 ^ γ * 2 ^ (γ + μ + 12) := Nat.le_trans (Nat.le_of_lt h3) (Nat.le_mul_of_pos_right _ p0)
  have ml : 2 ^ γ * 2 ^ (γ + μ + 12) ≤ 2 ^ μ * 2 ^ (γ + μ + 12) := Nat.mul_le_mul_right _ h4
  have pg : 0 < 2 ^ γ * 2 ^ (γ + μ + 12) := Nat.mul_pos (Nat.pow_pos (by decide)) p0
  have big : (rawR k r m).a.natAbs < 2 ^ (2 * μ + γ + 14) ∧ (rawR k r m).b.natAbs < 2 ^ (2 * μ + γ + 14) ∧ (rawR k r m).c.natAbs < 2 ^ (2 * γ + μ + 14) := by
    rw [e1, e2]
    have bm' : (-r.b * (m : Int)).natAbs ≤ 2 ^ μ * 2 ^ (γ + μ + 12) := by rw [Int.neg_mul, Int.natAbs_neg]; exact bm
    have cm' : (r.c * ((m : Int) + 1)).natAbs ≤ 2 ^ γ * 2 ^ (γ + μ + 12) + 2 ^ γ * 2 ^ (γ + μ + 12) := by
      rw [Int.mul_add, Int.mul_one]
      exact Nat.le_trans (Int.natAbs_add_le _ _) (Nat.add_le_add cm cl)
    cases k <;> simp only [rawR] <;> omega
  obtain ⟨b1, b2, b3⟩ := big
  have le : ∀ (x g : Int), 0 < g → g ∣ x → (x / g).natAbs ≤ x.natAbs := fun x g hg h => by
    obtain ⟨k, rfl⟩ := h
    rw [Int.mul_ediv_cancel_left _ (by omega), Int.natAbs_mul]
    exact Nat.le_mul_of_pos_left _ (by omega)
  show RtM _ _ (redR _)
  unfold redR
  rw [rtI_pos hc]
  exact ⟨Nat.lt_of_le_of_lt (le _ _ hgp g3_a) b1, Nat.lt_of_le_of_lt (le _ _ hgp g3_b) b2, by show 0 < (rawR k r m).d; rw [hd]; exact h.d0, by show (rawR k r m).d < _; rw [hd]; exact h.d, Nat.lt_of_le_of_lt (le _ _ hgp g3_c) b3⟩
/-- the first so many numbers and the rest behind -/
def restsR (k : Bo) (r : Rt) : Nat → List Int × Rt
  | 0 => ([], r)
  | m + 1 => (numR k r :: (restsR k (pastR k r (numR k r)) m).1, (restsR k (pastR k r (numR k r)) m).2)
theorem rests_len (k : Bo) : ∀ (m : Nat) (r : Rt), (restsR k r m).1.length = m
  | 0, _ => rfl
  | m + 1, r => by
    show (_ :: _).length = _
    rw [List.length_cons, rests_len k m]
theorem rests_held {k : Bo} : ∀ (m : Nat) {r : Rt}, HeldR k r → HeldR k (restsR k r m).2
  | 0, _, h => h
  | m + 1, _, h => rests_held m (past_held h)
end Pw
/-! rows of fractions -/
namespace Pw
def endF : Bo → Int × Int
  | .pro => (1, 1)
  | _ => (0, 1)
/-- the upper number, of products that of the rest less 1 -/
def upF : Bo → Int × Int → Int
  | .pro, p => p.1 - p.2
  | _, p => p.1
structure HeldF (k : Bo) (p : Int × Int) : Prop where
  ok : FrOk p
  lo : 0 < upF k p
  hi : upF k p ≤ p.2
/-- not below a quotient -/
def cdv (q p : Int) : Int := -(-q / p)
theorem cdv_le {q p : Int} (hp : 0 < p) : q ≤ cdv q p * p ∧ cdv q p * p < q + p := by
  have h1 := Int.mul_ediv_add_emod (-q) p
  have h2 := Int.emod_nonneg (-q) (show p ≠ 0 by omega)
  have h3 := Int.emod_lt_of_pos (-q) hp
  unfold cdv
  rw [Int.neg_mul]
  rw [Int.mul_comm] at h1
  omega
theorem fdv_le {q p : Int} (hp : 0 < p) : q / p * p ≤ q ∧ q < q / p * p + p := by
  have h1 := Int.mul_ediv_add_emod q p
  have h2 := Int.emod_nonneg q (show p ≠ 0 by omega)
  have h3 := Int.emod_lt_of_pos q hp
  rw [Int.mul_comm] at h1
  omega
theorem cdv_uniq {q p n : Int} (hp : 0 < p) (h1 : q ≤ n * p) (h2 : n * p < q + p) : cdv q p = n := by
  obtain ⟨a, b⟩ := cdv_le (q := q) hp
  have c1 : cdv q p * p < (n + 1) * p := by rw [Int.add_mul]; omega
  have c2 : n * p < (cdv q p + 1) * p := by rw [Int.add_mul]; omega
  have d1 := Int.lt_of_mul_lt_mul_right c1 (Int.le_of_lt hp)
  have d2 := Int.lt_of_mul_lt_mul_right c2 (Int.le_of_lt hp)
  omega
theorem fdv_uniq {q p n : Int} (hp : 0 < p) (h1 : n * p ≤ q) (h2 : q < n * p + p) : q / p = n := by
  obtain ⟨a, b⟩ := fdv_le (q := q) hp
  have c1 : q / p * p < (n + 1) * p := by rw [Int.add_mul]; omega
  have c2 : n * p < (q / p + 1) * p := by rw [Int.add_mul]; omega
  have d1 := Int.lt_of_mul_lt_mul_right c1 (Int.le_of_lt hp)
  have d2 := Int.lt_of_mul_lt_mul_right c2 (Int.le_of_lt hp)
  omega
theorem cdv_mul {q p g : Int} (hp : 0 < p) (hg : 0 < g) : cdv (q * g) (p * g) = cdv q p := by
  obtain ⟨a, b⟩ := cdv_le (q := q) hp
  refine cdv_uniq (Int.mul_pos hp hg) ?_ ?_
  · rw [← Int.mul_assoc]; exact Int.mul_le_mul_of_nonneg_right a (Int.le_of_lt hg)
  · rw [← Int.mul_assoc, ← Int.add_mul]; exact Int.mul_lt_mul_of_pos_right b hg
def numF (k : Bo) (p : Int × Int) : Int := match k with
  | .pie => p.2 / p.1
  | .ost => p.2 / p.1
  | k => cdv p.2 (upF k p)
def rawF (k : Bo) (p : Int × Int) (n : Int) : Int × Int := match k with
  | .syl => (p.1 * n - p.2, p.2 * n)
  | .eng => (p.1 * n - p.2, p.2)
  | .pie => (p.2 - p.1 * n, p.2)
  | .ost => (p.2 - p.1 * n, p.2 * n)
  | .pro => (p.1 * n, p.2 * (n + 1))
def nextF (k : Bo) (p : Int × Int) : Int × Int := cutI (rawF k p (numF k p)).1 (rawF k p (numF k p)).2
theorem numF_pos {k : Bo} {p : Int × Int} (h : HeldF k p) : 1 ≤ numF k p := by
  have h0 := h.ok.pos
  have h1 := h.lo
  have h2 := h.hi
  have c1 : ∀ u : Int, 0 < u → u ≤ p.2 → 1 ≤ cdv p.2 u := fun u hu _ => by
    obtain ⟨a, b⟩ := cdv_le (q := p.2) hu
    rcases Int.lt_or_le 0 (cdv p.2 u) with z | z
    · omega
    · have := Int.mul_nonpos_of_nonpos_of_nonneg z (Int.le_of_lt hu); omega
  have c2 : ∀ u : Int, 0 < u → u ≤ p.2 → 1 ≤ p.2 / u := fun u hu hl => (Int.le_ediv_iff_mul_le hu).mpr (by omega)
  cases k
  · exact c1 _ h1 h2
  · exact c1 _ h1 h2
  · exact c2 _ h1 h2
  · exact c2 _ h1 h2
  · exact c1 _ h1 h2
/-- upper numbers of the next rest, not in least terms -/
theorem raw_up {k : Bo} {p : Int × Int} (h : HeldF k p) : 0 < (rawF k p (numF k p)).2 ∧ 0 ≤ upF k (rawF k p (numF k p)) ∧ upF k (rawF k p (numF k p)) < upF k p ∧ upF k (rawF k p (numF k p)) ≤ (rawF k p (numF k p)).2 := by
  have n1 := numF_pos h
  have h0 := h.ok.pos
  have h1 := h.lo
  have h2 := h.hi
  cases k
  · obtain ⟨a, b⟩ := cdv_le (q := p.2) h1
    simp only [numF, rawF, upF] at *
    rw [Int.mul_comm p.1]
    generalize cdv p.2 p.1 = n at *
    have : p.2 ≤ p.2 * n := by have := Int.mul_le_mul_of_nonneg_left n1 (Int.le_of_lt h0); omega
    refine ⟨by omega, by omega, by omega, by omega⟩
  · obtain ⟨a, b⟩ := cdv_le (q := p.2) h1
    simp only [numF, rawF, upF] at *
    rw [Int.mul_comm p.1]
    generalize cdv p.2 p.1 = n at *
    refine ⟨by omega, by omega, by omega, by omega⟩
  · obtain ⟨a, b⟩ := fdv_le (q := p.2) h1
    simp only [numF, rawF, upF] at *
    rw [Int.mul_comm p.1]
    generalize p.2 / p.1 = n at *
    refine ⟨by omega, by omega, by omega, by omega⟩
  · obtain ⟨a, b⟩ := fdv_le (q := p.2) h1
    simp only [numF, rawF, upF] at *
    rw [Int.mul_comm p.1]
    generalize p.2 / p.1 = n at *
    have : p.2 ≤ p.2 * n := by have := Int.mul_le_mul_of_nonneg_left n1 (Int.le_of_lt h0); omega
    refine ⟨by omega, by omega, by omega, by omega⟩
  · obtain ⟨a, b⟩ := cdv_le (q := p.2) h1
    simp only [numF, rawF, upF] at *
    generalize cdv p.2 (p.1 - p.2) = n at *
    have e : p.1 * n - p.2 * (n + 1) = n * (p.1 - p.2) - p.2 := by grind
    have : p.2 ≤ p.2 * n := by have := Int.mul_le_mul_of_nonneg_left n1 (Int.le_of_lt h0); omega
    rw [e, Int.mul_add]
    refine ⟨by omega, by omega, by omega, by omega⟩
theorem up_cut {k : Bo} {a b : Int} (hb : 0 < b) : upF k (a, b) = upF k (cutI a b) * ((Int.gcd a b : Nat) : Int) := by
  have h1 := cut_a (a := a) hb
  have h2 := cut_b (a := a) hb
  cases k
  case pro =>
    show a - b = ((cutI a b).1 - (cutI a b).2) * _
    rw [Int.sub_mul, h1, h2]
  all_goals exact h1.symm
/-- the next rest is held, or the end; its upper number is less -/
theorem next_held {k : Bo} {p : Int × Int} (h : HeldF k p) : (HeldF k (nextF k p) ∨ nextF k p = endF k) ∧ upF k (nextF k p) < upF k p := by
  obtain ⟨r1, r2, r3, r4⟩ := raw_up h
  have e := up_cut (k := k) (a := (rawF k p (numF k p)).1) r1
  have e2 := cut_b (a := (rawF k p (numF k p)).1) r1
  have hg := g_pos (a := (rawF k p (numF k p)).1) r1
  have ok := cut_ok (a := (rawF k p (numF k p)).1) r1
  have e0 : upF k ((rawF k p (numF k p)).1, (rawF k p (numF k p)).2) = upF k (rawF k p (numF k p)) := rfl
  rw [e0] at e
  show (HeldF k (cutI _ _) ∨ cutI _ _ = endF k) ∧ upF k (cutI _ _) < upF k p
  generalize cutI (rawF k p (numF k p)).1 (rawF k p (numF k p)).2 = c at *
  generalize ((Int.gcd (rawF k p (numF k p)).1 (rawF k p (numF k p)).2 : Nat) : Int) = g at *
  generalize upF k (rawF k p (numF k p)) = u at *
  generalize (rawF k p (numF k p)).2 = q at *
  have up0 : 0 ≤ upF k c := by
    rcases Int.lt_or_le (upF k c) 0 with z | z
    · have := Int.mul_neg_of_neg_of_pos z hg; omega
    · exact z
  have up1 : upF k c ≤ c.2 := by
    have : upF k c * g ≤ c.2 * g := by omega
    exact Int.le_of_mul_le_mul_right this hg
  have up2 : upF k c ≤ u := by
    rw [e]
    have := Int.mul_le_mul_of_nonneg_left (show 1 ≤ g by omega) up0
    omega
  refine ⟨?_, by omega⟩
  rcases Int.lt_or_le 0 (upF k c) with z | z
  · exact .inl ⟨ok, z, up1⟩
  · right
    have z0 : upF k c = 0 := by omega
    obtain ⟨c1, c2⟩ := c
    have hc2 := ok.pos
    have hgc := ok.g
    simp only at hc2 hgc
    cases k
    case pro =>
      simp only [upF] at z0
      have : c1 = c2 := by omega
      subst this
      rw [Int.gcd_self] at hgc
      show (c1, c1) = (1, 1)
      have : c1 = 1 := by omega
      rw [this]
    all_goals
      simp only [upF] at z0
      subst z0
      rw [Int.gcd_zero_left] at hgc
      show ((0 : Int), c2) = (0, 1)
      have : c2 = 1 := by omega
      rw [this]
theorem end_not_held {k : Bo} : ¬ HeldF k (endF k) := fun h => by
  have := h.lo
  cases k <;> simp [endF, upF] at this
/-- rests and numbers, so many -/
def rowF (k : Bo) : Nat → Int × Int → List ((Int × Int) × Int)
  | 0, _ => []
  | m + 1, p => if p = endF k then [] else (p, numF k p) :: rowF k m (nextF k p)
theorem rowF_len {k : Bo} : ∀ (m : Nat) (p : Int × Int), (rowF k m p).length ≤ m
  | 0, _ => Nat.le_refl _
  | m + 1, p => by
    unfold rowF
    split
    · exact Nat.zero_le _
    · rw [List.length_cons]
      exact Nat.succ_le_succ (rowF_len m _)
/-- the row ends within so many steps, numbers and rests in bounds -/
def EndsF (k : Bo) (b : Nat) : Nat → Int × Int → Prop
  | 0, p => p = endF k
  | m + 1, p => p = endF k ∨ (HeldF k p ∧ p.1.natAbs < 2 ^ b ∧ p.2.natAbs < 2 ^ b ∧ (numF k p).natAbs < 2 ^ b ∧ EndsF k b m (nextF k p))
end Pw
/-! what numbers come to by a book; the ends of their spans -/
namespace Pw
def Bo.tu : Bo → Bool
  | .pie => true
  | .ost => true
  | _ => false
def Bo.big : Bo → Bool
  | .eng => true
  | .pie => true
  | _ => false
/-- one number put ahead, not in least terms -/
def addR (k : Bo) (n : Int) (f : Int × Int) : Int × Int := match k with
  | .syl => (f.1 * n + f.2, f.2 * n)
  | .eng => (f.1 + f.2, f.2 * n)
  | .pie => (f.2 - f.1, f.2 * n)
  | .ost => (f.2 - f.1 * n, f.2 * n)
  | .pro => (f.1 * (n + 1), f.2 * n)
def addF (k : Bo) (n : Int) (f : Int × Int) : Int × Int := cutI (addR k n f).1 (addR k n f).2
def worthF (k : Bo) (ns : List Int) : Int × Int := ns.foldr (addF k) (endF k)
def rawW (k : Bo) (ns : List Int) : Int × Int := ns.foldr (addR k) (endF k)
def prodI (ns : List Int) : Int := ns.foldr (· * ·) 1
theorem cut_scl {a b g : Int} (hg : 0 < g) (hb : 0 < b) : cutI (g * a) (g * b) = cutI a b := cut_eq (Int.mul_pos hg hb) hb (by grind)
theorem addR_b (k : Bo) (n : Int) (f : Int × Int) : (addR k n f).2 = f.2 * n := by cases k <;> rfl
theorem endF_b (k : Bo) : (endF k).2 = 1 := by cases k <;> rfl
theorem raw_b {k : Bo} : ∀ ns : List Int, (rawW k ns).2 = prodI ns
  | [] => endF_b k
  | n :: r => by
    show (addR k n (rawW k r)).2 = n * prodI r
    rw [addR_b, raw_b r, Int.mul_comm]
theorem prod_pos : ∀ {ns : List Int}, (∀ n ∈ ns, 1 ≤ n) → 0 < prodI ns
  | [], _ => by decide
  | n :: r, h => Int.mul_pos (by have := h n List.mem_cons_self; omega) (prod_pos fun m hm => h m (List.mem_cons_of_mem _ hm))
theorem addR_scl (k : Bo) (n g : Int) (f : Int × Int) : addR k n (g * f.1, g * f.2) = (g * (addR k n f).1, g * (addR k n f).2) := by
  cases k <;> simp only [addR] <;> congr 1 <;> grind
theorem add_cut {k : Bo} {n A B : Int} (hn : 1 ≤ n) (hB : 0 < B) : addF k n (cutI A B) = cutI (addR k n (A, B)).1 (addR k n (A, B)).2 := by
  have hg := g_pos (a := A) hB
  have e1 := cut_a (a := A) hB
  have e2 := cut_b (a := A) hB
  have p := cut_pos (a := A) hB
  unfold addF
  generalize cutI A B = c at *
  generalize ((Int.gcd A B : Nat) : Int) = g at *
  have h0 : 0 < (addR k n c).2 := by rw [addR_b]; exact Int.mul_pos p (by omega)
  have e : addR k n (A, B) = (g * (addR k n c).1, g * (addR k n c).2) := by
    rw [← addR_scl, Int.mul_comm g, Int.mul_comm g, e1, e2]
  rw [e]
  exact (cut_scl hg h0).symm
theorem worth_raw {k : Bo} : ∀ {ns : List Int}, (∀ n ∈ ns, 1 ≤ n) → worthF k ns = cutI (rawW k ns).1 (rawW k ns).2
  | [], _ => by cases k <;> decide
  | n :: r, h => by
    show addF k n (worthF k r) = cutI (addR k n (rawW k r)).1 (addR k n (rawW k r)).2
    have hr : ∀ m ∈ r, 1 ≤ m := fun m hm => h m (List.mem_cons_of_mem _ hm)
    rw [worth_raw hr]
    exact add_cut (h n List.mem_cons_self) (by rw [raw_b]; exact prod_pos hr)
theorem worth_ok {k : Bo} {ns : List Int} (h : ∀ n ∈ ns, 1 ≤ n) : FrOk (worthF k ns) := by
  rw [worth_raw h]
  exact cut_ok (by rw [raw_b]; exact prod_pos h)
theorem raw_a {k : Bo} : ∀ {ns : List Int}, (∀ n ∈ ns, 1 ≤ n) → -(2 ^ ns.length * prodI ns) ≤ (rawW k ns).1 ∧ (rawW k ns).1 ≤ 2 ^ ns.length * prodI ns
  | [], _ => by cases k <;> decide
  | n :: r, h => by
    have hr : ∀ m ∈ r, 1 ≤ m := fun m hm => h m (List.mem_cons_of_mem _ hm)
    obtain ⟨a1, a2⟩ := raw_a (k := k) hr
    have p := prod_pos hr
    have hn := h n List.mem_cons_self
    have hB : (rawW k r).2 = prodI r := raw_b r
    have eT : (2 : Int) ^ (n :: r).length * prodI (n :: r) = 2 * (2 ^ r.length * prodI r * n) := by
      show (2 : Int) ^ (r.length + 1) * (n * prodI r) = _
      rw [Int.pow_succ]
      grind
    rw [eT]
    have hP : 1 ≤ (2 : Int) ^ r.length := by have := Int.pow_pos (m := r.length) (show (0 : Int) < 2 by decide); omega
    show _ ≤ (addR k n (rawW k r)).1 ∧ (addR k n (rawW k r)).1 ≤ _
    generalize rawW k r = f at *
    have hT : f.2 ≤ 2 ^ r.length * prodI r := by rw [hB]; have := Int.mul_le_mul_of_nonneg_right hP (Int.le_of_lt p); omega
    generalize 2 ^ r.length * prodI r = T at *
    have hT0 : 0 ≤ T := by omega
    have t1 : T ≤ T * n := by have := Int.mul_le_mul_of_nonneg_left hn hT0; omega
    have t2 : f.1 * n ≤ T * n := Int.mul_le_mul_of_nonneg_right a2 (by omega)
    have t3 : -T * n ≤ f.1 * n := Int.mul_le_mul_of_nonneg_right a1 (by omega)
    rw [Int.neg_mul] at t3
    cases k <;> simp only [addR]
    · omega
    · omega
    · omega
    · omega
    · rw [Int.mul_add]; omega
/-- bits of what numbers come to -/
theorem worth_bits {k : Bo} {ns : List Int} {b : Nat} (h : ∀ n ∈ ns, 1 ≤ n) (hb : (prodI ns).natAbs < 2 ^ b) : (worthF k ns).1.natAbs < 2 ^ (b + ns.length) ∧ (worthF k ns).2.natAbs < 2 ^ (b + ns.length) := by
  obtain ⟨a1, a2⟩ := raw_a (k := k) h
  have p := prod_pos h
  have eB : (rawW k ns).2 = prodI ns := raw_b ns
  rw [worth_raw h]
  have hB : 0 < (rawW k ns).2 := by rw [eB]; exact p
  have c1 := cut_abs (a := (rawW k ns).1) hB
  have c2 := cut_le (a := (rawW k ns).1) hB
  have c3 := cut_pos (a := (rawW k ns).1) hB
  have e : ((2 : Int) ^ ns.length * prodI ns).natAbs < 2 ^ (b + ns.length) := by
    rw [Int.natAbs_mul, Int.natAbs_pow, Nat.pow_add, Nat.mul_comm]
    exact Nat.mul_lt_mul_of_pos_right hb (Nat.pow_pos (by decide))
  have q : 2 ^ b ≤ 2 ^ (b + ns.length) := Nat.pow_le_pow_right (by decide) (by omega)
  generalize (2 : Int) ^ ns.length * prodI ns = T at *
  generalize cutI (rawW k ns).1 (rawW k ns).2 = c at *
  generalize 2 ^ (b + ns.length) = N at *
  generalize 2 ^ b = M at *
  refine ⟨by omega, by omega⟩
/-! from the first number on -/
def lawS (k : Bo) : Int → Int → Int × Int → List Int → Int × Int
  | _, _, f, [] => f
  | s, w, f, n :: r => if k.pr then lawS k s (w * n) (cutI (f.1 * (n + 1)) (f.2 * n)) r
    else lawS k (if k.tu then -s else s) (w * n) (cutI (f.1 * (if k.big then w * n else n) + s * f.2) (f.2 * (if k.big then w * n else n))) r
def comb (k : Bo) (s w : Int) (f p : Int × Int) : Int × Int := match k with
  | .pro => cutI (f.1 * p.1) (f.2 * p.2)
  | .syl => cutI (f.1 * p.2 + s * p.1 * f.2) (f.2 * p.2)
  | .ost => cutI (f.1 * p.2 + s * p.1 * f.2) (f.2 * p.2)
  | .eng => cutI (f.1 * (p.2 * w) + s * p.1 * f.2) (f.2 * (p.2 * w))
  | .pie => cutI (f.1 * (p.2 * w) + s * p.1 * f.2) (f.2 * (p.2 * w))
theorem sum_cut {X Y q r : Int} (hY : 0 < Y) (hq : 0 < q) : cutI ((cutI X Y).1 * q + r * (cutI X Y).2) ((cutI X Y).2 * q) = cutI (X * q + r * Y) (Y * q) := by
  have hg := g_pos (a := X) hY
  have e1 := cut_a (a := X) hY
  have e2 := cut_b (a := X) hY
  have p := cut_pos (a := X) hY
  generalize cutI X Y = c at *
  generalize ((Int.gcd X Y : Nat) : Int) = g at *
  rw [← cut_scl hg (Int.mul_pos p hq)]
  congr 1 <;> grind
theorem prd_cut {X Y q r : Int} (hY : 0 < Y) (hq : 0 < q) : cutI ((cutI X Y).1 * r) ((cutI X Y).2 * q) = cutI (X * r) (Y * q) := by
  have hg := g_pos (a := X) hY
  have e1 := cut_a (a := X) hY
  have e2 := cut_b (a := X) hY
  have p := cut_pos (a := X) hY
  generalize cutI X Y = c at *
  generalize ((Int.gcd X Y : Nat) : Int) = g at *
  rw [← cut_scl hg (Int.mul_pos p hq)]
  congr 1 <;> grind
theorem comb_step {k : Bo} {s w n : Int} {f p : Int × Int} (hf : 0 < f.2) (hp : 0 < p.2) (hw : 0 < w) (hn : 0 < n) :
    (if k.pr then comb k s (w * n) (cutI (f.1 * (n + 1)) (f.2 * n)) p else comb k (if k.tu then -s else s) (w * n) (cutI (f.1 * (if k.big then w * n else n) + s * f.2) (f.2 * (if k.big then w * n else n))) p) = comb k s w f (addR k n p) := by
  have hwn : 0 < w * n := Int.mul_pos hw hn
  cases k
  · simp only [Bo.pr, Bo.tu, Bo.big, comb, addR, if_false, Bool.false_eq_true]
    rw [sum_cut (Int.mul_pos hf hn) hp]
    congr 1 <;> grind
  · simp only [Bo.pr, Bo.tu, Bo.big, comb, addR, if_false, if_true, Bool.false_eq_true]
    rw [sum_cut (Int.mul_pos hf hwn) (Int.mul_pos hp hwn)]
    have h1 : 0 < f.2 * (p.2 * n * w) := Int.mul_pos hf (Int.mul_pos (Int.mul_pos hp hn) hw)
    rw [← cut_scl hwn h1]
    congr 1 <;> grind
  · simp only [Bo.pr, Bo.tu, Bo.big, comb, addR, if_false, if_true, Bool.false_eq_true]
    rw [sum_cut (Int.mul_pos hf hwn) (Int.mul_pos hp hwn)]
    have h1 : 0 < f.2 * (p.2 * n * w) := Int.mul_pos hf (Int.mul_pos (Int.mul_pos hp hn) hw)
    rw [← cut_scl hwn h1]
    congr 1 <;> grind
  · simp only [Bo.pr, Bo.tu, Bo.big, comb, addR, if_false, if_true, Bool.false_eq_true]
    rw [sum_cut (Int.mul_pos hf hn) hp]
    congr 1 <;> grind
  · simp only [Bo.pr, comb, addR, if_true]
    rw [prd_cut (Int.mul_pos hf hn) hp]
    congr 1 <;> grind
theorem law_comb {k : Bo} : ∀ (ns : List Int) (s w : Int) (f : Int × Int), (∀ n ∈ ns, 1 ≤ n) → FrOk f → 0 < w → lawS k s w f ns = comb k s w f (rawW k ns)
  | [], s, w, f, _, hf, hw => by
    have e := cut_id hf.pos hf.g
    show f = comb k s w f (endF k)
    cases k <;> simp only [comb, endF, Int.mul_one, Int.mul_zero, Int.zero_mul, Int.add_zero, Int.one_mul]
    case eng => rw [Int.mul_comm f.1, Int.mul_comm f.2, cut_scl hw hf.pos, e]
    case pie => rw [Int.mul_comm f.1, Int.mul_comm f.2, cut_scl hw hf.pos, e]
    all_goals exact e.symm
  | n :: r, s, w, f, h, hf, hw => by
    have hn : 0 < n := by have := h n List.mem_cons_self; omega
    have hr : ∀ m ∈ r, 1 ≤ m := fun m hm => h m (List.mem_cons_of_mem _ hm)
    have hp : 0 < (rawW k r).2 := by rw [raw_b]; exact prod_pos hr
    have hwn : 0 < w * n := Int.mul_pos hw hn
    show lawS k s w f (n :: r) = comb k s w f (addR k n (rawW k r))
    rw [← comb_step hf.pos hp hw hn]
    unfold lawS
    split
    · exact law_comb r _ _ _ hr (cut_ok (Int.mul_pos hf.pos hn)) hwn
    · refine law_comb r _ _ _ hr (cut_ok (Int.mul_pos hf.pos ?_)) hwn
      split
      · exact hwn
      · exact hn
theorem law_worth {k : Bo} {ns : List Int} (h : ∀ n ∈ ns, 1 ≤ n) : lawS k 1 1 (endF k) ns = worthF k ns := by
  rw [law_comb ns 1 1 (endF k) h (by cases k <;> exact ⟨by decide, by decide⟩) (by decide), worth_raw h]
  cases k <;> simp only [comb, endF, Int.mul_one, Int.one_mul, Int.zero_mul, Int.zero_add]
/-! ends of spans -/
def widF (k : Bo) (l w : Int) : Int × Int := if l = 1 ∧ k.tu = false then (if k.pr then (1, 1) else (0, 1)) else match k with
  | .syl => cutI 1 (l * (l - 1))
  | .eng => cutI 1 (w * (l - 1))
  | .pie => cutI 1 (w * (l + 1))
  | .ost => cutI 1 (l * (l + 1))
  | .pro => cutI (l * l) (l * l - 1)
def undI (k : Bo) (l w : Int) : Int := match k with
  | .syl => l * (l - 1)
  | .eng => w * (l - 1)
  | .pie => w * (l + 1)
  | .ost => l * (l + 1)
  | .pro => l * l - 1
def othF (k : Bo) (neg : Bool) (h d : Int × Int) : Int × Int := if k.pr then cutI (h.1 * d.1) (h.2 * d.2) else if neg then cutI (h.1 * d.2 - d.1 * h.2) (h.2 * d.2) else cutI (h.1 * d.2 + d.1 * h.2) (h.2 * d.2)
def othL (k : Bo) (neg : Bool) (h : Int × Int) (l w : Int) : Int × Int := if l = 1 ∧ k.tu = false then h else if k.pr then cutI (h.1 * (l * l)) (h.2 * (l * l - 1)) else cutI (h.1 * undI k l w + (if neg then -1 else 1) * h.2) (h.2 * undI k l w)
theorem und_pos {k : Bo} {l w : Int} (hl : 1 ≤ l) (hw : 1 ≤ w) (h : ¬ (l = 1 ∧ k.tu = false)) : 0 < undI k l w := by
  have c : ∀ {x y : Int}, 0 < x → 0 < y → 0 < x * y := fun a b => Int.mul_pos a b
  cases k
  case pro =>
    have h2 : 2 ≤ l := by rcases Int.lt_or_le l 2 with z | z; exact absurd ⟨by omega, rfl⟩ h; exact z
    have := Int.mul_le_mul_of_nonneg_left h2 (show 0 ≤ l by omega)
    show 0 < l * l - 1
    omega
  case pie => exact c (by omega) (by omega)
  case ost => exact c (by omega) (by omega)
  all_goals
    have h2 : 2 ≤ l := by rcases Int.lt_or_le l 2 with z | z; exact absurd ⟨by omega, rfl⟩ h; exact z
    exact c (by omega) (by omega)
theorem oth_cut {h : Int × Int} {X Y s : Int} (hh : 0 < h.2) (hY : 0 < Y) : cutI (h.1 * (cutI X Y).2 + s * (cutI X Y).1 * h.2) (h.2 * (cutI X Y).2) = cutI (h.1 * Y + s * X * h.2) (h.2 * Y) := by
  have hg := g_pos (a := X) hY
  have e1 := cut_a (a := X) hY
  have e2 := cut_b (a := X) hY
  have p := cut_pos (a := X) hY
  generalize cutI X Y = c at *
  generalize ((Int.gcd X Y : Nat) : Int) = g at *
  rw [← cut_scl hg (Int.mul_pos hh p)]
  congr 1 <;> grind
theorem oth_eq {k : Bo} {neg : Bool} {h : Int × Int} {l w : Int} (hh : FrOk h) (hl : 1 ≤ l) (hw : 1 ≤ w) : othF k neg h (widF k l w) = othL k neg h l w := by
  have e := cut_id hh.pos hh.g
  have hp := hh.pos
  by_cases c : l = 1 ∧ k.tu = false
  · unfold othF othL widF
    rw [if_pos c, if_pos c]
    cases hk : k.pr
    · simp only [if_false, Bool.false_eq_true, Int.mul_one, Int.zero_mul, Int.sub_zero, Int.add_zero]
      split <;> exact e
    · simp only [if_true, Int.mul_one]
      exact e
  · have hu := und_pos hl hw c
    have key : ∀ u : Int, 0 < u → (if neg = true then cutI (h.1 * (cutI 1 u).2 - (cutI 1 u).1 * h.2) (h.2 * (cutI 1 u).2) else cutI (h.1 * (cutI 1 u).2 + (cutI 1 u).1 * h.2) (h.2 * (cutI 1 u).2)) = cutI (h.1 * u + (if neg = true then -1 else 1) * h.2) (h.2 * u) := fun u hu => by
      cases neg
      · have := oth_cut (X := 1) (s := 1) hp hu
        simp only [Int.one_mul, Int.mul_one] at this
        simp only [if_false, Bool.false_eq_true, Int.one_mul]
        exact this
      · have := oth_cut (X := 1) (s := -1) hp hu
        simp only [Int.mul_one] at this
        simp only [if_true]
        rw [← this]
        congr 1
        grind
    unfold othF othL widF
    rw [if_neg c, if_neg c]
    cases k
    case pro =>
      simp only [Bo.pr, if_true]
      have hu : 0 < l * l - 1 := hu
      have := prd_cut (X := l * l) (Y := l * l - 1) (q := h.2) (r := h.1) hu hp
      rw [Int.mul_comm h.1, Int.mul_comm h.2, this]
      congr 1 <;> exact Int.mul_comm _ _
    all_goals exact key _ hu
end Pw
/-! from the first number on, one number more; what may stand behind a number -/
namespace Pw
def sgn (k : Bo) (j : Nat) : Int := if k.tu = true ∧ j % 2 = 1 then -1 else 1
theorem prod_app : ∀ (a b : List Int), prodI (a ++ b) = prodI a * prodI b
  | [], b => by show prodI b = 1 * prodI b; rw [Int.one_mul]
  | n :: a, b => by
    show n * prodI (a ++ b) = n * prodI a * prodI b
    rw [prod_app a b, Int.mul_assoc]
theorem lawS_cons {k : Bo} {s w n : Int} {f : Int × Int} {r : List Int} : lawS k s w f (n :: r) = if k.pr then lawS k s (w * n) (cutI (f.1 * (n + 1)) (f.2 * n)) r
    else lawS k (if k.tu then -s else s) (w * n) (cutI (f.1 * (if k.big then w * n else n) + s * f.2) (f.2 * (if k.big then w * n else n))) r := rfl
theorem lawS_app {k : Bo} : ∀ (a b : List Int) (j : Nat) (w : Int) (f : Int × Int), lawS k (sgn k j) w f (a ++ b) = lawS k (sgn k (j + a.length)) (w * prodI a) (lawS k (sgn k j) w f a) b
  | [], b, j, w, f => by
    show lawS k (sgn k j) w f b = lawS k (sgn k j) (w * 1) f b
    rw [Int.mul_one]
  | n :: a, b, j, w, f => by
    have e : (if k.tu = true then -sgn k j else sgn k j) = sgn k (j + 1) := by
      unfold sgn
      cases k.tu
      · simp
      · rcases Nat.mod_two_eq_zero_or_one j with h | h
        · have : (j + 1) % 2 = 1 := by omega
          simp [h, this]
        · have : (j + 1) % 2 = 0 := by omega
          simp [h, this]
    have ep : k.pr = true → sgn k j = sgn k (j + 1) := fun hp => by cases k <;> first | rfl | cases hp
    rw [List.cons_append, List.length_cons, show j + (a.length + 1) = j + 1 + a.length by omega, show prodI (n :: a) = n * prodI a from rfl, ← Int.mul_assoc]
    rw [lawS_cons, lawS_cons, e]
    split
    · rename_i hp
      rw [ep hp]
      exact lawS_app a b (j + 1) _ _
    · exact lawS_app a b (j + 1) _ _
theorem worth_snoc {k : Bo} {a : List Int} {n : Int} (h : ∀ m ∈ a, 1 ≤ m) (hn : 1 ≤ n) : worthF k (a ++ [n]) = if k.pr then cutI ((worthF k a).1 * (n + 1)) ((worthF k a).2 * n)
    else cutI ((worthF k a).1 * (if k.big then prodI a * n else n) + sgn k a.length * (worthF k a).2) ((worthF k a).2 * (if k.big then prodI a * n else n)) := by
  have h2 : ∀ m ∈ a ++ [n], 1 ≤ m := fun m hm => by
    rcases List.mem_append.mp hm with z | z
    · exact h m z
    · rw [List.mem_singleton.mp z]; exact hn
  have s0 : sgn k 0 = 1 := by unfold sgn; simp
  have e := lawS_app (k := k) a [n] 0 1 (endF k)
  rw [s0, law_worth h2, law_worth h, Nat.zero_add, Int.one_mul] at e
  rw [e]
  unfold lawS
  split <;> rfl
theorem prod_ge {a b : List Int} (ha : ∀ n ∈ a, 1 ≤ n) (hb : ∀ n ∈ b, 1 ≤ n) : prodI a ≤ prodI (a ++ b) ∧ prodI b ≤ prodI (a ++ b) := by
  have p := prod_pos ha
  have q := prod_pos hb
  rw [prod_app]
  constructor
  · have := Int.mul_le_mul_of_nonneg_left (show 1 ≤ prodI b by omega) (Int.le_of_lt p); omega
  · have := Int.mul_le_mul_of_nonneg_right (show 1 ≤ prodI a by omega) (Int.le_of_lt q); omega
theorem prod_mem {a : List Int} {n : Int} (ha : ∀ n ∈ a, 1 ≤ n) (h : n ∈ a) : n ≤ prodI a := by
  obtain ⟨x, y, rfl⟩ := List.append_of_mem h
  have h1 := (prod_ge (a := x) (b := n :: y) (fun m hm => ha m (List.mem_append_left _ hm)) (fun m hm => ha m (List.mem_append_right _ hm))).2
  have h2 := (prod_ge (a := [n]) (b := y) (fun m hm => ha m (List.mem_append_right _ (by rw [List.mem_singleton.mp hm]; exact List.mem_cons_self))) (fun m hm => ha m (List.mem_append_right _ (List.mem_cons_of_mem _ hm)))).1
  have e : prodI [n] = n := Int.mul_one n
  rw [e] at h2
  exact Int.le_trans h2 h1
/-- the least that may stand behind a number -/
def leaI (k : Bo) (n : Int) : Int := match k with
  | .syl => n * (n - 1) + 1
  | .eng => n
  | .pie => n + 1
  | .ost => n * (n + 1)
  | .pro => n * n
def begB (k : Bo) (ns : List Int) : Bool := !(decide (1 < ns.length) && decide (ns.head? = some 1) && !k.tu) && (ns.zip ns.tail).all fun z => decide (leaI k z.1 ≤ z.2)
end Pw
/-! Cantor: the root of a + 1 over a - 1 as a product -/
namespace Pw
/-- above, below the root of (a + 1) / (a - 1) -/
def valL (a : Int) (x : Int × Int) : Prop := 0 < x.1 ∧ x.2 * x.2 * (a + 1) < x.1 * x.1 * (a - 1)
def valG (a : Int) (x : Int × Int) : Prop := 0 < x.1 ∧ x.1 * x.1 * (a - 1) < x.2 * x.2 * (a + 1)
def nxtC (a : Int) : Int := 2 * a * a - 1
def seqC : Nat → Int → List Int
  | 0, _ => []
  | m + 1, a => a :: seqC m (nxtC a)
theorem nxtC_ge {a : Int} (h : 2 ≤ a) : a ≤ nxtC a ∧ 7 ≤ nxtC a := by
  have e : nxtC a = 2 * (a * a) - 1 := by unfold nxtC; rw [Int.mul_assoc]
  have := Int.mul_le_mul h h (by decide) (by omega)
  have := Int.mul_le_mul_of_nonneg_left h (show 0 ≤ a by omega)
  omega
theorem seqC_pos : ∀ (m : Nat) {a : Int}, 2 ≤ a → ∀ n ∈ seqC m a, 2 ≤ n
  | 0, _, _, n, h => by cases h
  | m + 1, a, ha, n, h => by
    rcases List.mem_cons.mp h with rfl | h
    · exact ha
    · exact seqC_pos m (by have := nxtC_ge ha; omega) n h
theorem seqC_len : ∀ (m : Nat) (a : Int), (seqC m a).length = m
  | 0, _ => rfl
  | m + 1, a => by unfold seqC; rw [List.length_cons, seqC_len m]
theorem sq_pos' {x : Int} (h : 0 < x) : 0 < x * x := Int.mul_pos h h
theorem valL_scl {a g : Int} {x : Int × Int} (hg : 0 < g) : valL a (g * x.1, g * x.2) ↔ valL a x := by
  have hg2 := sq_pos' hg
  unfold valL
  have e1 : g * x.2 * (g * x.2) * (a + 1) = g * g * (x.2 * x.2 * (a + 1)) := by grind
  have e2 : g * x.1 * (g * x.1) * (a - 1) = g * g * (x.1 * x.1 * (a - 1)) := by grind
  constructor
  · rintro ⟨h1, h2⟩
    refine ⟨?_, ?_⟩
    · rcases Int.lt_or_le 0 x.1 with z | z
      · exact z
      · have := Int.mul_nonpos_of_nonneg_of_nonpos (Int.le_of_lt hg) z
        simp only at h1
        omega
    · simp only at h2
      rw [e1, e2] at h2
      exact Int.lt_of_mul_lt_mul_left h2 (Int.le_of_lt hg2)
  · rintro ⟨h1, h2⟩
    refine ⟨Int.mul_pos hg h1, ?_⟩
    show g * x.2 * (g * x.2) * (a + 1) < g * x.1 * (g * x.1) * (a - 1)
    rw [e1, e2]
    exact Int.mul_lt_mul_of_pos_left h2 hg2
theorem valG_scl {a g : Int} {x : Int × Int} (hg : 0 < g) : valG a (g * x.1, g * x.2) ↔ valG a x := by
  have hg2 := sq_pos' hg
  unfold valG
  have e1 : g * x.2 * (g * x.2) * (a + 1) = g * g * (x.2 * x.2 * (a + 1)) := by grind
  have e2 : g * x.1 * (g * x.1) * (a - 1) = g * g * (x.1 * x.1 * (a - 1)) := by grind
  constructor
  · rintro ⟨h1, h2⟩
    refine ⟨?_, ?_⟩
    · rcases Int.lt_or_le 0 x.1 with z | z
      · exact z
      · have := Int.mul_nonpos_of_nonneg_of_nonpos (Int.le_of_lt hg) z
        simp only at h1
        omega
    · simp only at h2
      rw [e1, e2] at h2
      exact Int.lt_of_mul_lt_mul_left h2 (Int.le_of_lt hg2)
  · rintro ⟨h1, h2⟩
    refine ⟨Int.mul_pos hg h1, ?_⟩
    show g * x.1 * (g * x.1) * (a - 1) < g * x.2 * (g * x.2) * (a + 1)
    rw [e1, e2]
    exact Int.mul_lt_mul_of_pos_left h2 hg2
theorem cut_pr {P Q : Int} (hQ : 0 < Q) : ∃ g : Int, 0 < g ∧ (P, Q) = (g * (cutI P Q).1, g * (cutI P Q).2) := ⟨_, g_pos (a := P) hQ, by rw [Int.mul_comm, Int.mul_comm _ (cutI P Q).2, cut_a hQ, cut_b hQ]⟩
theorem valL_cut {a P Q : Int} (hQ : 0 < Q) : valL a (cutI P Q) ↔ valL a (P, Q) := by
  obtain ⟨g, hg, e⟩ := cut_pr (P := P) hQ
  rw [e]
  exact (valL_scl hg).symm
theorem valG_cut {a P Q : Int} (hQ : 0 < Q) : valG a (cutI P Q) ↔ valG a (P, Q) := by
  obtain ⟨g, hg, e⟩ := cut_pr (P := P) hQ
  rw [e]
  exact (valG_scl hg).symm
theorem val_no {a : Int} {x : Int × Int} (h : valG a x) : ¬ valL a x := fun h2 => by
  have := h.2
  have := h2.2
  omega
/-- one number put ahead -/
theorem valL_add {a A B : Int} (ha : 2 ≤ a) : valL (nxtC a) (A, B) → valL a (A * (a + 1), B * a) := by
  rintro ⟨h1, h2⟩
  refine ⟨Int.mul_pos h1 (by omega), ?_⟩
  simp only at h1 h2 ⊢
  unfold nxtC at h2
  have e1 : B * a * (B * a) * (a + 1) * 2 = (a + 1) * (B * B * (2 * a * a - 1 + 1)) := by grind
  have e2 : A * (a + 1) * (A * (a + 1)) * (a - 1) * 2 = (a + 1) * (A * A * (2 * a * a - 1 - 1)) := by grind
  have := Int.mul_lt_mul_of_pos_left h2 (show 0 < a + 1 by omega)
  rw [← e1, ← e2] at this
  exact Int.lt_of_mul_lt_mul_right this (by decide)
theorem valG_add {a A B : Int} (ha : 2 ≤ a) : valG (nxtC a) (A, B) → valG a (A * (a + 1), B * a) := by
  rintro ⟨h1, h2⟩
  refine ⟨Int.mul_pos h1 (by omega), ?_⟩
  simp only at h1 h2 ⊢
  unfold nxtC at h2
  have e1 : B * a * (B * a) * (a + 1) * 2 = (a + 1) * (B * B * (2 * a * a - 1 + 1)) := by grind
  have e2 : A * (a + 1) * (A * (a + 1)) * (a - 1) * 2 = (a + 1) * (A * A * (2 * a * a - 1 - 1)) := by grind
  have := Int.mul_lt_mul_of_pos_left h2 (show 0 < a + 1 by omega)
  rw [← e1, ← e2] at this
  exact Int.lt_of_mul_lt_mul_right this (by decide)
theorem valG_raw : ∀ (m : Nat) {a : Int}, 2 ≤ a → valG a (rawW .pro (seqC m a))
  | 0, a, ha => ⟨(by decide : (0 : Int) < 1), by show 1 * 1 * (a - 1) < 1 * 1 * (a + 1); omega⟩
  | m + 1, a, ha => valG_add ha (valG_raw m (by have := nxtC_ge ha; omega))
theorem valL_raw {l u v : Int} : ∀ (m : Nat) {a : Int} (pre : List Int), 2 ≤ a → seqC (m + 1) a = pre ++ [l] → u = l * l → v = l * l - 1 → valL a ((rawW .pro (pre ++ [l])).1 * u, (rawW .pro (pre ++ [l])).2 * v)
  | 0, a, pre, ha, e, hu, hv => by
    have e : [a] = pre ++ [l] := e
    have e1 : pre = [] ∧ a = l := by
      cases pre with
      | nil => exact ⟨rfl, (List.cons.inj e).1⟩
      | cons x r =>
        have := congrArg List.length e
        simp at this
    obtain ⟨rfl, rfl⟩ := e1
    subst hu hv
    have hl : 4 ≤ a * a := Int.mul_le_mul ha ha (by decide) (by omega)
    refine ⟨?_, ?_⟩
    · show 0 < 1 * (a + 1) * (a * a)
      exact Int.mul_pos (by omega) (by omega)
    · show 1 * a * (a * a - 1) * (1 * a * (a * a - 1)) * (a + 1) < 1 * (a + 1) * (a * a) * (1 * (a + 1) * (a * a)) * (a - 1)
      have e1 : 1 * a * (a * a - 1) * (1 * a * (a * a - 1)) * (a + 1) = (a * a * (a * a - 1) * (a + 1)) * (a * a - 1) := by grind
      have e2 : 1 * (a + 1) * (a * a) * (1 * (a + 1) * (a * a)) * (a - 1) = (a * a * (a * a - 1) * (a + 1)) * (a * a) := by grind
      rw [e1, e2]
      exact Int.mul_lt_mul_of_pos_left (by omega) (Int.mul_pos (Int.mul_pos (by omega) (by omega)) (by omega))
  | m + 1, a, pre, ha, e, hu, hv => by
    have e : a :: seqC (m + 1) (nxtC a) = pre ++ [l] := e
    cases pre with
    | nil =>
      have := congrArg List.length e
      simp [seqC_len] at this
    | cons x r =>
      obtain ⟨rfl, e2⟩ := List.cons.inj e
      have h := valL_raw m (a := nxtC a) r (by have := nxtC_ge ha; omega) e2 hu hv
      have := valL_add ha h
      show valL a (((rawW .pro (r ++ [l])).1 * (a + 1)) * u, ((rawW .pro (r ++ [l])).2 * a) * v)
      rw [Int.mul_right_comm, Int.mul_right_comm (rawW .pro (r ++ [l])).2]
      exact this
theorem valL_mono {a : Int} {x y : Int × Int} (ha : 2 ≤ a) (hx : 0 < x.2) (hy : 0 < y.2) (h : valL a x) (hl : x.1 * y.2 < y.1 * x.2) : valL a y := by
  obtain ⟨h1, h2⟩ := h
  have p1 : 0 < x.1 * y.2 := Int.mul_pos h1 hy
  have y1 : 0 < y.1 := by
    rcases Int.lt_or_le 0 y.1 with z | z
    · exact z
    · have := Int.mul_nonpos_of_nonpos_of_nonneg z (Int.le_of_lt hx); omega
  refine ⟨y1, ?_⟩
  have s : x.1 * y.2 * (x.1 * y.2) < y.1 * x.2 * (y.1 * x.2) := Int.mul_lt_mul hl (Int.le_of_lt hl) p1 (Int.le_of_lt (Int.mul_pos y1 hx))
  have s2 := Int.mul_lt_mul_of_pos_right s (show 0 < a - 1 by omega)
  have s3 := Int.mul_lt_mul_of_pos_left h2 (sq_pos' hy)
  have e1 : y.2 * y.2 * (x.2 * x.2 * (a + 1)) = x.2 * x.2 * (y.2 * y.2 * (a + 1)) := by grind
  have e2 : y.2 * y.2 * (x.1 * x.1 * (a - 1)) = x.1 * y.2 * (x.1 * y.2) * (a - 1) := by grind
  have e3 : y.1 * x.2 * (y.1 * x.2) * (a - 1) = x.2 * x.2 * (y.1 * y.1 * (a - 1)) := by grind
  rw [e1, e2] at s3
  rw [e3] at s2
  exact Int.lt_of_mul_lt_mul_left (Int.lt_trans s3 s2) (Int.le_of_lt (sq_pos' hx))
/-! roots of that kind -/
structure KC (a : Int) (r : Rt) : Prop where
  ok : RtOk r
  a0 : r.a = 0
  b : 0 < r.b
  e : r.b * r.b * r.d * (a - 1) = r.c * r.c * (a + 1)
  ge : 2 ≤ a
theorem KC.lt {a : Int} {r : Rt} (h : KC a r) : r.c * r.c < r.b * r.b * r.d := by
  have hc := sq_pos' h.ok.c0
  have := h.ge
  have e := h.e
  have : r.c * r.c * (a - 1) < r.b * r.b * r.d * (a - 1) := by
    rw [e]
    exact Int.mul_lt_mul_of_pos_left (by omega) hc
  exact Int.lt_of_mul_lt_mul_right this (by omega)
theorem KC.held {a : Int} {r : Rt} (h : KC a r) : HeldR .pro r := by
  have hc := sq_pos' h.ok.c0
  have c0 := h.ok.c0
  have g := h.ge
  have hb : r.b ≠ 0 := by have := h.b; omega
  refine ⟨h.ok, ⟨base_ok h.ok, ?_, ?_⟩⟩
  · show Ps (r.a - r.c) r.b r.d
    refine (ps_iff h.ok.dd hb).mpr (.inr ⟨?_, h.b⟩)
    rw [h.a0, Int.zero_sub, Int.neg_mul_neg]
    exact h.lt
  · show Ps (r.c - (r.a - r.c)) (-r.b) r.d
    refine (ps_iff h.ok.dd (by omega)).mpr (.inl ⟨?_, ?_⟩)
    · rw [h.a0, Int.neg_mul_neg]
      have e1 : (r.c - (0 - r.c)) * (r.c - (0 - r.c)) = 4 * (r.c * r.c) := by grind
      rw [e1]
      have : r.b * r.b * r.d * (a - 1) < 4 * (r.c * r.c) * (a - 1) := by
        rw [h.e]
        have e2 : 4 * (r.c * r.c) * (a - 1) = r.c * r.c * (4 * (a - 1)) := by grind
        rw [e2]
        exact Int.mul_lt_mul_of_pos_left (by omega) hc
      exact Int.lt_of_mul_lt_mul_right this (by omega)
    · rw [h.a0]; omega
theorem KC.num {a : Int} {r : Rt} (h : KC a r) : numR .pro r = a := by
  have hc := sq_pos' h.ok.c0
  have c0 := h.ok.c0
  have g := h.ge
  have hb := h.b
  have hh := h.held.2
  have lo : Ps (baseR .pro r).a (baseR .pro r).b (baseR .pro r).d := hh.lo
  have bok := base_ok (k := .pro) h.ok
  have t1 := (turn_lt bok lo (m := a) (by omega)).mpr (by
    show Ps (a * (r.a - r.c) - r.c) (a * r.b) r.d
    refine (ps_iff h.ok.dd (by have := Int.mul_pos (show 0 < a by omega) hb; omega)).mpr (.inr ⟨?_, Int.mul_pos (by omega) hb⟩)
    rw [h.a0]
    have e1 : (a * (0 - r.c) - r.c) * (a * (0 - r.c) - r.c) = (a + 1) * (a + 1) * (r.c * r.c) := by grind
    have e2 : a * r.b * (a * r.b) * r.d = a * a * (r.b * r.b * r.d) := by grind
    rw [e1, e2]
    have : (a + 1) * (a + 1) * (r.c * r.c) * (a - 1) < a * a * (r.b * r.b * r.d) * (a - 1) := by
      rw [Int.mul_assoc (a * a), h.e]
      have e3 : (a + 1) * (a + 1) * (r.c * r.c) * (a - 1) = (r.c * r.c * (a + 1)) * (a * a - 1) := by grind
      have e4 : a * a * (r.c * r.c * (a + 1)) = (r.c * r.c * (a + 1)) * (a * a) := by grind
      rw [e3, e4]
      exact Int.mul_lt_mul_of_pos_left (by omega) (Int.mul_pos hc (by omega))
    exact Int.lt_of_mul_lt_mul_right this (by omega))
  have t2 : ¬ flR (turnR (baseR .pro r)) < a - 1 := fun z => by
    have := (turn_lt bok lo (m := a - 1) (by omega)).mp z
    have this : Ps ((a - 1) * (r.a - r.c) - r.c) ((a - 1) * r.b) r.d := this
    have hB : (a - 1) * r.b ≠ 0 := by have := Int.mul_pos (show 0 < a - 1 by omega) hb; omega
    have e1 : (a - 1) * (r.a - r.c) - r.c = -(a * r.c) := by rw [h.a0]; grind
    rw [e1] at this
    have q0 : 0 < a * r.c := Int.mul_pos (by omega) c0
    rcases (ps_iff h.ok.dd hB).mp this with ⟨_, y⟩ | ⟨y, _⟩
    · omega
    · rw [Int.neg_mul_neg] at y
      have e2 : a * r.c * (a * r.c) = r.c * r.c * (a * a) := by grind
      have e3 : (a - 1) * r.b * ((a - 1) * r.b) * r.d = (a - 1) * (r.b * r.b * r.d * (a - 1)) := by grind
      rw [e2, e3, h.e] at y
      have e4 : (a - 1) * (r.c * r.c * (a + 1)) = r.c * r.c * (a * a - 1) := by grind
      rw [e4] at y
      have := Int.lt_of_mul_lt_mul_left y (Int.le_of_lt hc)
      omega
  show flR (turnR (baseR .pro r)) + 1 = a
  omega
theorem KC.past {a : Int} {r : Rt} (h : KC a r) : KC (nxtC a) (pastR .pro r a) := by
  have hp := past_held h.held
  rw [h.num] at hp
  have g := h.ge
  have hb := h.b
  have hn := nxtC_ge g
  obtain ⟨c0, b0, d0⟩ := raw_c (k := .pro) (n := a) h.ok (by omega)
  have e := redR_mul (r := rawR .pro r a) c0
  have hg : 0 < g3 (rawR .pro r a).a (rawR .pro r a).b (rawR .pro r a).c := g3_pos (by omega)
  show KC (nxtC a) (redR (rawR .pro r a))
  have hp1 : RtOk (redR (rawR .pro r a)) := hp.1
  generalize g3 (rawR .pro r a).a (rawR .pro r a).b (rawR .pro r a).c = t at *
  generalize redR (rawR .pro r a) = q at *
  have ea : r.a * a = t * q.a := congrArg Rt.a e
  have eb : r.b * a = t * q.b := congrArg Rt.b e
  have ed : (rawR .pro r a).d = (sclR t q).d := congrArg Rt.d e
  have ed : r.d = q.d := ed
  have ec : r.c * (a + 1) = t * q.c := congrArg Rt.c e
  have q0 : q.a = 0 := by
    rw [h.a0, Int.zero_mul] at ea
    rcases Int.mul_eq_zero.mp ea.symm with z | z
    · omega
    · exact z
  have qb : 0 < q.b := by
    have : 0 < t * q.b := by rw [← eb]; exact Int.mul_pos hb (by omega)
    rcases Int.lt_or_le 0 q.b with z | z
    · exact z
    · have := Int.mul_nonpos_of_nonneg_of_nonpos (Int.le_of_lt hg) z; omega
  refine ⟨hp1, q0, qb, ?_, by omega⟩
  have ht2 := sq_pos' hg
  refine Int.eq_of_mul_eq_mul_left (show t * t ≠ 0 by omega) ?_
  have e1 : t * t * (q.b * q.b * q.d * (nxtC a - 1)) = t * q.b * (t * q.b) * q.d * (nxtC a - 1) := by grind
  have e2 : t * t * (q.c * q.c * (nxtC a + 1)) = t * q.c * (t * q.c) * (nxtC a + 1) := by grind
  rw [e1, e2, ← eb, ← ec, ← ed]
  unfold nxtC
  have e3 : r.b * a * (r.b * a) * r.d * (2 * a * a - 1 - 1) = 2 * (a * a) * (a + 1) * (r.b * r.b * r.d * (a - 1)) := by grind
  have e4 : r.c * (a + 1) * (r.c * (a + 1)) * (2 * a * a - 1 + 1) = 2 * (a * a) * (a + 1) * (r.c * r.c * (a + 1)) := by grind
  rw [e3, e4, h.e]
theorem KC.row : ∀ (m : Nat) {a : Int} {r : Rt}, KC a r → (restsR .pro r m).1 = seqC m a
  | 0, _, _, _ => rfl
  | m + 1, a, r, h => by
    show numR .pro r :: (restsR .pro (pastR .pro r (numR .pro r)) m).1 = a :: seqC m (nxtC a)
    rw [h.num, KC.row m h.past]
theorem KC.less {a : Int} {r : Rt} {x : Int × Int} (h : KC a r) (hx : 0 < x.2) : lessR r x = true ↔ valL a x := by
  have hc := sq_pos' h.ok.c0
  have c0 := h.ok.c0
  have hb := h.b
  have hbx := Int.mul_pos hb hx
  have g := h.ge
  unfold lessR valL
  rw [if_pos hbx, h.a0, Bool.and_eq_true, decide_eq_true_eq, decide_eq_true_eq, Int.zero_mul, Int.sub_zero]
  have e1 : r.b * x.2 * (r.b * x.2) * r.d * (a - 1) = r.c * r.c * (x.2 * x.2 * (a + 1)) := by
    have : r.b * x.2 * (r.b * x.2) * r.d * (a - 1) = x.2 * x.2 * (r.b * r.b * r.d * (a - 1)) := by grind
    rw [this, h.e]
    grind
  have e2 : x.1 * r.c * (x.1 * r.c) * (a - 1) = r.c * r.c * (x.1 * x.1 * (a - 1)) := by grind
  constructor
  · rintro ⟨h1, h2⟩
    refine ⟨?_, ?_⟩
    · rcases Int.lt_or_le 0 x.1 with z | z
      · exact z
      · have := Int.mul_nonpos_of_nonpos_of_nonneg z (Int.le_of_lt c0); omega
    · have := Int.mul_lt_mul_of_pos_right h2 (show 0 < a - 1 by omega)
      rw [e1, e2] at this
      exact Int.lt_of_mul_lt_mul_left this (Int.le_of_lt hc)
  · rintro ⟨h1, h2⟩
    refine ⟨Int.mul_pos h1 c0, ?_⟩
    have := Int.mul_lt_mul_of_pos_left h2 hc
    rw [← e1, ← e2] at this
    exact Int.lt_of_mul_lt_mul_right this (by omega)
theorem kc_start {a : Int} (ha : 2 ≤ a) : KC a ⟨0, 1, a * a - 1, a - 1⟩ ∧ rtI 0 1 (a * a - 1) (a - 1) = ⟨0, 1, a * a - 1, a - 1⟩ := by
  have h4 : 2 * a ≤ a * a := Int.mul_le_mul_of_nonneg_right ha (by omega)
  have hg : g3 0 1 (a - 1) = 1 := by
    unfold g3
    rw [show Int.gcd 0 1 = 1 from rfl]
    rw [show ((1 : Nat) : Int) = 1 from rfl, Int.gcd_comm, Int.gcd_one]
    rfl
  have e1 : (a - 1) * (a - 1) = a * a - 2 * a + 1 := by grind
  have ok : RtOk ⟨0, 1, a * a - 1, a - 1⟩ := by
    refine ⟨(by decide : (1 : Int) ≠ 0), ⟨by show 0 < a * a - 1; omega, ?_⟩, by show 1 < a * a - 1; omega, by show 0 < a - 1; omega, hg⟩
    show NoSq (a * a - 1).toNat
    intro z
    have z1 := isq_uniq (n := (a * a - 1).toNat) (k := (a - 1).toNat) (by
      have : (((a - 1).toNat * (a - 1).toNat : Nat) : Int) ≤ (((a * a - 1).toNat : Nat) : Int) := by
        rw [Int.natCast_mul, Int.toNat_of_nonneg (by omega), Int.toNat_of_nonneg (by omega), e1]
        omega
      omega) (by
      have : (((a * a - 1).toNat : Nat) : Int) < ((((a - 1).toNat + 1) * ((a - 1).toNat + 1) : Nat) : Int) := by
        rw [Int.natCast_mul, Int.natCast_add, Int.toNat_of_nonneg (by omega), Int.toNat_of_nonneg (by omega)]
        rw [show a - 1 + ((1 : Nat) : Int) = a by omega]
        omega
      omega)
    rw [z1] at z
    have : (((a - 1).toNat * (a - 1).toNat : Nat) : Int) = (((a * a - 1).toNat : Nat) : Int) := by rw [z]
    rw [Int.natCast_mul, Int.toNat_of_nonneg (by omega), Int.toNat_of_nonneg (by omega), e1] at this
    omega
  refine ⟨⟨ok, rfl, (by decide : (0 : Int) < 1), ?_, ha⟩, rtI_id ok⟩
  show 1 * 1 * (a * a - 1) * (a - 1) = (a - 1) * (a - 1) * (a + 1)
  grind
theorem cut_lt {a b c d : Int} (hb : 0 < b) (hd : 0 < d) : (cutI a b).1 * (cutI c d).2 < (cutI c d).1 * (cutI a b).2 ↔ a * d < c * b := by
  have e1 := cut_a (a := a) hb
  have e2 := cut_b (a := a) hb
  have e3 := cut_a (a := c) hd
  have e4 := cut_b (a := c) hd
  have g1 := g_pos (a := a) hb
  have g2 := g_pos (a := c) hd
  generalize cutI a b = p at *
  generalize cutI c d = q at *
  generalize ((Int.gcd a b : Nat) : Int) = g at *
  generalize ((Int.gcd c d : Nat) : Int) = f at *
  have gf := Int.mul_pos g1 g2
  have f1 : a * d = g * f * (p.1 * q.2) := by grind
  have f2 : c * b = g * f * (q.1 * p.2) := by grind
  rw [f1, f2]
  exact ⟨fun z => Int.mul_lt_mul_of_pos_left z gf, fun z => Int.lt_of_mul_lt_mul_left z (Int.le_of_lt gf)⟩
end Pw
namespace Pw
open PySem PySem.Spec PyProof.Rows L2 RZ
def top (i : Nat) : Stmt := PySem.Challenge.pw_rowsofunits_k31_main_known_rows_of_roots.main.body.getD i (.Pass ⟨0, 0, 0, 0⟩)
def sx_is_number : { s : Stmt // top 7 = s } := ⟨_, by conv => lhs; whnf⟩
abbrev st_is_number : Stmt := sx_is_number.1
def sx_is_within : { s : Stmt // top 8 = s } := ⟨_, by conv => lhs; whnf⟩
abbrev st_is_within : Stmt := sx_is_within.1
def sx_sure_within : { s : Stmt // top 9 = s } := ⟨_, by conv => lhs; whnf⟩
abbrev st_sure_within : Stmt := sx_sure_within.1
def sx_is_long : { s : Stmt // top 10 = s } := ⟨_, by conv => lhs; whnf⟩
abbrev st_is_long : Stmt := sx_is_long.1
def sx_are_numbers : { s : Stmt // top 11 = s } := ⟨_, by conv => lhs; whnf⟩
abbrev st_are_numbers : Stmt := sx_are_numbers.1
def sx_tupled : { s : Stmt // top 12 = s } := ⟨_, by conv => lhs; whnf⟩
abbrev st_tupled : Stmt := sx_tupled.1
def sx_common : { s : Stmt // top 13 = s } := ⟨_, by conv => lhs; whnf⟩
abbrev st_common : Stmt := sx_common.1
def sx_is_near : { s : Stmt // top 14 = s } := ⟨_, by conv => lhs; whnf⟩
abbrev st_is_near : Stmt := sx_is_near.1
def sx_is_fraction_in : { s : Stmt // top 16 = s } := ⟨_, by conv => lhs; whnf⟩
abbrev st_is_fraction_in : Stmt := sx_is_fraction_in.1
def sx_sure_fraction : { s : Stmt // top 17 = s } := ⟨_, by conv => lhs; whnf⟩
abbrev st_sure_fraction : Stmt := sx_sure_fraction.1
def sx_sure_book : { s : Stmt // top 20 = s } := ⟨_, by conv => lhs; whnf⟩
abbrev st_sure_book : Stmt := sx_sure_book.1
def sx_whole_root : { s : Stmt // top 26 = s } := ⟨_, by conv => lhs; whnf⟩
abbrev st_whole_root : Stmt := sx_whole_root.1
def sx_is_square : { s : Stmt // top 27 = s } := ⟨_, by conv => lhs; whnf⟩
abbrev st_is_square : Stmt := sx_is_square.1
def sx_lowest_root : { s : Stmt // top 28 = s } := ⟨_, by conv => lhs; whnf⟩
abbrev st_lowest_root : Stmt := sx_lowest_root.1
def sx_is_root_in : { s : Stmt // top 29 = s } := ⟨_, by conv => lhs; whnf⟩
abbrev st_is_root_in : Stmt := sx_is_root_in.1
def sx_sure_root : { s : Stmt // top 30 = s } := ⟨_, by conv => lhs; whnf⟩
abbrev st_sure_root : Stmt := sx_sure_root.1
def sx_root_floor_in : { s : Stmt // top 31 = s } := ⟨_, by conv => lhs; whnf⟩
abbrev st_root_floor_in : Stmt := sx_root_floor_in.1
def sx_turned_root : { s : Stmt // top 32 = s } := ⟨_, by conv => lhs; whnf⟩
abbrev st_turned_root : Stmt := sx_turned_root.1
def sx_is_root_held : { s : Stmt // top 33 = s } := ⟨_, by conv => lhs; whnf⟩
abbrev st_is_root_held : Stmt := sx_is_root_held.1
def sx_root_next : { s : Stmt // top 34 = s } := ⟨_, by conv => lhs; whnf⟩
abbrev st_root_next : Stmt := sx_root_next.1
def sx_root_past : { s : Stmt // top 35 = s } := ⟨_, by conv => lhs; whnf⟩
abbrev st_root_past : Stmt := sx_root_past.1
def sx_root_rests : { s : Stmt // top 36 = s } := ⟨_, by conv => lhs; whnf⟩
abbrev st_root_rests : Stmt := sx_root_rests.1
def sx_sure_held_root : { s : Stmt // top 37 = s } := ⟨_, by conv => lhs; whnf⟩
abbrev st_sure_held_root : Stmt := sx_sure_held_root.1
def sx_known_in : { s : Stmt // top 38 = s } := ⟨_, by conv => lhs; whnf⟩
abbrev st_known_in : Stmt := sx_known_in.1
def sx_sure_known : { s : Stmt // top 39 = s } := ⟨_, by conv => lhs; whnf⟩
abbrev st_sure_known : Stmt := sx_sure_known.1
def sx_root_floor : { s : Stmt // top 40 = s } := ⟨_, by conv => lhs; whnf⟩
abbrev st_root_floor : Stmt := sx_root_floor.1
def sx_root_is_under : { s : Stmt // top 41 = s } := ⟨_, by conv => lhs; whnf⟩
abbrev st_root_is_under : Stmt := sx_root_is_under.1
def sx_root_numbers : { s : Stmt // top 42 = s } := ⟨_, by conv => lhs; whnf⟩
abbrev st_root_numbers : Stmt := sx_root_numbers.1
def sx_root_rest : { s : Stmt // top 43 = s } := ⟨_, by conv => lhs; whnf⟩
abbrev st_root_rest : Stmt := sx_root_rest.1
def sx_known_root : { s : Stmt // top 44 = s } := ⟨_, by conv => lhs; whnf⟩
abbrev st_known_root : Stmt := sx_known_root.1
def sx_known_engel : { s : Stmt // top 45 = s } := ⟨_, by conv => lhs; whnf⟩
abbrev st_known_engel : Stmt := sx_known_engel.1
def sx_known_pierce : { s : Stmt // top 46 = s } := ⟨_, by conv => lhs; whnf⟩
abbrev st_known_pierce : Stmt := sx_known_pierce.1
def sx_l_box : { s : Stmt // top 48 = s } := ⟨_, by conv => lhs; whnf⟩
abbrev st_l_box : Stmt := sx_l_box.1
def sx_l_take : { s : Stmt // top 49 = s } := ⟨_, by conv => lhs; whnf⟩
abbrev st_l_take : Stmt := sx_l_take.1
def sx_l_cells : { s : Stmt // top 50 = s } := ⟨_, by conv => lhs; whnf⟩
abbrev st_l_cells : Stmt := sx_l_cells.1
def sx_l_of : { s : Stmt // top 51 = s } := ⟨_, by conv => lhs; whnf⟩
abbrev st_l_of : Stmt := sx_l_of.1
def sx_l_mixed : { s : Stmt // top 52 = s } := ⟨_, by conv => lhs; whnf⟩
abbrev st_l_mixed : Stmt := sx_l_mixed.1
def sx_l_same : { s : Stmt // top 53 = s } := ⟨_, by conv => lhs; whnf⟩
abbrev st_l_same : Stmt := sx_l_same.1
def sx_l_common : { s : Stmt // top 57 = s } := ⟨_, by conv => lhs; whnf⟩
abbrev st_l_common : Stmt := sx_l_common.1
def sx_l_cut : { s : Stmt // top 54 = s } := ⟨_, by conv => lhs; whnf⟩
abbrev st_l_cut : Stmt := sx_l_cut.1
def sx_l_call : { s : Stmt // top 55 = s } := ⟨_, by conv => lhs; whnf⟩
abbrev st_l_call : Stmt := sx_l_call.1
def sx_l_slip : { s : Stmt // top 56 = s } := ⟨_, by conv => lhs; whnf⟩
abbrev st_l_slip : Stmt := sx_l_slip.1
def sx_l_is_less : { s : Stmt // top 58 = s } := ⟨_, by conv => lhs; whnf⟩
abbrev st_l_is_less : Stmt := sx_l_is_less.1
def sx_l_heard : { s : Stmt // top 59 = s } := ⟨_, by conv => lhs; whnf⟩
abbrev st_l_heard : Stmt := sx_l_heard.1
def sx_l_isqrt : { s : Stmt // top 60 = s } := ⟨_, by conv => lhs; whnf⟩
abbrev st_l_isqrt : Stmt := sx_l_isqrt.1
def sx_l_root_terms : { s : Stmt // top 61 = s } := ⟨_, by conv => lhs; whnf⟩
abbrev st_l_root_terms : Stmt := sx_l_root_terms.1
def sx_l_ten : { s : Stmt // top 63 = s } := ⟨_, by conv => lhs; whnf⟩
abbrev st_l_ten : Stmt := sx_l_ten.1
def sx_l_narrow : { s : Stmt // top 62 = s } := ⟨_, by conv => lhs; whnf⟩
abbrev st_l_narrow : Stmt := sx_l_narrow.1
def sx_l_times : { s : Stmt // top 64 = s } := ⟨_, by conv => lhs; whnf⟩
abbrev st_l_times : Stmt := sx_l_times.1
def sx_l_right : { s : Stmt // top 65 = s } := ⟨_, by conv => lhs; whnf⟩
abbrev st_l_right : Stmt := sx_l_right.1
def sx_law : { s : Stmt // top 66 = s } := ⟨_, by conv => lhs; whnf⟩
abbrev st_law : Stmt := sx_law.1
def kv_BOOKS : D := (.tup [(.str "sylvester"), (.str "engel"), (.str "pierce"), (.str "ostro"), (.str "product")])
structure Hd (K : PySem.W.Frag) (mg : Str → Option Value) : Prop where
  dg : DigK K
  sk : SlipK K (He.ga K) ["Unfit", "CanNot", "TooMany"]
  z_ValueError : mg "ValueError" = none
  z_abs : mg "abs" = none
  z_all : mg "all" = none
  z_any : mg "any" = none
  z_bool : mg "bool" = none
  z_enumerate : mg "enumerate" = none
  z_int : mg "int" = none
  z_isinstance : mg "isinstance" = none
  z_len : mg "len" = none
  z_list : mg "list" = none
  z_range : mg "range" = none
  z_str : mg "str" = none
  z_tuple : mg "tuple" = none
  z_zip : mg "zip" = none
  x_CanNot : ExcS K mg (He.ga K) "CanNot"
  x_TooMany : ExcS K mg (He.ga K) "TooMany"
  x_Unfit : ExcS K mg (He.ga K) "Unfit"
  c_SHORT : ∃ t, mg "SHORT" = some (.int 300 t)
  c_LONG_NUMBER : ∃ t, mg "LONG_NUMBER" = some (.int 2000 t)
  d_is_number : DefOk K mg "is_number" st_is_number ["thing"]
  d_is_within : DefOk K mg "is_within" st_is_within ["thing", "least", "most"]
  d_sure_within : DefOk K mg "sure_within" st_sure_within ["thing", "least", "most"]
  d_is_long : DefOk K mg "is_long" st_is_long ["thing", "length"]
  d_are_numbers : DefOk K mg "are_numbers" st_are_numbers ["thing"]
  d_tupled : DefOk K mg "tupled" st_tupled ["value"]
  d_common : DefOk K mg "common" st_common ["one", "other"]
  d_is_near : DefOk K mg "is_near" st_is_near ["number", "figures"]
  d_is_fraction_in : DefOk K mg "is_fraction_in" st_is_fraction_in ["thing"]
  d_sure_fraction : DefOk K mg "sure_fraction" st_sure_fraction ["value"]
  c_BOOKS : KTup K mg (He.ga K) "BOOKS" kv_BOOKS
  d_sure_book : DefOk K mg "sure_book" st_sure_book ["value"]
  c_MOST_PART : ∃ t, mg "MOST_PART" = some (.int 1000000 t)
  c_MOST_FIRST : ∃ t, mg "MOST_FIRST" = some (.int 60 t)
  c_LEAST_KNOWN : ∃ t, mg "LEAST_KNOWN" = some (.int 3 t)
  c_MOST_KNOWN : ∃ t, mg "MOST_KNOWN" = some (.int 1000 t)
  d_whole_root : DefOk K mg "whole_root" st_whole_root ["number"]
  d_is_square : DefOk K mg "is_square" st_is_square ["number"]
  d_lowest_root : DefOk K mg "lowest_root" st_lowest_root ["one", "two", "under", "below"]
  d_is_root_in : DefOk K mg "is_root_in" st_is_root_in ["thing"]
  d_sure_root : DefOk K mg "sure_root" st_sure_root ["value"]
  d_root_floor_in : DefOk K mg "root_floor_in" st_root_floor_in ["own"]
  d_turned_root : DefOk K mg "turned_root" st_turned_root ["own"]
  d_is_root_held : DefOk K mg "is_root_held" st_is_root_held ["book", "own"]
  d_root_next : DefOk K mg "root_next" st_root_next ["book", "rest"]
  d_root_past : DefOk K mg "root_past" st_root_past ["book", "rest", "number"]
  d_root_rests : DefOk K mg "root_rests" st_root_rests ["book", "own", "many"]
  d_sure_held_root : DefOk K mg "sure_held_root" st_sure_held_root ["book", "value"]
  d_known_in : DefOk K mg "known_in" st_known_in ["number"]
  d_sure_known : DefOk K mg "sure_known" st_sure_known ["value"]
  d_root_floor : DefOk K mg "root_floor" st_root_floor ["root"]
  d_root_is_under : DefOk K mg "root_is_under" st_root_is_under ["root", "fraction"]
  d_root_numbers : DefOk K mg "root_numbers" st_root_numbers ["book", "root", "many"]
  d_root_rest : DefOk K mg "root_rest" st_root_rest ["book", "root", "many"]
  d_known_root : DefOk K mg "known_root" st_known_root ["number"]
  d_known_engel : DefOk K mg "known_engel" st_known_engel ["number", "many"]
  d_known_pierce : DefOk K mg "known_pierce" st_known_pierce ["number", "many"]
  d_l_box : DefOk K mg "_law_box" st_l_box ["script", "k"]
  d_l_take : DefOk K mg "_law_take" st_l_take ["tin", "below_so"]
  d_l_cells : DefOk K mg "_law_cells" st_l_cells ["script", "most_so"]
  d_l_of : DefOk K mg "_law_of" st_l_of ["tin", "goods_so"]
  d_l_mixed : DefOk K mg "_law_mixed" st_l_mixed ["tin", "matter"]
  d_l_same : DefOk K mg "_law_same" st_l_same ["got", "due"]
  d_l_cut : DefOk K mg "_law_cut" st_l_cut ["over_so", "under_so"]
  d_l_call : DefOk K mg "_law_call" st_l_call ["door_so", "goods_so"]
  d_l_slip : DefOk K mg "_law_slip" st_l_slip ["door_so", "goods_so"]
  d_l_common : DefOk K mg "_law_common" st_l_common ["one", "two"]
  d_l_is_less : DefOk K mg "_law_is_less" st_l_is_less ["one", "two"]
  d_l_heard : DefOk K mg "_law_heard" st_l_heard ["door_so", "goods_so"]
  d_l_isqrt : DefOk K mg "_law_isqrt" st_l_isqrt ["k"]
  d_l_root_terms : DefOk K mg "_law_root_terms" st_l_root_terms ["a", "b", "d", "c"]
  d_l_narrow : DefOk K mg "_law_narrow" st_l_narrow ["root_so", "figures_so"]
  d_l_ten : DefOk K mg "_law_ten" st_l_ten ["figures_so"]
  d_l_times : DefOk K mg "_law_times" st_l_times ["one", "two"]
  d_l_right : DefOk K mg "_law_right" st_l_right ["tin"]
  d_law : DefOk K mg "law" st_law ["script"]
noncomputable section
variable {P : Program} {w : World} {K : PySem.W.Frag} {mg : Str → Option Value} {base : Heap}
/-! is_number -/
abbrev N_is_number : List Str := ["thing"]
theorem sc_is_number : FnScope N_is_number ["thing"] (defScope st_is_number) := ⟨rfl, rfl, rfl, by decide +kernel, rfl, by decide +kernel, by decide +kernel⟩
def b_is_number : S := (sRet (mAndV (mIs .int (mVar 0)) (mNotV (mIs .bl (mVar 0)))))
noncomputable def F_is_number : FSem := Classical.choose (sealF (fnSem 1 1 b_is_number))
theorem F_is_number_eq : F_is_number = fnSem 1 1 b_is_number := Classical.choose_spec (sealF (fnSem 1 1 b_is_number))
theorem ok_is_number (hd : Hd K mg) : FnS P w K mg base (He.ga K) 1 "is_number" ["thing"] F_is_number := by
  rw [F_is_number_eq]
  exact fn_of (m := b_is_number) (Os' := ([] : List Nat)) hd.d_is_number sc_is_number rfl rfl fun cdv A outer s H E hr tk pn =>
  (rss_one (rs_ret (re_and (re_isi .int hd.z_isinstance hd.z_int (re_rb (re_var 0))) (re_one (re_not (re_isi .bl hd.z_isinstance hd.z_bool (re_rb (re_var 0))))))))
/-! is_within -/
abbrev N_is_within : List Str := ["thing", "least", "most"]
theorem sc_is_within : FnScope N_is_within ["thing", "least", "most"] (defScope st_is_within) := ⟨rfl, rfl, rfl, by decide +kernel, rfl, by decide +kernel, by decide +kernel⟩
def b_is_within : S := (sRet (mAndV (mCall F_is_number 1 (mCons (mVar 0) mNil)) (mChain dLe dLe (mVar 1) (mVar 0) (mVar 2))))
noncomputable def F_is_within : FSem := Classical.choose (sealF (fnSem 3 3 b_is_within))
theorem F_is_within_eq : F_is_within = fnSem 3 3 b_is_within := Classical.choose_spec (sealF (fnSem 3 3 b_is_within))
theorem ok_is_within (hd : Hd K mg) : FnS P w K mg base (He.ga K) 2 "is_within" ["thing", "least", "most"] F_is_within := by
  rw [F_is_within_eq]
  exact fn_of (m := b_is_within) (Os' := ([] : List Nat)) hd.d_is_within sc_is_within rfl rfl fun cdv A outer s H E hr tk pn =>
  (rss_one (rs_ret (re_and (re_call (ok_is_number hd) hr tk (ra_cons (re_var 0) ra_nil)) (re_one (re_chain c_le c_le (re_rb (re_var 1)) (re_rb (re_var 0)) (re_rb (re_var 2)))))))
/-! sure_within -/
abbrev N_sure_within : List Str := ["thing", "least", "most"]
theorem sc_sure_within : FnScope N_sure_within ["thing", "least", "most"] (defScope st_sure_within) := ⟨rfl, rfl, rfl, by decide +kernel, rfl, by decide +kernel, by decide +kernel⟩
def b_sure_within : S := (sSeq (sIf (mNot (mTst (mCall F_is_within 3 (mCons (mVar 0) (mCons (mVar 1) (mCons (mVar 2) mNil)))))) (sRaise "Unfit") sNext) (sRet (mVar 0)))
noncomputable def F_sure_within : FSem := Classical.choose (sealF (fnSem 3 3 b_sure_within))
theorem F_sure_within_eq : F_sure_within = fnSem 3 3 b_sure_within := Classical.choose_spec (sealF (fnSem 3 3 b_sure_within))
theorem ok_sure_within (hd : Hd K mg) : FnS P w K mg base (He.ga K) 3 "sure_within" ["thing", "least", "most"] F_sure_within := by
  rw [F_sure_within_eq]
  exact fn_of (m := b_sure_within) (Os' := ([] : List Nat)) hd.d_sure_within sc_sure_within rfl rfl fun cdv A outer s H E hr tk pn =>
  (rss_cons (rs_if (rt_not (rt_val (re_call (ok_is_within hd) hr tk (ra_cons (re_var 0) (ra_cons (re_var 1) (ra_cons (re_var 2) ra_nil)))))) (rss_one (rs_raise hd.x_Unfit tk)) rss_nil) (rss_one (rs_ret (re_var 0))))
/-! is_long -/
abbrev N_is_long : List Str := ["thing", "length"]
theorem sc_is_long : FnScope N_is_long ["thing", "length"] (defScope st_is_long) := ⟨rfl, rfl, rfl, by decide +kernel, rfl, by decide +kernel, by decide +kernel⟩
def b_is_long : S := (sRet (mAndV (mIs .tup (mVar 0)) (mBin dEq (mCB fLen (mCons (mVar 0) mNil)) (mVar 1))))
noncomputable def F_is_long : FSem := Classical.choose (sealF (fnSem 2 2 b_is_long))
theorem F_is_long_eq : F_is_long = fnSem 2 2 b_is_long := Classical.choose_spec (sealF (fnSem 2 2 b_is_long))
theorem ok_is_long (hd : Hd K mg) : FnS P w K mg base (He.ga K) 1 "is_long" ["thing", "length"] F_is_long := by
  rw [F_is_long_eq]
  exact fn_of (m := b_is_long) (Os' := ([] : List Nat)) hd.d_is_long sc_is_long rfl rfl fun cdv A outer s H E hr tk pn =>
  (rss_one (rs_ret (re_and (re_isi .tup hd.z_isinstance hd.z_tuple (re_rb (re_var 0))) (re_one (re_cm (c_eq hr) (re_rb (re_cb b_len hd.z_len (rab_cons (re_rb (re_var 0)) rab_nil))) (re_rb (re_var 1)))))))
/-! are_numbers -/
abbrev N_are_numbers : List Str := ["thing", "own"]
theorem sc_are_numbers : FnScope N_are_numbers ["thing"] (defScope st_are_numbers) := ⟨rfl, rfl, rfl, by decide +kernel, rfl, by decide +kernel, by decide +kernel⟩
def b_are_numbers : S := (sRet (mAndV (mIs .tup (mVar 0)) (mCB fAll (mCons (mLc [1] (mItA (mVar 0)) (gV 1) mYes (mCall F_is_number 1 (mCons (mVar 1) mNil))) mNil))))
noncomputable def F_are_numbers : FSem := Classical.choose (sealF (fnSem 1 2 b_are_numbers))
theorem F_are_numbers_eq : F_are_numbers = fnSem 1 2 b_are_numbers := Classical.choose_spec (sealF (fnSem 1 2 b_are_numbers))
theorem ok_are_numbers (hd : Hd K mg) : FnS P w K mg base (He.ga K) 2 "are_numbers" ["thing"] F_are_numbers := by
  rw [F_are_numbers_eq]
  exact fn_of (m := b_are_numbers) (Os' := ([] : List Nat)) hd.d_are_numbers sc_are_numbers rfl rfl fun cdv A outer s H E hr tk pn =>
  (rss_one (rs_ret (re_and (re_isi .tup hd.z_isinstance hd.z_tuple (re_rb (re_var 0))) (re_one (re_cb (b_all rfl) hd.z_all (rab_cons (re_rb (rf_re (rf_lc (own := [("own", 1)]) sc_are_numbers.nd (blkOk_by (N := N_are_numbers) (sc := defScope st_are_numbers) (by decide +kernel)) (ri_seq (re_var 0)) (fun _ _ _ _ _ => (rg_name 1 sc_are_numbers.nd)) (fun _ _ _ _ _ => rts_nil) (fun _ _ _ _ _ => (re_call (ok_is_number hd) hr takes0 (ra_cons (re_var 1) ra_nil)))))) rab_nil))))))
/-! tupled -/
abbrev N_tupled : List Str := ["value", "own"]
theorem sc_tupled : FnScope N_tupled ["value"] (defScope st_tupled) := ⟨rfl, rfl, rfl, by decide +kernel, rfl, by decide +kernel, by decide +kernel⟩
def b_tupled (Fr : FSem) : S := (sRet (mIf (mTst (mIsT [.lst, .tup] (mVar 0))) (mCB fTuple (mCons (mLc [1] (mItA (mVar 0)) (gV 1) mYes (mCall Fr 1 (mCons (mVar 1) mNil))) mNil)) (mVar 0)))
def Ft_tupled : Nat → FSem
  | 0 => fnSem 1 2 fun _ _ => none
  | n + 1 => fnSem 1 2 (b_tupled (Ft_tupled n))
theorem okn_tupled (hd : Hd K mg) : ∀ n : Nat, FnS P w K mg base (He.ga K) (n + 1) "tupled" ["value"] (Ft_tupled n)
  | 0 => fn_of (k := 0) (m := fun _ _ => none) (Os' := ([] : List Nat)) hd.d_tupled sc_tupled rfl rfl fun cdv A outer s H E hr tk pn => rss_none
  | n + 1 => by
    have ih : FnS P w K mg base (He.ga K) (n + 1) "tupled" ["value"] (Ft_tupled n) := okn_tupled hd n
    have q : FnS P w K mg base (He.ga K) (n + 1 + 1) "tupled" ["value"] (fnSem 1 2 (b_tupled (Ft_tupled n))) := fn_of (k := n + 1) (m := b_tupled (Ft_tupled n)) (Os' := ([] : List Nat)) hd.d_tupled sc_tupled rfl rfl fun cdv A outer s H E hr tk pn => (rss_one (rs_ret (re_if (rt_val (re_isiT (c := .Tuple [] 0 _) .lst .tup hd.z_isinstance hd.z_list hd.z_tuple (re_rb (re_var 0)))) (re_ct b_tuple hd.z_tuple (rab_cons (re_rb (rf_re (rf_lc (own := [("own", 1)]) sc_tupled.nd (blkOk_by (N := N_tupled) (sc := defScope st_tupled) (by decide +kernel)) (ri_seq (re_var 0)) (fun _ _ _ _ _ => (rg_name 1 sc_tupled.nd)) (fun _ _ _ _ _ => rts_nil) (fun _ _ _ _ _ => (re_callR (Nat.le_refl _) ih hr takes0 (ra_cons (re_var 1) ra_nil)))))) rab_nil)) (re_var 0))))
    have e : n + 1 + 1 = n + 1 + 1 := by omega
    rw [e] at q
    exact q
noncomputable def F_tupled : FSem := Classical.choose (sealF (Ft_tupled 20))
theorem F_tupled_eq : F_tupled = Ft_tupled 20 := Classical.choose_spec (sealF (Ft_tupled 20))
theorem ok_tupled (hd : Hd K mg) : FnS P w K mg base (He.ga K) 21 "tupled" ["value"] F_tupled := by
  rw [F_tupled_eq]
  exact okn_tupled hd 20
/-! common -/
abbrev N_common : List Str := ["one", "other"]
theorem sc_common : FnScope N_common ["one", "other"] (defScope st_common) := ⟨rfl, rfl, rfl, by decide +kernel, rfl, by decide +kernel, by decide +kernel⟩
def b_common : S := (sSeq (sPar [0, 1] (mCons (mCB fAbs (mCons (mVar 0) mNil)) (mCons (mCB fAbs (mCons (mVar 1) mNil)) mNil))) (sSeq (sWhile (mTst (mBin dNe (mVar 1) (mLit (.int 0)))) (sPar [0, 1] (mCons (mVar 1) (mCons (mBin dMod (mVar 0) (mVar 1)) mNil)))) (sRet (mVar 0))))
noncomputable def F_common : FSem := Classical.choose (sealF (fnSem 2 2 b_common))
theorem F_common_eq : F_common = fnSem 2 2 b_common := Classical.choose_spec (sealF (fnSem 2 2 b_common))
theorem ok_common (hd : Hd K mg) : FnS P w K mg base (He.ga K) 1 "common" ["one", "other"] F_common := by
  rw [F_common_eq]
  exact fn_of (m := b_common) (Os' := ([] : List Nat)) hd.d_common sc_common rfl rfl fun cdv A outer s H E hr tk pn =>
  (rss_cons (rs_par2 0 1 rfl sc_common.nd (rp_val (re_cb b_abs hd.z_abs (rab_cons (re_rb (re_var 0)) rab_nil)) (rp_val (re_cb b_abs hd.z_abs (rab_cons (re_rb (re_var 1)) rab_nil)) rp_nil)) rfl) (rss_cons (rs_while pn (rt_cm (c_ne hr) (re_rb (re_var 1)) (re_rb re_int)) (rss_one (rs_par2 0 1 rfl sc_common.nd (rp_val (re_var 1) (rp_val (re_mod (re_rb (re_var 0)) (re_rb (re_var 1))) rp_nil)) rfl))) (rss_one (rs_ret (re_var 0)))))
/-! is_near -/
abbrev N_is_near : List Str := ["number", "figures"]
theorem sc_is_near : FnScope N_is_near ["number", "figures"] (defScope st_is_near) := ⟨rfl, rfl, rfl, by decide +kernel, rfl, by decide +kernel, by decide +kernel⟩
def b_is_near : S := (sRet (mBin dLt (mCB fAbs (mCons (mVar 0) mNil)) (mCB fIntB (mCons (mBin dAdd (mLit (.str "1")) (mBin dMul (mLit (.str "0")) (mVar 1))) mNil))))
noncomputable def F_is_near : FSem := Classical.choose (sealF (fnSem 2 2 b_is_near))
theorem F_is_near_eq : F_is_near = fnSem 2 2 b_is_near := Classical.choose_spec (sealF (fnSem 2 2 b_is_near))
theorem ok_is_near (hd : Hd K mg) : FnS P w K mg base (He.ga K) 1 "is_near" ["number", "figures"] F_is_near := by
  rw [F_is_near_eq]
  exact fn_of (m := b_is_near) (Os' := ([] : List Nat)) hd.d_is_near sc_is_near rfl rfl fun cdv A outer s H E hr tk pn =>
  (rss_one (rs_ret (re_cm c_lt (re_rb (re_cb b_abs hd.z_abs (rab_cons (re_rb (re_var 0)) rab_nil))) (re_rb (re_ct (b_intB hd.dg) hd.z_int (rab_cons (re_rb (re_add (re_rb re_str) (re_rb (re_mul (re_rb re_str) (re_rb (re_var 1)))))) rab_nil))))))
/-! is_fraction_in -/
abbrev N_is_fraction_in : List Str := ["thing"]
theorem sc_is_fraction_in : FnScope N_is_fraction_in ["thing"] (defScope st_is_fraction_in) := ⟨rfl, rfl, rfl, by decide +kernel, rfl, by decide +kernel, by decide +kernel⟩
def b_is_fraction_in : S := (sRet (mAndV (mCall F_is_long 2 (mCons (mVar 0) (mCons (mLit (.int 2)) mNil))) (mAndV (mCall F_are_numbers 1 (mCons (mVar 0) mNil)) (mAndV (mBin dGt (mIdx (mVar 0) (mLit (.int 1))) (mLit (.int 0))) (mBin dEq (mCall F_common 2 (mCons (mIdx (mVar 0) (mLit (.int 0))) (mCons (mIdx (mVar 0) (mLit (.int 1))) mNil))) (mLit (.int 1)))))))
noncomputable def F_is_fraction_in : FSem := Classical.choose (sealF (fnSem 1 1 b_is_fraction_in))
theorem F_is_fraction_in_eq : F_is_fraction_in = fnSem 1 1 b_is_fraction_in := Classical.choose_spec (sealF (fnSem 1 1 b_is_fraction_in))
theorem ok_is_fraction_in (hd : Hd K mg) : FnS P w K mg base (He.ga K) 3 "is_fraction_in" ["thing"] F_is_fraction_in := by
  rw [F_is_fraction_in_eq]
  exact fn_of (m := b_is_fraction_in) (Os' := ([] : List Nat)) hd.d_is_fraction_in sc_is_fraction_in rfl rfl fun cdv A outer s H E hr tk pn =>
  (rss_one (rs_ret (re_and (re_call (ok_is_long hd) hr tk (ra_cons (re_var 0) (ra_cons re_int ra_nil))) (re_and (re_call (ok_are_numbers hd) hr tk (ra_cons (re_var 0) ra_nil)) (re_and (re_cm c_gt (re_rb (re_idx (re_rb (re_var 0)) re_int)) (re_rb re_int)) (re_one (re_cm (c_eq hr) (re_rb (re_call (ok_common hd) hr tk (ra_cons (re_idx (re_rb (re_var 0)) re_int) (ra_cons (re_idx (re_rb (re_var 0)) re_int) ra_nil)))) (re_rb re_int))))))))
/-! sure_fraction -/
abbrev N_sure_fraction : List Str := ["value", "own", "part"]
theorem sc_sure_fraction : FnScope N_sure_fraction ["value"] (defScope st_sure_fraction) := ⟨rfl, rfl, rfl, by decide +kernel, rfl, by decide +kernel, by decide +kernel⟩
def b_sure_fraction : S := (sSeq (sSet 1 (mCall F_tupled 1 (mCons (mVar 0) mNil))) (sSeq (sIf (mOr (mNot (mTst (mCall F_is_fraction_in 1 (mCons (mVar 1) mNil)))) (mNot (mTst (mCB fAll (mCons (mLc [2] (mItA (mVar 1)) (gV 2) mYes (mCall F_is_near 2 (mCons (mVar 2) (mCons (mLit (.int 300)) mNil)))) mNil))))) (sRaise "Unfit") sNext) (sRet (mVar 1))))
noncomputable def F_sure_fraction : FSem := Classical.choose (sealF (fnSem 1 3 b_sure_fraction))
theorem F_sure_fraction_eq : F_sure_fraction = fnSem 1 3 b_sure_fraction := Classical.choose_spec (sealF (fnSem 1 3 b_sure_fraction))
theorem ok_sure_fraction (hd : Hd K mg) : FnS P w K mg base (He.ga K) 22 "sure_fraction" ["value"] F_sure_fraction := by
  rw [F_sure_fraction_eq]
  exact fn_of (m := b_sure_fraction) (Os' := ([] : List Nat)) hd.d_sure_fraction sc_sure_fraction rfl rfl fun cdv A outer s H E hr tk pn =>
  (rss_cons (rs_set 1 sc_sure_fraction.nd (re_call (ok_tupled hd) hr tk (ra_cons (re_var 0) ra_nil))) (rss_cons (rs_if (rw_pt (rw_or (rt_not (rt_val (re_call (ok_is_fraction_in hd) hr tk (ra_cons (re_var 1) ra_nil)))) (rw_or1 (rt_not (rt_val (re_cb (b_all rfl) hd.z_all (rab_cons (re_rb (rf_re (rf_lc (own := [("part", 2)]) sc_sure_fraction.nd (blkOk_by (N := N_sure_fraction) (sc := defScope st_sure_fraction) (by decide +kernel)) (ri_seq (re_var 1)) (fun _ _ _ _ _ => (rg_name 2 sc_sure_fraction.nd)) (fun _ _ _ _ _ => rts_nil) (fun _ _ _ _ _ => (re_call (ok_is_near hd) hr takes0 (ra_cons (re_var 2) (ra_cons (re_gint hd.c_SHORT) ra_nil))))))) rab_nil))))))) (rss_one (rs_raise hd.x_Unfit tk)) rss_nil) (rss_one (rs_ret (re_var 1)))))
/-! sure_book -/
abbrev N_sure_book : List Str := ["value"]
theorem sc_sure_book : FnScope N_sure_book ["value"] (defScope st_sure_book) := ⟨rfl, rfl, rfl, by decide +kernel, rfl, by decide +kernel, by decide +kernel⟩
def b_sure_book : S := (sSeq (sIf (mOr (mNot (mTst (mIs .str (mVar 0)))) (mTst (mBin dNotIn (mVar 0) (mLit kv_BOOKS)))) (sRaise "Unfit") sNext) (sRet (mVar 0)))
noncomputable def F_sure_book : FSem := Classical.choose (sealF (fnSem 1 1 b_sure_book))
theorem F_sure_book_eq : F_sure_book = fnSem 1 1 b_sure_book := Classical.choose_spec (sealF (fnSem 1 1 b_sure_book))
theorem ok_sure_book (hd : Hd K mg) : FnS P w K mg base (He.ga K) 1 "sure_book" ["value"] F_sure_book := by
  rw [F_sure_book_eq]
  exact fn_of (m := b_sure_book) (Os' := ([] : List Nat)) hd.d_sure_book sc_sure_book rfl rfl fun cdv A outer s H E hr tk pn =>
  (rss_cons (rs_if (rw_pt (rw_or (rt_not (rt_val (re_isi .str hd.z_isinstance hd.z_str (re_rb (re_var 0))))) (rw_or1 (rt_cm c_notIn (re_rb (re_var 0)) (re_rb (re_gtup hd.c_BOOKS)))))) (rss_one (rs_raise hd.x_Unfit tk)) rss_nil) (rss_one (rs_ret (re_var 0))))
/-! whole_root -/
abbrev N_whole_root : List Str := ["number", "found"]
theorem sc_whole_root : FnScope N_whole_root ["number"] (defScope st_whole_root) := ⟨rfl, rfl, rfl, by decide +kernel, rfl, by decide +kernel, by decide +kernel⟩
def b_whole_root : S := (sSeq (sIf (mTst (mBin dLt (mVar 0) (mLit (.int 2)))) (sRet (mVar 0)) sNext) (sSeq (sSet 1 (mLit (.int 1))) (sSeq (sWhile (mTst (mBin dLe (mBin dMul (mVar 1) (mVar 1)) (mVar 0))) (sSet 1 (mBin dMul (mVar 1) (mLit (.int 2))))) (sSeq (sWhile (mTst (mBin dGt (mBin dMul (mVar 1) (mVar 1)) (mVar 0))) (sSet 1 (mBin dFdiv (mBin dAdd (mVar 1) (mBin dFdiv (mVar 0) (mVar 1))) (mLit (.int 2))))) (sRet (mVar 1))))))
noncomputable def F_whole_root : FSem := Classical.choose (sealF (fnSem 1 2 b_whole_root))
theorem F_whole_root_eq : F_whole_root = fnSem 1 2 b_whole_root := Classical.choose_spec (sealF (fnSem 1 2 b_whole_root))
theorem ok_whole_root (hd : Hd K mg) : FnS P w K mg base (He.ga K) 1 "whole_root" ["number"] F_whole_root := by
  rw [F_whole_root_eq]
  exact fn_of (m := b_whole_root) (Os' := ([] : List Nat)) hd.d_whole_root sc_whole_root rfl rfl fun cdv A outer s H E hr tk pn =>
  (rss_cons (rs_if (rt_cm c_lt (re_rb (re_var 0)) (re_rb re_int)) (rss_one (rs_ret (re_var 0))) rss_nil) (rss_cons (rs_set 1 sc_whole_root.nd re_int) (rss_cons (rs_while pn (rt_cm c_le (re_rb (re_mul (re_rb (re_var 1)) (re_rb (re_var 1)))) (re_rb (re_var 0))) (rss_one (rs_set 1 sc_whole_root.nd (re_mul (re_rb (re_var 1)) (re_rb re_int))))) (rss_cons (rs_while pn (rt_cm c_gt (re_rb (re_mul (re_rb (re_var 1)) (re_rb (re_var 1)))) (re_rb (re_var 0))) (rss_one (rs_set 1 sc_whole_root.nd (re_fdiv (re_rb (re_add (re_rb (re_var 1)) (re_rb (re_fdiv (re_rb (re_var 0)) (re_rb (re_var 1)))))) (re_rb re_int))))) (rss_one (rs_ret (re_var 1)))))))
/-! is_square -/
abbrev N_is_square : List Str := ["number"]
theorem sc_is_square : FnScope N_is_square ["number"] (defScope st_is_square) := ⟨rfl, rfl, rfl, by decide +kernel, rfl, by decide +kernel, by decide +kernel⟩
def b_is_square : S := (sRet (mBin dEq (mBin dMul (mCall F_whole_root 1 (mCons (mVar 0) mNil)) (mCall F_whole_root 1 (mCons (mVar 0) mNil))) (mVar 0)))
noncomputable def F_is_square : FSem := Classical.choose (sealF (fnSem 1 1 b_is_square))
theorem F_is_square_eq : F_is_square = fnSem 1 1 b_is_square := Classical.choose_spec (sealF (fnSem 1 1 b_is_square))
theorem ok_is_square (hd : Hd K mg) : FnS P w K mg base (He.ga K) 2 "is_square" ["number"] F_is_square := by
  rw [F_is_square_eq]
  exact fn_of (m := b_is_square) (Os' := ([] : List Nat)) hd.d_is_square sc_is_square rfl rfl fun cdv A outer s H E hr tk pn =>
  (rss_one (rs_ret (re_cm (c_eq hr) (re_rb (re_mul (re_rb (re_call (ok_whole_root hd) hr tk (ra_cons (re_var 0) ra_nil))) (re_rb (re_call (ok_whole_root hd) hr tk (ra_cons (re_var 0) ra_nil))))) (re_rb (re_var 0)))))
/-! lowest_root -/
abbrev N_lowest_root : List Str := ["one", "two", "under", "below", "by"]
theorem sc_lowest_root : FnScope N_lowest_root ["one", "two", "under", "below"] (defScope st_lowest_root) := ⟨rfl, rfl, rfl, by decide +kernel, rfl, by decide +kernel, by decide +kernel⟩
def b_lowest_root : S := (sSeq (sSet 4 (mBin dMul (mCall F_common 2 (mCons (mCall F_common 2 (mCons (mVar 0) (mCons (mVar 1) mNil))) (mCons (mVar 3) mNil))) (mIf (mTst (mBin dLt (mVar 3) (mLit (.int 0)))) (mUn dNeg (mLit (.int 1))) (mLit (.int 1))))) (sRet (mTup (mCons (mBin dFdiv (mVar 0) (mVar 4)) (mCons (mBin dFdiv (mVar 1) (mVar 4)) (mCons (mVar 2) (mCons (mBin dFdiv (mVar 3) (mVar 4)) mNil)))))))
noncomputable def F_lowest_root : FSem := Classical.choose (sealF (fnSem 4 5 b_lowest_root))
theorem F_lowest_root_eq : F_lowest_root = fnSem 4 5 b_lowest_root := Classical.choose_spec (sealF (fnSem 4 5 b_lowest_root))
theorem ok_lowest_root (hd : Hd K mg) : FnS P w K mg base (He.ga K) 2 "lowest_root" ["one", "two", "under", "below"] F_lowest_root := by
  rw [F_lowest_root_eq]
  exact fn_of (m := b_lowest_root) (Os' := ([] : List Nat)) hd.d_lowest_root sc_lowest_root rfl rfl fun cdv A outer s H E hr tk pn =>
  (rss_cons (rs_set 4 sc_lowest_root.nd (re_mul (re_rb (re_call (ok_common hd) hr tk (ra_cons (re_call (ok_common hd) hr tk (ra_cons (re_var 0) (ra_cons (re_var 1) ra_nil))) (ra_cons (re_var 3) ra_nil)))) (re_rb (re_if (rt_cm c_lt (re_rb (re_var 3)) (re_rb re_int)) (re_neg (re_rb re_int)) re_int)))) (rss_one (rs_ret (re_tup (ra_cons (re_fdiv (re_rb (re_var 0)) (re_rb (re_var 4))) (ra_cons (re_fdiv (re_rb (re_var 1)) (re_rb (re_var 4))) (ra_cons (re_var 2) (ra_cons (re_fdiv (re_rb (re_var 3)) (re_rb (re_var 4))) ra_nil))))))))
/-! is_root_in -/
abbrev N_is_root_in : List Str := ["thing", "one", "two", "under", "below"]
theorem sc_is_root_in : FnScope N_is_root_in ["thing"] (defScope st_is_root_in) := ⟨rfl, rfl, rfl, by decide +kernel, rfl, by decide +kernel, by decide +kernel⟩
def b_is_root_in : S := (sSeq (sIf (mOr (mNot (mTst (mCall F_is_long 2 (mCons (mVar 0) (mCons (mLit (.int 4)) mNil))))) (mNot (mTst (mCall F_are_numbers 1 (mCons (mVar 0) mNil))))) (sRet (mLit (.bl false))) sNext) (sSeq (sAsg (gT [(gV 1), (gV 2), (gV 3), (gV 4)]) (mVar 0)) (sRet (mAndV (mBin dNe (mVar 2) (mLit (.int 0))) (mAndV (mBin dGt (mVar 3) (mLit (.int 1))) (mAndV (mBin dGt (mVar 4) (mLit (.int 0))) (mAndV (mBin dEq (mCall F_common 2 (mCons (mCall F_common 2 (mCons (mVar 1) (mCons (mVar 2) mNil))) (mCons (mVar 4) mNil))) (mLit (.int 1))) (mNotV (mCall F_is_square 1 (mCons (mVar 3) mNil))))))))))
noncomputable def F_is_root_in : FSem := Classical.choose (sealF (fnSem 1 5 b_is_root_in))
theorem F_is_root_in_eq : F_is_root_in = fnSem 1 5 b_is_root_in := Classical.choose_spec (sealF (fnSem 1 5 b_is_root_in))
theorem ok_is_root_in (hd : Hd K mg) : FnS P w K mg base (He.ga K) 3 "is_root_in" ["thing"] F_is_root_in := by
  rw [F_is_root_in_eq]
  exact fn_of (m := b_is_root_in) (Os' := ([] : List Nat)) hd.d_is_root_in sc_is_root_in rfl rfl fun cdv A outer s H E hr tk pn =>
  (rss_cons (rs_if (rw_pt (rw_or (rt_not (rt_val (re_call (ok_is_long hd) hr tk (ra_cons (re_var 0) (ra_cons re_int ra_nil))))) (rw_or1 (rt_not (rt_val (re_call (ok_are_numbers hd) hr tk (ra_cons (re_var 0) ra_nil))))))) (rss_one (rs_ret re_bl)) rss_nil) (rss_cons (rs_asg (re_var 0) (rg_tup rfl (rgs_cons (rg_name 1 sc_is_root_in.nd) (rgs_cons (rg_name 2 sc_is_root_in.nd) (rgs_cons (rg_name 3 sc_is_root_in.nd) (rgs_cons (rg_name 4 sc_is_root_in.nd) rgs_nil)))))) (rss_one (rs_ret (re_and (re_cm (c_ne hr) (re_rb (re_var 2)) (re_rb re_int)) (re_and (re_cm c_gt (re_rb (re_var 3)) (re_rb re_int)) (re_and (re_cm c_gt (re_rb (re_var 4)) (re_rb re_int)) (re_and (re_cm (c_eq hr) (re_rb (re_call (ok_common hd) hr tk (ra_cons (re_call (ok_common hd) hr tk (ra_cons (re_var 1) (ra_cons (re_var 2) ra_nil))) (ra_cons (re_var 4) ra_nil)))) (re_rb re_int)) (re_one (re_not (re_call (ok_is_square hd) hr tk (ra_cons (re_var 3) ra_nil))))))))))))
/-! sure_root -/
abbrev N_sure_root : List Str := ["value", "own", "part"]
theorem sc_sure_root : FnScope N_sure_root ["value"] (defScope st_sure_root) := ⟨rfl, rfl, rfl, by decide +kernel, rfl, by decide +kernel, by decide +kernel⟩
def b_sure_root : S := (sSeq (sSet 1 (mCall F_tupled 1 (mCons (mVar 0) mNil))) (sSeq (sIf (mOr (mNot (mTst (mCall F_is_long 2 (mCons (mVar 1) (mCons (mLit (.int 4)) mNil))))) (mOr (mNot (mTst (mCall F_are_numbers 1 (mCons (mVar 1) mNil)))) (mTst (mCB fAny (mCons (mLc [2] (mItA (mVar 1)) (gV 2) mYes (mBin dGt (mCB fAbs (mCons (mVar 2) mNil)) (mLit (.int 1000000)))) mNil))))) (sRaise "Unfit") sNext) (sSeq (sIf (mNot (mTst (mCall F_is_root_in 1 (mCons (mVar 1) mNil)))) (sRaise "Unfit") sNext) (sRet (mVar 1)))))
noncomputable def F_sure_root : FSem := Classical.choose (sealF (fnSem 1 3 b_sure_root))
theorem F_sure_root_eq : F_sure_root = fnSem 1 3 b_sure_root := Classical.choose_spec (sealF (fnSem 1 3 b_sure_root))
theorem ok_sure_root (hd : Hd K mg) : FnS P w K mg base (He.ga K) 22 "sure_root" ["value"] F_sure_root := by
  rw [F_sure_root_eq]
  exact fn_of (m := b_sure_root) (Os' := ([] : List Nat)) hd.d_sure_root sc_sure_root rfl rfl fun cdv A outer s H E hr tk pn =>
  (rss_cons (rs_set 1 sc_sure_root.nd (re_call (ok_tupled hd) hr tk (ra_cons (re_var 0) ra_nil))) (rss_cons (rs_if (rw_pt (rw_or (rt_not (rt_val (re_call (ok_is_long hd) hr tk (ra_cons (re_var 1) (ra_cons re_int ra_nil))))) (rw_or (rt_not (rt_val (re_call (ok_are_numbers hd) hr tk (ra_cons (re_var 1) ra_nil)))) (rw_or1 (rt_val (re_cb (b_any rfl) hd.z_any (rab_cons (re_rb (rf_re (rf_lc (own := [("part", 2)]) sc_sure_root.nd (blkOk_by (N := N_sure_root) (sc := defScope st_sure_root) (by decide +kernel)) (ri_seq (re_var 1)) (fun _ _ _ _ _ => (rg_name 2 sc_sure_root.nd)) (fun _ _ _ _ _ => rts_nil) (fun _ _ _ _ _ => (re_cm c_gt (re_rb (re_cb b_abs hd.z_abs (rab_cons (re_rb (re_var 2)) rab_nil))) (re_rb (re_gint hd.c_MOST_PART))))))) rab_nil))))))) (rss_one (rs_raise hd.x_Unfit tk)) rss_nil) (rss_cons (rs_if (rt_not (rt_val (re_call (ok_is_root_in hd) hr tk (ra_cons (re_var 1) ra_nil)))) (rss_one (rs_raise hd.x_Unfit tk)) rss_nil) (rss_one (rs_ret (re_var 1))))))
/-! root_floor_in -/
abbrev N_root_floor_in : List Str := ["own", "one", "two", "under", "below", "steep"]
theorem sc_root_floor_in : FnScope N_root_floor_in ["own"] (defScope st_root_floor_in) := ⟨rfl, rfl, rfl, by decide +kernel, rfl, by decide +kernel, by decide +kernel⟩
def b_root_floor_in : S := (sSeq (sAsg (gT [(gV 1), (gV 2), (gV 3), (gV 4)]) (mVar 0)) (sSeq (sSet 5 (mCall F_whole_root 1 (mCons (mBin dMul (mBin dMul (mVar 2) (mVar 2)) (mVar 3)) mNil))) (sRet (mBin dFdiv (mBin dAdd (mVar 1) (mIf (mTst (mBin dGt (mVar 2) (mLit (.int 0)))) (mVar 5) (mBin dSub (mUn dNeg (mVar 5)) (mLit (.int 1))))) (mVar 4)))))
noncomputable def F_root_floor_in : FSem := Classical.choose (sealF (fnSem 1 6 b_root_floor_in))
theorem F_root_floor_in_eq : F_root_floor_in = fnSem 1 6 b_root_floor_in := Classical.choose_spec (sealF (fnSem 1 6 b_root_floor_in))
theorem ok_root_floor_in (hd : Hd K mg) : FnS P w K mg base (He.ga K) 2 "root_floor_in" ["own"] F_root_floor_in := by
  rw [F_root_floor_in_eq]
  exact fn_of (m := b_root_floor_in) (Os' := ([] : List Nat)) hd.d_root_floor_in sc_root_floor_in rfl rfl fun cdv A outer s H E hr tk pn =>
  (rss_cons (rs_asg (re_var 0) (rg_tup rfl (rgs_cons (rg_name 1 sc_root_floor_in.nd) (rgs_cons (rg_name 2 sc_root_floor_in.nd) (rgs_cons (rg_name 3 sc_root_floor_in.nd) (rgs_cons (rg_name 4 sc_root_floor_in.nd) rgs_nil)))))) (rss_cons (rs_set 5 sc_root_floor_in.nd (re_call (ok_whole_root hd) hr tk (ra_cons (re_mul (re_rb (re_mul (re_rb (re_var 2)) (re_rb (re_var 2)))) (re_rb (re_var 3))) ra_nil))) (rss_one (rs_ret (re_fdiv (re_rb (re_add (re_rb (re_var 1)) (re_rb (re_if (rt_cm c_gt (re_rb (re_var 2)) (re_rb re_int)) (re_var 5) (re_sub (re_rb (re_neg (re_rb (re_var 5)))) (re_rb re_int)))))) (re_rb (re_var 4)))))))
/-! turned_root -/
abbrev N_turned_root : List Str := ["own", "one", "two", "under", "below"]
theorem sc_turned_root : FnScope N_turned_root ["own"] (defScope st_turned_root) := ⟨rfl, rfl, rfl, by decide +kernel, rfl, by decide +kernel, by decide +kernel⟩
def b_turned_root : S := (sSeq (sAsg (gT [(gV 1), (gV 2), (gV 3), (gV 4)]) (mVar 0)) (sRet (mCall F_lowest_root 4 (mCons (mBin dMul (mVar 4) (mVar 1)) (mCons (mBin dMul (mUn dNeg (mVar 4)) (mVar 2)) (mCons (mVar 3) (mCons (mBin dSub (mBin dMul (mVar 1) (mVar 1)) (mBin dMul (mBin dMul (mVar 2) (mVar 2)) (mVar 3))) mNil)))))))
noncomputable def F_turned_root : FSem := Classical.choose (sealF (fnSem 1 5 b_turned_root))
theorem F_turned_root_eq : F_turned_root = fnSem 1 5 b_turned_root := Classical.choose_spec (sealF (fnSem 1 5 b_turned_root))
theorem ok_turned_root (hd : Hd K mg) : FnS P w K mg base (He.ga K) 3 "turned_root" ["own"] F_turned_root := by
  rw [F_turned_root_eq]
  exact fn_of (m := b_turned_root) (Os' := ([] : List Nat)) hd.d_turned_root sc_turned_root rfl rfl fun cdv A outer s H E hr tk pn =>
  (rss_cons (rs_asg (re_var 0) (rg_tup rfl (rgs_cons (rg_name 1 sc_turned_root.nd) (rgs_cons (rg_name 2 sc_turned_root.nd) (rgs_cons (rg_name 3 sc_turned_root.nd) (rgs_cons (rg_name 4 sc_turned_root.nd) rgs_nil)))))) (rss_one (rs_ret (re_call (ok_lowest_root hd) hr tk (ra_cons (re_mul (re_rb (re_var 4)) (re_rb (re_var 1))) (ra_cons (re_mul (re_rb (re_neg (re_rb (re_var 4)))) (re_rb (re_var 2))) (ra_cons (re_var 3) (ra_cons (re_sub (re_rb (re_mul (re_rb (re_var 1)) (re_rb (re_var 1)))) (re_rb (re_mul (re_rb (re_mul (re_rb (re_var 2)) (re_rb (re_var 2)))) (re_rb (re_var 3))))) ra_nil))))))))
/-! is_root_held -/
abbrev N_is_root_held : List Str := ["book", "own"]
theorem sc_is_root_held : FnScope N_is_root_held ["book", "own"] (defScope st_is_root_held) := ⟨rfl, rfl, rfl, by decide +kernel, rfl, by decide +kernel, by decide +kernel⟩
def b_is_root_held : S := (sRet (mBin dEq (mCall F_root_floor_in 1 (mCons (mVar 1) mNil)) (mIf (mTst (mBin dEq (mVar 0) (mLit (.str "product")))) (mLit (.int 1)) (mLit (.int 0)))))
noncomputable def F_is_root_held : FSem := Classical.choose (sealF (fnSem 2 2 b_is_root_held))
theorem F_is_root_held_eq : F_is_root_held = fnSem 2 2 b_is_root_held := Classical.choose_spec (sealF (fnSem 2 2 b_is_root_held))
theorem ok_is_root_held (hd : Hd K mg) : FnS P w K mg base (He.ga K) 3 "is_root_held" ["book", "own"] F_is_root_held := by
  rw [F_is_root_held_eq]
  exact fn_of (m := b_is_root_held) (Os' := ([] : List Nat)) hd.d_is_root_held sc_is_root_held rfl rfl fun cdv A outer s H E hr tk pn =>
  (rss_one (rs_ret (re_cm (c_eq hr) (re_rb (re_call (ok_root_floor_in hd) hr tk (ra_cons (re_var 1) ra_nil))) (re_rb (re_if (rt_cm (c_eq hr) (re_rb (re_var 0)) (re_rb re_str)) re_int re_int)))))
/-! root_next -/
abbrev N_root_next : List Str := ["book", "rest", "one", "two", "under", "below", "own", "found"]
theorem sc_root_next : FnScope N_root_next ["book", "rest"] (defScope st_root_next) := ⟨rfl, rfl, rfl, by decide +kernel, rfl, by decide +kernel, by decide +kernel⟩
def b_root_next : S := (sSeq (sAsg (gT [(gV 2), (gV 3), (gV 4), (gV 5)]) (mVar 1)) (sSeq (sSet 6 (mIf (mTst (mBin dEq (mVar 0) (mLit (.str "product")))) (mCall F_lowest_root 4 (mCons (mBin dSub (mVar 2) (mVar 5)) (mCons (mVar 3) (mCons (mVar 4) (mCons (mVar 5) mNil))))) (mVar 1))) (sSeq (sSet 7 (mCall F_root_floor_in 1 (mCons (mCall F_turned_root 1 (mCons (mVar 6) mNil)) mNil))) (sRet (mIf (mTst (mBin dIn (mVar 0) (mTup (mCons (mLit (.str "pierce")) (mCons (mLit (.str "ostro")) mNil))))) (mVar 7) (mBin dAdd (mVar 7) (mLit (.int 1))))))))
noncomputable def F_root_next : FSem := Classical.choose (sealF (fnSem 2 8 b_root_next))
theorem F_root_next_eq : F_root_next = fnSem 2 8 b_root_next := Classical.choose_spec (sealF (fnSem 2 8 b_root_next))
theorem ok_root_next (hd : Hd K mg) : FnS P w K mg base (He.ga K) 4 "root_next" ["book", "rest"] F_root_next := by
  rw [F_root_next_eq]
  exact fn_of (m := b_root_next) (Os' := ([] : List Nat)) hd.d_root_next sc_root_next rfl rfl fun cdv A outer s H E hr tk pn =>
  (rss_cons (rs_asg (re_var 1) (rg_tup rfl (rgs_cons (rg_name 2 sc_root_next.nd) (rgs_cons (rg_name 3 sc_root_next.nd) (rgs_cons (rg_name 4 sc_root_next.nd) (rgs_cons (rg_name 5 sc_root_next.nd) rgs_nil)))))) (rss_cons (rs_set 6 sc_root_next.nd (re_if (rt_cm (c_eq hr) (re_rb (re_var 0)) (re_rb re_str)) (re_call (ok_lowest_root hd) hr tk (ra_cons (re_sub (re_rb (re_var 2)) (re_rb (re_var 5))) (ra_cons (re_var 3) (ra_cons (re_var 4) (ra_cons (re_var 5) ra_nil))))) (re_var 1))) (rss_cons (rs_set 7 sc_root_next.nd (re_call (ok_root_floor_in hd) hr tk (ra_cons (re_call (ok_turned_root hd) hr tk (ra_cons (re_var 6) ra_nil)) ra_nil))) (rss_one (rs_ret (re_if (rt_cm c_in (re_rb (re_var 0)) (re_rb (re_tup (ra_cons re_str (ra_cons re_str ra_nil))))) (re_var 7) (re_add (re_rb (re_var 7)) (re_rb re_int))))))))
/-! root_past -/
abbrev N_root_past : List Str := ["book", "rest", "number", "one", "two", "under", "below"]
theorem sc_root_past : FnScope N_root_past ["book", "rest", "number"] (defScope st_root_past) := ⟨rfl, rfl, rfl, by decide +kernel, rfl, by decide +kernel, by decide +kernel⟩
def b_root_past : S := (sSeq (sAsg (gT [(gV 3), (gV 4), (gV 5), (gV 6)]) (mVar 1)) (sSeq (sIf (mTst (mBin dEq (mVar 0) (mLit (.str "sylvester")))) (sRet (mCall F_lowest_root 4 (mCons (mBin dSub (mBin dMul (mVar 3) (mVar 2)) (mVar 6)) (mCons (mBin dMul (mVar 4) (mVar 2)) (mCons (mVar 5) (mCons (mBin dMul (mVar 6) (mVar 2)) mNil)))))) sNext) (sSeq (sIf (mTst (mBin dEq (mVar 0) (mLit (.str "engel")))) (sRet (mCall F_lowest_root 4 (mCons (mBin dSub (mBin dMul (mVar 3) (mVar 2)) (mVar 6)) (mCons (mBin dMul (mVar 4) (mVar 2)) (mCons (mVar 5) (mCons (mVar 6) mNil)))))) sNext) (sSeq (sIf (mTst (mBin dEq (mVar 0) (mLit (.str "pierce")))) (sRet (mCall F_lowest_root 4 (mCons (mBin dSub (mVar 6) (mBin dMul (mVar 3) (mVar 2))) (mCons (mBin dMul (mUn dNeg (mVar 4)) (mVar 2)) (mCons (mVar 5) (mCons (mVar 6) mNil)))))) sNext) (sSeq (sIf (mTst (mBin dEq (mVar 0) (mLit (.str "ostro")))) (sRet (mCall F_lowest_root 4 (mCons (mBin dSub (mVar 6) (mBin dMul (mVar 3) (mVar 2))) (mCons (mBin dMul (mUn dNeg (mVar 4)) (mVar 2)) (mCons (mVar 5) (mCons (mBin dMul (mVar 6) (mVar 2)) mNil)))))) sNext) (sRet (mCall F_lowest_root 4 (mCons (mBin dMul (mVar 3) (mVar 2)) (mCons (mBin dMul (mVar 4) (mVar 2)) (mCons (mVar 5) (mCons (mBin dMul (mVar 6) (mBin dAdd (mVar 2) (mLit (.int 1)))) mNil)))))))))))
noncomputable def F_root_past : FSem := Classical.choose (sealF (fnSem 3 7 b_root_past))
theorem F_root_past_eq : F_root_past = fnSem 3 7 b_root_past := Classical.choose_spec (sealF (fnSem 3 7 b_root_past))
theorem ok_root_past (hd : Hd K mg) : FnS P w K mg base (He.ga K) 3 "root_past" ["book", "rest", "number"] F_root_past := by
  rw [F_root_past_eq]
  exact fn_of (m := b_root_past) (Os' := ([] : List Nat)) hd.d_root_past sc_root_past rfl rfl fun cdv A outer s H E hr tk pn =>
  (rss_cons (rs_asg (re_var 1) (rg_tup rfl (rgs_cons (rg_name 3 sc_root_past.nd) (rgs_cons (rg_name 4 sc_root_past.nd) (rgs_cons (rg_name 5 sc_root_past.nd) (rgs_cons (rg_name 6 sc_root_past.nd) rgs_nil)))))) (rss_cons (rs_if (rt_cm (c_eq hr) (re_rb (re_var 0)) (re_rb re_str)) (rss_one (rs_ret (re_call (ok_lowest_root hd) hr tk (ra_cons (re_sub (re_rb (re_mul (re_rb (re_var 3)) (re_rb (re_var 2)))) (re_rb (re_var 6))) (ra_cons (re_mul (re_rb (re_var 4)) (re_rb (re_var 2))) (ra_cons (re_var 5) (ra_cons (re_mul (re_rb (re_var 6)) (re_rb (re_var 2))) ra_nil))))))) rss_nil) (rss_cons (rs_if (rt_cm (c_eq hr) (re_rb (re_var 0)) (re_rb re_str)) (rss_one (rs_ret (re_call (ok_lowest_root hd) hr tk (ra_cons (re_sub (re_rb (re_mul (re_rb (re_var 3)) (re_rb (re_var 2)))) (re_rb (re_var 6))) (ra_cons (re_mul (re_rb (re_var 4)) (re_rb (re_var 2))) (ra_cons (re_var 5) (ra_cons (re_var 6) ra_nil))))))) rss_nil) (rss_cons (rs_if (rt_cm (c_eq hr) (re_rb (re_var 0)) (re_rb re_str)) (rss_one (rs_ret (re_call (ok_lowest_root hd) hr tk (ra_cons (re_sub (re_rb (re_var 6)) (re_rb (re_mul (re_rb (re_var 3)) (re_rb (re_var 2))))) (ra_cons (re_mul (re_rb (re_neg (re_rb (re_var 4)))) (re_rb (re_var 2))) (ra_cons (re_var 5) (ra_cons (re_var 6) ra_nil))))))) rss_nil) (rss_cons (rs_if (rt_cm (c_eq hr) (re_rb (re_var 0)) (re_rb re_str)) (rss_one (rs_ret (re_call (ok_lowest_root hd) hr tk (ra_cons (re_sub (re_rb (re_var 6)) (re_rb (re_mul (re_rb (re_var 3)) (re_rb (re_var 2))))) (ra_cons (re_mul (re_rb (re_neg (re_rb (re_var 4)))) (re_rb (re_var 2))) (ra_cons (re_var 5) (ra_cons (re_mul (re_rb (re_var 6)) (re_rb (re_var 2))) ra_nil))))))) rss_nil) (rss_one (rs_ret (re_call (ok_lowest_root hd) hr tk (ra_cons (re_mul (re_rb (re_var 3)) (re_rb (re_var 2))) (ra_cons (re_mul (re_rb (re_var 4)) (re_rb (re_var 2))) (ra_cons (re_var 5) (ra_cons (re_mul (re_rb (re_var 6)) (re_rb (re_add (re_rb (re_var 2)) (re_rb re_int)))) ra_nil))))))))))))
/-! root_rests -/
abbrev N_root_rests : List Str := ["book", "own", "many", "rest", "found", "lap", "number"]
theorem sc_root_rests : FnScope N_root_rests ["book", "own", "many"] (defScope st_root_rests) := ⟨rfl, rfl, rfl, by decide +kernel, rfl, by decide +kernel, by decide +kernel⟩
def b_root_rests : S := (sSeq (sPar [3, 4] (mCons (mVar 1) (mCons (mTup mNil) mNil))) (sSeq (sFor (mRng1 (mCons (mVar 2) mNil)) (gV 5) (sSeq (sSet 6 (mCall F_root_next 2 (mCons (mVar 0) (mCons (mVar 3) mNil)))) (sSeq (sIf (mNot (mTst (mCall F_is_near 2 (mCons (mVar 6) (mCons (mLit (.int 2000)) mNil))))) (sRaise "TooMany") sNext) (sPar [4, 3] (mCons (mBin dAdd (mVar 4) (mTup (mCons (mVar 6) mNil))) (mCons (mCall F_root_past 3 (mCons (mVar 0) (mCons (mVar 3) (mCons (mVar 6) mNil)))) mNil)))))) (sRet (mTup (mCons (mVar 4) (mCons (mVar 3) mNil))))))
noncomputable def F_root_rests : FSem := Classical.choose (sealF (fnSem 3 7 b_root_rests))
theorem F_root_rests_eq : F_root_rests = fnSem 3 7 b_root_rests := Classical.choose_spec (sealF (fnSem 3 7 b_root_rests))
theorem ok_root_rests (hd : Hd K mg) : FnS P w K mg base (He.ga K) 5 "root_rests" ["book", "own", "many"] F_root_rests := by
  rw [F_root_rests_eq]
  exact fn_of (m := b_root_rests) (Os' := ([] : List Nat)) hd.d_root_rests sc_root_rests rfl rfl fun cdv A outer s H E hr tk pn =>
  (rss_cons (rs_par2 3 4 rfl sc_root_rests.nd (rp_val (re_var 1) (rp_val (re_tup ra_nil) rp_nil)) rfl) (rss_cons (rs_for pn (ri_rng1 hd.z_range (ra_cons (re_var 2) ra_nil)) (rg_name 5 sc_root_rests.nd) (rss_cons (rs_set 6 sc_root_rests.nd (re_call (ok_root_next hd) hr tk (ra_cons (re_var 0) (ra_cons (re_var 3) ra_nil)))) (rss_cons (rs_if (rt_not (rt_val (re_call (ok_is_near hd) hr tk (ra_cons (re_var 6) (ra_cons (re_gint hd.c_LONG_NUMBER) ra_nil))))) (rss_one (rs_raise hd.x_TooMany tk)) rss_nil) (rss_one (rs_par2 4 3 rfl sc_root_rests.nd (rp_val (re_add (re_rb (re_var 4)) (re_rb (re_tup (ra_cons (re_var 6) ra_nil)))) (rp_val (re_call (ok_root_past hd) hr tk (ra_cons (re_var 0) (ra_cons (re_var 3) (ra_cons (re_var 6) ra_nil)))) rp_nil)) rfl))))) (rss_one (rs_ret (re_tup (ra_cons (re_var 4) (ra_cons (re_var 3) ra_nil)))))))
/-! sure_held_root -/
abbrev N_sure_held_root : List Str := ["book", "value", "own"]
theorem sc_sure_held_root : FnScope N_sure_held_root ["book", "value"] (defScope st_sure_held_root) := ⟨rfl, rfl, rfl, by decide +kernel, rfl, by decide +kernel, by decide +kernel⟩
def b_sure_held_root : S := (sSeq (sSet 2 (mCall F_sure_root 1 (mCons (mVar 1) mNil))) (sSeq (sIf (mNot (mTst (mCall F_is_root_held 2 (mCons (mVar 0) (mCons (mVar 2) mNil))))) (sRaise "Unfit") sNext) (sRet (mVar 2))))
noncomputable def F_sure_held_root : FSem := Classical.choose (sealF (fnSem 2 3 b_sure_held_root))
theorem F_sure_held_root_eq : F_sure_held_root = fnSem 2 3 b_sure_held_root := Classical.choose_spec (sealF (fnSem 2 3 b_sure_held_root))
theorem ok_sure_held_root (hd : Hd K mg) : FnS P w K mg base (He.ga K) 23 "sure_held_root" ["book", "value"] F_sure_held_root := by
  rw [F_sure_held_root_eq]
  exact fn_of (m := b_sure_held_root) (Os' := ([] : List Nat)) hd.d_sure_held_root sc_sure_held_root rfl rfl fun cdv A outer s H E hr tk pn =>
  (rss_cons (rs_set 2 sc_sure_held_root.nd (re_call (ok_sure_root hd) hr tk (ra_cons (re_var 1) ra_nil))) (rss_cons (rs_if (rt_not (rt_val (re_call (ok_is_root_held hd) hr tk (ra_cons (re_var 0) (ra_cons (re_var 2) ra_nil))))) (rss_one (rs_raise hd.x_Unfit tk)) rss_nil) (rss_one (rs_ret (re_var 2)))))
/-! known_in -/
abbrev N_known_in : List Str := ["number"]
theorem sc_known_in : FnScope N_known_in ["number"] (defScope st_known_in) := ⟨rfl, rfl, rfl, by decide +kernel, rfl, by decide +kernel, by decide +kernel⟩
def b_known_in : S := (sRet (mCall F_lowest_root 4 (mCons (mVar 0) (mCons (mUn dNeg (mLit (.int 1))) (mCons (mBin dSub (mBin dMul (mVar 0) (mVar 0)) (mLit (.int 4))) (mCons (mLit (.int 2)) mNil))))))
noncomputable def F_known_in : FSem := Classical.choose (sealF (fnSem 1 1 b_known_in))
theorem F_known_in_eq : F_known_in = fnSem 1 1 b_known_in := Classical.choose_spec (sealF (fnSem 1 1 b_known_in))
theorem ok_known_in (hd : Hd K mg) : FnS P w K mg base (He.ga K) 3 "known_in" ["number"] F_known_in := by
  rw [F_known_in_eq]
  exact fn_of (m := b_known_in) (Os' := ([] : List Nat)) hd.d_known_in sc_known_in rfl rfl fun cdv A outer s H E hr tk pn =>
  (rss_one (rs_ret (re_call (ok_lowest_root hd) hr tk (ra_cons (re_var 0) (ra_cons (re_neg (re_rb re_int)) (ra_cons (re_sub (re_rb (re_mul (re_rb (re_var 0)) (re_rb (re_var 0)))) (re_rb re_int)) (ra_cons re_int ra_nil)))))))
/-! sure_known -/
abbrev N_sure_known : List Str := ["value"]
theorem sc_sure_known : FnScope N_sure_known ["value"] (defScope st_sure_known) := ⟨rfl, rfl, rfl, by decide +kernel, rfl, by decide +kernel, by decide +kernel⟩
def b_sure_known : S := (sRet (mCall F_sure_within 3 (mCons (mVar 0) (mCons (mLit (.int 3)) (mCons (mLit (.int 1000)) mNil)))))
noncomputable def F_sure_known : FSem := Classical.choose (sealF (fnSem 1 1 b_sure_known))
theorem F_sure_known_eq : F_sure_known = fnSem 1 1 b_sure_known := Classical.choose_spec (sealF (fnSem 1 1 b_sure_known))
theorem ok_sure_known (hd : Hd K mg) : FnS P w K mg base (He.ga K) 4 "sure_known" ["value"] F_sure_known := by
  rw [F_sure_known_eq]
  exact fn_of (m := b_sure_known) (Os' := ([] : List Nat)) hd.d_sure_known sc_sure_known rfl rfl fun cdv A outer s H E hr tk pn =>
  (rss_one (rs_ret (re_call (ok_sure_within hd) hr tk (ra_cons (re_var 0) (ra_cons (re_gint hd.c_LEAST_KNOWN) (ra_cons (re_gint hd.c_MOST_KNOWN) ra_nil))))))
/-! root_floor -/
abbrev N_root_floor : List Str := ["root"]
theorem sc_root_floor : FnScope N_root_floor ["root"] (defScope st_root_floor) := ⟨rfl, rfl, rfl, by decide +kernel, rfl, by decide +kernel, by decide +kernel⟩
def b_root_floor : S := (sRet (mCall F_root_floor_in 1 (mCons (mCall F_sure_root 1 (mCons (mVar 0) mNil)) mNil)))
noncomputable def F_root_floor : FSem := Classical.choose (sealF (fnSem 1 1 b_root_floor))
theorem F_root_floor_eq : F_root_floor = fnSem 1 1 b_root_floor := Classical.choose_spec (sealF (fnSem 1 1 b_root_floor))
theorem ok_root_floor (hd : Hd K mg) : FnS P w K mg base (He.ga K) 23 "root_floor" ["root"] F_root_floor := by
  rw [F_root_floor_eq]
  exact fn_of (m := b_root_floor) (Os' := ([] : List Nat)) hd.d_root_floor sc_root_floor rfl rfl fun cdv A outer s H E hr tk pn =>
  (rss_one (rs_ret (re_call (ok_root_floor_in hd) hr tk (ra_cons (re_call (ok_sure_root hd) hr tk (ra_cons (re_var 0) ra_nil)) ra_nil))))
/-! root_is_under -/
abbrev N_root_is_under : List Str := ["root", "fraction", "near", "far", "one", "two", "under", "below"]
theorem sc_root_is_under : FnScope N_root_is_under ["root", "fraction"] (defScope st_root_is_under) := ⟨rfl, rfl, rfl, by decide +kernel, rfl, by decide +kernel, by decide +kernel⟩
def b_root_is_under : S := (sSeq (sSet 2 (mCall F_sure_root 1 (mCons (mVar 0) mNil))) (sSeq (sSet 3 (mCall F_sure_fraction 1 (mCons (mVar 1) mNil))) (sSeq (sAsg (gT [(gV 4), (gV 5), (gV 6), (gV 7)]) (mVar 2)) (sRet (mBin dLt (mCall F_root_floor_in 1 (mCons (mCall F_lowest_root 4 (mCons (mBin dSub (mBin dMul (mVar 4) (mIdx (mVar 3) (mLit (.int 1)))) (mBin dMul (mVar 7) (mIdx (mVar 3) (mLit (.int 0))))) (mCons (mBin dMul (mVar 5) (mIdx (mVar 3) (mLit (.int 1)))) (mCons (mVar 6) (mCons (mBin dMul (mVar 7) (mIdx (mVar 3) (mLit (.int 1)))) mNil))))) mNil)) (mLit (.int 0)))))))
noncomputable def F_root_is_under : FSem := Classical.choose (sealF (fnSem 2 8 b_root_is_under))
theorem F_root_is_under_eq : F_root_is_under = fnSem 2 8 b_root_is_under := Classical.choose_spec (sealF (fnSem 2 8 b_root_is_under))
theorem ok_root_is_under (hd : Hd K mg) : FnS P w K mg base (He.ga K) 23 "root_is_under" ["root", "fraction"] F_root_is_under := by
  rw [F_root_is_under_eq]
  exact fn_of (m := b_root_is_under) (Os' := ([] : List Nat)) hd.d_root_is_under sc_root_is_under rfl rfl fun cdv A outer s H E hr tk pn =>
  (rss_cons (rs_set 2 sc_root_is_under.nd (re_call (ok_sure_root hd) hr tk (ra_cons (re_var 0) ra_nil))) (rss_cons (rs_set 3 sc_root_is_under.nd (re_call (ok_sure_fraction hd) hr tk (ra_cons (re_var 1) ra_nil))) (rss_cons (rs_asg (re_var 2) (rg_tup rfl (rgs_cons (rg_name 4 sc_root_is_under.nd) (rgs_cons (rg_name 5 sc_root_is_under.nd) (rgs_cons (rg_name 6 sc_root_is_under.nd) (rgs_cons (rg_name 7 sc_root_is_under.nd) rgs_nil)))))) (rss_one (rs_ret (re_cm c_lt (re_rb (re_call (ok_root_floor_in hd) hr tk (ra_cons (re_call (ok_lowest_root hd) hr tk (ra_cons (re_sub (re_rb (re_mul (re_rb (re_var 4)) (re_rb (re_idx (re_rb (re_var 3)) re_int)))) (re_rb (re_mul (re_rb (re_var 7)) (re_rb (re_idx (re_rb (re_var 3)) re_int))))) (ra_cons (re_mul (re_rb (re_var 5)) (re_rb (re_idx (re_rb (re_var 3)) re_int))) (ra_cons (re_var 6) (ra_cons (re_mul (re_rb (re_var 7)) (re_rb (re_idx (re_rb (re_var 3)) re_int))) ra_nil))))) ra_nil))) (re_rb re_int)))))))
/-! root_numbers -/
abbrev N_root_numbers : List Str := ["book", "root", "many", "word", "own"]
theorem sc_root_numbers : FnScope N_root_numbers ["book", "root", "many"] (defScope st_root_numbers) := ⟨rfl, rfl, rfl, by decide +kernel, rfl, by decide +kernel, by decide +kernel⟩
def b_root_numbers : S := (sSeq (sSet 3 (mCall F_sure_book 1 (mCons (mVar 0) mNil))) (sSeq (sSet 4 (mCall F_sure_held_root 2 (mCons (mVar 3) (mCons (mVar 1) mNil)))) (sRet (mIdx (mCall F_root_rests 3 (mCons (mVar 3) (mCons (mVar 4) (mCons (mCall F_sure_within 3 (mCons (mVar 2) (mCons (mLit (.int 0)) (mCons (mLit (.int 60)) mNil)))) mNil)))) (mLit (.int 0))))))
noncomputable def F_root_numbers : FSem := Classical.choose (sealF (fnSem 3 5 b_root_numbers))
theorem F_root_numbers_eq : F_root_numbers = fnSem 3 5 b_root_numbers := Classical.choose_spec (sealF (fnSem 3 5 b_root_numbers))
theorem ok_root_numbers (hd : Hd K mg) : FnS P w K mg base (He.ga K) 24 "root_numbers" ["book", "root", "many"] F_root_numbers := by
  rw [F_root_numbers_eq]
  exact fn_of (m := b_root_numbers) (Os' := ([] : List Nat)) hd.d_root_numbers sc_root_numbers rfl rfl fun cdv A outer s H E hr tk pn =>
  (rss_cons (rs_set 3 sc_root_numbers.nd (re_call (ok_sure_book hd) hr tk (ra_cons (re_var 0) ra_nil))) (rss_cons (rs_set 4 sc_root_numbers.nd (re_call (ok_sure_held_root hd) hr tk (ra_cons (re_var 3) (ra_cons (re_var 1) ra_nil)))) (rss_one (rs_ret (re_idx (re_rb (re_call (ok_root_rests hd) hr tk (ra_cons (re_var 3) (ra_cons (re_var 4) (ra_cons (re_call (ok_sure_within hd) hr tk (ra_cons (re_var 2) (ra_cons re_int (ra_cons (re_gint hd.c_MOST_FIRST) ra_nil)))) ra_nil))))) re_int)))))
/-! root_rest -/
abbrev N_root_rest : List Str := ["book", "root", "many", "word", "own"]
theorem sc_root_rest : FnScope N_root_rest ["book", "root", "many"] (defScope st_root_rest) := ⟨rfl, rfl, rfl, by decide +kernel, rfl, by decide +kernel, by decide +kernel⟩
def b_root_rest : S := (sSeq (sSet 3 (mCall F_sure_book 1 (mCons (mVar 0) mNil))) (sSeq (sSet 4 (mCall F_sure_held_root 2 (mCons (mVar 3) (mCons (mVar 1) mNil)))) (sRet (mIdx (mCall F_root_rests 3 (mCons (mVar 3) (mCons (mVar 4) (mCons (mCall F_sure_within 3 (mCons (mVar 2) (mCons (mLit (.int 0)) (mCons (mLit (.int 60)) mNil)))) mNil)))) (mLit (.int 1))))))
noncomputable def F_root_rest : FSem := Classical.choose (sealF (fnSem 3 5 b_root_rest))
theorem F_root_rest_eq : F_root_rest = fnSem 3 5 b_root_rest := Classical.choose_spec (sealF (fnSem 3 5 b_root_rest))
theorem ok_root_rest (hd : Hd K mg) : FnS P w K mg base (He.ga K) 24 "root_rest" ["book", "root", "many"] F_root_rest := by
  rw [F_root_rest_eq]
  exact fn_of (m := b_root_rest) (Os' := ([] : List Nat)) hd.d_root_rest sc_root_rest rfl rfl fun cdv A outer s H E hr tk pn =>
  (rss_cons (rs_set 3 sc_root_rest.nd (re_call (ok_sure_book hd) hr tk (ra_cons (re_var 0) ra_nil))) (rss_cons (rs_set 4 sc_root_rest.nd (re_call (ok_sure_held_root hd) hr tk (ra_cons (re_var 3) (ra_cons (re_var 1) ra_nil)))) (rss_one (rs_ret (re_idx (re_rb (re_call (ok_root_rests hd) hr tk (ra_cons (re_var 3) (ra_cons (re_var 4) (ra_cons (re_call (ok_sure_within hd) hr tk (ra_cons (re_var 2) (ra_cons re_int (ra_cons (re_gint hd.c_MOST_FIRST) ra_nil)))) ra_nil))))) re_int)))))
/-! known_root -/
abbrev N_known_root : List Str := ["number"]
theorem sc_known_root : FnScope N_known_root ["number"] (defScope st_known_root) := ⟨rfl, rfl, rfl, by decide +kernel, rfl, by decide +kernel, by decide +kernel⟩
def b_known_root : S := (sRet (mCall F_known_in 1 (mCons (mCall F_sure_known 1 (mCons (mVar 0) mNil)) mNil)))
noncomputable def F_known_root : FSem := Classical.choose (sealF (fnSem 1 1 b_known_root))
theorem F_known_root_eq : F_known_root = fnSem 1 1 b_known_root := Classical.choose_spec (sealF (fnSem 1 1 b_known_root))
theorem ok_known_root (hd : Hd K mg) : FnS P w K mg base (He.ga K) 5 "known_root" ["number"] F_known_root := by
  rw [F_known_root_eq]
  exact fn_of (m := b_known_root) (Os' := ([] : List Nat)) hd.d_known_root sc_known_root rfl rfl fun cdv A outer s H E hr tk pn =>
  (rss_one (rs_ret (re_call (ok_known_in hd) hr tk (ra_cons (re_call (ok_sure_known hd) hr tk (ra_cons (re_var 0) ra_nil)) ra_nil))))
/-! known_engel -/
abbrev N_known_engel : List Str := ["number", "many", "own", "found", "lap"]
theorem sc_known_engel : FnScope N_known_engel ["number", "many"] (defScope st_known_engel) := ⟨rfl, rfl, rfl, by decide +kernel, rfl, by decide +kernel, by decide +kernel⟩
def b_known_engel : S := (sSeq (sPar [2, 3] (mCons (mCall F_sure_known 1 (mCons (mVar 0) mNil)) (mCons (mTup mNil) mNil))) (sSeq (sFor (mRng1 (mCons (mCall F_sure_within 3 (mCons (mVar 1) (mCons (mLit (.int 0)) (mCons (mLit (.int 60)) mNil)))) mNil)) (gV 4) (sSeq (sIf (mNot (mTst (mCall F_is_near 2 (mCons (mVar 2) (mCons (mLit (.int 2000)) mNil))))) (sRaise "TooMany") sNext) (sPar [3, 2] (mCons (mBin dAdd (mVar 3) (mTup (mCons (mVar 2) mNil))) (mCons (mBin dSub (mBin dMul (mVar 2) (mVar 2)) (mLit (.int 2))) mNil))))) (sRet (mVar 3))))
noncomputable def F_known_engel : FSem := Classical.choose (sealF (fnSem 2 5 b_known_engel))
theorem F_known_engel_eq : F_known_engel = fnSem 2 5 b_known_engel := Classical.choose_spec (sealF (fnSem 2 5 b_known_engel))
theorem ok_known_engel (hd : Hd K mg) : FnS P w K mg base (He.ga K) 5 "known_engel" ["number", "many"] F_known_engel := by
  rw [F_known_engel_eq]
  exact fn_of (m := b_known_engel) (Os' := ([] : List Nat)) hd.d_known_engel sc_known_engel rfl rfl fun cdv A outer s H E hr tk pn =>
  (rss_cons (rs_par2 2 3 rfl sc_known_engel.nd (rp_val (re_call (ok_sure_known hd) hr tk (ra_cons (re_var 0) ra_nil)) (rp_val (re_tup ra_nil) rp_nil)) rfl) (rss_cons (rs_for pn (ri_rng1 hd.z_range (ra_cons (re_call (ok_sure_within hd) hr tk (ra_cons (re_var 1) (ra_cons re_int (ra_cons (re_gint hd.c_MOST_FIRST) ra_nil)))) ra_nil)) (rg_name 4 sc_known_engel.nd) (rss_cons (rs_if (rt_not (rt_val (re_call (ok_is_near hd) hr tk (ra_cons (re_var 2) (ra_cons (re_gint hd.c_LONG_NUMBER) ra_nil))))) (rss_one (rs_raise hd.x_TooMany tk)) rss_nil) (rss_one (rs_par2 3 2 rfl sc_known_engel.nd (rp_val (re_add (re_rb (re_var 3)) (re_rb (re_tup (ra_cons (re_var 2) ra_nil)))) (rp_val (re_sub (re_rb (re_mul (re_rb (re_var 2)) (re_rb (re_var 2)))) (re_rb re_int)) rp_nil)) rfl)))) (rss_one (rs_ret (re_var 3)))))
/-! known_pierce -/
abbrev N_known_pierce : List Str := ["number", "many", "own", "found", "wanted"]
theorem sc_known_pierce : FnScope N_known_pierce ["number", "many"] (defScope st_known_pierce) := ⟨rfl, rfl, rfl, by decide +kernel, rfl, by decide +kernel, by decide +kernel⟩
def b_known_pierce : S := (sSeq (sPar [2, 3] (mCons (mCall F_sure_known 1 (mCons (mVar 0) mNil)) (mCons (mTup mNil) mNil))) (sSeq (sSet 4 (mCall F_sure_within 3 (mCons (mVar 1) (mCons (mLit (.int 0)) (mCons (mLit (.int 60)) mNil))))) (sSeq (sWhile (mTst (mBin dLt (mCB fLen (mCons (mVar 3) mNil)) (mVar 4))) (sSeq (sIf (mNot (mTst (mCall F_is_near 2 (mCons (mIf (mTst (mBin dEq (mBin dAdd (mCB fLen (mCons (mVar 3) mNil)) (mLit (.int 1))) (mVar 4))) (mBin dSub (mVar 2) (mLit (.int 1))) (mBin dAdd (mVar 2) (mLit (.int 1)))) (mCons (mLit (.int 2000)) mNil))))) (sRaise "TooMany") sNext) (sPar [3, 2] (mCons (mBin dAdd (mVar 3) (mTup (mCons (mBin dSub (mVar 2) (mLit (.int 1))) (mCons (mBin dAdd (mVar 2) (mLit (.int 1))) mNil)))) (mCons (mBin dSub (mBin dMul (mBin dMul (mVar 2) (mVar 2)) (mVar 2)) (mBin dMul (mLit (.int 3)) (mVar 2))) mNil))))) (sRet (mCut (mVar 3) mNoP (mPart (mVar 4)))))))
noncomputable def F_known_pierce : FSem := Classical.choose (sealF (fnSem 2 5 b_known_pierce))
theorem F_known_pierce_eq : F_known_pierce = fnSem 2 5 b_known_pierce := Classical.choose_spec (sealF (fnSem 2 5 b_known_pierce))
theorem ok_known_pierce (hd : Hd K mg) : FnS P w K mg base (He.ga K) 5 "known_pierce" ["number", "many"] F_known_pierce := by
  rw [F_known_pierce_eq]
  exact fn_of (m := b_known_pierce) (Os' := ([] : List Nat)) hd.d_known_pierce sc_known_pierce rfl rfl fun cdv A outer s H E hr tk pn =>
  (rss_cons (rs_par2 2 3 rfl sc_known_pierce.nd (rp_val (re_call (ok_sure_known hd) hr tk (ra_cons (re_var 0) ra_nil)) (rp_val (re_tup ra_nil) rp_nil)) rfl) (rss_cons (rs_set 4 sc_known_pierce.nd (re_call (ok_sure_within hd) hr tk (ra_cons (re_var 1) (ra_cons re_int (ra_cons (re_gint hd.c_MOST_FIRST) ra_nil))))) (rss_cons (rs_while pn (rt_cm c_lt (re_rb (re_cb b_len hd.z_len (rab_cons (re_rb (re_var 3)) rab_nil))) (re_rb (re_var 4))) (rss_cons (rs_if (rt_not (rt_val (re_call (ok_is_near hd) hr tk (ra_cons (re_if (rt_cm (c_eq hr) (re_rb (re_add (re_rb (re_cb b_len hd.z_len (rab_cons (re_rb (re_var 3)) rab_nil))) (re_rb re_int))) (re_rb (re_var 4))) (re_sub (re_rb (re_var 2)) (re_rb re_int)) (re_add (re_rb (re_var 2)) (re_rb re_int))) (ra_cons (re_gint hd.c_LONG_NUMBER) ra_nil))))) (rss_one (rs_raise hd.x_TooMany tk)) rss_nil) (rss_one (rs_par2 3 2 rfl sc_known_pierce.nd (rp_val (re_add (re_rb (re_var 3)) (re_rb (re_tup (ra_cons (re_sub (re_rb (re_var 2)) (re_rb re_int)) (ra_cons (re_add (re_rb (re_var 2)) (re_rb re_int)) ra_nil))))) (rp_val (re_sub (re_rb (re_mul (re_rb (re_mul (re_rb (re_var 2)) (re_rb (re_var 2)))) (re_rb (re_var 2)))) (re_rb (re_mul (re_rb re_int) (re_rb (re_var 2))))) rp_nil)) rfl)))) (rss_one (rs_ret (re_cut (re_rb (re_var 3)) ro_none (ro_some (re_var 4))))))))
/-! l_box -/
abbrev N_l_box : List Str := ["script", "k", "bit_so"]
theorem sc_l_box : FnScope N_l_box ["script", "k"] (defScope st_l_box) := ⟨rfl, rfl, rfl, by decide +kernel, rfl, by decide +kernel, by decide +kernel⟩
def b_l_box : S := (sSeq (sSet 2 (mIf (mTst (mBin dLt (mVar 1) (mCB fLen (mCons (mVar 0) mNil)))) (mIdx (mVar 0) (mVar 1)) (mLit (.int 0)))) (sRet (mLst (mCons (mBin dMul (mCB fAbs (mCons (mVar 2) mNil)) (mCB fIntB (mCons (mBin dGe (mCB fAbs (mCons (mVar 2) mNil)) (mBin dPow (mLit (.int 10)) (mLit (.int 18)))) mNil))) (mCons (mBin dAdd (mBin dAdd (mBin dMod (mCB fIntB (mCons (mVar 2) mNil)) (mLit (.int 2305843009213693951))) (mBin dMul (mLit (.int 39373)) (mVar 1))) (mLit (.int 26290031))) (mCons (mLit (.int 0)) mNil))))))
noncomputable def F_l_box : FSem := Classical.choose (sealF (fnSem 2 3 b_l_box))
theorem F_l_box_eq : F_l_box = fnSem 2 3 b_l_box := Classical.choose_spec (sealF (fnSem 2 3 b_l_box))
theorem ok_l_box (hd : Hd K mg) : FnF P w K mg base (He.ga K) 1 "_law_box" ["script", "k"] F_l_box := by
  rw [F_l_box_eq]
  exact fnF_of (m := b_l_box) (Os' := ([] : List Nat)) hd.d_l_box sc_l_box rfl rfl (noNx_seq noNx_ret) fun cdv A outer s H E hr tk pn =>
  (rss_cons (rs_set 2 sc_l_box.nd (re_if (rt_cm c_lt (re_rb (re_var 1)) (re_rb (re_cb b_len hd.z_len (rab_cons (re_rb (re_var 0)) rab_nil)))) (re_idx (re_rb (re_var 0)) (re_var 1)) re_int)) (rss_one (rs_retF (rf_lst (ra_cons (re_mul (re_rb (re_cb b_abs hd.z_abs (rab_cons (re_rb (re_var 2)) rab_nil))) (re_rb (re_ct (b_intB hd.dg) hd.z_int (rab_cons (re_rb (re_cm c_ge (re_rb (re_cb b_abs hd.z_abs (rab_cons (re_rb (re_var 2)) rab_nil))) (re_rb (re_pow (re_rb re_int) (re_rb re_int))))) rab_nil)))) (ra_cons (re_add (re_rb (re_add (re_rb (re_mod (re_rb (re_ct (b_intB hd.dg) hd.z_int (rab_cons (re_rb (re_var 2)) rab_nil))) (re_rb re_int))) (re_rb (re_mul (re_rb re_int) (re_rb (re_var 1)))))) (re_rb re_int)) (ra_cons re_int ra_nil)))))))
/-! l_take -/
abbrev N_l_take : List Str := ["tin", "below_so", "drawn_so", "once_so", "wide_so", "twice_so"]
theorem sc_l_take : FnScope N_l_take ["tin", "below_so"] (defScope st_l_take) := ⟨rfl, rfl, rfl, by decide +kernel, rfl, by decide +kernel, by decide +kernel⟩
def b_l_take : S := (sSeq (sIf (mTst (mBin dGt (mIdx (mVar 0) (mLit (.int 0))) (mLit (.int 0)))) (sSeq (sSet 2 (mBin dMod (mCB fIntB (mCons (mIdx (mVar 0) (mLit (.int 0))) mNil)) (mVar 1))) (sSeq (sStC 0 (mLit (.int 0)) (mBin dFdiv (mIdx (mVar 0) (mLit (.int 0))) (mVar 1))) (sRet (mVar 2)))) sNext) (sSeq (sStC 0 (mLit (.int 2)) (mBin dAdd (mIdx (mVar 0) (mLit (.int 2))) (mLit (.int 1)))) (sSeq (sSet 3 (mBin dMod (mCB fIntB (mCons (mBin dMul (mBin dAdd (mIdx (mVar 0) (mLit (.int 1))) (mBin dMul (mLit (.int 48271)) (mIdx (mVar 0) (mLit (.int 2))))) (mBin dAdd (mLit (.int 39373)) (mIdx (mVar 0) (mLit (.int 2))))) mNil)) (mLit (.int 2147483647)))) (sSeq (sSet 4 (mBin dAdd (mBin dMod (mCB fIntB (mCons (mVar 3) mNil)) (mLit (.int 40009))) (mLit (.int 7)))) (sSeq (sSet 5 (mBin dMod (mCB fIntB (mCons (mBin dMul (mBin dAdd (mBin dAdd (mVar 3) (mIdx (mVar 0) (mLit (.int 2)))) (mBin dFdiv (mIdx (mVar 0) (mLit (.int 1))) (mLit (.int 1000003)))) (mVar 4)) mNil)) (mLit (.int 2147483629)))) (sRet (mBin dMod (mCB fIntB (mCons (mBin dFdiv (mBin dMod (mCB fIntB (mCons (mBin dAdd (mBin dMul (mVar 5) (mLit (.int 48271))) (mVar 3)) mNil)) (mLit (.int 2147483587))) (mLit (.int 64))) mNil)) (mVar 1))))))))
noncomputable def F_l_take : FSem := Classical.choose (sealF (fnSem 2 6 b_l_take))
theorem F_l_take_eq : F_l_take = fnSem 2 6 b_l_take := Classical.choose_spec (sealF (fnSem 2 6 b_l_take))
theorem ok_l_take (hd : Hd K mg) : FnS P w K mg base (He.ga K) 1 "_law_take" ["tin", "below_so"] F_l_take := by
  rw [F_l_take_eq]
  exact fn_of (m := b_l_take) (Os' := ([] : List Nat)) hd.d_l_take sc_l_take rfl rfl fun cdv A outer s H E hr tk pn =>
  (rss_cons (rs_if (rt_cm c_gt (re_rb (re_idx (re_rb (re_var 0)) re_int)) (re_rb re_int)) (rss_cons (rs_set 2 sc_l_take.nd (re_mod (re_rb (re_ct (b_intB hd.dg) hd.z_int (rab_cons (re_rb (re_idx (re_rb (re_var 0)) re_int)) rab_nil))) (re_rb (re_var 1)))) (rss_cons (rs_stC 0 re_int (re_fdiv (re_rb (re_idx (re_rb (re_var 0)) re_int)) (re_rb (re_var 1)))) (rss_one (rs_ret (re_var 2))))) rss_nil) (rss_cons (rs_stC 0 re_int (re_add (re_rb (re_idx (re_rb (re_var 0)) re_int)) (re_rb re_int))) (rss_cons (rs_set 3 sc_l_take.nd (re_mod (re_rb (re_ct (b_intB hd.dg) hd.z_int (rab_cons (re_rb (re_mul (re_rb (re_add (re_rb (re_idx (re_rb (re_var 0)) re_int)) (re_rb (re_mul (re_rb re_int) (re_rb (re_idx (re_rb (re_var 0)) re_int)))))) (re_rb (re_add (re_rb re_int) (re_rb (re_idx (re_rb (re_var 0)) re_int)))))) rab_nil))) (re_rb re_int))) (rss_cons (rs_set 4 sc_l_take.nd (re_add (re_rb (re_mod (re_rb (re_ct (b_intB hd.dg) hd.z_int (rab_cons (re_rb (re_var 3)) rab_nil))) (re_rb re_int))) (re_rb re_int))) (rss_cons (rs_set 5 sc_l_take.nd (re_mod (re_rb (re_ct (b_intB hd.dg) hd.z_int (rab_cons (re_rb (re_mul (re_rb (re_add (re_rb (re_add (re_rb (re_var 3)) (re_rb (re_idx (re_rb (re_var 0)) re_int)))) (re_rb (re_fdiv (re_rb (re_idx (re_rb (re_var 0)) re_int)) (re_rb re_int))))) (re_rb (re_var 4)))) rab_nil))) (re_rb re_int))) (rss_one (rs_ret (re_mod (re_rb (re_ct (b_intB hd.dg) hd.z_int (rab_cons (re_rb (re_fdiv (re_rb (re_mod (re_rb (re_ct (b_intB hd.dg) hd.z_int (rab_cons (re_rb (re_add (re_rb (re_mul (re_rb (re_var 5)) (re_rb re_int))) (re_rb (re_var 3)))) rab_nil))) (re_rb re_int))) (re_rb re_int))) rab_nil))) (re_rb (re_var 1))))))))))
/-! l_cells -/
abbrev N_l_cells : List Str := ["script", "most_so", "cells_so", "k", "bit_so", "at_so"]
theorem sc_l_cells : FnScope N_l_cells ["script", "most_so"] (defScope st_l_cells) := ⟨rfl, rfl, rfl, by decide +kernel, rfl, by decide +kernel, by decide +kernel⟩
def b_l_cells : S := (sSeq (sOwn 2 (mOrL (mCB fList (mCons (mCut (mVar 0) mNoP (mPart (mVar 1))) mNil)) (mLst (mCons (mLit (.int 0)) mNil)))) (sSeq (sFor (mEnum (mCut (mVar 0) (mPart (mVar 1)) (mPart (mLit (.int 63))))) (gT [(gV 3), (gV 4)]) (sSeq (sSet 5 (mBin dMod (mCB fIntB (mCons (mVar 3) mNil)) (mVar 1))) (sStO 2 (mVar 5) (mBin dAdd (mIdx (mVar 2) (mVar 5)) (mBin dMul (mVar 4) (mBin dAdd (mVar 3) (mLit (.int 2)))))))) (sRet (mVar 2))))
noncomputable def F_l_cells : FSem := Classical.choose (sealF (fnSem 2 6 b_l_cells))
theorem F_l_cells_eq : F_l_cells = fnSem 2 6 b_l_cells := Classical.choose_spec (sealF (fnSem 2 6 b_l_cells))
theorem ok_l_cells (hd : Hd K mg) : FnS P w K mg base (He.ga K) 1 "_law_cells" ["script", "most_so"] F_l_cells := by
  rw [F_l_cells_eq]
  exact fn_of (m := b_l_cells) (Os' := ([] : List Nat)) hd.d_l_cells sc_l_cells rfl rfl fun cdv A outer s H E hr tk pn =>
  (rss_cons (rs_own 2 sc_l_cells.nd (rf_or (rf_list (x := "list") hd.z_list (rab_cons (re_rb (re_cut (re_rb (re_var 0)) ro_none (ro_some (re_var 1)))) rab_nil)) (rf_lst (ra_cons re_int ra_nil)))) (rss_cons (rs_for pn (ri_enum hd.z_enumerate (re_cut (re_rb (re_var 0)) (ro_some (re_var 1)) (ro_some re_int))) (rg_tup rfl (rgs_cons (rg_name 3 sc_l_cells.nd) (rgs_cons (rg_name 4 sc_l_cells.nd) rgs_nil))) (rss_cons (rs_set 5 sc_l_cells.nd (re_mod (re_rb (re_ct (b_intB hd.dg) hd.z_int (rab_cons (re_rb (re_var 3)) rab_nil))) (re_rb (re_var 1)))) (rss_one (rs_stO 2 (re_var 5) (re_add (re_rb (re_idx (rb_own 2) (re_var 5))) (re_rb (re_mul (re_rb (re_var 4)) (re_rb (re_add (re_rb (re_var 3)) (re_rb re_int)))))))))) (rss_one (rs_ret (re_var 2)))))
/-! l_of -/
abbrev N_l_of : List Str := ["tin", "goods_so"]
theorem sc_l_of : FnScope N_l_of ["tin", "goods_so"] (defScope st_l_of) := ⟨rfl, rfl, rfl, by decide +kernel, rfl, by decide +kernel, by decide +kernel⟩
def b_l_of : S := (sRet (mIdx (mVar 1) (mCall F_l_take 2 (mCons (mVar 0) (mCons (mCB fLen (mCons (mVar 1) mNil)) mNil)))))
noncomputable def F_l_of : FSem := Classical.choose (sealF (fnSem 2 2 b_l_of))
theorem F_l_of_eq : F_l_of = fnSem 2 2 b_l_of := Classical.choose_spec (sealF (fnSem 2 2 b_l_of))
theorem ok_l_of (hd : Hd K mg) : FnS P w K mg base (He.ga K) 2 "_law_of" ["tin", "goods_so"] F_l_of := by
  rw [F_l_of_eq]
  exact fn_of (m := b_l_of) (Os' := ([] : List Nat)) hd.d_l_of sc_l_of rfl rfl fun cdv A outer s H E hr tk pn =>
  (rss_one (rs_ret (re_idx (re_rb (re_var 1)) (re_call (ok_l_take hd) hr tk (ra_cons (re_var 0) (ra_cons (re_cb b_len hd.z_len (rab_cons (re_rb (re_var 1)) rab_nil)) ra_nil))))))
/-! l_mixed -/
abbrev N_l_mixed : List Str := ["tin", "matter", "row_so", "bit"]
theorem sc_l_mixed : FnScope N_l_mixed ["tin", "matter"] (defScope st_l_mixed) := ⟨rfl, rfl, rfl, by decide +kernel, rfl, by decide +kernel, by decide +kernel⟩
def b_l_mixed (Fr : FSem) : S := (sSeq (sIf (mNot (mTst (mIsT [.lst, .tup] (mVar 1)))) (sRet (mVar 1)) sNext) (sSeq (sSet 2 (mLc [3] (mItA (mVar 1)) (gV 3) mYes (mCall Fr 2 (mCons (mVar 0) (mCons (mVar 3) mNil))))) (sRet (mIf (mTst (mBin dEq (mCall F_l_take 2 (mCons (mVar 0) (mCons (mLit (.int 2)) mNil))) (mLit (.int 0)))) (mVar 2) (mCB fTuple (mCons (mVar 2) mNil))))))
def Ft_l_mixed : Nat → FSem
  | 0 => fnSem 2 4 fun _ _ => none
  | n + 1 => fnSem 2 4 (b_l_mixed (Ft_l_mixed n))
theorem okn_l_mixed (hd : Hd K mg) : ∀ n : Nat, FnS P w K mg base (He.ga K) (n + 2) "_law_mixed" ["tin", "matter"] (Ft_l_mixed n)
  | 0 => fn_of (k := 1) (m := fun _ _ => none) (Os' := ([] : List Nat)) hd.d_l_mixed sc_l_mixed rfl rfl fun cdv A outer s H E hr tk pn => rss_none
  | n + 1 => by
    have ih : FnS P w K mg base (He.ga K) (n + 2) "_law_mixed" ["tin", "matter"] (Ft_l_mixed n) := okn_l_mixed hd n
    have q : FnS P w K mg base (He.ga K) (n + 2 + 1) "_law_mixed" ["tin", "matter"] (fnSem 2 4 (b_l_mixed (Ft_l_mixed n))) := fn_of (k := n + 2) (m := b_l_mixed (Ft_l_mixed n)) (Os' := ([] : List Nat)) hd.d_l_mixed sc_l_mixed rfl rfl fun cdv A outer s H E hr tk pn => (rss_cons (rs_if (rt_not (rt_val (re_isiT (c := .Tuple [] 0 _) .lst .tup hd.z_isinstance hd.z_list hd.z_tuple (re_rb (re_var 1))))) (rss_one (rs_ret (re_var 1))) rss_nil) (rss_cons (rs_setLc 2 (own := [("bit", 3)]) sc_l_mixed.nd (blkOk_by (N := N_l_mixed) (sc := defScope st_l_mixed) (by decide +kernel)) (ri_seq (re_var 1)) (fun _ _ _ _ _ => (rg_name 3 sc_l_mixed.nd)) (fun _ _ _ _ _ => rts_nil) (fun _ _ _ _ _ => (re_callR (Nat.le_refl _) ih hr takes0 (ra_cons (re_var 0) (ra_cons (re_var 3) ra_nil))))) (rss_one (rs_ret (re_if (rt_cm (c_eq hr) (re_rb (re_callR (by omega) (ok_l_take hd) hr tk (ra_cons (re_var 0) (ra_cons re_int ra_nil)))) (re_rb re_int)) (re_var 2) (re_ct b_tuple hd.z_tuple (rab_cons (re_rb (re_var 2)) rab_nil)))))))
    have e : n + 2 + 1 = n + 1 + 2 := by omega
    rw [e] at q
    exact q
noncomputable def F_l_mixed : FSem := Classical.choose (sealF (Ft_l_mixed 20))
theorem F_l_mixed_eq : F_l_mixed = Ft_l_mixed 20 := Classical.choose_spec (sealF (Ft_l_mixed 20))
theorem ok_l_mixed (hd : Hd K mg) : FnS P w K mg base (He.ga K) 22 "_law_mixed" ["tin", "matter"] F_l_mixed := by
  rw [F_l_mixed_eq]
  exact okn_l_mixed hd 20
/-! l_same -/
abbrev N_l_same : List Str := ["got", "due", "mine", "its"]
theorem sc_l_same : FnScope N_l_same ["got", "due"] (defScope st_l_same) := ⟨rfl, rfl, rfl, by decide +kernel, rfl, by decide +kernel, by decide +kernel⟩
def b_l_same (Fr : FSem) : S := (sSeq (sIf (mTst (mIsT [.lst, .tup] (mVar 1))) (sSeq (sIf (mOr (mTst (mBin dNe (mIs .lst (mVar 0)) (mIs .lst (mVar 1)))) (mTst (mBin dNe (mIs .tup (mVar 0)) (mIs .tup (mVar 1))))) (sRet (mLit (.bl false))) sNext) (sRet (mAndV (mBin dEq (mCB fLen (mCons (mVar 0) mNil)) (mCB fLen (mCons (mVar 1) mNil))) (mCB fAll (mCons (mLc [2, 3] (mZip (mCons (mVar 0) (mCons (mVar 1) mNil))) (gT [(gV 2), (gV 3)]) mYes (mCall Fr 2 (mCons (mVar 2) (mCons (mVar 3) mNil)))) mNil))))) sNext) (sSeq (sIf (mTst (mBin dIsN (mVar 1) (mLit .non))) (sRet (mBin dIsN (mVar 0) (mLit .non))) sNext) (sSeq (sIf (mTst (mIsT [.bl, .str] (mVar 1))) (sRet (mAndV (mBin dEq (mIs .bl (mVar 0)) (mIs .bl (mVar 1))) (mAndV (mBin dEq (mIs .str (mVar 0)) (mIs .str (mVar 1))) (mBin dEq (mVar 0) (mVar 1))))) sNext) (sRet (mAndV (mIs .int (mVar 0)) (mAndV (mNotV (mIs .bl (mVar 0))) (mBin dEq (mVar 0) (mVar 1))))))))
def Ft_l_same : Nat → FSem
  | 0 => fnSem 2 4 fun _ _ => none
  | n + 1 => fnSem 2 4 (b_l_same (Ft_l_same n))
theorem okn_l_same (hd : Hd K mg) : ∀ n : Nat, FnS P w K mg base (He.ga K) (n + 1) "_law_same" ["got", "due"] (Ft_l_same n)
  | 0 => fn_of (k := 0) (m := fun _ _ => none) (Os' := ([] : List Nat)) hd.d_l_same sc_l_same rfl rfl fun cdv A outer s H E hr tk pn => rss_none
  | n + 1 => by
    have ih : FnS P w K mg base (He.ga K) (n + 1) "_law_same" ["got", "due"] (Ft_l_same n) := okn_l_same hd n
    have q : FnS P w K mg base (He.ga K) (n + 1 + 1) "_law_same" ["got", "due"] (fnSem 2 4 (b_l_same (Ft_l_same n))) := fn_of (k := n + 1) (m := b_l_same (Ft_l_same n)) (Os' := ([] : List Nat)) hd.d_l_same sc_l_same rfl rfl fun cdv A outer s H E hr tk pn => (rss_cons (rs_if (rt_val (re_isiT (c := .Tuple [] 0 _) .lst .tup hd.z_isinstance hd.z_list hd.z_tuple (re_rb (re_var 1)))) (rss_cons (rs_if (rw_pt (rw_or (rt_cm (c_ne hr) (re_rb (re_isi .lst hd.z_isinstance hd.z_list (re_rb (re_var 0)))) (re_rb (re_isi .lst hd.z_isinstance hd.z_list (re_rb (re_var 1))))) (rw_or1 (rt_cm (c_ne hr) (re_rb (re_isi .tup hd.z_isinstance hd.z_tuple (re_rb (re_var 0)))) (re_rb (re_isi .tup hd.z_isinstance hd.z_tuple (re_rb (re_var 1)))))))) (rss_one (rs_ret re_bl)) rss_nil) (rss_one (rs_ret (re_and (re_cm (c_eq hr) (re_rb (re_cb b_len hd.z_len (rab_cons (re_rb (re_var 0)) rab_nil))) (re_rb (re_cb b_len hd.z_len (rab_cons (re_rb (re_var 1)) rab_nil)))) (re_one (re_cb (b_all rfl) hd.z_all (rab_cons (re_rb (rf_re (rf_lc (own := [("mine", 2), ("its", 3)]) sc_l_same.nd (blkOk_by (N := N_l_same) (sc := defScope st_l_same) (by decide +kernel)) (ri_zip hd.z_zip (ra_cons (re_var 0) (ra_cons (re_var 1) ra_nil))) (fun _ _ _ _ _ => (rg_tup rfl (rgs_cons (rg_name 2 sc_l_same.nd) (rgs_cons (rg_name 3 sc_l_same.nd) rgs_nil)))) (fun _ _ _ _ _ => rts_nil) (fun _ _ _ _ _ => (re_callR (Nat.le_refl _) ih hr takes0 (ra_cons (re_var 2) (ra_cons (re_var 3) ra_nil))))))) rab_nil))))))) rss_nil) (rss_cons (rs_if (rt_cm c_isN (re_rb (re_var 1)) (re_rb re_non)) (rss_one (rs_ret (re_cm c_isN (re_rb (re_var 0)) (re_rb re_non)))) rss_nil) (rss_cons (rs_if (rt_val (re_isiT (c := .Tuple [] 0 _) .bl .str hd.z_isinstance hd.z_bool hd.z_str (re_rb (re_var 1)))) (rss_one (rs_ret (re_and (re_cm (c_eq hr) (re_rb (re_isi .bl hd.z_isinstance hd.z_bool (re_rb (re_var 0)))) (re_rb (re_isi .bl hd.z_isinstance hd.z_bool (re_rb (re_var 1))))) (re_and (re_cm (c_eq hr) (re_rb (re_isi .str hd.z_isinstance hd.z_str (re_rb (re_var 0)))) (re_rb (re_isi .str hd.z_isinstance hd.z_str (re_rb (re_var 1))))) (re_one (re_cm (c_eq hr) (re_rb (re_var 0)) (re_rb (re_var 1)))))))) rss_nil) (rss_one (rs_ret (re_and (re_isi .int hd.z_isinstance hd.z_int (re_rb (re_var 0))) (re_and (re_not (re_isi .bl hd.z_isinstance hd.z_bool (re_rb (re_var 0)))) (re_one (re_cm (c_eq hr) (re_rb (re_var 0)) (re_rb (re_var 1)))))))))))
    have e : n + 1 + 1 = n + 1 + 1 := by omega
    rw [e] at q
    exact q
noncomputable def F_l_same : FSem := Classical.choose (sealF (Ft_l_same 20))
theorem F_l_same_eq : F_l_same = Ft_l_same 20 := Classical.choose_spec (sealF (Ft_l_same 20))
theorem ok_l_same (hd : Hd K mg) : FnS P w K mg base (He.ga K) 21 "_law_same" ["got", "due"] F_l_same := by
  rw [F_l_same_eq]
  exact okn_l_same hd 20
/-! l_common -/
abbrev N_l_common : List Str := ["one", "two", "lap"]
theorem sc_l_common : FnScope N_l_common ["one", "two"] (defScope st_l_common) := ⟨rfl, rfl, rfl, by decide +kernel, rfl, by decide +kernel, by decide +kernel⟩
def b_l_common : S := (sSeq (sPar [0, 1] (mCons (mCB fAbs (mCons (mVar 0) mNil)) (mCons (mCB fAbs (mCons (mVar 1) mNil)) mNil))) (sSeq (sFor (mRng1 (mCons (mLit (.int 99999)) mNil)) (gV 2) (sSeq (sIf (mTst (mBin dEq (mVar 1) (mLit (.int 0)))) sBreak sNext) (sPar [0, 1] (mCons (mVar 1) (mCons (mBin dMod (mVar 0) (mVar 1)) mNil))))) (sRet (mIf (mTst (mBin dGt (mVar 0) (mLit (.int 0)))) (mVar 0) (mLit (.int 1))))))
noncomputable def F_l_common : FSem := Classical.choose (sealF (fnSem 2 3 b_l_common))
theorem F_l_common_eq : F_l_common = fnSem 2 3 b_l_common := Classical.choose_spec (sealF (fnSem 2 3 b_l_common))
theorem ok_l_common (hd : Hd K mg) : FnS P w K mg base (He.ga K) 1 "_law_common" ["one", "two"] F_l_common := by
  rw [F_l_common_eq]
  exact fn_of (m := b_l_common) (Os' := ([] : List Nat)) hd.d_l_common sc_l_common rfl rfl fun cdv A outer s H E hr tk pn =>
  (rss_cons (rs_par2 0 1 rfl sc_l_common.nd (rp_val (re_cb b_abs hd.z_abs (rab_cons (re_rb (re_var 0)) rab_nil)) (rp_val (re_cb b_abs hd.z_abs (rab_cons (re_rb (re_var 1)) rab_nil)) rp_nil)) rfl) (rss_cons (rs_for pn (ri_rng1 hd.z_range (ra_cons re_int ra_nil)) (rg_name 2 sc_l_common.nd) (rss_cons (rs_if (rt_cm (c_eq hr) (re_rb (re_var 1)) (re_rb re_int)) (rss_one rs_break) rss_nil) (rss_one (rs_par2 0 1 rfl sc_l_common.nd (rp_val (re_var 1) (rp_val (re_mod (re_rb (re_var 0)) (re_rb (re_var 1))) rp_nil)) rfl)))) (rss_one (rs_ret (re_if (rt_cm c_gt (re_rb (re_var 0)) (re_rb re_int)) (re_var 0) re_int)))))
/-! l_cut -/
abbrev N_l_cut : List Str := ["over_so", "under_so", "both_so"]
theorem sc_l_cut : FnScope N_l_cut ["over_so", "under_so"] (defScope st_l_cut) := ⟨rfl, rfl, rfl, by decide +kernel, rfl, by decide +kernel, by decide +kernel⟩
def b_l_cut : S := (sSeq (sSet 2 (mCall F_l_common 2 (mCons (mVar 0) (mCons (mVar 1) mNil)))) (sSeq (sSet 2 (mIf (mTst (mBin dGt (mVar 1) (mLit (.int 0)))) (mVar 2) (mBin dSub (mLit (.int 0)) (mVar 2)))) (sRet (mTup (mCons (mBin dFdiv (mVar 0) (mVar 2)) (mCons (mBin dFdiv (mVar 1) (mVar 2)) mNil))))))
noncomputable def F_l_cut : FSem := Classical.choose (sealF (fnSem 2 3 b_l_cut))
theorem F_l_cut_eq : F_l_cut = fnSem 2 3 b_l_cut := Classical.choose_spec (sealF (fnSem 2 3 b_l_cut))
theorem ok_l_cut (hd : Hd K mg) : FnS P w K mg base (He.ga K) 2 "_law_cut" ["over_so", "under_so"] F_l_cut := by
  rw [F_l_cut_eq]
  exact fn_of (m := b_l_cut) (Os' := ([] : List Nat)) hd.d_l_cut sc_l_cut rfl rfl fun cdv A outer s H E hr tk pn =>
  (rss_cons (rs_set 2 sc_l_cut.nd (re_call (ok_l_common hd) hr tk (ra_cons (re_var 0) (ra_cons (re_var 1) ra_nil)))) (rss_cons (rs_set 2 sc_l_cut.nd (re_if (rt_cm c_gt (re_rb (re_var 1)) (re_rb re_int)) (re_var 2) (re_sub (re_rb re_int) (re_rb (re_var 2))))) (rss_one (rs_ret (re_tup (ra_cons (re_fdiv (re_rb (re_var 0)) (re_rb (re_var 2))) (ra_cons (re_fdiv (re_rb (re_var 1)) (re_rb (re_var 2))) ra_nil)))))))
noncomputable def doorT : Doors := [("known_engel", 2, F_known_engel), ("known_pierce", 2, F_known_pierce)]
theorem okDoors (hd : Hd K mg) : DoorsOk P w K mg base (He.ga K) 5 doorT := (doors_cons (ok_known_engel hd) (doors_cons (ok_known_pierce hd) doors_nil))
/-! l_call -/
abbrev N_l_call : List Str := ["door_so", "goods_so"]
theorem sc_l_call : FnScope N_l_call ["door_so", "goods_so"] (defScope st_l_call) := ⟨rfl, rfl, rfl, by decide +kernel, rfl, by decide +kernel, by decide +kernel⟩
def b_l_call : S := (sSeq (sIf (mTst (mBin dEq (mCB fLen (mCons (mVar 1) mNil)) (mLit (.int 1)))) (sRet (mCallV doorT 0 (mCons (mIdx (mVar 1) (mLit (.int 0))) mNil))) sNext) (sSeq (sIf (mTst (mBin dEq (mCB fLen (mCons (mVar 1) mNil)) (mLit (.int 2)))) (sRet (mCallV doorT 0 (mCons (mIdx (mVar 1) (mLit (.int 0))) (mCons (mIdx (mVar 1) (mLit (.int 1))) mNil)))) sNext) (sSeq (sIf (mTst (mBin dEq (mCB fLen (mCons (mVar 1) mNil)) (mLit (.int 3)))) (sRet (mCallV doorT 0 (mCons (mIdx (mVar 1) (mLit (.int 0))) (mCons (mIdx (mVar 1) (mLit (.int 1))) (mCons (mIdx (mVar 1) (mLit (.int 2))) mNil))))) sNext) (sSeq (sIf (mTst (mBin dEq (mCB fLen (mCons (mVar 1) mNil)) (mLit (.int 4)))) (sRet (mCallV doorT 0 (mCons (mIdx (mVar 1) (mLit (.int 0))) (mCons (mIdx (mVar 1) (mLit (.int 1))) (mCons (mIdx (mVar 1) (mLit (.int 2))) (mCons (mIdx (mVar 1) (mLit (.int 3))) mNil)))))) sNext) (sRet (mCallV doorT 0 (mCons (mIdx (mVar 1) (mLit (.int 0))) (mCons (mIdx (mVar 1) (mLit (.int 1))) (mCons (mIdx (mVar 1) (mLit (.int 2))) (mCons (mIdx (mVar 1) (mLit (.int 3))) (mCons (mIdx (mVar 1) (mLit (.int 4))) mNil)))))))))))
noncomputable def F_l_call : FSem := Classical.choose (sealF (fnSem 2 2 b_l_call))
theorem F_l_call_eq : F_l_call = fnSem 2 2 b_l_call := Classical.choose_spec (sealF (fnSem 2 2 b_l_call))
theorem ok_l_call (hd : Hd K mg) : FnS P w K mg base (He.ga K) 6 "_law_call" ["door_so", "goods_so"] F_l_call := by
  rw [F_l_call_eq]
  exact fn_of (m := b_l_call) (Os' := ([] : List Nat)) hd.d_l_call sc_l_call rfl rfl fun cdv A outer s H E hr tk pn =>
  (rss_cons (rs_if (rt_cm (c_eq hr) (re_rb (re_cb b_len hd.z_len (rab_cons (re_rb (re_var 1)) rab_nil))) (re_rb re_int)) (rss_one (rs_ret (re_callV (okDoors hd) 0 hr tk (ra_cons (re_idx (re_rb (re_var 1)) re_int) ra_nil)))) rss_nil) (rss_cons (rs_if (rt_cm (c_eq hr) (re_rb (re_cb b_len hd.z_len (rab_cons (re_rb (re_var 1)) rab_nil))) (re_rb re_int)) (rss_one (rs_ret (re_callV (okDoors hd) 0 hr tk (ra_cons (re_idx (re_rb (re_var 1)) re_int) (ra_cons (re_idx (re_rb (re_var 1)) re_int) ra_nil))))) rss_nil) (rss_cons (rs_if (rt_cm (c_eq hr) (re_rb (re_cb b_len hd.z_len (rab_cons (re_rb (re_var 1)) rab_nil))) (re_rb re_int)) (rss_one (rs_ret (re_callV (okDoors hd) 0 hr tk (ra_cons (re_idx (re_rb (re_var 1)) re_int) (ra_cons (re_idx (re_rb (re_var 1)) re_int) (ra_cons (re_idx (re_rb (re_var 1)) re_int) ra_nil)))))) rss_nil) (rss_cons (rs_if (rt_cm (c_eq hr) (re_rb (re_cb b_len hd.z_len (rab_cons (re_rb (re_var 1)) rab_nil))) (re_rb re_int)) (rss_one (rs_ret (re_callV (okDoors hd) 0 hr tk (ra_cons (re_idx (re_rb (re_var 1)) re_int) (ra_cons (re_idx (re_rb (re_var 1)) re_int) (ra_cons (re_idx (re_rb (re_var 1)) re_int) (ra_cons (re_idx (re_rb (re_var 1)) re_int) ra_nil))))))) rss_nil) (rss_one (rs_ret (re_callV (okDoors hd) 0 hr tk (ra_cons (re_idx (re_rb (re_var 1)) re_int) (ra_cons (re_idx (re_rb (re_var 1)) re_int) (ra_cons (re_idx (re_rb (re_var 1)) re_int) (ra_cons (re_idx (re_rb (re_var 1)) re_int) (ra_cons (re_idx (re_rb (re_var 1)) re_int) ra_nil))))))))))))
/-! l_slip -/
abbrev N_l_slip : List Str := ["door_so", "goods_so", "slip_so", "slip_c", "slip_m"]
theorem sc_l_slip : FnScope N_l_slip ["door_so", "goods_so"] (defScope st_l_slip) := ⟨rfl, rfl, rfl, by decide +kernel, rfl, by decide +kernel, by decide +kernel⟩
def b_l_slip : S := (sSeq (sSlip (mCall F_l_call 2 (mCons (mVar 0) (mCons (mVar 1) mNil))) [("Unfit", 2, "unfit"), ("CanNot", 3, "can not"), ("TooMany", 4, "many")]) (sRet (mLit (.str "told"))))
noncomputable def F_l_slip : FSem := Classical.choose (sealF (fnSem 2 5 b_l_slip))
theorem F_l_slip_eq : F_l_slip = fnSem 2 5 b_l_slip := Classical.choose_spec (sealF (fnSem 2 5 b_l_slip))
theorem ok_l_slip (hd : Hd K mg) : FnS P w K mg base (He.ga K) 7 "_law_slip" ["door_so", "goods_so"] F_l_slip := by
  rw [F_l_slip_eq]
  exact fn_of (m := b_l_slip) (Os' := ([] : List Nat)) hd.d_l_slip sc_l_slip rfl rfl fun cdv A outer s H E hr tk pn =>
  (rss_cons (rs_slip (i1 := 2) (i2 := 3) (i3 := 4) hd.sk hd.x_Unfit.mg hd.x_CanNot.mg hd.x_TooMany.mg hd.z_isinstance hd.z_ValueError sc_l_slip.nd  fun pn xe E' tk => (re_call (ok_l_call hd) hr tk (ra_cons (re_var 0) (ra_cons (re_var 1) ra_nil)))) (rss_one (rs_ret re_str)))
/-! l_is_less -/
abbrev N_l_is_less : List Str := ["one", "two"]
theorem sc_l_is_less : FnScope N_l_is_less ["one", "two"] (defScope st_l_is_less) := ⟨rfl, rfl, rfl, by decide +kernel, rfl, by decide +kernel, by decide +kernel⟩
def b_l_is_less : S := (sRet (mBin dLt (mBin dMul (mIdx (mVar 0) (mLit (.int 0))) (mIdx (mVar 1) (mLit (.int 1)))) (mBin dMul (mIdx (mVar 1) (mLit (.int 0))) (mIdx (mVar 0) (mLit (.int 1))))))
noncomputable def F_l_is_less : FSem := Classical.choose (sealF (fnSem 2 2 b_l_is_less))
theorem F_l_is_less_eq : F_l_is_less = fnSem 2 2 b_l_is_less := Classical.choose_spec (sealF (fnSem 2 2 b_l_is_less))
theorem ok_l_is_less (hd : Hd K mg) : FnS P w K mg base (He.ga K) 1 "_law_is_less" ["one", "two"] F_l_is_less := by
  rw [F_l_is_less_eq]
  exact fn_of (m := b_l_is_less) (Os' := ([] : List Nat)) hd.d_l_is_less sc_l_is_less rfl rfl fun cdv A outer s H E hr tk pn =>
  (rss_one (rs_ret (re_cm c_lt (re_rb (re_mul (re_rb (re_idx (re_rb (re_var 0)) re_int)) (re_rb (re_idx (re_rb (re_var 1)) re_int)))) (re_rb (re_mul (re_rb (re_idx (re_rb (re_var 1)) re_int)) (re_rb (re_idx (re_rb (re_var 0)) re_int)))))))
/-! l_heard -/
abbrev N_l_heard : List Str := ["door_so", "goods_so", "slip_so", "told_so"]
theorem sc_l_heard : FnScope N_l_heard ["door_so", "goods_so"] (defScope st_l_heard) := ⟨rfl, rfl, rfl, by decide +kernel, rfl, by decide +kernel, by decide +kernel⟩
def b_l_heard : S := (sSeq (sSet 2 (mCall F_l_slip 2 (mCons (mVar 0) (mCons (mVar 1) mNil)))) (sSeq (sIf (mTst (mBin dIn (mVar 2) (mTup (mCons (mLit (.str "unfit")) (mCons (mLit (.str "can not")) (mCons (mLit (.str "many")) (mCons (mLit (.str "odd")) mNil))))))) (sRet (mLst (mCons (mVar 2) (mCons (mLit (.bl true)) mNil)))) sNext) (sSeq (sSet 3 (mCall F_l_call 2 (mCons (mVar 0) (mCons (mVar 1) mNil)))) (sRet (mIf (mAnd (mTst (mIs .lst (mVar 3))) (mAnd (mTst (mBin dGt (mCB fLen (mCons (mVar 3) mNil)) (mLit (.int 0)))) (mTst (mIs .str (mIdx (mVar 3) (mLit (.int 0))))))) (mLst (mCons (mLit (.str "told")) (mCons (mLit (.str "a mark")) mNil))) (mVar 3))))))
noncomputable def F_l_heard : FSem := Classical.choose (sealF (fnSem 2 4 b_l_heard))
theorem F_l_heard_eq : F_l_heard = fnSem 2 4 b_l_heard := Classical.choose_spec (sealF (fnSem 2 4 b_l_heard))
theorem ok_l_heard (hd : Hd K mg) : FnS P w K mg base (He.ga K) 8 "_law_heard" ["door_so", "goods_so"] F_l_heard := by
  rw [F_l_heard_eq]
  exact fn_of (m := b_l_heard) (Os' := ([] : List Nat)) hd.d_l_heard sc_l_heard rfl rfl fun cdv A outer s H E hr tk pn =>
  (rss_cons (rs_set 2 sc_l_heard.nd (re_call (ok_l_slip hd) hr tk (ra_cons (re_var 0) (ra_cons (re_var 1) ra_nil)))) (rss_cons (rs_if (rt_cm c_in (re_rb (re_var 2)) (re_rb (re_tup (ra_cons re_str (ra_cons re_str (ra_cons re_str (ra_cons re_str ra_nil))))))) (rss_one (rs_ret (rf_re (rf_lst (ra_cons (re_var 2) (ra_cons re_bl ra_nil)))))) rss_nil) (rss_cons (rs_set 3 sc_l_heard.nd (re_call (ok_l_call hd) hr tk (ra_cons (re_var 0) (ra_cons (re_var 1) ra_nil)))) (rss_one (rs_ret (re_if (rw_pt (rw_and (rt_val (re_isi .lst hd.z_isinstance hd.z_list (re_rb (re_var 3)))) (rw_and (rt_cm c_gt (re_rb (re_cb b_len hd.z_len (rab_cons (re_rb (re_var 3)) rab_nil))) (re_rb re_int)) (rw_and1 (rt_val (re_isi .str hd.z_isinstance hd.z_str (re_rb (re_idx (re_rb (re_var 3)) re_int)))))))) (rf_re (rf_lst (ra_cons re_str (ra_cons re_str ra_nil)))) (re_var 3)))))))
/-! l_isqrt -/
abbrev N_l_isqrt : List Str := ["k", "low_so", "high_so", "lap", "half_so"]
theorem sc_l_isqrt : FnScope N_l_isqrt ["k"] (defScope st_l_isqrt) := ⟨rfl, rfl, rfl, by decide +kernel, rfl, by decide +kernel, by decide +kernel⟩
def b_l_isqrt : S := (sSeq (sAsg (gT [(gV 1), (gV 2)]) (mTup (mCons (mLit (.int 0)) (mCons (mLit (.int 1)) mNil)))) (sSeq (sFor (mRng1 (mCons (mLit (.int 9000)) mNil)) (gV 3) (sSeq (sIf (mTst (mBin dGt (mBin dMul (mVar 2) (mVar 2)) (mVar 0))) sBreak sNext) (sSet 2 (mBin dMul (mVar 2) (mLit (.int 2)))))) (sSeq (sFor (mRng1 (mCons (mLit (.int 9000)) mNil)) (gV 3) (sSeq (sIf (mTst (mBin dLt (mBin dSub (mVar 2) (mVar 1)) (mLit (.int 2)))) sBreak sNext) (sSeq (sSet 4 (mBin dFdiv (mBin dAdd (mVar 1) (mVar 2)) (mLit (.int 2)))) (sIf (mTst (mBin dGt (mBin dMul (mVar 4) (mVar 4)) (mVar 0))) (sSet 2 (mVar 4)) (sSet 1 (mVar 4)))))) (sRet (mVar 1)))))
noncomputable def F_l_isqrt : FSem := Classical.choose (sealF (fnSem 1 5 b_l_isqrt))
theorem F_l_isqrt_eq : F_l_isqrt = fnSem 1 5 b_l_isqrt := Classical.choose_spec (sealF (fnSem 1 5 b_l_isqrt))
theorem ok_l_isqrt (hd : Hd K mg) : FnS P w K mg base (He.ga K) 1 "_law_isqrt" ["k"] F_l_isqrt := by
  rw [F_l_isqrt_eq]
  exact fn_of (m := b_l_isqrt) (Os' := ([] : List Nat)) hd.d_l_isqrt sc_l_isqrt rfl rfl fun cdv A outer s H E hr tk pn =>
  (rss_cons (rs_asg (re_tup (ra_cons re_int (ra_cons re_int ra_nil))) (rg_tup rfl (rgs_cons (rg_name 1 sc_l_isqrt.nd) (rgs_cons (rg_name 2 sc_l_isqrt.nd) rgs_nil)))) (rss_cons (rs_for pn (ri_rng1 hd.z_range (ra_cons re_int ra_nil)) (rg_name 3 sc_l_isqrt.nd) (rss_cons (rs_if (rt_cm c_gt (re_rb (re_mul (re_rb (re_var 2)) (re_rb (re_var 2)))) (re_rb (re_var 0))) (rss_one rs_break) rss_nil) (rss_one (rs_set 2 sc_l_isqrt.nd (re_mul (re_rb (re_var 2)) (re_rb re_int)))))) (rss_cons (rs_for pn (ri_rng1 hd.z_range (ra_cons re_int ra_nil)) (rg_name 3 sc_l_isqrt.nd) (rss_cons (rs_if (rt_cm c_lt (re_rb (re_sub (re_rb (re_var 2)) (re_rb (re_var 1)))) (re_rb re_int)) (rss_one rs_break) rss_nil) (rss_cons (rs_set 4 sc_l_isqrt.nd (re_fdiv (re_rb (re_add (re_rb (re_var 1)) (re_rb (re_var 2)))) (re_rb re_int))) (rss_one (rs_if (rt_cm c_gt (re_rb (re_mul (re_rb (re_var 4)) (re_rb (re_var 4)))) (re_rb (re_var 0))) (rss_one (rs_set 2 sc_l_isqrt.nd (re_var 4))) (rss_one (rs_set 1 sc_l_isqrt.nd (re_var 4)))))))) (rss_one (rs_ret (re_var 1))))))
/-! l_root_terms -/
abbrev N_l_root_terms : List Str := ["a", "b", "d", "c", "by_so"]
theorem sc_l_root_terms : FnScope N_l_root_terms ["a", "b", "d", "c"] (defScope st_l_root_terms) := ⟨rfl, rfl, rfl, by decide +kernel, rfl, by decide +kernel, by decide +kernel⟩
def b_l_root_terms : S := (sSeq (sSet 4 (mCall F_l_common 2 (mCons (mCall F_l_common 2 (mCons (mVar 0) (mCons (mVar 1) mNil))) (mCons (mVar 3) mNil)))) (sSeq (sSet 4 (mIf (mTst (mBin dGt (mVar 3) (mLit (.int 0)))) (mVar 4) (mBin dSub (mLit (.int 0)) (mVar 4)))) (sRet (mTup (mCons (mBin dFdiv (mVar 0) (mVar 4)) (mCons (mBin dFdiv (mVar 1) (mVar 4)) (mCons (mVar 2) (mCons (mBin dFdiv (mVar 3) (mVar 4)) mNil))))))))
noncomputable def F_l_root_terms : FSem := Classical.choose (sealF (fnSem 4 5 b_l_root_terms))
theorem F_l_root_terms_eq : F_l_root_terms = fnSem 4 5 b_l_root_terms := Classical.choose_spec (sealF (fnSem 4 5 b_l_root_terms))
theorem ok_l_root_terms (hd : Hd K mg) : FnS P w K mg base (He.ga K) 2 "_law_root_terms" ["a", "b", "d", "c"] F_l_root_terms := by
  rw [F_l_root_terms_eq]
  exact fn_of (m := b_l_root_terms) (Os' := ([] : List Nat)) hd.d_l_root_terms sc_l_root_terms rfl rfl fun cdv A outer s H E hr tk pn =>
  (rss_cons (rs_set 4 sc_l_root_terms.nd (re_call (ok_l_common hd) hr tk (ra_cons (re_call (ok_l_common hd) hr tk (ra_cons (re_var 0) (ra_cons (re_var 1) ra_nil))) (ra_cons (re_var 3) ra_nil)))) (rss_cons (rs_set 4 sc_l_root_terms.nd (re_if (rt_cm c_gt (re_rb (re_var 3)) (re_rb re_int)) (re_var 4) (re_sub (re_rb re_int) (re_rb (re_var 4))))) (rss_one (rs_ret (re_tup (ra_cons (re_fdiv (re_rb (re_var 0)) (re_rb (re_var 4))) (ra_cons (re_fdiv (re_rb (re_var 1)) (re_rb (re_var 4))) (ra_cons (re_var 2) (ra_cons (re_fdiv (re_rb (re_var 3)) (re_rb (re_var 4))) ra_nil)))))))))
/-! l_ten -/
abbrev N_l_ten : List Str := ["figures_so"]
theorem sc_l_ten : FnScope N_l_ten ["figures_so"] (defScope st_l_ten) := ⟨rfl, rfl, rfl, by decide +kernel, rfl, by decide +kernel, by decide +kernel⟩
def b_l_ten : S := (sRet (mCB fIntB (mCons (mBin dAdd (mLit (.str "1")) (mBin dMul (mLit (.str "0")) (mVar 0))) mNil)))
noncomputable def F_l_ten : FSem := Classical.choose (sealF (fnSem 1 1 b_l_ten))
theorem F_l_ten_eq : F_l_ten = fnSem 1 1 b_l_ten := Classical.choose_spec (sealF (fnSem 1 1 b_l_ten))
theorem ok_l_ten (hd : Hd K mg) : FnS P w K mg base (He.ga K) 1 "_law_ten" ["figures_so"] F_l_ten := by
  rw [F_l_ten_eq]
  exact fn_of (m := b_l_ten) (Os' := ([] : List Nat)) hd.d_l_ten sc_l_ten rfl rfl fun cdv A outer s H E hr tk pn =>
  (rss_one (rs_ret (re_ct (b_intB hd.dg) hd.z_int (rab_cons (re_rb (re_add (re_rb re_str) (re_rb (re_mul (re_rb re_str) (re_rb (re_var 0)))))) rab_nil))))
/-! l_narrow -/
abbrev N_l_narrow : List Str := ["root_so", "figures_so", "a", "b", "d", "c", "wide_so", "steep_so", "low_so"]
theorem sc_l_narrow : FnScope N_l_narrow ["root_so", "figures_so"] (defScope st_l_narrow) := ⟨rfl, rfl, rfl, by decide +kernel, rfl, by decide +kernel, by decide +kernel⟩
def b_l_narrow : S := (sSeq (sAsg (gT [(gV 2), (gV 3), (gV 4), (gV 5)]) (mVar 0)) (sSeq (sSet 6 (mCall F_l_ten 1 (mCons (mVar 1) mNil))) (sSeq (sSet 7 (mCall F_l_isqrt 1 (mCons (mBin dMul (mBin dMul (mBin dMul (mBin dMul (mVar 3) (mVar 3)) (mVar 4)) (mVar 6)) (mVar 6)) mNil))) (sSeq (sSet 8 (mBin dAdd (mBin dMul (mVar 2) (mVar 6)) (mIf (mTst (mBin dGt (mVar 3) (mLit (.int 0)))) (mVar 7) (mBin dSub (mBin dSub (mLit (.int 0)) (mVar 7)) (mLit (.int 1)))))) (sRet (mTup (mCons (mCall F_l_cut 2 (mCons (mVar 8) (mCons (mBin dMul (mVar 5) (mVar 6)) mNil))) (mCons (mCall F_l_cut 2 (mCons (mBin dAdd (mVar 8) (mLit (.int 1))) (mCons (mBin dMul (mVar 5) (mVar 6)) mNil))) mNil))))))))
noncomputable def F_l_narrow : FSem := Classical.choose (sealF (fnSem 2 9 b_l_narrow))
theorem F_l_narrow_eq : F_l_narrow = fnSem 2 9 b_l_narrow := Classical.choose_spec (sealF (fnSem 2 9 b_l_narrow))
theorem ok_l_narrow (hd : Hd K mg) : FnS P w K mg base (He.ga K) 3 "_law_narrow" ["root_so", "figures_so"] F_l_narrow := by
  rw [F_l_narrow_eq]
  exact fn_of (m := b_l_narrow) (Os' := ([] : List Nat)) hd.d_l_narrow sc_l_narrow rfl rfl fun cdv A outer s H E hr tk pn =>
  (rss_cons (rs_asg (re_var 0) (rg_tup rfl (rgs_cons (rg_name 2 sc_l_narrow.nd) (rgs_cons (rg_name 3 sc_l_narrow.nd) (rgs_cons (rg_name 4 sc_l_narrow.nd) (rgs_cons (rg_name 5 sc_l_narrow.nd) rgs_nil)))))) (rss_cons (rs_set 6 sc_l_narrow.nd (re_call (ok_l_ten hd) hr tk (ra_cons (re_var 1) ra_nil))) (rss_cons (rs_set 7 sc_l_narrow.nd (re_call (ok_l_isqrt hd) hr tk (ra_cons (re_mul (re_rb (re_mul (re_rb (re_mul (re_rb (re_mul (re_rb (re_var 3)) (re_rb (re_var 3)))) (re_rb (re_var 4)))) (re_rb (re_var 6)))) (re_rb (re_var 6))) ra_nil))) (rss_cons (rs_set 8 sc_l_narrow.nd (re_add (re_rb (re_mul (re_rb (re_var 2)) (re_rb (re_var 6)))) (re_rb (re_if (rt_cm c_gt (re_rb (re_var 3)) (re_rb re_int)) (re_var 7) (re_sub (re_rb (re_sub (re_rb re_int) (re_rb (re_var 7)))) (re_rb re_int)))))) (rss_one (rs_ret (re_tup (ra_cons (re_call (ok_l_cut hd) hr tk (ra_cons (re_var 8) (ra_cons (re_mul (re_rb (re_var 5)) (re_rb (re_var 6))) ra_nil))) (ra_cons (re_call (ok_l_cut hd) hr tk (ra_cons (re_add (re_rb (re_var 8)) (re_rb re_int)) (ra_cons (re_mul (re_rb (re_var 5)) (re_rb (re_var 6))) ra_nil))) ra_nil)))))))))
/-! l_times -/
abbrev N_l_times : List Str := ["one", "two", "a", "b", "d", "c", "e", "f", "g", "h"]
theorem sc_l_times : FnScope N_l_times ["one", "two"] (defScope st_l_times) := ⟨rfl, rfl, rfl, by decide +kernel, rfl, by decide +kernel, by decide +kernel⟩
def b_l_times : S := (sSeq (sAsg (gT [(gV 2), (gV 3), (gV 4), (gV 5)]) (mVar 0)) (sSeq (sAsg (gT [(gV 6), (gV 7), (gV 8), (gV 9)]) (mVar 1)) (sRet (mCall F_l_root_terms 4 (mCons (mBin dAdd (mBin dMul (mVar 2) (mVar 6)) (mBin dMul (mBin dMul (mVar 3) (mVar 7)) (mVar 4))) (mCons (mBin dAdd (mBin dMul (mVar 2) (mVar 7)) (mBin dMul (mVar 3) (mVar 6))) (mCons (mVar 4) (mCons (mBin dMul (mVar 5) (mVar 9)) mNil))))))))
noncomputable def F_l_times : FSem := Classical.choose (sealF (fnSem 2 10 b_l_times))
theorem F_l_times_eq : F_l_times = fnSem 2 10 b_l_times := Classical.choose_spec (sealF (fnSem 2 10 b_l_times))
theorem ok_l_times (hd : Hd K mg) : FnS P w K mg base (He.ga K) 3 "_law_times" ["one", "two"] F_l_times := by
  rw [F_l_times_eq]
  exact fn_of (m := b_l_times) (Os' := ([] : List Nat)) hd.d_l_times sc_l_times rfl rfl fun cdv A outer s H E hr tk pn =>
  (rss_cons (rs_asg (re_var 0) (rg_tup rfl (rgs_cons (rg_name 2 sc_l_times.nd) (rgs_cons (rg_name 3 sc_l_times.nd) (rgs_cons (rg_name 4 sc_l_times.nd) (rgs_cons (rg_name 5 sc_l_times.nd) rgs_nil)))))) (rss_cons (rs_asg (re_var 1) (rg_tup rfl (rgs_cons (rg_name 6 sc_l_times.nd) (rgs_cons (rg_name 7 sc_l_times.nd) (rgs_cons (rg_name 8 sc_l_times.nd) (rgs_cons (rg_name 9 sc_l_times.nd) rgs_nil)))))) (rss_one (rs_ret (re_call (ok_l_root_terms hd) hr tk (ra_cons (re_add (re_rb (re_mul (re_rb (re_var 2)) (re_rb (re_var 6)))) (re_rb (re_mul (re_rb (re_mul (re_rb (re_var 3)) (re_rb (re_var 7)))) (re_rb (re_var 4))))) (ra_cons (re_add (re_rb (re_mul (re_rb (re_var 2)) (re_rb (re_var 7)))) (re_rb (re_mul (re_rb (re_var 3)) (re_rb (re_var 6))))) (ra_cons (re_var 4) (ra_cons (re_mul (re_rb (re_var 5)) (re_rb (re_var 9))) ra_nil)))))))))
/-! l_right -/
abbrev N_l_right : List Str := ["tin", "number_so", "root_so", "a", "b", "d", "c", "square_so", "engel_so", "pierce_so", "own", "lap", "many_so", "got", "other_so", "near", "far"]
theorem sc_l_right : FnScope N_l_right ["tin"] (defScope st_l_right) := ⟨rfl, rfl, rfl, by decide +kernel, rfl, by decide +kernel, by decide +kernel⟩
def b_l_right : S := (sSeq (sSet 1 (mBin dAdd (mLit (.int 3)) (mCall F_l_take 2 (mCons (mVar 0) (mCons (mCall F_l_of 2 (mCons (mVar 0) (mCons (mLst (mCons (mLit (.int 4)) (mCons (mLit (.int 20)) (mCons (mLit (.int 998)) mNil)))) mNil))) mNil))))) (sSeq (sSet 2 (mCall F_known_root 1 (mCons (mVar 1) mNil))) (sSeq (sAsg (gT [(gV 3), (gV 4), (gV 5), (gV 6)]) (mVar 2)) (sSeq (sSet 7 (mCall F_l_times 2 (mCons (mVar 2) (mCons (mVar 2) mNil)))) (sSeq (sIf (mOr (mTst (mBin dNe (mCall F_l_root_terms 4 (mCons (mBin dSub (mBin dMul (mVar 1) (mVar 3)) (mVar 6)) (mCons (mBin dMul (mVar 1) (mVar 4)) (mCons (mVar 5) (mCons (mVar 6) mNil))))) (mVar 7))) (mOr (mTst (mBin dGe (mVar 4) (mLit (.int 0)))) (mNot (mTst (mCall F_l_same 2 (mCons (mLst (mCons (mCall F_root_floor 1 (mCons (mVar 2) mNil)) (mCons (mCall F_root_is_under 2 (mCons (mVar 2) (mCons (mTup (mCons (mLit (.int 1)) (mCons (mBin dSub (mVar 1) (mLit (.int 1))) mNil))) mNil))) (mCons (mCall F_root_is_under 2 (mCons (mVar 2) (mCons (mTup (mCons (mLit (.int 1)) (mCons (mVar 1) mNil))) mNil))) mNil)))) (mCons (mLst (mCons (mLit (.int 0)) (mCons (mLit (.bl true)) (mCons (mLit (.bl false)) mNil)))) mNil))))))) (sRet (mLit (.bl false))) sNext) (sSeq (sPar [8, 9, 10] (mCons (mLst mNil) (mCons (mLst mNil) (mCons (mVar 1) mNil)))) (sSeq (sFor (mRng1 (mCons (mLit (.int 6)) mNil)) (gV 11) (sSeq (sApp 8 (mVar 10)) (sSet 10 (mBin dSub (mBin dMul (mVar 10) (mVar 10)) (mLit (.int 2)))))) (sSeq (sSet 10 (mVar 1)) (sSeq (sFor (mRng1 (mCons (mLit (.int 3)) mNil)) (gV 11) (sSeq (sExt 9 (mLst (mCons (mBin dSub (mVar 10) (mLit (.int 1))) (mCons (mBin dAdd (mVar 10) (mLit (.int 1))) mNil)))) (sSet 10 (mBin dSub (mBin dMul (mBin dMul (mVar 10) (mVar 10)) (mVar 10)) (mBin dMul (mLit (.int 3)) (mVar 10)))))) (sSeq (sSet 12 (mCall F_l_take 2 (mCons (mVar 0) (mCons (mLit (.int 7)) mNil)))) (sSeq (sSet 13 (mLst (mCons (mCall F_known_engel 2 (mCons (mVar 1) (mCons (mVar 12) mNil))) (mCons (mCall F_known_pierce 2 (mCons (mVar 1) (mCons (mVar 12) mNil))) (mCons (mCall F_root_numbers 3 (mCons (mLit (.str "engel")) (mCons (mVar 2) (mCons (mVar 12) mNil)))) (mCons (mCall F_root_numbers 3 (mCons (mLit (.str "pierce")) (mCons (mCall F_l_mixed 2 (mCons (mVar 0) (mCons (mVar 2) mNil))) (mCons (mVar 12) mNil)))) mNil)))))) (sSeq (sIf (mNot (mTst (mCall F_l_same 2 (mCons (mVar 13) (mCons (mBin dMul (mLst (mCons (mCB fTuple (mCons (mCut (mVar 8) mNoP (mPart (mVar 12))) mNil)) (mCons (mCB fTuple (mCons (mCut (mVar 9) mNoP (mPart (mVar 12))) mNil)) mNil))) (mLit (.int 2))) mNil))))) (sRet (mLit (.bl false))) sNext) (sSeq (sIf (mNot (mTst (mCall F_l_same 2 (mCons (mLst (mCons (mCall F_root_rest 3 (mCons (mLit (.str "engel")) (mCons (mVar 2) (mCons (mLit (.int 1)) mNil)))) (mCons (mCall F_root_rest 3 (mCons (mLit (.str "pierce")) (mCons (mVar 2) (mCons (mLit (.int 2)) mNil)))) (mCons (mCall F_root_rest 3 (mCons (mLit (.str "engel")) (mCons (mVar 2) (mCons (mLit (.int 2)) mNil)))) mNil)))) (mCons (mLst (mCons (mVar 7) (mCons (mCall F_l_times 2 (mCons (mVar 7) (mCons (mVar 2) mNil))) (mCons (mCall F_l_times 2 (mCons (mVar 7) (mCons (mVar 7) mNil))) mNil)))) mNil))))) (sRet (mLit (.bl false))) sNext) (sSeq (sIf (mTst (mBin dLe (mIdx (mVar 8) (mLit (.int 1))) (mLit (.int 1000)))) (sSeq (sSet 14 (mCall F_known_root 1 (mCons (mIdx (mVar 8) (mLit (.int 1))) mNil))) (sSeq (sPar [15, 16] (mCons (mCall F_l_narrow 2 (mCons (mVar 14) (mCons (mLit (.int 40)) mNil))) (mCons (mCall F_l_narrow 2 (mCons (mVar 7) (mCons (mLit (.int 40)) mNil))) mNil))) (sSeq (sIf (mOr (mTst (mCall F_l_is_less 2 (mCons (mIdx (mVar 15) (mLit (.int 1))) (mCons (mIdx (mVar 16) (mLit (.int 0))) mNil)))) (mTst (mCall F_l_is_less 2 (mCons (mIdx (mVar 16) (mLit (.int 1))) (mCons (mIdx (mVar 15) (mLit (.int 0))) mNil))))) (sRet (mLit (.bl false))) sNext) (sIf (mNot (mTst (mCall F_l_same 2 (mCons (mLst (mCons (mCall F_known_engel 2 (mCons (mIdx (mVar 8) (mLit (.int 1))) (mCons (mLit (.int 4)) mNil))) (mCons (mCall F_known_pierce 2 (mCons (mIdx (mVar 8) (mLit (.int 1))) (mCons (mLit (.int 2)) mNil))) mNil))) (mCons (mLst (mCons (mCB fTuple (mCons (mCut (mVar 8) (mPart (mLit (.int 1))) (mPart (mLit (.int 5)))) mNil)) (mCons (mTup (mCons (mBin dSub (mIdx (mVar 8) (mLit (.int 1))) (mLit (.int 1))) (mCons (mBin dAdd (mIdx (mVar 8) (mLit (.int 1))) (mLit (.int 1))) mNil))) mNil))) mNil))))) (sRet (mLit (.bl false))) sNext)))) sNext) (sRet (mCall F_l_same 2 (mCons (mLst (mCons (mCall F_l_heard 2 (mCons (mLit (.fn "known_engel")) (mCons (mTup (mCons (mVar 1) (mCons (mLit (.int 60)) mNil))) mNil))) (mCons (mCall F_l_heard 2 (mCons (mLit (.fn "known_pierce")) (mCons (mTup (mCons (mVar 1) (mCons (mLit (.int 60)) mNil))) mNil))) mNil))) (mCons (mLst (mCons (mLst (mCons (mLit (.str "many")) (mCons (mLit (.bl true)) mNil))) (mCons (mLst (mCons (mLit (.str "many")) (mCons (mLit (.bl true)) mNil))) mNil))) mNil))))))))))))))))))
noncomputable def F_l_right : FSem := Classical.choose (sealF (fnSem 1 17 b_l_right))
theorem F_l_right_eq : F_l_right = fnSem 1 17 b_l_right := Classical.choose_spec (sealF (fnSem 1 17 b_l_right))
theorem ok_l_right (hd : Hd K mg) : FnS P w K mg base (He.ga K) 25 "_law_right" ["tin"] F_l_right := by
  rw [F_l_right_eq]
  exact fn_of (m := b_l_right) (Os' := ([] : List Nat)) hd.d_l_right sc_l_right rfl rfl fun cdv A outer s H E hr tk pn =>
  (rss_cons (rs_set 1 sc_l_right.nd (re_add (re_rb re_int) (re_rb (re_call (ok_l_take hd) hr tk (ra_cons (re_var 0) (ra_cons (re_call (ok_l_of hd) hr tk (ra_cons (re_var 0) (ra_cons (rf_re (rf_lst (ra_cons re_int (ra_cons re_int (ra_cons re_int ra_nil))))) ra_nil))) ra_nil)))))) (rss_cons (rs_set 2 sc_l_right.nd (re_call (ok_known_root hd) hr tk (ra_cons (re_var 1) ra_nil))) (rss_cons (rs_asg (re_var 2) (rg_tup rfl (rgs_cons (rg_name 3 sc_l_right.nd) (rgs_cons (rg_name 4 sc_l_right.nd) (rgs_cons (rg_name 5 sc_l_right.nd) (rgs_cons (rg_name 6 sc_l_right.nd) rgs_nil)))))) (rss_cons (rs_set 7 sc_l_right.nd (re_call (ok_l_times hd) hr tk (ra_cons (re_var 2) (ra_cons (re_var 2) ra_nil)))) (rss_cons (rs_if (rw_pt (rw_or (rt_cm (c_ne hr) (re_rb (re_call (ok_l_root_terms hd) hr tk (ra_cons (re_sub (re_rb (re_mul (re_rb (re_var 1)) (re_rb (re_var 3)))) (re_rb (re_var 6))) (ra_cons (re_mul (re_rb (re_var 1)) (re_rb (re_var 4))) (ra_cons (re_var 5) (ra_cons (re_var 6) ra_nil)))))) (re_rb (re_var 7))) (rw_or (rt_cm c_ge (re_rb (re_var 4)) (re_rb re_int)) (rw_or1 (rt_not (rt_val (re_call (ok_l_same hd) hr tk (ra_cons (rf_re (rf_lst (ra_cons (re_call (ok_root_floor hd) hr tk (ra_cons (re_var 2) ra_nil)) (ra_cons (re_call (ok_root_is_under hd) hr tk (ra_cons (re_var 2) (ra_cons (re_tup (ra_cons re_int (ra_cons (re_sub (re_rb (re_var 1)) (re_rb re_int)) ra_nil))) ra_nil))) (ra_cons (re_call (ok_root_is_under hd) hr tk (ra_cons (re_var 2) (ra_cons (re_tup (ra_cons re_int (ra_cons (re_var 1) ra_nil))) ra_nil))) ra_nil))))) (ra_cons (rf_re (rf_lst (ra_cons re_int (ra_cons re_bl (ra_cons re_bl ra_nil))))) ra_nil))))))))) (rss_one (rs_ret re_bl)) rss_nil) (rss_cons (rs_par3 8 9 10 rfl sc_l_right.nd (rp_new (rf_lst ra_nil) (rp_new (rf_lst ra_nil) (rp_val (re_var 1) rp_nil))) rfl) (rss_cons (rs_for pn (ri_rng1 hd.z_range (ra_cons re_int ra_nil)) (rg_name 11 sc_l_right.nd) (rss_cons (rs_app 8 (re_var 10)) (rss_one (rs_set 10 sc_l_right.nd (re_sub (re_rb (re_mul (re_rb (re_var 10)) (re_rb (re_var 10)))) (re_rb re_int)))))) (rss_cons (rs_set 10 sc_l_right.nd (re_var 1)) (rss_cons (rs_for pn (ri_rng1 hd.z_range (ra_cons re_int ra_nil)) (rg_name 11 sc_l_right.nd) (rss_cons (rs_ext 9 (rf_re (rf_lst (ra_cons (re_sub (re_rb (re_var 10)) (re_rb re_int)) (ra_cons (re_add (re_rb (re_var 10)) (re_rb re_int)) ra_nil))))) (rss_one (rs_set 10 sc_l_right.nd (re_sub (re_rb (re_mul (re_rb (re_mul (re_rb (re_var 10)) (re_rb (re_var 10)))) (re_rb (re_var 10)))) (re_rb (re_mul (re_rb re_int) (re_rb (re_var 10))))))))) (rss_cons (rs_set 12 sc_l_right.nd (re_call (ok_l_take hd) hr tk (ra_cons (re_var 0) (ra_cons re_int ra_nil)))) (rss_cons (rs_set 13 sc_l_right.nd (rf_re (rf_lst (ra_cons (re_call (ok_known_engel hd) hr tk (ra_cons (re_var 1) (ra_cons (re_var 12) ra_nil))) (ra_cons (re_call (ok_known_pierce hd) hr tk (ra_cons (re_var 1) (ra_cons (re_var 12) ra_nil))) (ra_cons (re_call (ok_root_numbers hd) hr tk (ra_cons re_str (ra_cons (re_var 2) (ra_cons (re_var 12) ra_nil)))) (ra_cons (re_call (ok_root_numbers hd) hr tk (ra_cons re_str (ra_cons (re_call (ok_l_mixed hd) hr tk (ra_cons (re_var 0) (ra_cons (re_var 2) ra_nil))) (ra_cons (re_var 12) ra_nil)))) ra_nil))))))) (rss_cons (rs_if (rt_not (rt_val (re_call (ok_l_same hd) hr tk (ra_cons (re_var 13) (ra_cons (re_mul (re_rb (rf_re (rf_lst (ra_cons (re_ct b_tuple hd.z_tuple (rab_cons (re_rb (re_cut (rb_own 8) ro_none (ro_some (re_var 12)))) rab_nil)) (ra_cons (re_ct b_tuple hd.z_tuple (rab_cons (re_rb (re_cut (rb_own 9) ro_none (ro_some (re_var 12)))) rab_nil)) ra_nil))))) (re_rb re_int)) ra_nil))))) (rss_one (rs_ret re_bl)) rss_nil) (rss_cons (rs_if (rt_not (rt_val (re_call (ok_l_same hd) hr tk (ra_cons (rf_re (rf_lst (ra_cons (re_call (ok_root_rest hd) hr tk (ra_cons re_str (ra_cons (re_var 2) (ra_cons re_int ra_nil)))) (ra_cons (re_call (ok_root_rest hd) hr tk (ra_cons re_str (ra_cons (re_var 2) (ra_cons re_int ra_nil)))) (ra_cons (re_call (ok_root_rest hd) hr tk (ra_cons re_str (ra_cons (re_var 2) (ra_cons re_int ra_nil)))) ra_nil))))) (ra_cons (rf_re (rf_lst (ra_cons (re_var 7) (ra_cons (re_call (ok_l_times hd) hr tk (ra_cons (re_var 7) (ra_cons (re_var 2) ra_nil))) (ra_cons (re_call (ok_l_times hd) hr tk (ra_cons (re_var 7) (ra_cons (re_var 7) ra_nil))) ra_nil))))) ra_nil))))) (rss_one (rs_ret re_bl)) rss_nil) (rss_cons (rs_if (rt_cm c_le (re_rb (re_idx (rb_own 8) re_int)) (re_rb re_int)) (rss_cons (rs_set 14 sc_l_right.nd (re_call (ok_known_root hd) hr tk (ra_cons (re_idx (rb_own 8) re_int) ra_nil))) (rss_cons (rs_par2 15 16 rfl sc_l_right.nd (rp_val (re_call (ok_l_narrow hd) hr tk (ra_cons (re_var 14) (ra_cons re_int ra_nil))) (rp_val (re_call (ok_l_narrow hd) hr tk (ra_cons (re_var 7) (ra_cons re_int ra_nil))) rp_nil)) rfl) (rss_cons (rs_if (rw_pt (rw_or (rt_val (re_call (ok_l_is_less hd) hr tk (ra_cons (re_idx (re_rb (re_var 15)) re_int) (ra_cons (re_idx (re_rb (re_var 16)) re_int) ra_nil)))) (rw_or1 (rt_val (re_call (ok_l_is_less hd) hr tk (ra_cons (re_idx (re_rb (re_var 16)) re_int) (ra_cons (re_idx (re_rb (re_var 15)) re_int) ra_nil))))))) (rss_one (rs_ret re_bl)) rss_nil) (rss_one (rs_if (rt_not (rt_val (re_call (ok_l_same hd) hr tk (ra_cons (rf_re (rf_lst (ra_cons (re_call (ok_known_engel hd) hr tk (ra_cons (re_idx (rb_own 8) re_int) (ra_cons re_int ra_nil))) (ra_cons (re_call (ok_known_pierce hd) hr tk (ra_cons (re_idx (rb_own 8) re_int) (ra_cons re_int ra_nil))) ra_nil)))) (ra_cons (rf_re (rf_lst (ra_cons (re_ct b_tuple hd.z_tuple (rab_cons (re_rb (re_cut (rb_own 8) (ro_some re_int) (ro_some re_int))) rab_nil)) (ra_cons (re_tup (ra_cons (re_sub (re_rb (re_idx (rb_own 8) re_int)) (re_rb re_int)) (ra_cons (re_add (re_rb (re_idx (rb_own 8) re_int)) (re_rb re_int)) ra_nil))) ra_nil)))) ra_nil))))) (rss_one (rs_ret re_bl)) rss_nil))))) rss_nil) (rss_one (rs_ret (re_call (ok_l_same hd) hr tk (ra_cons (rf_re (rf_lst (ra_cons (re_call (ok_l_heard hd) hr tk (ra_cons (re_fn hd.d_known_engel.mg) (ra_cons (re_tup (ra_cons (re_var 1) (ra_cons re_int ra_nil))) ra_nil))) (ra_cons (re_call (ok_l_heard hd) hr tk (ra_cons (re_fn hd.d_known_pierce.mg) (ra_cons (re_tup (ra_cons (re_var 1) (ra_cons re_int ra_nil))) ra_nil))) ra_nil)))) (ra_cons (rf_re (rf_lst (ra_cons (rf_re (rf_lst (ra_cons re_str (ra_cons re_bl ra_nil)))) (ra_cons (rf_re (rf_lst (ra_cons re_str (ra_cons re_bl ra_nil)))) ra_nil)))) ra_nil)))))))))))))))))))
/-! law -/
abbrev N_law : List Str := ["script", "tin", "got", "lap"]
theorem sc_law : FnScope N_law ["script"] (defScope st_law) := ⟨rfl, rfl, rfl, by decide +kernel, rfl, by decide +kernel, by decide +kernel⟩
def b_law : S := (sSeq (sCell 1 (mCall F_l_box 2 (mCons (mCall F_l_cells 2 (mCons (mVar 0) (mCons (mLit (.int 1)) mNil))) (mCons (mLit (.int 0)) mNil)))) (sSeq (sSet 2 (mLst (mCons (mCall F_known_root 1 (mCons (mLit (.int 3)) mNil)) (mCons (mCall F_known_engel 2 (mCons (mLit (.int 4)) (mCons (mLit (.int 3)) mNil))) (mCons (mCall F_known_pierce 2 (mCons (mLit (.int 4)) (mCons (mLit (.int 3)) mNil))) (mCons (mCall F_known_root 1 (mCons (mLit (.int 4)) mNil)) (mCons (mCall F_known_engel 2 (mCons (mLit (.int 10)) (mCons (mLit (.int 4)) mNil))) (mCons (mCall F_known_pierce 2 (mCons (mLit (.int 10)) (mCons (mLit (.int 4)) mNil))) mNil)))))))) (sSeq (sIf (mNot (mTst (mCall F_l_same 2 (mCons (mVar 2) (mCons (mLst (mCons (mTup (mCons (mLit (.int 3)) (mCons (mUn dNeg (mLit (.int 1))) (mCons (mLit (.int 5)) (mCons (mLit (.int 2)) mNil))))) (mCons (mTup (mCons (mLit (.int 4)) (mCons (mLit (.int 14)) (mCons (mLit (.int 194)) mNil)))) (mCons (mTup (mCons (mLit (.int 3)) (mCons (mLit (.int 5)) (mCons (mLit (.int 51)) mNil)))) (mCons (mTup (mCons (mLit (.int 4)) (mCons (mUn dNeg (mLit (.int 1))) (mCons (mLit (.int 12)) (mCons (mLit (.int 2)) mNil))))) (mCons (mTup (mCons (mLit (.int 10)) (mCons (mLit (.int 98)) (mCons (mLit (.int 9602)) (mCons (mLit (.int 92198402)) mNil))))) (mCons (mTup (mCons (mLit (.int 9)) (mCons (mLit (.int 11)) (mCons (mLit (.int 969)) (mCons (mLit (.int 971)) mNil))))) mNil))))))) mNil))))) (sRet (mLit (.bl false))) sNext) (sRet (mCB fAll (mCons (mLc [3] (mRng1 (mCons (mLit (.int 4)) mNil)) (gV 3) mYes (mCall F_l_right 1 (mCons (mVar 1) mNil))) mNil))))))
noncomputable def F_law : FSem := Classical.choose (sealF (fnSem 1 4 b_law))
theorem F_law_eq : F_law = fnSem 1 4 b_law := Classical.choose_spec (sealF (fnSem 1 4 b_law))
theorem ok_law {fd : FuncData} (hd : Hd K mg) (F : Fun K "law" "law" st_law (He.ga K "law") fd) : FnOk P w K mg base (L2.CX P w) 26 (He.ga K "law") fd ["script"] (spOf K (He.ga K) 1 F_law) := by
  rw [F_law_eq]
  exact law_of (m := b_law) (Os' := ([] : List Nat)) F sc_law rfl rfl fun cdv A outer s H E hr tk pn =>
  (rss_cons (rs_cell 1 sc_law.nd (rf_call (ok_l_box hd) hr tk (ra_cons (re_call (ok_l_cells hd) hr tk (ra_cons (re_var 0) (ra_cons re_int ra_nil))) (ra_cons re_int ra_nil)))) (rss_cons (rs_set 2 sc_law.nd (rf_re (rf_lst (ra_cons (re_call (ok_known_root hd) hr tk (ra_cons re_int ra_nil)) (ra_cons (re_call (ok_known_engel hd) hr tk (ra_cons re_int (ra_cons re_int ra_nil))) (ra_cons (re_call (ok_known_pierce hd) hr tk (ra_cons re_int (ra_cons re_int ra_nil))) (ra_cons (re_call (ok_known_root hd) hr tk (ra_cons re_int ra_nil)) (ra_cons (re_call (ok_known_engel hd) hr tk (ra_cons re_int (ra_cons re_int ra_nil))) (ra_cons (re_call (ok_known_pierce hd) hr tk (ra_cons re_int (ra_cons re_int ra_nil))) ra_nil))))))))) (rss_cons (rs_if (rt_not (rt_val (re_call (ok_l_same hd) hr tk (ra_cons (re_var 2) (ra_cons (rf_re (rf_lst (ra_cons (re_tup (ra_cons re_int (ra_cons (re_neg (re_rb re_int)) (ra_cons re_int (ra_cons re_int ra_nil))))) (ra_cons (re_tup (ra_cons re_int (ra_cons re_int (ra_cons re_int ra_nil)))) (ra_cons (re_tup (ra_cons re_int (ra_cons re_int (ra_cons re_int ra_nil)))) (ra_cons (re_tup (ra_cons re_int (ra_cons (re_neg (re_rb re_int)) (ra_cons re_int (ra_cons re_int ra_nil))))) (ra_cons (re_tup (ra_cons re_int (ra_cons re_int (ra_cons re_int (ra_cons re_int ra_nil))))) (ra_cons (re_tup (ra_cons re_int (ra_cons re_int (ra_cons re_int (ra_cons re_int ra_nil))))) ra_nil)))))))) ra_nil))))) (rss_one (rs_ret re_bl)) rss_nil) (rss_one (rs_ret (re_cb (b_all rfl) hd.z_all (rab_cons (re_rb (rf_re (rf_lc (own := [("lap", 3)]) sc_law.nd (blkOk_by (N := N_law) (sc := defScope st_law) (by decide +kernel)) (ri_rng1 hd.z_range (ra_cons re_int ra_nil)) (fun _ _ _ _ _ => (rg_name 3 sc_law.nd)) (fun _ _ _ _ _ => rts_nil) (fun _ _ _ _ _ => (re_call (ok_l_right hd) hr takes0 (ra_cons (re_var 1) ra_nil)))))) rab_nil)))))))
end
def df_is_number : He.DefD := ⟨("is_number", none), "is_number", "is_number", defArgs st_is_number, defBody st_is_number, defScope st_is_number, [], []⟩
def df_is_within : He.DefD := ⟨("is_within", none), "is_within", "is_within", defArgs st_is_within, defBody st_is_within, defScope st_is_within, [], []⟩
def df_sure_within : He.DefD := ⟨("sure_within", none), "sure_within", "sure_within", defArgs st_sure_within, defBody st_sure_within, defScope st_sure_within, [], []⟩
def df_is_long : He.DefD := ⟨("is_long", none), "is_long", "is_long", defArgs st_is_long, defBody st_is_long, defScope st_is_long, [], []⟩
def df_are_numbers : He.DefD := ⟨("are_numbers", none), "are_numbers", "are_numbers", defArgs st_are_numbers, defBody st_are_numbers, defScope st_are_numbers, [], []⟩
def df_tupled : He.DefD := ⟨("tupled", none), "tupled", "tupled", defArgs st_tupled, defBody st_tupled, defScope st_tupled, [], []⟩
def df_common : He.DefD := ⟨("common", none), "common", "common", defArgs st_common, defBody st_common, defScope st_common, [], []⟩
def df_is_near : He.DefD := ⟨("is_near", none), "is_near", "is_near", defArgs st_is_near, defBody st_is_near, defScope st_is_near, [], []⟩
def df_is_fraction_in : He.DefD := ⟨("is_fraction_in", none), "is_fraction_in", "is_fraction_in", defArgs st_is_fraction_in, defBody st_is_fraction_in, defScope st_is_fraction_in, [], []⟩
def df_sure_fraction : He.DefD := ⟨("sure_fraction", none), "sure_fraction", "sure_fraction", defArgs st_sure_fraction, defBody st_sure_fraction, defScope st_sure_fraction, [], []⟩
def df_sure_book : He.DefD := ⟨("sure_book", none), "sure_book", "sure_book", defArgs st_sure_book, defBody st_sure_book, defScope st_sure_book, [], []⟩
def df_whole_root : He.DefD := ⟨("whole_root", none), "whole_root", "whole_root", defArgs st_whole_root, defBody st_whole_root, defScope st_whole_root, [], []⟩
def df_is_square : He.DefD := ⟨("is_square", none), "is_square", "is_square", defArgs st_is_square, defBody st_is_square, defScope st_is_square, [], []⟩
def df_lowest_root : He.DefD := ⟨("lowest_root", none), "lowest_root", "lowest_root", defArgs st_lowest_root, defBody st_lowest_root, defScope st_lowest_root, [], []⟩
def df_is_root_in : He.DefD := ⟨("is_root_in", none), "is_root_in", "is_root_in", defArgs st_is_root_in, defBody st_is_root_in, defScope st_is_root_in, [], []⟩
def df_sure_root : He.DefD := ⟨("sure_root", none), "sure_root", "sure_root", defArgs st_sure_root, defBody st_sure_root, defScope st_sure_root, [], []⟩
def df_root_floor_in : He.DefD := ⟨("root_floor_in", none), "root_floor_in", "root_floor_in", defArgs st_root_floor_in, defBody st_root_floor_in, defScope st_root_floor_in, [], []⟩
def df_turned_root : He.DefD := ⟨("turned_root", none), "turned_root", "turned_root", defArgs st_turned_root, defBody st_turned_root, defScope st_turned_root, [], []⟩
def df_is_root_held : He.DefD := ⟨("is_root_held", none), "is_root_held", "is_root_held", defArgs st_is_root_held, defBody st_is_root_held, defScope st_is_root_held, [], []⟩
def df_root_next : He.DefD := ⟨("root_next", none), "root_next", "root_next", defArgs st_root_next, defBody st_root_next, defScope st_root_next, [], []⟩
def df_root_past : He.DefD := ⟨("root_past", none), "root_past", "root_past", defArgs st_root_past, defBody st_root_past, defScope st_root_past, [], []⟩
def df_root_rests : He.DefD := ⟨("root_rests", none), "root_rests", "root_rests", defArgs st_root_rests, defBody st_root_rests, defScope st_root_rests, [], []⟩
def df_sure_held_root : He.DefD := ⟨("sure_held_root", none), "sure_held_root", "sure_held_root", defArgs st_sure_held_root, defBody st_sure_held_root, defScope st_sure_held_root, [], []⟩
def df_known_in : He.DefD := ⟨("known_in", none), "known_in", "known_in", defArgs st_known_in, defBody st_known_in, defScope st_known_in, [], []⟩
def df_sure_known : He.DefD := ⟨("sure_known", none), "sure_known", "sure_known", defArgs st_sure_known, defBody st_sure_known, defScope st_sure_known, [], []⟩
def df_root_floor : He.DefD := ⟨("root_floor", none), "root_floor", "root_floor", defArgs st_root_floor, defBody st_root_floor, defScope st_root_floor, [], []⟩
def df_root_is_under : He.DefD := ⟨("root_is_under", none), "root_is_under", "root_is_under", defArgs st_root_is_under, defBody st_root_is_under, defScope st_root_is_under, [], []⟩
def df_root_numbers : He.DefD := ⟨("root_numbers", none), "root_numbers", "root_numbers", defArgs st_root_numbers, defBody st_root_numbers, defScope st_root_numbers, [], []⟩
def df_root_rest : He.DefD := ⟨("root_rest", none), "root_rest", "root_rest", defArgs st_root_rest, defBody st_root_rest, defScope st_root_rest, [], []⟩
def df_known_root : He.DefD := ⟨("known_root", none), "known_root", "known_root", defArgs st_known_root, defBody st_known_root, defScope st_known_root, [], []⟩
def df_known_engel : He.DefD := ⟨("known_engel", none), "known_engel", "known_engel", defArgs st_known_engel, defBody st_known_engel, defScope st_known_engel, [], []⟩
def df_known_pierce : He.DefD := ⟨("known_pierce", none), "known_pierce", "known_pierce", defArgs st_known_pierce, defBody st_known_pierce, defScope st_known_pierce, [], []⟩
def df_l_box : He.DefD := ⟨("_law_box", none), "_law_box", "_law_box", defArgs st_l_box, defBody st_l_box, defScope st_l_box, [], []⟩
def df_l_take : He.DefD := ⟨("_law_take", none), "_law_take", "_law_take", defArgs st_l_take, defBody st_l_take, defScope st_l_take, [], []⟩
def df_l_cells : He.DefD := ⟨("_law_cells", none), "_law_cells", "_law_cells", defArgs st_l_cells, defBody st_l_cells, defScope st_l_cells, [], []⟩
def df_l_of : He.DefD := ⟨("_law_of", none), "_law_of", "_law_of", defArgs st_l_of, defBody st_l_of, defScope st_l_of, [], []⟩
def df_l_mixed : He.DefD := ⟨("_law_mixed", none), "_law_mixed", "_law_mixed", defArgs st_l_mixed, defBody st_l_mixed, defScope st_l_mixed, [], []⟩
def df_l_same : He.DefD := ⟨("_law_same", none), "_law_same", "_law_same", defArgs st_l_same, defBody st_l_same, defScope st_l_same, [], []⟩
def df_l_cut : He.DefD := ⟨("_law_cut", none), "_law_cut", "_law_cut", defArgs st_l_cut, defBody st_l_cut, defScope st_l_cut, [], []⟩
def df_l_call : He.DefD := ⟨("_law_call", none), "_law_call", "_law_call", defArgs st_l_call, defBody st_l_call, defScope st_l_call, [], []⟩
def df_l_slip : He.DefD := ⟨("_law_slip", none), "_law_slip", "_law_slip", defArgs st_l_slip, defBody st_l_slip, defScope st_l_slip, [], []⟩
def df_l_common : He.DefD := ⟨("_law_common", none), "_law_common", "_law_common", defArgs st_l_common, defBody st_l_common, defScope st_l_common, [], []⟩
def df_l_is_less : He.DefD := ⟨("_law_is_less", none), "_law_is_less", "_law_is_less", defArgs st_l_is_less, defBody st_l_is_less, defScope st_l_is_less, [], []⟩
def df_l_heard : He.DefD := ⟨("_law_heard", none), "_law_heard", "_law_heard", defArgs st_l_heard, defBody st_l_heard, defScope st_l_heard, [], []⟩
def df_l_isqrt : He.DefD := ⟨("_law_isqrt", none), "_law_isqrt", "_law_isqrt", defArgs st_l_isqrt, defBody st_l_isqrt, defScope st_l_isqrt, [], []⟩
def df_l_root_terms : He.DefD := ⟨("_law_root_terms", none), "_law_root_terms", "_law_root_terms", defArgs st_l_root_terms, defBody st_l_root_terms, defScope st_l_root_terms, [], []⟩
def df_l_narrow : He.DefD := ⟨("_law_narrow", none), "_law_narrow", "_law_narrow", defArgs st_l_narrow, defBody st_l_narrow, defScope st_l_narrow, [], []⟩
def df_l_ten : He.DefD := ⟨("_law_ten", none), "_law_ten", "_law_ten", defArgs st_l_ten, defBody st_l_ten, defScope st_l_ten, [], []⟩
def df_l_times : He.DefD := ⟨("_law_times", none), "_law_times", "_law_times", defArgs st_l_times, defBody st_l_times, defScope st_l_times, [], []⟩
def df_l_right : He.DefD := ⟨("_law_right", none), "_law_right", "_law_right", defArgs st_l_right, defBody st_l_right, defScope st_l_right, [], []⟩
def df_law : He.DefD := ⟨("law", none), "law", "law", defArgs st_law, defBody st_law, defScope st_law, [], []⟩
def hfn : List He.DefD := [df_is_number, df_is_within, df_sure_within, df_is_long, df_are_numbers, df_tupled, df_common, df_is_near, df_is_fraction_in, df_sure_fraction, df_sure_book, df_whole_root, df_is_square, df_lowest_root, df_is_root_in, df_sure_root, df_root_floor_in, df_turned_root, df_is_root_held, df_root_next, df_root_past, df_root_rests, df_sure_held_root, df_known_in, df_sure_known, df_root_floor, df_root_is_under, df_root_numbers, df_root_rest, df_known_root, df_known_engel, df_known_pierce, df_l_box, df_l_take, df_l_cells, df_l_of, df_l_mixed, df_l_same, df_l_cut, df_l_call, df_l_slip, df_l_common, df_l_is_less, df_l_heard, df_l_isqrt, df_l_root_terms, df_l_narrow, df_l_ten, df_l_times, df_l_right, df_law]
def hfa : List He.Fa := [.free "ValueError", .free "abs", .free "all", .free "any", .free "bool", .free "enumerate", .free "int", .free "isinstance", .free "len", .free "list", .free "range", .free "str", .free "tuple", .free "zip", .exc "CanNot", .glo "CanNot", .exc "TooMany", .glo "TooMany", .exc "Unfit", .glo "Unfit", .int "SHORT" 300, .int "LONG_NUMBER" 2000, .glo "is_number", .glo "is_within", .glo "sure_within", .glo "is_long", .glo "are_numbers", .glo "tupled", .glo "common", .glo "is_near", .glo "is_fraction_in", .glo "sure_fraction", .glo "BOOKS", .glo "sure_book", .int "MOST_PART" 1000000, .int "MOST_FIRST" 60, .int "LEAST_KNOWN" 3, .int "MOST_KNOWN" 1000, .glo "whole_root", .glo "is_square", .glo "lowest_root", .glo "is_root_in", .glo "sure_root", .glo "root_floor_in", .glo "turned_root", .glo "is_root_held", .glo "root_next", .glo "root_past", .glo "root_rests", .glo "sure_held_root", .glo "known_in", .glo "sure_known", .glo "root_floor", .glo "root_is_under", .glo "root_numbers", .glo "root_rest", .glo "known_root", .glo "known_engel", .glo "known_pierce", .glo "_law_box", .glo "_law_take", .glo "_law_cells", .glo "_law_of", .glo "_law_mixed", .glo "_law_same", .glo "_law_cut", .glo "_law_call", .glo "_law_slip", .glo "_law_common", .glo "_law_is_less", .glo "_law_heard", .glo "_law_isqrt", .glo "_law_root_terms", .glo "_law_narrow", .glo "_law_ten", .glo "_law_times", .glo "_law_right", .glo "law"]
def htp : List (Str × List He.Dv) := [("BOOKS", [.str "sylvester", .str "engel", .str "pierce", .str "ostro", .str "product"])]
abbrev lawR : PySem.W.OpenRow := PySem.W.OpenLaw.row PySem.Challenge.rw_rowsofunits_k31_main_known_rows_of_roots
abbrev hkM : PySem.W.Hook := hookE 4 hfa hfn (moreX htp ["Unfit", "CanNot", "TooMany"])
def obs0 (s : PySem.W.SharedT) : Bool × He.AlD := obsE 4 hfa hfn (moreX htp ["Unfit", "CanNot", "TooMany"]) (HandSHeadRun.getT s)
theorem obs_eq (s : PySem.W.SharedT) : obs0 s = hkM.obs s.abs := obsE_eq (HandSHeadRun.getT_eq s)
def loose0 : List Str := ["CanNot", "TooMany", "Unfit", "SHORT", "LONG_NUMBER", "is_number", "is_within", "sure_within", "is_long", "are_numbers", "tupled", "common", "is_near", "is_fraction_in", "sure_fraction", "BOOKS", "sure_book", "MOST_PART", "MOST_FIRST", "LEAST_KNOWN", "MOST_KNOWN", "whole_root", "is_square", "lowest_root", "is_root_in", "sure_root", "root_floor_in", "turned_root", "is_root_held", "root_next"]
def loose1 : List Str := ["root_past", "root_rests", "sure_held_root", "known_in", "sure_known", "root_floor", "root_is_under", "root_numbers", "root_rest", "known_root", "known_engel", "known_pierce", "_law_box", "_law_take", "_law_cells", "_law_of", "_law_mixed", "_law_same", "_law_cut", "_law_call", "_law_slip", "_law_common", "_law_is_less", "_law_heard", "_law_isqrt", "_law_root_terms", "_law_narrow", "_law_ten", "_law_times", "_law_right"]
def looseL : List Str := loose0 ++ loose1
theorem run0 (w : World) : HandSHeadRun.RunEq lawR (PySem.W.view lawR.prog [66]) hkM obs0 4000 looseL w := by
  intro os
  kernel_rfl
theorem hd_of {K : PySem.W.Frag} {h : Heap} {mg : Str → Option Value} (X : K.In h) (G : h.Ns mainGlobals mg) (m : (moreX htp ["Unfit", "CanNot", "TooMany"]) K = true) (c : He.SaysD hfa hfn K) : Hd K mg := by
  obtain ⟨_, f0⟩ := c.def_ 0 (d := df_is_number) rfl
  obtain ⟨_, f1⟩ := c.def_ 1 (d := df_is_within) rfl
  obtain ⟨_, f2⟩ := c.def_ 2 (d := df_sure_within) rfl
  obtain ⟨_, f3⟩ := c.def_ 3 (d := df_is_long) rfl
  obtain ⟨_, f4⟩ := c.def_ 4 (d := df_are_numbers) rfl
  obtain ⟨_, f5⟩ := c.def_ 5 (d := df_tupled) rfl
  obtain ⟨_, f6⟩ := c.def_ 6 (d := df_common) rfl
  obtain ⟨_, f7⟩ := c.def_ 7 (d := df_is_near) rfl
  obtain ⟨_, f8⟩ := c.def_ 8 (d := df_is_fraction_in) rfl
  obtain ⟨_, f9⟩ := c.def_ 9 (d := df_sure_fraction) rfl
  obtain ⟨_, f10⟩ := c.def_ 10 (d := df_sure_book) rfl
  obtain ⟨_, f11⟩ := c.def_ 11 (d := df_whole_root) rfl
  obtain ⟨_, f12⟩ := c.def_ 12 (d := df_is_square) rfl
  obtain ⟨_, f13⟩ := c.def_ 13 (d := df_lowest_root) rfl
  obtain ⟨_, f14⟩ := c.def_ 14 (d := df_is_root_in) rfl
  obtain ⟨_, f15⟩ := c.def_ 15 (d := df_sure_root) rfl
  obtain ⟨_, f16⟩ := c.def_ 16 (d := df_root_floor_in) rfl
  obtain ⟨_, f17⟩ := c.def_ 17 (d := df_turned_root) rfl
  obtain ⟨_, f18⟩ := c.def_ 18 (d := df_is_root_held) rfl
  obtain ⟨_, f19⟩ := c.def_ 19 (d := df_root_next) rfl
  obtain ⟨_, f20⟩ := c.def_ 20 (d := df_root_past) rfl
  obtain ⟨_, f21⟩ := c.def_ 21 (d := df_root_rests) rfl
  obtain ⟨_, f22⟩ := c.def_ 22 (d := df_sure_held_root) rfl
  obtain ⟨_, f23⟩ := c.def_ 23 (d := df_known_in) rfl
  obtain ⟨_, f24⟩ := c.def_ 24 (d := df_sure_known) rfl
  obtain ⟨_, f25⟩ := c.def_ 25 (d := df_root_floor) rfl
  obtain ⟨_, f26⟩ := c.def_ 26 (d := df_root_is_under) rfl
  obtain ⟨_, f27⟩ := c.def_ 27 (d := df_root_numbers) rfl
  obtain ⟨_, f28⟩ := c.def_ 28 (d := df_root_rest) rfl
  obtain ⟨_, f29⟩ := c.def_ 29 (d := df_known_root) rfl
  obtain ⟨_, f30⟩ := c.def_ 30 (d := df_known_engel) rfl
  obtain ⟨_, f31⟩ := c.def_ 31 (d := df_known_pierce) rfl
  obtain ⟨_, f32⟩ := c.def_ 32 (d := df_l_box) rfl
  obtain ⟨_, f33⟩ := c.def_ 33 (d := df_l_take) rfl
  obtain ⟨_, f34⟩ := c.def_ 34 (d := df_l_cells) rfl
  obtain ⟨_, f35⟩ := c.def_ 35 (d := df_l_of) rfl
  obtain ⟨_, f36⟩ := c.def_ 36 (d := df_l_mixed) rfl
  obtain ⟨_, f37⟩ := c.def_ 37 (d := df_l_same) rfl
  obtain ⟨_, f38⟩ := c.def_ 38 (d := df_l_cut) rfl
  obtain ⟨_, f39⟩ := c.def_ 39 (d := df_l_call) rfl
  obtain ⟨_, f40⟩ := c.def_ 40 (d := df_l_slip) rfl
  obtain ⟨_, f41⟩ := c.def_ 41 (d := df_l_common) rfl
  obtain ⟨_, f42⟩ := c.def_ 42 (d := df_l_is_less) rfl
  obtain ⟨_, f43⟩ := c.def_ 43 (d := df_l_heard) rfl
  obtain ⟨_, f44⟩ := c.def_ 44 (d := df_l_isqrt) rfl
  obtain ⟨_, f45⟩ := c.def_ 45 (d := df_l_root_terms) rfl
  obtain ⟨_, f46⟩ := c.def_ 46 (d := df_l_narrow) rfl
  obtain ⟨_, f47⟩ := c.def_ 47 (d := df_l_ten) rfl
  obtain ⟨_, f48⟩ := c.def_ 48 (d := df_l_times) rfl
  obtain ⟨_, f49⟩ := c.def_ 49 (d := df_l_right) rfl
  obtain ⟨_, f50⟩ := c.def_ 50 (d := df_law) rfl
  exact ⟨moreE.d (moreX.e m),
    moreX.s m,
    He.free_ok X G (c.fact 0 (f := .free "ValueError") rfl),
    He.free_ok X G (c.fact 1 (f := .free "abs") rfl),
    He.free_ok X G (c.fact 2 (f := .free "all") rfl),
    He.free_ok X G (c.fact 3 (f := .free "any") rfl),
    He.free_ok X G (c.fact 4 (f := .free "bool") rfl),
    He.free_ok X G (c.fact 5 (f := .free "enumerate") rfl),
    He.free_ok X G (c.fact 6 (f := .free "int") rfl),
    He.free_ok X G (c.fact 7 (f := .free "isinstance") rfl),
    He.free_ok X G (c.fact 8 (f := .free "len") rfl),
    He.free_ok X G (c.fact 9 (f := .free "list") rfl),
    He.free_ok X G (c.fact 10 (f := .free "range") rfl),
    He.free_ok X G (c.fact 11 (f := .free "str") rfl),
    He.free_ok X G (c.fact 12 (f := .free "tuple") rfl),
    He.free_ok X G (c.fact 13 (f := .free "zip") rfl),
    excS_of (c.fact 14 (f := .exc "CanNot") rfl) (He.glo_ok X G (c.fact 15 (f := .glo "CanNot") rfl)),
    excS_of (c.fact 16 (f := .exc "TooMany") rfl) (He.glo_ok X G (c.fact 17 (f := .glo "TooMany") rfl)),
    excS_of (c.fact 18 (f := .exc "Unfit") rfl) (He.glo_ok X G (c.fact 19 (f := .glo "Unfit") rfl)),
    He.int_ok X G (c.fact 20 (f := .int "SHORT" 300) rfl),
    He.int_ok X G (c.fact 21 (f := .int "LONG_NUMBER" 2000) rfl),
    defOk_of f0 (He.glo_ok X G (c.fact 22 (f := .glo "is_number") rfl)) fun _ _ _ _ _ _ us hl => match us, hl with | [_], _ => rfl,
    defOk_of f1 (He.glo_ok X G (c.fact 23 (f := .glo "is_within") rfl)) fun _ _ _ _ _ _ us hl => match us, hl with | [_, _, _], _ => rfl,
    defOk_of f2 (He.glo_ok X G (c.fact 24 (f := .glo "sure_within") rfl)) fun _ _ _ _ _ _ us hl => match us, hl with | [_, _, _], _ => rfl,
    defOk_of f3 (He.glo_ok X G (c.fact 25 (f := .glo "is_long") rfl)) fun _ _ _ _ _ _ us hl => match us, hl with | [_, _], _ => rfl,
    defOk_of f4 (He.glo_ok X G (c.fact 26 (f := .glo "are_numbers") rfl)) fun _ _ _ _ _ _ us hl => match us, hl with | [_], _ => rfl,
    defOk_of f5 (He.glo_ok X G (c.fact 27 (f := .glo "tupled") rfl)) fun _ _ _ _ _ _ us hl => match us, hl with | [_], _ => rfl,
    defOk_of f6 (He.glo_ok X G (c.fact 28 (f := .glo "common") rfl)) fun _ _ _ _ _ _ us hl => match us, hl with | [_, _], _ => rfl,
    defOk_of f7 (He.glo_ok X G (c.fact 29 (f := .glo "is_near") rfl)) fun _ _ _ _ _ _ us hl => match us, hl with | [_, _], _ => rfl,
    defOk_of f8 (He.glo_ok X G (c.fact 30 (f := .glo "is_fraction_in") rfl)) fun _ _ _ _ _ _ us hl => match us, hl with | [_], _ => rfl,
    defOk_of f9 (He.glo_ok X G (c.fact 31 (f := .glo "sure_fraction") rfl)) fun _ _ _ _ _ _ us hl => match us, hl with | [_], _ => rfl,
    ktup_of (moreE.t (moreX.e m)) (He.glo_ok X G (c.fact 32 (f := .glo "BOOKS") rfl)) 0,
    defOk_of f10 (He.glo_ok X G (c.fact 33 (f := .glo "sure_book") rfl)) fun _ _ _ _ _ _ us hl => match us, hl with | [_], _ => rfl,
    He.int_ok X G (c.fact 34 (f := .int "MOST_PART" 1000000) rfl),
    He.int_ok X G (c.fact 35 (f := .int "MOST_FIRST" 60) rfl),
    He.int_ok X G (c.fact 36 (f := .int "LEAST_KNOWN" 3) rfl),
    He.int_ok X G (c.fact 37 (f := .int "MOST_KNOWN" 1000) rfl),
    defOk_of f11 (He.glo_ok X G (c.fact 38 (f := .glo "whole_root") rfl)) fun _ _ _ _ _ _ us hl => match us, hl with | [_], _ => rfl,
    defOk_of f12 (He.glo_ok X G (c.fact 39 (f := .glo "is_square") rfl)) fun _ _ _ _ _ _ us hl => match us, hl with | [_], _ => rfl,
    defOk_of f13 (He.glo_ok X G (c.fact 40 (f := .glo "lowest_root") rfl)) fun _ _ _ _ _ _ us hl => match us, hl with | [_, _, _, _], _ => rfl,
    defOk_of f14 (He.glo_ok X G (c.fact 41 (f := .glo "is_root_in") rfl)) fun _ _ _ _ _ _ us hl => match us, hl with | [_], _ => rfl,
    defOk_of f15 (He.glo_ok X G (c.fact 42 (f := .glo "sure_root") rfl)) fun _ _ _ _ _ _ us hl => match us, hl with | [_], _ => rfl,
    defOk_of f16 (He.glo_ok X G (c.fact 43 (f := .glo "root_floor_in") rfl)) fun _ _ _ _ _ _ us hl => match us, hl with | [_], _ => rfl,
    defOk_of f17 (He.glo_ok X G (c.fact 44 (f := .glo "turned_root") rfl)) fun _ _ _ _ _ _ us hl => match us, hl with | [_], _ => rfl,
    defOk_of f18 (He.glo_ok X G (c.fact 45 (f := .glo "is_root_held") rfl)) fun _ _ _ _ _ _ us hl => match us, hl with | [_, _], _ => rfl,
    defOk_of f19 (He.glo_ok X G (c.fact 46 (f := .glo "root_next") rfl)) fun _ _ _ _ _ _ us hl => match us, hl with | [_, _], _ => rfl,
    defOk_of f20 (He.glo_ok X G (c.fact 47 (f := .glo "root_past") rfl)) fun _ _ _ _ _ _ us hl => match us, hl with | [_, _, _], _ => rfl,
    defOk_of f21 (He.glo_ok X G (c.fact 48 (f := .glo "root_rests") rfl)) fun _ _ _ _ _ _ us hl => match us, hl with | [_, _, _], _ => rfl,
    defOk_of f22 (He.glo_ok X G (c.fact 49 (f := .glo "sure_held_root") rfl)) fun _ _ _ _ _ _ us hl => match us, hl with | [_, _], _ => rfl,
    defOk_of f23 (He.glo_ok X G (c.fact 50 (f := .glo "known_in") rfl)) fun _ _ _ _ _ _ us hl => match us, hl with | [_], _ => rfl,
    defOk_of f24 (He.glo_ok X G (c.fact 51 (f := .glo "sure_known") rfl)) fun _ _ _ _ _ _ us hl => match us, hl with | [_], _ => rfl,
    defOk_of f25 (He.glo_ok X G (c.fact 52 (f := .glo "root_floor") rfl)) fun _ _ _ _ _ _ us hl => match us, hl with | [_], _ => rfl,
    defOk_of f26 (He.glo_ok X G (c.fact 53 (f := .glo "root_is_under") rfl)) fun _ _ _ _ _ _ us hl => match us, hl with | [_, _], _ => rfl,
    defOk_of f27 (He.glo_ok X G (c.fact 54 (f := .glo "root_numbers") rfl)) fun _ _ _ _ _ _ us hl => match us, hl with | [_, _, _], _ => rfl,
    defOk_of f28 (He.glo_ok X G (c.fact 55 (f := .glo "root_rest") rfl)) fun _ _ _ _ _ _ us hl => match us, hl with | [_, _, _], _ => rfl,
    defOk_of f29 (He.glo_ok X G (c.fact 56 (f := .glo "known_root") rfl)) fun _ _ _ _ _ _ us hl => match us, hl with | [_], _ => rfl,
    defOk_of f30 (He.glo_ok X G (c.fact 57 (f := .glo "known_engel") rfl)) fun _ _ _ _ _ _ us hl => match us, hl with | [_, _], _ => rfl,
    defOk_of f31 (He.glo_ok X G (c.fact 58 (f := .glo "known_pierce") rfl)) fun _ _ _ _ _ _ us hl => match us, hl with | [_, _], _ => rfl,
    defOk_of f32 (He.glo_ok X G (c.fact 59 (f := .glo "_law_box") rfl)) fun _ _ _ _ _ _ us hl => match us, hl with | [_, _], _ => rfl,
    defOk_of f33 (He.glo_ok X G (c.fact 60 (f := .glo "_law_take") rfl)) fun _ _ _ _ _ _ us hl => match us, hl with | [_, _], _ => rfl,
    defOk_of f34 (He.glo_ok X G (c.fact 61 (f := .glo "_law_cells") rfl)) fun _ _ _ _ _ _ us hl => match us, hl with | [_, _], _ => rfl,
    defOk_of f35 (He.glo_ok X G (c.fact 62 (f := .glo "_law_of") rfl)) fun _ _ _ _ _ _ us hl => match us, hl with | [_, _], _ => rfl,
    defOk_of f36 (He.glo_ok X G (c.fact 63 (f := .glo "_law_mixed") rfl)) fun _ _ _ _ _ _ us hl => match us, hl with | [_, _], _ => rfl,
    defOk_of f37 (He.glo_ok X G (c.fact 64 (f := .glo "_law_same") rfl)) fun _ _ _ _ _ _ us hl => match us, hl with | [_, _], _ => rfl,
    defOk_of f38 (He.glo_ok X G (c.fact 65 (f := .glo "_law_cut") rfl)) fun _ _ _ _ _ _ us hl => match us, hl with | [_, _], _ => rfl,
    defOk_of f39 (He.glo_ok X G (c.fact 66 (f := .glo "_law_call") rfl)) fun _ _ _ _ _ _ us hl => match us, hl with | [_, _], _ => rfl,
    defOk_of f40 (He.glo_ok X G (c.fact 67 (f := .glo "_law_slip") rfl)) fun _ _ _ _ _ _ us hl => match us, hl with | [_, _], _ => rfl,
    defOk_of f41 (He.glo_ok X G (c.fact 68 (f := .glo "_law_common") rfl)) fun _ _ _ _ _ _ us hl => match us, hl with | [_, _], _ => rfl,
    defOk_of f42 (He.glo_ok X G (c.fact 69 (f := .glo "_law_is_less") rfl)) fun _ _ _ _ _ _ us hl => match us, hl with | [_, _], _ => rfl,
    defOk_of f43 (He.glo_ok X G (c.fact 70 (f := .glo "_law_heard") rfl)) fun _ _ _ _ _ _ us hl => match us, hl with | [_, _], _ => rfl,
    defOk_of f44 (He.glo_ok X G (c.fact 71 (f := .glo "_law_isqrt") rfl)) fun _ _ _ _ _ _ us hl => match us, hl with | [_], _ => rfl,
    defOk_of f45 (He.glo_ok X G (c.fact 72 (f := .glo "_law_root_terms") rfl)) fun _ _ _ _ _ _ us hl => match us, hl with | [_, _, _, _], _ => rfl,
    defOk_of f46 (He.glo_ok X G (c.fact 73 (f := .glo "_law_narrow") rfl)) fun _ _ _ _ _ _ us hl => match us, hl with | [_, _], _ => rfl,
    defOk_of f47 (He.glo_ok X G (c.fact 74 (f := .glo "_law_ten") rfl)) fun _ _ _ _ _ _ us hl => match us, hl with | [_], _ => rfl,
    defOk_of f48 (He.glo_ok X G (c.fact 75 (f := .glo "_law_times") rfl)) fun _ _ _ _ _ _ us hl => match us, hl with | [_, _], _ => rfl,
    defOk_of f49 (He.glo_ok X G (c.fact 76 (f := .glo "_law_right") rfl)) fun _ _ _ _ _ _ us hl => match us, hl with | [_], _ => rfl,
    defOk_of f50 (He.glo_ok X G (c.fact 77 (f := .glo "law") rfl)) fun _ _ _ _ _ _ us hl => match us, hl with | [_], _ => rfl⟩
theorem law_fin (hF : ∀ ns : List Int, ns.length ≤ 63 → (∀ z ∈ ns, Builtin.Int.intBits z ≤ 1048576) → ∃ st', F_law [.scr ns] [] = some (.ok (.bl true), st')) {w : World} {K : PySem.W.Frag} {h : Heap} {mg : Str → Option Value} {f : Addr} (X : K.In h) (G : h.Ns mainGlobals mg) (m : (moreX htp ["Unfit", "CanNot", "TooMany"]) K = true) (c : He.SaysD hfa hfn K) (hfa0 : mg ("law" : Str) = some (.ref f)) :
    ∃ (K : PySem.W.Frag) (fd : FuncData) (sp : Sp), K.In h ∧ (∀ (s : Shared) (u : Value), BindsTo s fd ⟨[u], []⟩ [("script", u)]) ∧ (∀ (H : Hp) (a : Addr) (ns : List Int), ns.length ≤ 63 → (∀ z ∈ ns, Builtin.Int.intBits z ≤ 1048576) → Only H → SqL K H a (ns.map V.int) → sp [.ref a] H (fun v _ => v = .bl true) fun _ _ _ => False) ∧
      ∀ base : Heap, K.In base → base.Ns mainGlobals mg → FnOk PySem.Challenge.pw_rowsofunits_k31_main_known_rows_of_roots w K mg base (L2.CX PySem.Challenge.pw_rowsofunits_k31_main_known_rows_of_roots w) 26 f fd ["script"] sp := by
  have hd := hd_of X G m c
  obtain ⟨fd, f0⟩ := c.def_ 50 (d := df_law) rfl
  have e := hfa0.symm.trans (He.glo_ok X G (c.fact 77 (f := .glo "law") rfl))
  cases e
  have b := FunD.bindsA (ps := ["script"]) f0 fun _ _ _ _ _ _ us hl => match us, hl with | [_], _ => rfl
  exact ⟨K, fd, _, X, fun s v => b s [v] rfl, sp_law hF, fun base _ _ => ok_law hd (fun_of f0)⟩
end Pw
/-! evaluation: lists become tuples, int of a written power of ten, draws in a comprehension -/
namespace Pw
open PySem PySem.Spec PyProof.Rows L2 RZ
mutual
def tupD : D → D
  | .lst l => .tup (tupL l)
  | .tup l => .tup (tupL l)
  | .non => .non
  | .bl b => .bl b
  | .int i => .int i
  | .str s => .str s
  | .fn x => .fn x
  | .cell k => .cell k
  | .scr l => .scr l
  | .dK l => .dK l
  | .dT l => .dT l
def tupL : List D → List D
  | [] => []
  | d :: r => tupD d :: tupL r
end
theorem tupL_map : ∀ l : List D, tupL l = l.map tupD
  | [] => rfl
  | d :: r => by
    show tupD d :: tupL r = _
    rw [tupL_map r]
    rfl
mutual
def cntD : D → Nat
  | .lst l => cntL l + 1
  | .tup l => cntL l + 1
  | .non => 0
  | .bl _ => 0
  | .int _ => 0
  | .str _ => 0
  | .fn _ => 0
  | .cell _ => 0
  | .scr _ => 0
  | .dK _ => 0
  | .dT _ => 0
def cntL : List D → Nat
  | [] => 0
  | d :: r => cntD d + cntL r
end
@[simp] theorem fIntB_int {a : Int} : fIntB [.int a] = some (.int a) := rfl
@[simp] theorem fIntB_bl {c : Bool} : fIntB [.bl c] = some (.int (if c then 1 else 0)) := rfl
theorem fMin2_int {a b : Int} : fMin2 [.int a, .int b] = some (.int (if b < a then b else a)) := by rfl
theorem lcL_true {env : Env} {g : Gt} {me : M D} (J : Nat → Sto → Prop) : ∀ {ds : List D} {k : Nat} {st : Sto}, (∀ j d st, j < k + ds.length → d ∈ ds → J j st → ∃ env1 st', g d env = some env1 ∧ me env1 st = some (.ok (.bl true), st') ∧ J (j + 1) st') → J k st →
    ∃ st', lcL env g mYes me ds st = some (ds.map fun _ => .bl true, st') ∧ J (k + ds.length) st'
  | [], k, st, _, h => ⟨st, rfl, h⟩
  | d :: r, k, st, hs, h => by
    obtain ⟨env1, st1, e1, e2, h1⟩ := hs k d st (by rw [List.length_cons]; omega) List.mem_cons_self h
    obtain ⟨st2, e3, h2⟩ := lcL_true J (ds := r) (k := k + 1) (st := st1) (fun j d st hj hd hJ => hs j d st (by rw [List.length_cons]; omega) (List.mem_cons_of_mem _ hd) hJ) h1
    refine ⟨st2, ?_, by rw [List.length_cons, show k + (r.length + 1) = k + 1 + r.length by omega]; exact h2⟩
    unfold lcL
    simp only [e1, e2, e3, mYes, List.map_cons]
/-! "1" + "0" * k -/
theorem mul_zero_signs (k : Nat) : (PySem.Txt.mul "0" (k : Int)).cps.toList = List.replicate k 48 := by
  have e0 : ("0" : Str).cps.toList = [48] := by decide +kernel
  have key : ∀ (n : Nat) (acc : Array Nat), ((List.replicate n ("0" : Str).cps).foldl (· ++ ·) acc).toList = acc.toList ++ List.replicate n 48 := by
    intro n
    induction n with
    | zero => intro acc; simp
    | succ n ih =>
      intro acc
      rw [List.replicate_succ, List.foldl_cons, ih, Array.toList_append, e0, List.append_assoc]
      rfl
  unfold PySem.Txt.mul
  by_cases h : (k : Int) < 1
  · have : k = 0 := by omega
    subst this
    rw [if_pos h]
    rfl
  · rw [if_neg h]
    by_cases h1 : (k : Int) = 1
    · have : k = 1 := by omega
      subst this
      rw [if_pos (by decide +kernel)]
      exact e0
    · rw [if_neg (by
        have e : ("0" : Str).length = 1 := by decide +kernel
        rw [e]
        simp
        omega)]
      show ((List.replicate (k : Int).toNat ("0" : Str).cps).foldl (· ++ ·) #[]).toList = _
      rw [key]
      simp
open PySem.NumText in
theorem digitsVal_zeros (k : Nat) : digitsVal (49 :: List.replicate k 48) = 10 ^ k := by
  induction k with
  | zero => rfl
  | succ k ih =>
    have e : 49 :: List.replicate (k + 1) 48 = (49 :: List.replicate k 48) ++ [48] := by
      rw [List.replicate_succ', List.cons_append]
    unfold digitsVal at ih ⊢
    rw [e, List.foldl_append, ih, Nat.pow_succ]
    rfl
theorem ten_text {k : Int} (h0 : 0 ≤ k) (h : k ≤ 4000) : ∃ s t : Str, dMul (.str "0") (.int k) = some (.str s) ∧ dAdd (.str "1") (.str s) = some (.str t) ∧ fIntB [.str t] = some (.int ((10 ^ k.toNat : Nat) : Int)) := by
  obtain ⟨k, rfl⟩ := Int.eq_ofNat_of_zero_le h0
  have hc : CRepS "0" (k : Int) := ⟨by omega, by omega, by decide⟩
  have hs := mul_zero_signs k
  have hl : (PySem.Txt.mul "0" (k : Int)).length = k := by
    show (PySem.Txt.mul "0" (k : Int)).cps.size = k
    rw [← Array.length_toList, hs, List.length_replicate]
  have h1 : ("1" : Str).length = 1 := by decide +kernel
  have e1 : ("1" : Str).cps.toList = [49] := by decide +kernel
  have ht : (("1" : Str) ++ PySem.Txt.mul "0" (k : Int)).cps.toList = 49 :: List.replicate k 48 := by
    show (("1" : Str).cps ++ (PySem.Txt.mul "0" (k : Int)).cps).toList = _
    rw [Array.toList_append, e1, hs]
    rfl
  have hlt : (("1" : Str) ++ PySem.Txt.mul "0" (k : Int)).length = k + 1 := by
    show (("1" : Str) ++ PySem.Txt.mul "0" (k : Int)).cps.size = k + 1
    rw [← Array.length_toList, ht]
    simp
  have hv : PySem.intText? (("1" : Str) ++ PySem.Txt.mul "0" (k : Int)) = some ((10 ^ k : Nat) : Int) := by
    have e := PySem.intText_digits (x := ("1" : Str) ++ PySem.Txt.mul "0" (k : Int)) (by
      rw [ht]
      intro c hc
      rcases List.mem_cons.mp hc with rfl | hc
      · omega
      · rw [List.eq_of_mem_replicate hc]
        omega) (by rw [ht]; simp) (by rw [hlt]; omega)
    rw [e, ht, digitsVal_zeros]
  refine ⟨_, _, if_pos hc, if_pos (by rw [h1, hl, sl]; omega), ?_⟩
  show (match PySem.intText? (("1" : Str) ++ PySem.Txt.mul "0" (k : Int)) with
    | some n => if (("1" : Str) ++ PySem.Txt.mul "0" (k : Int)).length ≤ 4300 then some (D.int n) else none
    | none => none) = _
  rw [hv]
  exact if_pos (by rw [hlt]; omega)
end Pw
/-! the words of the books -/
namespace Pw
open PySem PySem.Spec PyProof.Rows L2 RZ
@[simp] theorem eq_sylvester_sylvester : dEq (.str "sylvester") (.str "sylvester") = some (.bl true) := (dEq_str (by decide +kernel) (by decide +kernel)).trans (congrArg (fun z => some (D.bl z)) (by decide +kernel))
@[simp] theorem ne_sylvester_sylvester : dNe (.str "sylvester") (.str "sylvester") = some (.bl false) := by
  have e := eq_sylvester_sylvester
  unfold dEq at e
  unfold dNe
  obtain ⟨z, h1, h2⟩ := Option.map_eq_some_iff.mp e
  rw [h1]
  cases h2
  rfl
@[simp] theorem eq_sylvester_engel : dEq (.str "sylvester") (.str "engel") = some (.bl false) := (dEq_str (by decide +kernel) (by decide +kernel)).trans (congrArg (fun z => some (D.bl z)) (by decide +kernel))
@[simp] theorem ne_sylvester_engel : dNe (.str "sylvester") (.str "engel") = some (.bl true) := by
  have e := eq_sylvester_engel
  unfold dEq at e
  unfold dNe
  obtain ⟨z, h1, h2⟩ := Option.map_eq_some_iff.mp e
  rw [h1]
  cases h2
  rfl
@[simp] theorem eq_sylvester_pierce : dEq (.str "sylvester") (.str "pierce") = some (.bl false) := (dEq_str (by decide +kernel) (by decide +kernel)).trans (congrArg (fun z => some (D.bl z)) (by decide +kernel))
@[simp] theorem ne_sylvester_pierce : dNe (.str "sylvester") (.str "pierce") = some (.bl true) := by
  have e := eq_sylvester_pierce
  unfold dEq at e
  unfold dNe
  obtain ⟨z, h1, h2⟩ := Option.map_eq_some_iff.mp e
  rw [h1]
  cases h2
  rfl
@[simp] theorem eq_sylvester_ostro : dEq (.str "sylvester") (.str "ostro") = some (.bl false) := (dEq_str (by decide +kernel) (by decide +kernel)).trans (congrArg (fun z => some (D.bl z)) (by decide +kernel))
@[simp] theorem ne_sylvester_ostro : dNe (.str "sylvester") (.str "ostro") = some (.bl true) := by
  have e := eq_sylvester_ostro
  unfold dEq at e
  unfold dNe
  obtain ⟨z, h1, h2⟩ := Option.map_eq_some_iff.mp e
  rw [h1]
  cases h2
  rfl
@[simp] theorem eq_sylvester_product : dEq (.str "sylvester") (.str "product") = some (.bl false) := (dEq_str (by decide +kernel) (by decide +kernel)).trans (congrArg (fun z => some (D.bl z)) (by decide +kernel))
@[simp] theorem ne_sylvester_product : dNe (.str "sylvester") (.str "product") = some (.bl true) := by
  have e := eq_sylvester_product
  unfold dEq at e
  unfold dNe
  obtain ⟨z, h1, h2⟩ := Option.map_eq_some_iff.mp e
  rw [h1]
  cases h2
  rfl
@[simp] theorem eq_engel_sylvester : dEq (.str "engel") (.str "sylvester") = some (.bl false) := (dEq_str (by decide +kernel) (by decide +kernel)).trans (congrArg (fun z => some (D.bl z)) (by decide +kernel))
@[simp] theorem ne_engel_sylvester : dNe (.str "engel") (.str "sylvester") = some (.bl true) := by
  have e := eq_engel_sylvester
  unfold dEq at e
  unfold dNe
  obtain ⟨z, h1, h2⟩ := Option.map_eq_some_iff.mp e
  rw [h1]
  cases h2
  rfl
@[simp] theorem eq_engel_engel : dEq (.str "engel") (.str "engel") = some (.bl true) := (dEq_str (by decide +kernel) (by decide +kernel)).trans (congrArg (fun z => some (D.bl z)) (by decide +kernel))
@[simp] theorem ne_engel_engel : dNe (.str "engel") (.str "engel") = some (.bl false) := by
  have e := eq_engel_engel
  unfold dEq at e
  unfold dNe
  obtain ⟨z, h1, h2⟩ := Option.map_eq_some_iff.mp e
  rw [h1]
  cases h2
  rfl
@[simp] theorem eq_engel_pierce : dEq (.str "engel") (.str "pierce") = some (.bl false) := (dEq_str (by decide +kernel) (by decide +kernel)).trans (congrArg (fun z => some (D.bl z)) (by decide +kernel))
@[simp] theorem ne_engel_pierce : dNe (.str "engel") (.str "pierce") = some (.bl true) := by
  have e := eq_engel_pierce
  unfold dEq at e
  unfold dNe
  obtain ⟨z, h1, h2⟩ := Option.map_eq_some_iff.mp e
  rw [h1]
  cases h2
  rfl
@[simp] theorem eq_engel_ostro : dEq (.str "engel") (.str "ostro") = some (.bl false) := (dEq_str (by decide +kernel) (by decide +kernel)).trans (congrArg (fun z => some (D.bl z)) (by decide +kernel))
@[simp] theorem ne_engel_ostro : dNe (.str "engel") (.str "ostro") = some (.bl true) := by
  have e := eq_engel_ostro
  unfold dEq at e
  unfold dNe
  obtain ⟨z, h1, h2⟩ := Option.map_eq_some_iff.mp e
  rw [h1]
  cases h2
  rfl
@[simp] theorem eq_engel_product : dEq (.str "engel") (.str "product") = some (.bl false) := (dEq_str (by decide +kernel) (by decide +kernel)).trans (congrArg (fun z => some (D.bl z)) (by decide +kernel))
@[simp] theorem ne_engel_product : dNe (.str "engel") (.str "product") = some (.bl true) := by
  have e := eq_engel_product
  unfold dEq at e
  unfold dNe
  obtain ⟨z, h1, h2⟩ := Option.map_eq_some_iff.mp e
  rw [h1]
  cases h2
  rfl
@[simp] theorem eq_pierce_sylvester : dEq (.str "pierce") (.str "sylvester") = some (.bl false) := (dEq_str (by decide +kernel) (by decide +kernel)).trans (congrArg (fun z => some (D.bl z)) (by decide +kernel))
@[simp] theorem ne_pierce_sylvester : dNe (.str "pierce") (.str "sylvester") = some (.bl true) := by
  have e := eq_pierce_sylvester
  unfold dEq at e
  unfold dNe
  obtain ⟨z, h1, h2⟩ := Option.map_eq_some_iff.mp e
  rw [h1]
  cases h2
  rfl
@[simp] theorem eq_pierce_engel : dEq (.str "pierce") (.str "engel") = some (.bl false) := (dEq_str (by decide +kernel) (by decide +kernel)).trans (congrArg (fun z => some (D.bl z)) (by decide +kernel))
@[simp] theorem ne_pierce_engel : dNe (.str "pierce") (.str "engel") = some (.bl true) := by
  have e := eq_pierce_engel
  unfold dEq at e
  unfold dNe
  obtain ⟨z, h1, h2⟩ := Option.map_eq_some_iff.mp e
  rw [h1]
  cases h2
  rfl
@[simp] theorem eq_pierce_pierce : dEq (.str "pierce") (.str "pierce") = some (.bl true) := (dEq_str (by decide +kernel) (by decide +kernel)).trans (congrArg (fun z => some (D.bl z)) (by decide +kernel))
@[simp] theorem ne_pierce_pierce : dNe (.str "pierce") (.str "pierce") = some (.bl false) := by
  have e := eq_pierce_pierce
  unfold dEq at e
  unfold dNe
  obtain ⟨z, h1, h2⟩ := Option.map_eq_some_iff.mp e
  rw [h1]
  cases h2
  rfl
@[simp] theorem eq_pierce_ostro : dEq (.str "pierce") (.str "ostro") = some (.bl false) := (dEq_str (by decide +kernel) (by decide +kernel)).trans (congrArg (fun z => some (D.bl z)) (by decide +kernel))
@[simp] theorem ne_pierce_ostro : dNe (.str "pierce") (.str "ostro") = some (.bl true) := by
  have e := eq_pierce_ostro
  unfold dEq at e
  unfold dNe
  obtain ⟨z, h1, h2⟩ := Option.map_eq_some_iff.mp e
  rw [h1]
  cases h2
  rfl
@[simp] theorem eq_pierce_product : dEq (.str "pierce") (.str "product") = some (.bl false) := (dEq_str (by decide +kernel) (by decide +kernel)).trans (congrArg (fun z => some (D.bl z)) (by decide +kernel))
@[simp] theorem ne_pierce_product : dNe (.str "pierce") (.str "product") = some (.bl true) := by
  have e := eq_pierce_product
  unfold dEq at e
  unfold dNe
  obtain ⟨z, h1, h2⟩ := Option.map_eq_some_iff.mp e
  rw [h1]
  cases h2
  rfl
@[simp] theorem eq_ostro_sylvester : dEq (.str "ostro") (.str "sylvester") = some (.bl false) := (dEq_str (by decide +kernel) (by decide +kernel)).trans (congrArg (fun z => some (D.bl z)) (by decide +kernel))
@[simp] theorem ne_ostro_sylvester : dNe (.str "ostro") (.str "sylvester") = some (.bl true) := by
  have e := eq_ostro_sylvester
  unfold dEq at e
  unfold dNe
  obtain ⟨z, h1, h2⟩ := Option.map_eq_some_iff.mp e
  rw [h1]
  cases h2
  rfl
@[simp] theorem eq_ostro_engel : dEq (.str "ostro") (.str "engel") = some (.bl false) := (dEq_str (by decide +kernel) (by decide +kernel)).trans (congrArg (fun z => some (D.bl z)) (by decide +kernel))
@[simp] theorem ne_ostro_engel : dNe (.str "ostro") (.str "engel") = some (.bl true) := by
  have e := eq_ostro_engel
  unfold dEq at e
  unfold dNe
  obtain ⟨z, h1, h2⟩ := Option.map_eq_some_iff.mp e
  rw [h1]
  cases h2
  rfl
@[simp] theorem eq_ostro_pierce : dEq (.str "ostro") (.str "pierce") = some (.bl false) := (dEq_str (by decide +kernel) (by decide +kernel)).trans (congrArg (fun z => some (D.bl z)) (by decide +kernel))
@[simp] theorem ne_ostro_pierce : dNe (.str "ostro") (.str "pierce") = some (.bl true) := by
  have e := eq_ostro_pierce
  unfold dEq at e
  unfold dNe
  obtain ⟨z, h1, h2⟩ := Option.map_eq_some_iff.mp e
  rw [h1]
  cases h2
  rfl
@[simp] theorem eq_ostro_ostro : dEq (.str "ostro") (.str "ostro") = some (.bl true) := (dEq_str (by decide +kernel) (by decide +kernel)).trans (congrArg (fun z => some (D.bl z)) (by decide +kernel))
@[simp] theorem ne_ostro_ostro : dNe (.str "ostro") (.str "ostro") = some (.bl false) := by
  have e := eq_ostro_ostro
  unfold dEq at e
  unfold dNe
  obtain ⟨z, h1, h2⟩ := Option.map_eq_some_iff.mp e
  rw [h1]
  cases h2
  rfl
@[simp] theorem eq_ostro_product : dEq (.str "ostro") (.str "product") = some (.bl false) := (dEq_str (by decide +kernel) (by decide +kernel)).trans (congrArg (fun z => some (D.bl z)) (by decide +kernel))
@[simp] theorem ne_ostro_product : dNe (.str "ostro") (.str "product") = some (.bl true) := by
  have e := eq_ostro_product
  unfold dEq at e
  unfold dNe
  obtain ⟨z, h1, h2⟩ := Option.map_eq_some_iff.mp e
  rw [h1]
  cases h2
  rfl
@[simp] theorem eq_product_sylvester : dEq (.str "product") (.str "sylvester") = some (.bl false) := (dEq_str (by decide +kernel) (by decide +kernel)).trans (congrArg (fun z => some (D.bl z)) (by decide +kernel))
@[simp] theorem ne_product_sylvester : dNe (.str "product") (.str "sylvester") = some (.bl true) := by
  have e := eq_product_sylvester
  unfold dEq at e
  unfold dNe
  obtain ⟨z, h1, h2⟩ := Option.map_eq_some_iff.mp e
  rw [h1]
  cases h2
  rfl
@[simp] theorem eq_product_engel : dEq (.str "product") (.str "engel") = some (.bl false) := (dEq_str (by decide +kernel) (by decide +kernel)).trans (congrArg (fun z => some (D.bl z)) (by decide +kernel))
@[simp] theorem ne_product_engel : dNe (.str "product") (.str "engel") = some (.bl true) := by
  have e := eq_product_engel
  unfold dEq at e
  unfold dNe
  obtain ⟨z, h1, h2⟩ := Option.map_eq_some_iff.mp e
  rw [h1]
  cases h2
  rfl
@[simp] theorem eq_product_pierce : dEq (.str "product") (.str "pierce") = some (.bl false) := (dEq_str (by decide +kernel) (by decide +kernel)).trans (congrArg (fun z => some (D.bl z)) (by decide +kernel))
@[simp] theorem ne_product_pierce : dNe (.str "product") (.str "pierce") = some (.bl true) := by
  have e := eq_product_pierce
  unfold dEq at e
  unfold dNe
  obtain ⟨z, h1, h2⟩ := Option.map_eq_some_iff.mp e
  rw [h1]
  cases h2
  rfl
@[simp] theorem eq_product_ostro : dEq (.str "product") (.str "ostro") = some (.bl false) := (dEq_str (by decide +kernel) (by decide +kernel)).trans (congrArg (fun z => some (D.bl z)) (by decide +kernel))
@[simp] theorem ne_product_ostro : dNe (.str "product") (.str "ostro") = some (.bl true) := by
  have e := eq_product_ostro
  unfold dEq at e
  unfold dNe
  obtain ⟨z, h1, h2⟩ := Option.map_eq_some_iff.mp e
  rw [h1]
  cases h2
  rfl
@[simp] theorem eq_product_product : dEq (.str "product") (.str "product") = some (.bl true) := (dEq_str (by decide +kernel) (by decide +kernel)).trans (congrArg (fun z => some (D.bl z)) (by decide +kernel))
@[simp] theorem ne_product_product : dNe (.str "product") (.str "product") = some (.bl false) := by
  have e := eq_product_product
  unfold dEq at e
  unfold dNe
  obtain ⟨z, h1, h2⟩ := Option.map_eq_some_iff.mp e
  rw [h1]
  cases h2
  rfl
@[simp] theorem in_sylvester_pierce_ostro : dIn (.str "sylvester") (.tup [.str "pierce", .str "ostro"]) = some (.bl false) := by rfl
@[simp] theorem in_sylvester_engel_pierce : dIn (.str "sylvester") (.tup [.str "engel", .str "pierce"]) = some (.bl false) := by rfl
@[simp] theorem in_sylvester_sylvester_engel : dIn (.str "sylvester") (.tup [.str "sylvester", .str "engel"]) = some (.bl true) := by rfl
@[simp] theorem in_sylvester_sylvester_ostro_product : dIn (.str "sylvester") (.tup [.str "sylvester", .str "ostro", .str "product"]) = some (.bl true) := by rfl
@[simp] theorem inL_sylvester : dNotIn (.str "sylvester") (.tup [.str "sylvester", .str "engel", .str "pierce", .str "ostro", .str "product"]) = some (.bl false) := by rfl
@[simp] theorem in_engel_pierce_ostro : dIn (.str "engel") (.tup [.str "pierce", .str "ostro"]) = some (.bl false) := by rfl
@[simp] theorem in_engel_engel_pierce : dIn (.str "engel") (.tup [.str "engel", .str "pierce"]) = some (.bl true) := by rfl
@[simp] theorem in_engel_sylvester_engel : dIn (.str "engel") (.tup [.str "sylvester", .str "engel"]) = some (.bl true) := by rfl
@[simp] theorem in_engel_sylvester_ostro_product : dIn (.str "engel") (.tup [.str "sylvester", .str "ostro", .str "product"]) = some (.bl false) := by rfl
@[simp] theorem inL_engel : dNotIn (.str "engel") (.tup [.str "sylvester", .str "engel", .str "pierce", .str "ostro", .str "product"]) = some (.bl false) := by rfl
@[simp] theorem in_pierce_pierce_ostro : dIn (.str "pierce") (.tup [.str "pierce", .str "ostro"]) = some (.bl true) := by rfl
@[simp] theorem in_pierce_engel_pierce : dIn (.str "pierce") (.tup [.str "engel", .str "pierce"]) = some (.bl true) := by rfl
@[simp] theorem in_pierce_sylvester_engel : dIn (.str "pierce") (.tup [.str "sylvester", .str "engel"]) = some (.bl false) := by rfl
@[simp] theorem in_pierce_sylvester_ostro_product : dIn (.str "pierce") (.tup [.str "sylvester", .str "ostro", .str "product"]) = some (.bl false) := by rfl
@[simp] theorem inL_pierce : dNotIn (.str "pierce") (.tup [.str "sylvester", .str "engel", .str "pierce", .str "ostro", .str "product"]) = some (.bl false) := by rfl
@[simp] theorem in_ostro_pierce_ostro : dIn (.str "ostro") (.tup [.str "pierce", .str "ostro"]) = some (.bl true) := by rfl
@[simp] theorem in_ostro_engel_pierce : dIn (.str "ostro") (.tup [.str "engel", .str "pierce"]) = some (.bl false) := by rfl
@[simp] theorem in_ostro_sylvester_engel : dIn (.str "ostro") (.tup [.str "sylvester", .str "engel"]) = some (.bl false) := by rfl
@[simp] theorem in_ostro_sylvester_ostro_product : dIn (.str "ostro") (.tup [.str "sylvester", .str "ostro", .str "product"]) = some (.bl true) := by rfl
@[simp] theorem inL_ostro : dNotIn (.str "ostro") (.tup [.str "sylvester", .str "engel", .str "pierce", .str "ostro", .str "product"]) = some (.bl false) := by rfl
@[simp] theorem in_product_pierce_ostro : dIn (.str "product") (.tup [.str "pierce", .str "ostro"]) = some (.bl false) := by rfl
@[simp] theorem in_product_engel_pierce : dIn (.str "product") (.tup [.str "engel", .str "pierce"]) = some (.bl false) := by rfl
@[simp] theorem in_product_sylvester_engel : dIn (.str "product") (.tup [.str "sylvester", .str "engel"]) = some (.bl false) := by rfl
@[simp] theorem in_product_sylvester_ostro_product : dIn (.str "product") (.tup [.str "sylvester", .str "ostro", .str "product"]) = some (.bl true) := by rfl
@[simp] theorem inL_product : dNotIn (.str "product") (.tup [.str "sylvester", .str "engel", .str "pierce", .str "ostro", .str "product"]) = some (.bl false) := by rfl
theorem rng_int {m : Int} (h0 : 0 ≤ m) (h : m < 2 ^ 60) : rngP [.int m] = some (rangeL 0 m.toNat) := by
  have c : -(2 ^ 62) ≤ m ∧ m < 2 ^ 62 := by omega
  rw [rngP_1, if_pos c]
end Pw
namespace Pw
open PySem PySem.Spec PyProof.Rows L2 RZ
theorem take_ok {m : Int} (hm : 0 < m) (hm2 : m < 2 ^ 64) {n : Nat} {st : Sto} (h : Tin n st) (hn : n < 2 ^ 40) : ∃ r st', F_l_take [.cell 0, .int m] st = some (.ok (.int r), st') ∧ 0 ≤ r ∧ r < m ∧ Tin (n + 1) st' := by
  obtain ⟨a, b, c, rfl, h1, h2, h3, h4, h5⟩ := h
  have hm0 : m ≠ 0 := by omega
  have d1 : ∀ x : Int, CDivA x m := fun x => cdiv64 hm0 (by omega)
  have d2 : ∀ x : Int, CDivA x 1000003 := fun x => cdiv64 (by decide) (by decide)
  have d3 : ∀ x : Int, CDivA x 64 := fun x => cdiv64 (by decide) (by decide)
  by_cases ha : 0 < a
  · refine ⟨a.fmod m, [.lst [.int (a.fdiv m), .int b, .int c]], ?_, fmod_nn _ hm, Int.fmod_lt_of_pos _ hm, _, _, _, rfl, ?_, h2, h3, h4, by omega⟩
    · simp [F_l_take_eq, b_l_take, ha, dMod_int, dFdiv_int, hm0, d1]
    · rw [Int.fdiv_eq_ediv_of_nonneg _ (by omega)]
      exact Int.ediv_nonneg h1 (by omega)
  · have e1 : IntMulOk 48271 (c + 1) := mulL (by decide)
    have e2 : ∀ x : Int, IntMulOk x (39373 + (c + 1)) := fun x => mulR (by omega)
    have e3 : ∀ x y : Int, IntMulOk x (y.fmod 40009 + 7) := fun x y => mulR (by
      have := Int.fmod_lt_of_pos y (b := 40009) (by decide)
      have := fmod_nn y (b := 40009) (by decide)
      omega)
    have e4 : ∀ x : Int, IntMulOk x 48271 := fun x => mulR (by decide)
    have key : ∃ x : Int, F_l_take [.cell 0, .int m] [.lst [.int a, .int b, .int c]] = some (.ok (.int (x.fmod m)), [.lst [.int a, .int b, .int (c + 1)]]) := by
      refine ⟨?x, ?_⟩
      rotate_left
      · simp [F_l_take_eq, b_l_take, ha, dMod_int, dFdiv_int, hm0, d1, d2, d3, dMul_int, e1, e2, e3, e4]
        rfl
    obtain ⟨x, key⟩ := key
    exact ⟨_, _, key, fmod_nn _ hm, Int.fmod_lt_of_pos _ hm, _, _, _, rfl, h1, h2, h3, by omega, by omega⟩
theorem of_ok {l : List D} {n : Nat} {st : Sto} (h : Tin n st) (hn : n < 2 ^ 40) (hl : l ≠ []) (hl2 : l.length < 2 ^ 40) : ∃ d st', d ∈ l ∧ F_l_of [.cell 0, .lst l] st = some (.ok d, st') ∧ Tin (n + 1) st' := by
  have h0 : 0 < l.length := List.length_pos_iff.mpr hl
  obtain ⟨r, st', e, h1, h2, h3⟩ := take_ok (m := (l.length : Int)) (by omega) (by omega) h hn
  obtain ⟨d, hd, e2⟩ := atI_mem h1 h2
  refine ⟨d, st', hd, ?_, h3⟩
  simp [F_l_of_eq, b_l_of, e, e2]
theorem of_okT {l : List D} {n : Nat} {st : Sto} (h : Tin n st) (hn : n < 2 ^ 40) (hl : l ≠ []) (hl2 : l.length < 2 ^ 40) : ∃ d st', d ∈ l ∧ F_l_of [.cell 0, .tup l] st = some (.ok d, st') ∧ Tin (n + 1) st' := by
  have h0 : 0 < l.length := List.length_pos_iff.mpr hl
  obtain ⟨r, st', e, h1, h2, h3⟩ := take_ok (m := (l.length : Int)) (by omega) (by omega) h hn
  obtain ⟨d, hd, e2⟩ := atI_mem h1 h2
  refine ⟨d, st', hd, ?_, h3⟩
  simp [F_l_of_eq, b_l_of, e, e2]
end Pw
namespace Pw
open PySem PySem.Spec PyProof.Rows L2 RZ
theorem cut1 (ns : List Int) : cutL ns none (some 1) = ns.take 1 := by
  unfold cutL
  simp [HT.sIx]
theorem cells_ok {ns : List Int} (h : ns.length ≤ 63) (st : Sto) : ∃ c : Int, F_l_cells [.scr ns, .int 1] st = some (.ok (.lst [.int c]), st) := by
  have e0 : ∃ c0 : Int, mOrL (mCB fList (mCons (mCut (mVar 0) mNoP (mPart (mVar 1))) mNil)) (mLst (mCons (mLit (.int 0)) mNil)) [some (.scr ns), some (.int 1), none, none, none, none] st = some (.ok (.lst [.int c0]), st) := by
    cases ns with
    | nil => exact ⟨0, by simp [cut1, sl]⟩
    | cons a r => exact ⟨a, by simp [cut1]⟩
  obtain ⟨c0, e0⟩ := e0
  have lp := forL_inv (g := gT [gV 3, gV 4]) (body := sSeq (sSet 5 (mBin dMod (mCB fIntB (mCons (mVar 3) mNil)) (mVar 1))) (sStO 2 (mVar 5) (mBin dAdd (mIdx (mVar 2) (mVar 5)) (mBin dMul (mVar 4) (mBin dAdd (mVar 3) (mLit (.int 2)))))))
    (fun env s => s = st ∧ ∃ c x y z, env = [some (.scr ns), some (.int 1), some (.lst [.int c]), x, y, z]) (ds := enumL 0 ((cutL ns (some 1) (some 63)).map .int)) (env := [some (.scr ns), some (.int 1), some (.lst [.int c0]), none, none, none]) (st := st) ?_ ⟨rfl, c0, none, none, none, rfl⟩
  · obtain ⟨env2, st2, e, rfl, c, x, y, z, rfl⟩ := lp
    refine ⟨c, ?_⟩
    simp only [F_l_cells_eq, b_l_cells, fnSem_ap]
    simp only [sSeq_ap, sOwn_ap, List.map_cons, List.map_nil, List.length_cons, List.length_nil]
    simp [-mOrL_ap, -mCB_ap, -mCut_ap, e0]
    simp [e]
  · rintro d hd env s ⟨rfl, c, x, y, z, rfl⟩
    obtain ⟨i, v, hi, hv, rfl⟩ := enumL_mem hd
    obtain ⟨b, _, rfl⟩ := List.mem_map.mp hv
    have hl : (cutL ns (some 1) (some 63)).length ≤ 63 := Nat.le_trans (cut_len _ _ _) h
    rw [List.length_map] at hi
    have k1 : IntMulOk b ((i : Int) + 2) := mulR (by omega)
    have k0 : ((i : Int)).fmod 1 = ((0 : Nat) : Int) := by simp
    refine ⟨[some (.scr ns), some (.int 1), some (.lst [.int c]), some (.int (0 + (i : Int))), some (.int b), z], by simp, ?_⟩
    refine ⟨[some (.scr ns), some (.int 1), some (.lst [.int (c + b * ((i : Int) + 2))]), some (.int (0 + (i : Int))), some (.int b), some (.int 0)], s, .inl ?_, rfl, _, _, _, _, rfl⟩
    simp [dMod_int, dMul_int, k1]
    exact stoP_at (j := 0) (l := [.int c]) rfl (Nat.lt_succ_self 0)
theorem box_ok (c : Int) (st : Sto) : ∃ a b : Int, F_l_box [.lst [.int c], .int 0] st = some (.ok (.lst [.int a, .int b, .int 0]), st) ∧ 0 ≤ a ∧ 0 ≤ b ∧ b < 2 ^ 62 := by
  have p1 : dPow (.int 10) (.int 18) = some (.int 1000000000000000000) := (dPow_int (by decide +kernel)).trans (congrArg (fun z => some (D.int z)) (by decide +kernel))
  have k1 : ∀ x : Int, IntMulOk x (if (1000000000000000000 : Int) ≤ (if c < 0 then -c else c) then 1 else 0) := fun x => mulR (by
    generalize (if c < 0 then -c else c) = z
    split <;> decide)
  have k2 : IntMulOk 39373 0 := mulR (by decide)
  have h0 := fmod_nn c (b := 2305843009213693951) (by decide)
  have h1 := Int.fmod_lt_of_pos c (b := 2305843009213693951) (by decide)
  refine ⟨(if c < 0 then -c else c) * (if (1000000000000000000 : Int) ≤ (if c < 0 then -c else c) then 1 else 0), c.fmod 2305843009213693951 + 26290031, ?_, ?_, by omega, by omega⟩
  · simp [F_l_box_eq, b_l_box, p1, dMul_int, dMod_int, k1, k2, sl]
  · split <;> split <;> omega
theorem start_ok {ns : List Int} (h : ns.length ≤ 63) {env : Env} (he : env[0]? = some (some (.scr ns))) : ∃ a b : Int, (mCall F_l_box 2 (mCons (mCall F_l_cells 2 (mCons (mVar 0) (mCons (mLit (.int 1)) mNil))) (mCons (mLit (.int 0)) mNil))) env [] = some (.ok (.lst [.int a, .int b, .int 0]), []) ∧ Tin 0 [.lst [.int a, .int b, .int 0]] := by
  obtain ⟨c, e1⟩ := cells_ok h []
  obtain ⟨a, b, e2, h1, h2, h3⟩ := box_ok c []
  exact ⟨a, b, by simp [he, e1, e2], a, b, 0, rfl, h1, h2, h3, by omega, by omega⟩
end Pw
namespace Pw
open PySem PySem.Spec PyProof.Rows L2 RZ
theorem common_loop (st : Sto) : ∀ (k N a b : Nat), b < 2 ^ k → 2 * k + 1 ≤ N →
    whileF (mTst (mBin dNe (mVar 1) (mLit (.int 0)))) (sPar [0, 1] (mCons (mVar 1) (mCons (mBin dMod (mVar 0) (mVar 1)) mNil))) N [some (.int (a : Int)), some (.int (b : Int))] st = some (.nx [some (.int ((Nat.gcd a b : Nat) : Int)), some (.int 0)], st) := by
  have stop : ∀ (N a : Nat), 1 ≤ N → whileF (mTst (mBin dNe (mVar 1) (mLit (.int 0)))) (sPar [0, 1] (mCons (mVar 1) (mCons (mBin dMod (mVar 0) (mVar 1)) mNil))) N [some (.int (a : Int)), some (.int ((0 : Nat) : Int))] st = some (.nx [some (.int ((Nat.gcd a 0 : Nat) : Int)), some (.int 0)], st) := fun N a hN => by
    obtain ⟨M, rfl⟩ : ∃ M, N = M + 1 := ⟨N - 1, by omega⟩
    rw [wh_stop (st1 := st) (by simp), Nat.gcd_zero_right]
    rfl
  have step : ∀ (N a b : Nat), 0 < b → whileF (mTst (mBin dNe (mVar 1) (mLit (.int 0)))) (sPar [0, 1] (mCons (mVar 1) (mCons (mBin dMod (mVar 0) (mVar 1)) mNil))) (N + 1) [some (.int (a : Int)), some (.int (b : Int))] st = whileF (mTst (mBin dNe (mVar 1) (mLit (.int 0)))) (sPar [0, 1] (mCons (mVar 1) (mCons (mBin dMod (mVar 0) (mVar 1)) mNil))) N [some (.int (b : Int)), some (.int ((a % b : Nat) : Int))] st := fun N a b hb => by
    have hb0 : (b : Int) ≠ 0 := by omega
    have hb1 : b ≠ 0 := by omega
    refine wh_step (st1 := st) (st2 := st) (by simp; omega) ?_
    simp [dMod_int, hb0, hb1, fmod_nat]
  intro k
  induction k with
  | zero =>
    intro N a b hb hN
    have e : b = 0 := by simpa using hb
    subst e
    exact stop N a (by omega)
  | succ k ih =>
    intro N a b hb hN
    rcases Nat.eq_zero_or_pos b with rfl | h0
    · exact stop N a (by omega)
    · obtain ⟨M, rfl⟩ : ∃ M, N = M + 1 := ⟨N - 1, by omega⟩
      rw [step M a b h0, gcd_step]
      rcases Nat.eq_zero_or_pos (a % b) with e | h1
      · rw [e]
        exact stop M b (by omega)
      · obtain ⟨L, rfl⟩ : ∃ L, M = L + 1 := ⟨M - 1, by omega⟩
        rw [step L b (a % b) h1, gcd_step]
        refine ih L _ _ ?_ (by omega)
        have := half_mod h0 h1
        rw [Nat.pow_succ] at hb
        omega
theorem common_ok {a b : Int} {k : Nat} (hb : b.natAbs < 2 ^ k) (hk : k ≤ 2 ^ 40) (st : Sto) : F_common [.int a, .int b] st = some (.ok (.int ((Int.gcd a b : Nat) : Int)), st) := by
  have e := common_loop st k manyTurns a.natAbs b.natAbs hb (by unfold manyTurns; omega)
  simp [F_common_eq, b_common, abs_nat, e, -mTst_ap]
  rfl
theorem lcommon_loop (st : Sto) : ∀ (k n a b : Nat) (lo : Int) (z : Option D), b < 2 ^ k → 2 * k + 1 ≤ n → ∃ z',
    forL (gV 2) (sSeq (sIf (mTst (mBin dEq (mVar 1) (mLit (.int 0)))) sBreak sNext) (sPar [0, 1] (mCons (mVar 1) (mCons (mBin dMod (mVar 0) (mVar 1)) mNil)))) (rangeL lo n) [some (.int (a : Int)), some (.int (b : Int)), z] st = some (.nx [some (.int ((Nat.gcd a b : Nat) : Int)), some (.int 0), z'], st) := by
  have stop : ∀ (n a : Nat) (lo : Int) (z : Option D), 1 ≤ n → ∃ z', forL (gV 2) (sSeq (sIf (mTst (mBin dEq (mVar 1) (mLit (.int 0)))) sBreak sNext) (sPar [0, 1] (mCons (mVar 1) (mCons (mBin dMod (mVar 0) (mVar 1)) mNil)))) (rangeL lo n) [some (.int (a : Int)), some (.int ((0 : Nat) : Int)), z] st = some (.nx [some (.int ((Nat.gcd a 0 : Nat) : Int)), some (.int 0), z'], st) := fun n a lo z hn => by
    obtain ⟨m, rfl⟩ : ∃ m, n = m + 1 := ⟨n - 1, by omega⟩
    refine ⟨some (.int lo), ?_⟩
    unfold rangeL
    rw [for_brk (env' := [some (.int (a : Int)), some (.int ((0 : Nat) : Int)), some (.int lo)]) (by simp) (by simp; exact ⟨rfl, rfl⟩), Nat.gcd_zero_right]
  have step : ∀ (n a b : Nat) (lo : Int) (z : Option D), 0 < b → forL (gV 2) (sSeq (sIf (mTst (mBin dEq (mVar 1) (mLit (.int 0)))) sBreak sNext) (sPar [0, 1] (mCons (mVar 1) (mCons (mBin dMod (mVar 0) (mVar 1)) mNil)))) (rangeL lo (n + 1)) [some (.int (a : Int)), some (.int (b : Int)), z] st = forL (gV 2) (sSeq (sIf (mTst (mBin dEq (mVar 1) (mLit (.int 0)))) sBreak sNext) (sPar [0, 1] (mCons (mVar 1) (mCons (mBin dMod (mVar 0) (mVar 1)) mNil)))) (rangeL (lo + 1) n) [some (.int (b : Int)), some (.int ((a % b : Nat) : Int)), some (.int lo)] st := fun n a b lo z hb => by
    have hb0 : (b : Int) ≠ 0 := by omega
    have hb1 : b ≠ 0 := by omega
    show forL _ _ (.int lo :: rangeL (lo + 1) n) _ _ = _
    refine for_step (env' := [some (.int (a : Int)), some (.int (b : Int)), some (.int lo)]) (by simp) ?_
    simp [dMod_int, hb0, hb1, fmod_nat]
  intro k
  induction k with
  | zero =>
    intro n a b lo z hb hN
    have e : b = 0 := by simpa using hb
    subst e
    exact stop n a lo z (by omega)
  | succ k ih =>
    intro n a b lo z hb hN
    rcases Nat.eq_zero_or_pos b with rfl | h0
    · exact stop n a lo z (by omega)
    · obtain ⟨m, rfl⟩ : ∃ m, n = m + 1 := ⟨n - 1, by omega⟩
      rw [step m a b lo z h0, gcd_step]
      rcases Nat.eq_zero_or_pos (a % b) with e | h1
      · rw [e]
        exact stop m b _ _ (by omega)
      · obtain ⟨l, rfl⟩ : ∃ l, m = l + 1 := ⟨m - 1, by omega⟩
        rw [step l b (a % b) _ _ h1, gcd_step]
        refine ih l _ _ _ _ ?_ (by omega)
        have := half_mod h0 h1
        rw [Nat.pow_succ] at hb
        omega
theorem lcommon_ok {a b : Int} {k : Nat} (hb : b.natAbs < 2 ^ k) (hk : k ≤ 49000) (st : Sto) : F_l_common [.int a, .int b] st = some (.ok (.int (if (Int.gcd a b) = 0 then 1 else ((Int.gcd a b : Nat) : Int))), st) := by
  obtain ⟨z, e⟩ := lcommon_loop st k 99999 a.natAbs b.natAbs 0 none hb (by omega)
  have e2 : Int.gcd a b = Nat.gcd a.natAbs b.natAbs := rfl
  rw [e2]
  generalize Nat.gcd a.natAbs b.natAbs = g at e
  simp [F_l_common_eq, b_l_common, abs_nat, e, -mTst_ap]
  by_cases h : g = 0
  · simp [h]
  · have h2 : 0 < g := by omega
    simp [h, h2]
end Pw
namespace Pw
open PySem PySem.Spec PyProof.Rows L2 RZ
theorem same_seq {Fr : FSem} {l : List D} {st : Sto} {env : Env} {x : D} (hx : x = .lst l ∨ x = .tup l) (he : ∃ a b c d, env = [a, b, c, d]) (hl : l.length < 2 ^ 20) (h : ∀ y ∈ l, Fr [y, y] st = some (.ok (.bl true), st)) (h0 : env[0]? = some (some x)) (h1 : env[1]? = some (some x)) :
    mLc [2, 3] (mZip (mCons (mVar 0) (mCons (mVar 1) mNil))) (gT [(gV 2), (gV 3)]) mYes (mCall Fr 2 (mCons (mVar 2) (mCons (mVar 3) mNil))) env st = some (.ok (.lst (l.map fun _ => .bl true)), st) := by
  obtain ⟨a, b, c, d, rfl⟩ := he
  have ha : a = some x := by simpa using h0
  have hb : b = some x := by simpa using h1
  subst ha hb
  refine mLc_ok (ds := zipL l l) (st1 := st) ?_ (l := l.map fun _ => .bl true) ?_ (by rw [List.length_map, sl]; omega)
  · rcases hx with rfl | rfl <;> simp
  · have e := lcL_map (env := wipeE [some x, some x, c, d] [2, 3]) (st := st) (g := gT [gV 2, gV 3]) (mt := mYes) (me := mCall Fr 2 (mCons (mVar 2) (mCons (mVar 3) mNil))) (fun _ => D.bl true) (ds := zipL l l) fun y hy => by
      rw [zipL_self] at hy
      obtain ⟨z, hz, rfl⟩ := List.mem_map.mp hy
      exact ⟨[some x, some x, some z, some z], by simp [wipeE], by simp, by simp [h z hz]⟩
    rw [e, zipL_self, List.map_map]
    rfl
theorem same_ok (st : Sto) : ∀ (n : Nat) (d : D), Pl n d → Ft_l_same n [d, d] st = some (.ok (.bl true), st)
  | 0, _, h => h.elim
  | n + 1, d, h => by
    have ih := same_ok st n
    cases d with
    | non => simp [Ft_l_same, b_l_same, D.tn, Tn.sub, D.isN]
    | bl b => simp [Ft_l_same, b_l_same, D.tn, Tn.sub, D.isN]
    | int i => simp [Ft_l_same, b_l_same, D.tn, Tn.sub, D.isN]
    | str s => simp [Ft_l_same, b_l_same, D.tn, Tn.sub, D.isN, dEq_str (a := s) (b := s) h h]
    | tup l =>
      have hs := same_seq (Fr := Ft_l_same n) (l := l) (st := st) (env := [some (.tup l), some (.tup l), none, none]) (.inr rfl) ⟨_, _, _, _, rfl⟩ h.1 (fun y hy => ih y (h.2 y hy)) rfl rfl
      simp [Ft_l_same, b_l_same, D.tn, Tn.sub, hs, fAll_true]
    | lst l =>
      have hs := same_seq (Fr := Ft_l_same n) (l := l) (st := st) (env := [some (.lst l), some (.lst l), none, none]) (.inl rfl) ⟨_, _, _, _, rfl⟩ h.1 (fun y hy => ih y (h.2 y hy)) rfl rfl
      simp [Ft_l_same, b_l_same, D.tn, Tn.sub, hs, fAll_true]
    | fn _ => exact h.elim
    | cell _ => exact h.elim
    | scr _ => exact h.elim
    | dK _ => exact h.elim
    | dT _ => exact h.elim
theorem same20 {d : D} (h : Pl 20 d) (st : Sto) : F_l_same [d, d] st = some (.ok (.bl true), st) := by
  rw [F_l_same_eq]
  exact same_ok st 20 d h
/-! lists become tuples -/
theorem tupled_seq {n : Nat} {l : List D} {x : D} {st : Sto} (ih : ∀ d, Pl n d → Ft_tupled n [d] st = some (.ok (tupD d), st)) (hx : x = .lst l ∨ x = .tup l) (hl : l.length < 2 ^ 20) (hp : ∀ d ∈ l, Pl n d) : Ft_tupled (n + 1) [x] st = some (.ok (.tup (tupL l)), st) := by
  have e : mLc [1] (mItA (mVar 0)) (gV 1) mYes (mCall (Ft_tupled n) 1 (mCons (mVar 1) mNil)) [some x, none] st = some (.ok (.lst (tupL l)), st) := by
    rw [tupL_map]
    have e := lcL_m (env := wipeE [some x, none] [1]) (st := st) (g := gV 1) (me := mCall (Ft_tupled n) 1 (mCons (mVar 1) mNil)) id tupD (xs := l) fun y hy => ⟨[some x, some y], by simp [wipeE], by simp [ih y (hp y hy)]⟩
    rw [List.map_id] at e
    exact mLc_ok (ds := l) (st1 := st) (by rcases hx with rfl | rfl <;> simp) e (by rw [List.length_map, sl]; omega)
  have ht : x.tn = some .lst ∨ x.tn = some .tup := by rcases hx with rfl | rfl <;> simp [D.tn]
  show fnSem 1 2 (b_tupled (Ft_tupled n)) [x] st = _
  rcases ht with ht | ht <;> simp [b_tupled, ht, Tn.sub, e]
theorem tupled_n (st : Sto) : ∀ (n : Nat) (d : D), Pl n d → Ft_tupled n [d] st = some (.ok (tupD d), st)
  | 0, _, h => h.elim
  | n + 1, d, h => by
    have ih := tupled_n st n
    cases d with
    | non => simp [Ft_tupled, b_tupled, D.tn, Tn.sub, tupD]
    | bl b => simp [Ft_tupled, b_tupled, D.tn, Tn.sub, tupD]
    | int i => simp [Ft_tupled, b_tupled, D.tn, Tn.sub, tupD]
    | str s => simp [Ft_tupled, b_tupled, D.tn, Tn.sub, tupD]
    | tup l => exact tupled_seq ih (.inr rfl) h.1 h.2
    | lst l => exact tupled_seq ih (.inl rfl) h.1 h.2
    | fn _ => exact h.elim
    | cell _ => exact h.elim
    | scr _ => exact h.elim
    | dK _ => exact h.elim
    | dT _ => exact h.elim
theorem tupled_ok {d : D} (h : Pl 20 d) (st : Sto) : F_tupled [d] st = some (.ok (tupD d), st) := by
  rw [F_tupled_eq]
  exact tupled_n st 20 d h
end Pw
namespace Pw
open PySem PySem.Spec PyProof.Rows L2 RZ
/-! lists in the place of tuples, drawn -/
theorem mixed_lc {n : Nat} (ih : ∀ (d : D) (k : Nat) (st : Sto), Pl n d → Tin k st → k + cntD d < 2 ^ 40 → ∃ d' st', Ft_l_mixed n [.cell 0, d] st = some (.ok d', st') ∧ tupD d' = tupD d ∧ Pl n d' ∧ Tin (k + cntD d) st') (a b c : Option D) :
    ∀ (l : List D) (k : Nat) (st : Sto), (∀ d ∈ l, Pl n d) → Tin k st → k + cntL l < 2 ^ 40 → ∃ l' st', lcL [some (.cell 0), a, b, c] (gV 3) mYes (mCall (Ft_l_mixed n) 2 (mCons (mVar 0) (mCons (mVar 3) mNil))) l st = some (l', st') ∧ tupL l' = tupL l ∧ (∀ d ∈ l', Pl n d) ∧ l'.length = l.length ∧ Tin (k + cntL l) st'
  | [], k, st, _, h, _ => ⟨[], st, rfl, rfl, fun _ h => (nomatch h), rfl, h⟩
  | d :: r, k, st, hp, h, hk => by
    have hc : cntL (d :: r) = cntD d + cntL r := rfl
    rw [hc] at hk
    obtain ⟨d', st1, e1, e2, e3, t1⟩ := ih d k st (hp d List.mem_cons_self) h (by omega)
    obtain ⟨l', st2, f1, f2, f3, f4, t2⟩ := mixed_lc ih a b c r (k + cntD d) st1 (fun x hx => hp x (List.mem_cons_of_mem _ hx)) t1 (by omega)
    refine ⟨d' :: l', st2, ?_, ?_, ?_, ?_, ?_⟩
    · have g1 : mCall (Ft_l_mixed n) 2 (mCons (mVar 0) (mCons (mVar 3) mNil)) [some (.cell 0), a, b, some d] st = some (.ok d', st1) := by simp [e1]
      have g2 : gV 3 d [some (.cell 0), a, b, c] = some [some (.cell 0), a, b, some d] := by simp
      unfold lcL
      simp only [g2, g1, mYes, f1]
    · show tupD d' :: tupL l' = tupD d :: tupL r
      rw [e2, f2]
    · intro x hx
      rcases List.mem_cons.mp hx with rfl | hx
      · exact e3
      · exact f3 x hx
    · rw [List.length_cons, List.length_cons, f4]
    · rw [hc, show k + (cntD d + cntL r) = k + cntD d + cntL r by omega]
      exact t2
theorem mixed_seq {n : Nat} (ih : ∀ (d : D) (k : Nat) (st : Sto), Pl n d → Tin k st → k + cntD d < 2 ^ 40 → ∃ d' st', Ft_l_mixed n [.cell 0, d] st = some (.ok d', st') ∧ tupD d' = tupD d ∧ Pl n d' ∧ Tin (k + cntD d) st')
    {l : List D} {x : D} {k : Nat} {st : Sto} (hx : x = .lst l ∨ x = .tup l) (hl : l.length < 2 ^ 20) (hp : ∀ d ∈ l, Pl n d) (h : Tin k st) (hk : k + (cntL l + 1) < 2 ^ 40) :
    ∃ d' st', Ft_l_mixed (n + 1) [.cell 0, x] st = some (.ok d', st') ∧ tupD d' = .tup (tupL l) ∧ Pl (n + 1) d' ∧ Tin (k + (cntL l + 1)) st' := by
  obtain ⟨l', st1, f1, f2, f3, f4, t1⟩ := mixed_lc ih (some x) none none l k st hp h (by omega)
  obtain ⟨r, st2, e1, h1, h2, t2⟩ := take_ok (m := 2) (by decide) (by decide) t1 (by omega)
  have e : mLc [3] (mItA (mVar 1)) (gV 3) mYes (mCall (Ft_l_mixed n) 2 (mCons (mVar 0) (mCons (mVar 3) mNil))) [some (.cell 0), some x, none, none] st = some (.ok (.lst l'), st1) :=
    mLc_ok (ds := l) (st1 := st) (by rcases hx with rfl | rfl <;> simp) f1 (by rw [f4, sl]; omega)
  have ht : x.tn = some .lst ∨ x.tn = some .tup := by rcases hx with rfl | rfl <;> simp [D.tn]
  by_cases hr : r = 0
  · refine ⟨.lst l', st2, ?_, by show D.tup (tupL l') = _; rw [f2], ⟨by rw [f4]; exact hl, f3⟩, by rw [show k + (cntL l + 1) = k + cntL l + 1 by omega]; exact t2⟩
    show fnSem 2 4 (b_l_mixed (Ft_l_mixed n)) [_, _] st = _
    rcases ht with ht | ht <;> simp [b_l_mixed, ht, Tn.sub, e, e1, hr]
  · refine ⟨.tup l', st2, ?_, by show D.tup (tupL l') = _; rw [f2], ⟨by rw [f4]; exact hl, f3⟩, by rw [show k + (cntL l + 1) = k + cntL l + 1 by omega]; exact t2⟩
    show fnSem 2 4 (b_l_mixed (Ft_l_mixed n)) [_, _] st = _
    rcases ht with ht | ht <;> simp [b_l_mixed, ht, Tn.sub, e, e1, hr]
theorem mixed_n : ∀ (n : Nat) (d : D) (k : Nat) (st : Sto), Pl n d → Tin k st → k + cntD d < 2 ^ 40 → ∃ d' st', Ft_l_mixed n [.cell 0, d] st = some (.ok d', st') ∧ tupD d' = tupD d ∧ Pl n d' ∧ Tin (k + cntD d) st'
  | 0, _, _, _, h, _, _ => h.elim
  | n + 1, d, k, st, h, t, hk => by
    have ih := mixed_n n
    cases d with
    | non => exact ⟨_, st, by simp [Ft_l_mixed, b_l_mixed, D.tn, Tn.sub], rfl, trivial, t⟩
    | bl b => exact ⟨_, st, by simp [Ft_l_mixed, b_l_mixed, D.tn, Tn.sub], rfl, trivial, t⟩
    | int i => exact ⟨_, st, by simp [Ft_l_mixed, b_l_mixed, D.tn, Tn.sub], rfl, trivial, t⟩
    | str s => exact ⟨_, st, by simp [Ft_l_mixed, b_l_mixed, D.tn, Tn.sub], rfl, h, t⟩
    | tup l => exact mixed_seq ih (.inr rfl) h.1 h.2 t hk
    | lst l => exact mixed_seq ih (.inl rfl) h.1 h.2 t hk
    | fn _ => exact h.elim
    | cell _ => exact h.elim
    | scr _ => exact h.elim
    | dK _ => exact h.elim
    | dT _ => exact h.elim
theorem mixed_ok {d : D} (h : Pl 20 d) {k : Nat} {st : Sto} (t : Tin k st) (hk : k + cntD d < 2 ^ 40) : ∃ d' st', F_l_mixed [.cell 0, d] st = some (.ok d', st') ∧ tupD d' = tupD d ∧ Pl 20 d' ∧ Tin (k + cntD d) st' := by
  rw [F_l_mixed_eq]
  exact mixed_n 20 d k st h t hk
end Pw
namespace Pw
open PySem PySem.Spec PyProof.Rows L2 RZ
theorem number_ok (a : Int) (st : Sto) : F_is_number [.int a] st = some (.ok (.bl true), st) := by
  simp [F_is_number_eq, b_is_number, D.tn, Tn.sub]
theorem numbers_ok {l : List Int} (hl : l.length < 2 ^ 20) (st : Sto) : F_are_numbers [.tup (l.map .int)] st = some (.ok (.bl true), st) := by
  have e : mLc [1] (mItA (mVar 0)) (gV 1) mYes (mCall F_is_number 1 (mCons (mVar 1) mNil)) [some (.tup (l.map .int)), none] st = some (.ok (.lst (l.map fun _ => .bl true)), st) := by
    refine mLc_ok (ds := l.map .int) (st1 := st) (by simp) (lcL_m D.int (fun _ => .bl true) fun i hi => ?_) (by rw [List.length_map, sl]; omega)
    exact ⟨[some (.tup (l.map .int)), some (.int i)], by simp [wipeE], by simp [number_ok]⟩
  have f := fAll_true l
  simp [F_are_numbers_eq, b_are_numbers, D.tn, Tn.sub, e, f]
theorem long_ok {l : List D} {n : Int} (st : Sto) : F_is_long [.tup l, .int n] st = some (.ok (.bl (decide ((l.length : Int) = n))), st) := by
  simp [F_is_long_eq, b_is_long, D.tn, Tn.sub]
theorem near_ok {k : Int} (h0 : 0 ≤ k) (h : k ≤ 4000) (a : Int) (st : Sto) : F_is_near [.int a, .int k] st = some (.ok (.bl (decide (a.natAbs < 10 ^ k.toNat))), st) := by
  obtain ⟨s, t, h1, h2, h3⟩ := ten_text h0 h
  have e : decide ((if a < 0 then -a else a) < ((10 ^ k.toNat : Nat) : Int)) = decide (a.natAbs < 10 ^ k.toNat) := by
    congr 1
    apply propext
    generalize 10 ^ k.toNat = N
    split <;> omega
  simp [F_is_near_eq, b_is_near, h1, h2, h3]
  simp at e
  exact e
theorem fraction_in_ok {p : Int × Int} {k : Nat} (h2 : p.2.natAbs < 2 ^ k) (hk : k ≤ 2 ^ 40) (st : Sto) : F_is_fraction_in [pairD p] st = some (.ok (.bl (decide (0 < p.2) && decide (Int.gcd p.1 p.2 = 1))), st) := by
  have e1 := numbers_ok (l := [p.1, p.2]) (by simp) st
  have e2 := common_ok (a := p.1) (b := p.2) (k := k) h2 hk st
  simp only [List.map_cons, List.map_nil] at e1
  by_cases hb : 0 < p.2 <;> simp [F_is_fraction_in_eq, b_is_fraction_in, pairD, long_ok, e1, e2, hb]
  omega
theorem near_yes {a k : Int} {n : Nat} (hk : k = n) (h : n ≤ 4000) (h2 : a.natAbs < 10 ^ n) (st : Sto) : F_is_near [.int a, .int k] st = some (.ok (.bl true), st) := by
  subst hk
  have e := near_ok (k := (n : Int)) (by omega) (by omega) a st
  rw [Int.toNat_natCast, decide_eq_true h2] at e
  exact e
theorem near_pair {Fn : FSem} {p : Int × Int} {x : D} (st : Sto) (h1 : Fn [.int p.1, .int 300] st = some (.ok (.bl true), st)) (h2 : Fn [.int p.2, .int 300] st = some (.ok (.bl true), st)) : mLc [2] (mItA (mVar 1)) (gV 2) mYes (mCall Fn 2 (mCons (mVar 2) (mCons (mLit (.int 300)) mNil))) [some x, some (.tup [.int p.1, .int p.2]), none] st = some (.ok (.lst [.bl true, .bl true]), st) := by
  have e := lcL_m (env := wipeE [some x, some (.tup [.int p.1, .int p.2]), none] [2]) (st := st) (g := gV 2) (me := mCall Fn 2 (mCons (mVar 2) (mCons (mLit (.int 300)) mNil))) D.int (fun _ => .bl true) (xs := [p.1, p.2]) fun i hi => by
    have e : Fn [.int i, .int 300] st = some (.ok (.bl true), st) := by
      rcases List.mem_cons.mp hi with rfl | hi
      · exact h1
      · rw [List.mem_singleton.mp hi]; exact h2
    exact ⟨[some x, some (.tup [.int p.1, .int p.2]), some (.int i)], by simp [wipeE], by simp [e]⟩
  exact mLc_ok (ds := [.int p.1, .int p.2]) (st1 := st) (by simp) e (by rw [sl]; decide)
theorem ten300 : 10 ^ 300 < 2 ^ 1000 := by decide +kernel
theorem lt_trans_pow {a m n : Nat} (h : a < 2 ^ m) (k : m ≤ n) : a < 2 ^ n := Nat.lt_of_lt_of_le h (Nat.pow_le_pow_right (by decide) k)
theorem sure_fraction_ok {p : Int × Int} {x : D} (hx : Pl 20 x) (ht : tupD x = pairD p) (hp : FrOk p) (h1 : p.1.natAbs < 10 ^ 300) (h2 : p.2.natAbs < 10 ^ 300) (st : Sto) : F_sure_fraction [x] st = some (.ok (pairD p), st) := by
  have e1 := tupled_ok hx st
  rw [ht] at e1
  have e2 := fraction_in_ok (p := p) (Nat.lt_trans h2 ten300) (by decide) st
  rw [decide_eq_true hp.pos, decide_eq_true hp.g] at e2
  have e3 := near_pair (x := x) st (near_yes (a := p.1) (k := 300) (n := 300) rfl (by decide) h1 st) (near_yes (a := p.2) (k := 300) (n := 300) rfl (by decide) h2 st)
  have f := fAll_true [p.1, p.2]
  simp only [List.map_cons, List.map_nil] at f
  simp only [pairD] at e1 e2 ⊢
  simp only [F_sure_fraction_eq, b_sure_fraction]
  simp [e1, e2, e3, f]
end Pw
/-! books -/
namespace Pw
open PySem PySem.Spec PyProof.Rows L2 RZ
/-- a book's word, and whether it is that of products -/
structure Bk (x : Str) (pr : Bool) : Prop where
  eq : dEq (.str x) (.str "product") = some (.bl pr)
  mem : dNotIn (.str x) kv_BOOKS = some (.bl false)
  sh : SeqAt.shaped (.str x) = true
theorem bk_product : Bk "product" true := ⟨(dEq_str (by decide +kernel) (by decide +kernel)).trans (congrArg (fun z => some (D.bl z)) (by decide +kernel)), by rfl, by decide +kernel⟩
theorem bk_sylvester : Bk "sylvester" false := ⟨(dEq_str (by decide +kernel) (by decide +kernel)).trans (congrArg (fun z => some (D.bl z)) (by decide +kernel)), by rfl, by decide +kernel⟩
theorem bk_engel : Bk "engel" false := ⟨(dEq_str (by decide +kernel) (by decide +kernel)).trans (congrArg (fun z => some (D.bl z)) (by decide +kernel)), by rfl, by decide +kernel⟩
theorem bk_pierce : Bk "pierce" false := ⟨(dEq_str (by decide +kernel) (by decide +kernel)).trans (congrArg (fun z => some (D.bl z)) (by decide +kernel)), by rfl, by decide +kernel⟩
theorem bk_ostro : Bk "ostro" false := ⟨(dEq_str (by decide +kernel) (by decide +kernel)).trans (congrArg (fun z => some (D.bl z)) (by decide +kernel)), by rfl, by decide +kernel⟩
theorem sure_book_ok {x : Str} {pr : Bool} (h : Bk x pr) (st : Sto) : F_sure_book [.str x] st = some (.ok (.str x), st) := by
  have e := h.mem
  simp [F_sure_book_eq, b_sure_book, D.tn, Tn.sub, e]
def bkS : Bo → Str
  | .syl => "sylvester"
  | .eng => "engel"
  | .pie => "pierce"
  | .ost => "ostro"
  | .pro => "product"
theorem bkS_ok (k : Bo) : Bk (bkS k) k.pr := by
  cases k
  · exact bk_sylvester
  · exact bk_engel
  · exact bk_pierce
  · exact bk_ostro
  · exact bk_product
end Pw
/-! the law's own least terms -/
namespace Pw
open PySem PySem.Spec PyProof.Rows L2 RZ
theorem lcut_ok {a b : Int} (hb : 0 < b) (h2 : b.natAbs < 2 ^ 9000) (st : Sto) : F_l_cut [.int a, .int b] st = some (.ok (pairD (cutI a b)), st) := by
  have e := lcommon_ok (a := a) (b := b) (k := 9000) h2 (by decide) st
  have hg := g_pos (a := a) hb
  have hg0 : ¬ Int.gcd a b = 0 := by omega
  have hl : ((Int.gcd a b : Nat) : Int) ≤ b := Int.le_of_dvd hb (Int.gcd_dvd_right a b)
  rw [if_neg hg0] at e
  have d1 : ∀ x : Int, CDivA x ((Int.gcd a b : Nat) : Int) := fun x => cdiv_ok (by omega) (Nat.lt_of_le_of_lt (show (((Int.gcd a b : Nat) : Int)).natAbs ≤ b.natAbs by omega) h2)
  have n1 : ∀ x : Int, x.fdiv ((Int.gcd a b : Nat) : Int) = x / ((Int.gcd a b : Nat) : Int) := fun x => Int.fdiv_eq_ediv_of_nonneg x (by omega)
  simp [F_l_cut_eq, b_l_cut, e, hb, dFdiv_int, d1, sl, pairD, cutI, n1]
end Pw
/-! whole roots -/
namespace Pw
open PySem PySem.Spec PyProof.Rows L2 RZ
theorem newton {n f k : Nat} (h1 : isq n + 1 ≤ f) (h2 : f < isq n + 2 ^ (k + 1)) : isq n ≤ (f + n / f) / 2 ∧ (f + n / f) / 2 < isq n + 2 ^ k := by
  have a1 := isq_le n
  have a2 := lt_isq n
  generalize isq n = s at *
  have h3 : n / f ≤ s := by
    have : n / f < s + 1 := by
      rw [Nat.div_lt_iff_lt_mul (by omega)]
      exact Nat.lt_of_lt_of_le a2 (Nat.mul_le_mul_left _ h1)
    omega
  have h4 : 2 * s ≤ f + n / f := by
    by_cases c : 2 * s ≤ f
    · exact Nat.le_add_right_of_le c
    · have : 2 * s - f ≤ n / f := by
        rw [Nat.le_div_iff_mul_le (by omega)]
        obtain ⟨e, rfl⟩ : ∃ e, f = s + e := ⟨f - s, by omega⟩
        have e1 : 2 * s - (s + e) = s - e := by omega
        rw [e1]
        obtain ⟨g, hg⟩ : ∃ g, s = e + g := ⟨s - e, by omega⟩
        subst hg
        have e2 : e + g - e = g := by omega
        rw [e2]
        have : g * (e + g + e) + e * e = (e + g) * (e + g) := by grind
        omega
      omega
  rw [Nat.pow_succ] at h2
  omega
theorem fdiv_nat (a b : Nat) : (a : Int).fdiv (b : Int) = ((a / b : Nat) : Int) := by
  rw [Int.fdiv_eq_ediv_of_nonneg _ (Int.natCast_nonneg _)]
  rfl
theorem mul_nat {f : Nat} (h : f < 2 ^ 9000) : IntMulOk (f : Int) (f : Int) := mulB (m := 9000) (n := 9000) (by rw [Int.natAbs_natCast]; exact h) (by rw [Int.natAbs_natCast]; exact h)
theorem div_nat {f : Nat} (x : Int) (h0 : 0 < f) (h : f < 2 ^ 9000) : CDivA x (f : Int) := cdiv_ok (by omega) (by rw [Int.natAbs_natCast]; exact h)
theorem wroot1 (st : Sto) (n : Nat) : ∀ (k N f : Nat), 0 < f → n < (f * 2 ^ k) * (f * 2 ^ k) → f * 2 ^ k < 2 ^ 9000 → k + 1 ≤ N →
    ∃ f' : Nat, whileF (mTst (mBin dLe (mBin dMul (mVar 1) (mVar 1)) (mVar 0))) (sSet 1 (mBin dMul (mVar 1) (mLit (.int 2)))) N [some (.int (n : Int)), some (.int (f : Int))] st = some (.nx [some (.int (n : Int)), some (.int (f' : Int))], st) ∧ n < f' * f' ∧ f' ≤ f * 2 ^ k := by
  intro k
  induction k with
  | zero =>
    intro N f h0 h1 h2 hN
    obtain ⟨M, rfl⟩ : ∃ M, N = M + 1 := ⟨N - 1, by omega⟩
    rw [Nat.pow_zero, Nat.mul_one] at h1 h2
    have hm := mul_nat h2
    have c : ¬ ((f : Int) * f ≤ n) := by rw [← Int.natCast_mul]; omega
    exact ⟨f, wh_stop (st1 := st) (by simp [dMul_int, hm, c]), h1, by omega⟩
  | succ k ih =>
    intro N f h0 h1 h2 hN
    obtain ⟨M, rfl⟩ : ∃ M, N = M + 1 := ⟨N - 1, by omega⟩
    have hp : 0 < 2 ^ k := Nat.pow_pos (by decide)
    have e : f * 2 ^ (k + 1) = 2 * f * 2 ^ k := by rw [Nat.pow_succ]; grind
    have hf : f < 2 ^ 9000 := Nat.lt_of_le_of_lt (Nat.le_mul_of_pos_right f (Nat.pow_pos (by decide))) h2
    have hm := mul_nat hf
    by_cases c : f * f ≤ n
    · have c' : (f : Int) * f ≤ n := by rw [← Int.natCast_mul]; omega
      have hm2 : IntMulOk (f : Int) 2 := mulR (by decide)
      rw [e] at h1 h2 ⊢
      obtain ⟨f', e1, e2, e3⟩ := ih M (2 * f) (by omega) h1 h2 (by omega)
      refine ⟨f', ?_, e2, e3⟩
      rw [wh_step (env' := [some (.int (n : Int)), some (.int ((2 * f : Nat) : Int))]) (st1 := st) (st2 := st) (by simp [dMul_int, hm, c']) (by simp [dMul_int, hm2, Int.mul_comm])]
      exact e1
    · have c' : ¬ ((f : Int) * f ≤ n) := by rw [← Int.natCast_mul]; omega
      exact ⟨f, wh_stop (st1 := st) (by simp [dMul_int, hm, c']), by omega, Nat.le_mul_of_pos_right f (Nat.pow_pos (by decide))⟩
theorem wroot2 (st : Sto) (n : Nat) : ∀ (k N f : Nat), 0 < n → isq n ≤ f → f < isq n + 2 ^ k → f < 2 ^ 9000 → k + 1 ≤ N →
    whileF (mTst (mBin dGt (mBin dMul (mVar 1) (mVar 1)) (mVar 0))) (sSet 1 (mBin dFdiv (mBin dAdd (mVar 1) (mBin dFdiv (mVar 0) (mVar 1))) (mLit (.int 2)))) N [some (.int (n : Int)), some (.int (f : Int))] st = some (.nx [some (.int (n : Int)), some (.int (isq n : Int))], st) := by
  have stop : ∀ (N : Nat), isq n < 2 ^ 9000 → whileF (mTst (mBin dGt (mBin dMul (mVar 1) (mVar 1)) (mVar 0))) (sSet 1 (mBin dFdiv (mBin dAdd (mVar 1) (mBin dFdiv (mVar 0) (mVar 1))) (mLit (.int 2)))) (N + 1) [some (.int (n : Int)), some (.int (isq n : Int))] st = some (.nx [some (.int (n : Int)), some (.int (isq n : Int))], st) := fun N hf => by
    have a1 := isq_le n
    have hm := mul_nat hf
    have c : ¬ ((n : Int) < (isq n : Int) * isq n) := by rw [← Int.natCast_mul]; omega
    exact wh_stop (st1 := st) (by simp [dMul_int, hm, c])
  intro k
  induction k with
  | zero =>
    intro N f hn h1 h2 h3 hN
    obtain ⟨M, rfl⟩ : ∃ M, N = M + 1 := ⟨N - 1, by omega⟩
    have e : f = isq n := by rw [Nat.pow_zero] at h2; omega
    rw [e] at h3 ⊢
    exact stop M h3
  | succ k ih =>
    intro N f hn h1 h2 h3 hN
    obtain ⟨M, rfl⟩ : ∃ M, N = M + 1 := ⟨N - 1, by omega⟩
    by_cases c : f = isq n
    · rw [c] at h3 ⊢
      exact stop M h3
    · have hf1 : isq n + 1 ≤ f := by omega
      obtain ⟨q1, q2⟩ := newton hf1 h2
      have hs : n < f * f := Nat.lt_of_lt_of_le (lt_isq n) (sq_mono hf1)
      have c' : (n : Int) < (f : Int) * f := by rw [← Int.natCast_mul]; omega
      have hm := mul_nat h3
      have hd := div_nat (n : Int) (show 0 < f by omega) h3
      have hd2 : ∀ x : Int, CDivA x 2 := fun x => cdiv64 (by decide) (by decide)
      have hle : (f + n / f) / 2 ≤ f := by
        have : n / f ≤ f := by
          have : n / f < f + 1 := by
            rw [Nat.div_lt_iff_lt_mul (by omega)]
            exact Nat.lt_of_lt_of_le hs (Nat.mul_le_mul_right _ (by omega))
          omega
        omega
      rw [wh_step (env' := [some (.int (n : Int)), some (.int (((f + n / f) / 2 : Nat) : Int))]) (st1 := st) (st2 := st) (by simp [dMul_int, hm, c']) ?_]
      · exact ih M _ hn q1 q2 (by omega) (by omega)
      · have e1 : ((f : Int) + ((n / f : Nat) : Int)).fdiv 2 = (((f + n / f) / 2 : Nat) : Int) := by
          rw [← Int.natCast_add, show (2 : Int) = ((2 : Nat) : Int) from rfl, fdiv_nat]
        have e2 : (n : Int).fdiv (f : Int) = ((n / f : Nat) : Int) := fdiv_nat n f
        rw [← e1]
        simp [dFdiv_int, hd, hd2, e2]
theorem isq_bound {n k : Nat} (h : n < 2 ^ (2 * k)) : isq n < 2 ^ k := by
  rw [isq_lt, ← Nat.pow_add]
  rw [show k + k = 2 * k by omega]
  exact h
theorem whole_root_ok {n : Int} (h0 : 0 ≤ n) (h : n.natAbs < 2 ^ 17000) (st : Sto) : F_whole_root [.int n] st = some (.ok (.int (isq n.toNat : Int)), st) := by
  obtain ⟨n, rfl⟩ := Int.eq_ofNat_of_zero_le h0
  rw [Int.natAbs_natCast] at h
  rw [Int.toNat_natCast]
  by_cases c : n < 2
  · have e : isq n = n := by
      have : n = 0 ∨ n = 1 := by omega
      rcases this with rfl | rfl <;> decide
    have c' : (n : Int) < 2 := by omega
    simp [F_whole_root_eq, b_whole_root, c', e]
  · have c' : ¬ (n : Int) < 2 := by omega
    have hp : (2 : Nat) ^ 17000 = 2 ^ 8500 * 2 ^ 8500 := by rw [← Nat.pow_add]
    have hp2 : (2 : Nat) ^ 8500 < 2 ^ 9000 := Nat.pow_lt_pow_right (by decide) (by decide)
    obtain ⟨f, e1, e2, e3⟩ := wroot1 st n 8500 manyTurns 1 (by decide) (by rw [Nat.one_mul, ← hp]; exact h) (by rw [Nat.one_mul]; exact hp2) (by unfold manyTurns; omega)
    rw [Nat.one_mul] at e3
    have hs : isq n ≤ f := Nat.le_of_lt (isq_lt.mpr e2)
    have e4 := wroot2 st n 8501 manyTurns f (by omega) hs (by rw [Nat.pow_succ]; omega) (by omega) (by unfold manyTurns; omega)
    have e1' : whileF (mTst (mBin dLe (mBin dMul (mVar 1) (mVar 1)) (mVar 0))) (sSet 1 (mBin dMul (mVar 1) (mLit (.int 2)))) manyTurns [some (.int (n : Int)), some (.int 1)] st = some (.nx [some (.int (n : Int)), some (.int (f : Int))], st) := e1
    simp [F_whole_root_eq, b_whole_root, c', e1', e4, -mTst_ap]
    simp [c']
    simp [e1', e4, -mTst_ap]
end Pw
/-! the law's own whole root; roots in least terms -/
namespace Pw
open PySem PySem.Spec PyProof.Rows L2 RZ
theorem lisq1 (st : Sto) (n : Nat) (l z : Option D) : ∀ (k m : Nat) (lo : Int) (h : Nat) (w : Option D), 0 < h → n < (h * 2 ^ k) * (h * 2 ^ k) → h * 2 ^ k < 2 ^ 9000 → k + 1 ≤ m →
    ∃ (h' : Nat) (w' : Option D), forL (gV 3) (sSeq (sIf (mTst (mBin dGt (mBin dMul (mVar 2) (mVar 2)) (mVar 0))) sBreak sNext) (sSet 2 (mBin dMul (mVar 2) (mLit (.int 2))))) (rangeL lo m) [some (.int (n : Int)), l, some (.int (h : Int)), w, z] st = some (.nx [some (.int (n : Int)), l, some (.int (h' : Int)), w', z], st) ∧ n < h' * h' ∧ h' ≤ h * 2 ^ k ∧ 0 < h' := by
  intro k
  induction k with
  | zero =>
    intro m lo h w h0 h1 h2 hm
    obtain ⟨m, rfl⟩ : ∃ M, m = M + 1 := ⟨m - 1, by omega⟩
    rw [Nat.pow_zero, Nat.mul_one] at h1 h2
    have k1 := mul_nat h2
    have c : (n : Int) < (h : Int) * h := by rw [← Int.natCast_mul]; omega
    refine ⟨h, some (.int lo), ?_, h1, by omega, h0⟩
    unfold rangeL
    exact for_brk (env' := [some (.int (n : Int)), l, some (.int (h : Int)), some (.int lo), z]) (by simp) (by simp [dMul_int, k1, c])
  | succ k ih =>
    intro m lo h w h0 h1 h2 hm
    obtain ⟨m, rfl⟩ : ∃ M, m = M + 1 := ⟨m - 1, by omega⟩
    have hp : 0 < 2 ^ k := Nat.pow_pos (by decide)
    have e : h * 2 ^ (k + 1) = 2 * h * 2 ^ k := by rw [Nat.pow_succ]; grind
    have hf : h < 2 ^ 9000 := Nat.lt_of_le_of_lt (Nat.le_mul_of_pos_right h (Nat.pow_pos (by decide))) h2
    have k1 := mul_nat hf
    by_cases c : n < h * h
    · have c' : (n : Int) < (h : Int) * h := by rw [← Int.natCast_mul]; omega
      refine ⟨h, some (.int lo), ?_, c, Nat.le_mul_of_pos_right h (Nat.pow_pos (by decide)), h0⟩
      unfold rangeL
      exact for_brk (env' := [some (.int (n : Int)), l, some (.int (h : Int)), some (.int lo), z]) (by simp) (by simp [dMul_int, k1, c'])
    · have c' : ¬ (n : Int) < (h : Int) * h := by rw [← Int.natCast_mul]; omega
      have k2 : IntMulOk (h : Int) 2 := mulR (by decide)
      rw [e] at h1 h2 ⊢
      obtain ⟨h', w', e1, e2, e3, e4⟩ := ih m (lo + 1) (2 * h) (some (.int lo)) (by omega) h1 h2 (by omega)
      refine ⟨h', w', ?_, e2, e3, e4⟩
      unfold rangeL
      rw [for_step (env' := [some (.int (n : Int)), l, some (.int (h : Int)), some (.int lo), z]) (e1 := [some (.int (n : Int)), l, some (.int ((2 * h : Nat) : Int)), some (.int lo), z]) (st1 := st) (by simp) (by simp [dMul_int, k1, k2, c', Int.mul_comm])]
      exact e1
theorem lisq2 (st : Sto) (n : Nat) : ∀ (k m : Nat) (lo : Int) (l h : Nat) (w z : Option D), l * l ≤ n → n < h * h → h ≤ l + 2 ^ k → h < 2 ^ 9000 → k + 1 ≤ m →
    ∃ (h' : Nat) (w' z' : Option D), forL (gV 3) (sSeq (sIf (mTst (mBin dLt (mBin dSub (mVar 2) (mVar 1)) (mLit (.int 2)))) sBreak sNext) (sSeq (sSet 4 (mBin dFdiv (mBin dAdd (mVar 1) (mVar 2)) (mLit (.int 2)))) (sIf (mTst (mBin dGt (mBin dMul (mVar 4) (mVar 4)) (mVar 0))) (sSet 2 (mVar 4)) (sSet 1 (mVar 4))))) (rangeL lo m) [some (.int (n : Int)), some (.int (l : Int)), some (.int (h : Int)), w, z] st = some (.nx [some (.int (n : Int)), some (.int (isq n : Int)), some (.int (h' : Int)), w', z'], st) := by
  have stop : ∀ (m : Nat) (lo : Int) (l h : Nat) (w z : Option D), l * l ≤ n → n < h * h → h < l + 2 → ∃ (h' : Nat) (w' z' : Option D), forL (gV 3) (sSeq (sIf (mTst (mBin dLt (mBin dSub (mVar 2) (mVar 1)) (mLit (.int 2)))) sBreak sNext) (sSeq (sSet 4 (mBin dFdiv (mBin dAdd (mVar 1) (mVar 2)) (mLit (.int 2)))) (sIf (mTst (mBin dGt (mBin dMul (mVar 4) (mVar 4)) (mVar 0))) (sSet 2 (mVar 4)) (sSet 1 (mVar 4))))) (rangeL lo (m + 1)) [some (.int (n : Int)), some (.int (l : Int)), some (.int (h : Int)), w, z] st = some (.nx [some (.int (n : Int)), some (.int (isq n : Int)), some (.int (h' : Int)), w', z'], st) := fun m lo l h w z h1 h2 h3 => by
    have hlh : l < h := sq_lt.mp (Nat.lt_of_le_of_lt h1 h2)
    have e : h = l + 1 := by omega
    subst e
    have e2 := isq_uniq h1 h2
    refine ⟨l + 1, some (.int lo), z, ?_⟩
    unfold rangeL
    have c : (l : Int) + 1 - l < 2 := by omega
    rw [e2]
    exact for_brk (env' := [some (.int (n : Int)), some (.int (l : Int)), some (.int ((l + 1 : Nat) : Int)), some (.int lo), z]) (by simp) (by simp [c])
  intro k
  induction k with
  | zero =>
    intro m lo l h w z h1 h2 h3 h4 hm
    obtain ⟨m, rfl⟩ : ∃ M, m = M + 1 := ⟨m - 1, by omega⟩
    rw [Nat.pow_zero] at h3
    exact stop m lo l h w z h1 h2 (by omega)
  | succ k ih =>
    intro m lo l h w z h1 h2 h3 h4 hm
    obtain ⟨m, rfl⟩ : ∃ M, m = M + 1 := ⟨m - 1, by omega⟩
    by_cases c : h < l + 2
    · exact stop m lo l h w z h1 h2 c
    · have hlh : l < h := sq_lt.mp (Nat.lt_of_le_of_lt h1 h2)
      have c' : ¬ ((h : Int) - l < 2) := by omega
      have hd2 : ∀ x : Int, CDivA x 2 := fun x => cdiv64 (by decide) (by decide)
      have e0 : ((l : Int) + (h : Int)).fdiv 2 = (((l + h) / 2 : Nat) : Int) := by
        rw [← Int.natCast_add, show (2 : Int) = ((2 : Nat) : Int) from rfl, fdiv_nat]
      rw [Nat.pow_succ] at h3
      have k1 := mul_nat (f := (l + h) / 2) (Nat.lt_of_le_of_lt (show (l + h) / 2 ≤ h by omega) h4)
      unfold rangeL
      generalize hg : (l + h) / 2 = g at *
      by_cases q : n < g * g
      · have q' : (n : Int) < (g : Int) * g := by rw [← Int.natCast_mul]; omega
        obtain ⟨h', w', z', e1⟩ := ih m (lo + 1) l g (some (.int lo)) (some (.int (g : Int))) h1 q (by omega) (by omega) (by omega)
        refine ⟨h', w', z', ?_⟩
        rw [for_step (env' := [some (.int (n : Int)), some (.int (l : Int)), some (.int (h : Int)), some (.int lo), z]) (e1 := [some (.int (n : Int)), some (.int (l : Int)), some (.int (g : Int)), some (.int lo), some (.int (g : Int))]) (st1 := st) (by simp) (by simp [c', dFdiv_int, hd2, e0, dMul_int, k1, q'])]
        exact e1
      · have q' : ¬ (n : Int) < (g : Int) * g := by rw [← Int.natCast_mul]; omega
        obtain ⟨h', w', z', e1⟩ := ih m (lo + 1) g h (some (.int lo)) (some (.int (g : Int))) (by omega) h2 (by omega) h4 (by omega)
        refine ⟨h', w', z', ?_⟩
        rw [for_step (env' := [some (.int (n : Int)), some (.int (l : Int)), some (.int (h : Int)), some (.int lo), z]) (e1 := [some (.int (n : Int)), some (.int (g : Int)), some (.int (h : Int)), some (.int lo), some (.int (g : Int))]) (st1 := st) (by simp) (by simp [c', dFdiv_int, hd2, e0, dMul_int, k1, q'])]
        exact e1
theorem lisqrt_ok {n : Int} (h0 : 0 ≤ n) (h : n.natAbs < 2 ^ 17000) (st : Sto) : F_l_isqrt [.int n] st = some (.ok (.int (isq n.toNat : Int)), st) := by
  obtain ⟨n, rfl⟩ := Int.eq_ofNat_of_zero_le h0
  rw [Int.natAbs_natCast] at h
  rw [Int.toNat_natCast]
  have hp : (2 : Nat) ^ 17000 = 2 ^ 8500 * 2 ^ 8500 := by rw [← Nat.pow_add]
  have hp2 : (2 : Nat) ^ 8500 < 2 ^ 9000 := Nat.pow_lt_pow_right (by decide) (by decide)
  obtain ⟨f, w, e1, e2, e3, e4⟩ := lisq1 st n (some (.int 0)) none 8500 9000 0 1 none (by decide) (by rw [Nat.one_mul, ← hp]; exact h) (by rw [Nat.one_mul]; exact hp2) (by decide)
  rw [Nat.one_mul] at e3
  obtain ⟨h', w', z', e5⟩ := lisq2 st n 8500 9000 0 0 f w none (Nat.zero_le _) e2 (by rw [Nat.zero_add]; exact e3) (by omega) (by decide)
  have e1' : forL (gV 3) (sSeq (sIf (mTst (mBin dGt (mBin dMul (mVar 2) (mVar 2)) (mVar 0))) sBreak sNext) (sSet 2 (mBin dMul (mVar 2) (mLit (.int 2))))) (rangeL 0 9000) [some (.int (n : Int)), some (.int 0), some (.int 1), none, none] st = some (.nx [some (.int (n : Int)), some (.int 0), some (.int (f : Int)), w, none], st) := e1
  have e5' : forL (gV 3) (sSeq (sIf (mTst (mBin dLt (mBin dSub (mVar 2) (mVar 1)) (mLit (.int 2)))) sBreak sNext) (sSeq (sSet 4 (mBin dFdiv (mBin dAdd (mVar 1) (mVar 2)) (mLit (.int 2)))) (sIf (mTst (mBin dGt (mBin dMul (mVar 4) (mVar 4)) (mVar 0))) (sSet 2 (mVar 4)) (sSet 1 (mVar 4))))) (rangeL 0 9000) [some (.int (n : Int)), some (.int 0), some (.int (f : Int)), w, none] st = some (.nx [some (.int (n : Int)), some (.int (isq n : Int)), some (.int (h' : Int)), w', z'], st) := e5
  simp only [F_l_isqrt_eq, b_l_isqrt]
  generalize (sSeq (sIf (mTst (mBin dGt (mBin dMul (mVar 2) (mVar 2)) (mVar 0))) sBreak sNext) (sSet 2 (mBin dMul (mVar 2) (mLit (.int 2))))) = B1 at *
  generalize (sSeq (sIf (mTst (mBin dLt (mBin dSub (mVar 2) (mVar 1)) (mLit (.int 2)))) sBreak sNext) (sSeq (sSet 4 (mBin dFdiv (mBin dAdd (mVar 1) (mVar 2)) (mLit (.int 2)))) (sIf (mTst (mBin dGt (mBin dMul (mVar 4) (mVar 4)) (mVar 0))) (sSet 2 (mVar 4)) (sSet 1 (mVar 4))))) = B2 at *
  generalize hr : rangeL 0 9000 = R at *
  simp [sl, hr, e1', e5']
/-! least terms -/
def rtD (r : Rt) : D := .tup [.int r.a, .int r.b, .int r.d, .int r.c]
def abs3 (g : Int) (c : Int) : Int := if c < 0 then -g else g
theorem rtI_eq (a b d c : Int) : rtI a b d c = ⟨a / abs3 (g3 a b c) c, b / abs3 (g3 a b c) c, d, c / abs3 (g3 a b c) c⟩ := by
  unfold rtI abs3
  split <;> rfl
theorem fdiv_exact {x y : Int} (hy : y ≠ 0) (h : y ∣ x) : x.fdiv y = x / y := by
  obtain ⟨k, rfl⟩ := h
  rw [Int.mul_fdiv_cancel_left _ hy, Int.mul_ediv_cancel_left _ hy]
theorem abs3_ne {a b c : Int} (hc : c ≠ 0) : abs3 (g3 a b c) c ≠ 0 := by
  have := g3_pos (a := a) (b := b) hc
  unfold abs3
  split <;> omega
theorem abs3_le {a b c : Int} (hc : c ≠ 0) : (abs3 (g3 a b c) c).natAbs ≤ c.natAbs := by
  have h1 := Int.natAbs_dvd_natAbs.mpr (g3_c (a := a) (b := b) (c := c))
  have h2 := Nat.le_of_dvd (by omega) h1
  unfold abs3
  split
  · rw [Int.natAbs_neg]; exact h2
  · exact h2
theorem abs3_dvd {g c x : Int} (h : g ∣ x) : abs3 g c ∣ x := by
  unfold abs3
  split
  · exact Int.neg_dvd.mpr h
  · exact h
theorem lowest_root_ok {a b d c : Int} {k : Nat} (hc : c ≠ 0) (h1 : b.natAbs < 2 ^ k) (h2 : c.natAbs < 2 ^ 9000) (hk : k ≤ 2 ^ 40) (st : Sto) : F_lowest_root [.int a, .int b, .int d, .int c] st = some (.ok (rtD (rtI a b d c)), st) := by
  have e1 := common_ok (a := a) (b := b) (k := k) h1 hk st
  have e2 := common_ok (a := ((Int.gcd a b : Nat) : Int)) (b := c) (k := 9000) h2 (by omega) st
  have hm : ∀ x : Int, IntMulOk x 1 := fun x => mulR (by decide)
  have hm2 : ∀ x : Int, IntMulOk x (-1) := fun x => mulR (by decide)
  have hne := abs3_ne (a := a) (b := b) hc
  have hle := abs3_le (a := a) (b := b) hc
  have hd : ∀ x : Int, CDivA x (abs3 (g3 a b c) c) := fun x => cdiv_ok hne (Nat.lt_of_le_of_lt hle h2)
  have f1 := fdiv_exact hne (abs3_dvd (c := c) (g3_a (a := a) (b := b) (c := c)))
  have f2 := fdiv_exact hne (abs3_dvd (c := c) (g3_b (a := a) (b := b) (c := c)))
  have f3 := fdiv_exact hne (abs3_dvd (c := c) (g3_c (a := a) (b := b) (c := c)))
  rw [rtI_eq]
  have e2' : F_common [.int ((Int.gcd a b : Nat) : Int), .int c] st = some (.ok (.int (g3 a b c)), st) := e2
  by_cases q : c < 0
  · have e3 : g3 a b c * -1 = abs3 (g3 a b c) c := by unfold abs3; rw [if_pos q]; omega
    simp [F_lowest_root_eq, b_lowest_root, e1, e2', q, dMul_int, hm2, -Int.mul_neg_one, -Int.mul_neg, e3, dFdiv_int, hd, f1, f2, f3, sl, rtD]
  · have e3 : g3 a b c = abs3 (g3 a b c) c := by unfold abs3; rw [if_neg q]
    rw [e3] at e2'
    simp [F_lowest_root_eq, b_lowest_root, e1, e2', q, dMul_int, hm, dFdiv_int, hd, f1, f2, f3, sl, rtD]
theorem root_terms_ok {a b d c : Int} {k : Nat} (hb : b ≠ 0) (hc : c ≠ 0) (h1 : b.natAbs < 2 ^ k) (h2 : c.natAbs < 2 ^ 9000) (hk : k ≤ 49000) (st : Sto) : F_l_root_terms [.int a, .int b, .int d, .int c] st = some (.ok (rtD (rtI a b d c)), st) := by
  have g1 : ¬ Int.gcd a b = 0 := by
    have := Int.gcd_pos_of_ne_zero_right a hb
    omega
  have g2 : ¬ Int.gcd (Int.gcd a b : Nat) c = 0 := by
    have := Int.gcd_pos_of_ne_zero_right (Int.gcd a b : Nat) hc
    omega
  have e1 := lcommon_ok (a := a) (b := b) (k := k) h1 hk st
  rw [if_neg g1] at e1
  have e2 := lcommon_ok (a := ((Int.gcd a b : Nat) : Int)) (b := c) (k := 9000) h2 (by omega) st
  rw [if_neg g2] at e2
  have hne := abs3_ne (a := a) (b := b) hc
  have hle := abs3_le (a := a) (b := b) hc
  have hd : ∀ x : Int, CDivA x (abs3 (g3 a b c) c) := fun x => cdiv_ok hne (Nat.lt_of_le_of_lt hle h2)
  have f1 := fdiv_exact hne (abs3_dvd (c := c) (g3_a (a := a) (b := b) (c := c)))
  have f2 := fdiv_exact hne (abs3_dvd (c := c) (g3_b (a := a) (b := b) (c := c)))
  have f3 := fdiv_exact hne (abs3_dvd (c := c) (g3_c (a := a) (b := b) (c := c)))
  rw [rtI_eq]
  have e2' : F_l_common [.int ((Int.gcd a b : Nat) : Int), .int c] st = some (.ok (.int (g3 a b c)), st) := e2
  by_cases q : 0 < c
  · have e3 : g3 a b c = abs3 (g3 a b c) c := by unfold abs3; rw [if_neg (by omega)]
    rw [e3] at e2'
    simp [F_l_root_terms_eq, b_l_root_terms, e1, e2', q, dFdiv_int, hd, f1, f2, f3, sl, rtD]
  · have e3 : 0 - g3 a b c = abs3 (g3 a b c) c := by unfold abs3; rw [if_pos (by omega)]; omega
    simp [F_l_root_terms_eq, b_l_root_terms, e1, e2', q, -Int.zero_sub, e3, dFdiv_int, hd, f1, f2, f3, sl, rtD]
end Pw
/-! roots: the program's functions -/
namespace Pw
open PySem PySem.Spec PyProof.Rows L2 RZ
theorem fAny_map (l : List Bool) : fAny [.lst (l.map .bl)] = some (.bl (l.any id)) := by
  show (match D.bools (l.map .bl) with
    | some bs => some (D.bl (bs.any id))
    | none => none) = _
  rw [bools_map]
structure RtB (m : Nat) (r : Rt) : Prop where
  a : r.a.natAbs < 2 ^ m
  b : r.b.natAbs < 2 ^ m
  d : r.d.natAbs < 2 ^ m
  c : r.c.natAbs < 2 ^ m
theorem RtB.mono {m n : Nat} {r : Rt} (h : RtB m r) (k : m ≤ n) : RtB n r := ⟨lt_trans_pow h.a k, lt_trans_pow h.b k, lt_trans_pow h.d k, lt_trans_pow h.c k⟩
theorem mulA {x y : Int} {m n : Nat} (hx : x.natAbs < 2 ^ m) (hy : y.natAbs < 2 ^ n) : (x * y).natAbs < 2 ^ (m + n) := by
  rw [Int.natAbs_mul, Nat.pow_add]
  rcases Nat.eq_zero_or_pos y.natAbs with h | h
  · rw [h, Nat.mul_zero]
    exact Nat.mul_pos (Nat.pow_pos (by decide)) (Nat.pow_pos (by decide))
  · exact Nat.mul_lt_mul'' hx hy
theorem addA {x y : Int} {m n : Nat} (hx : x.natAbs < 2 ^ m) (hy : y.natAbs < 2 ^ n) : (x + y).natAbs < 2 ^ (max m n + 1) := by
  have h1 := lt_trans_pow hx (Nat.le_max_left m n)
  have h2 := lt_trans_pow hy (Nat.le_max_right m n)
  rw [Nat.pow_succ]
  have := Int.natAbs_add_le x y
  omega
theorem subA {x y : Int} {m n : Nat} (hx : x.natAbs < 2 ^ m) (hy : y.natAbs < 2 ^ n) : (x - y).natAbs < 2 ^ (max m n + 1) := by
  have := addA hx (y := -y) (n := n) (by rw [Int.natAbs_neg]; exact hy)
  rw [← Int.sub_eq_add_neg] at this
  exact this
theorem is_square_ok {d : Int} (h0 : 0 ≤ d) (h : d.natAbs < 2 ^ 17000) (st : Sto) : F_is_square [.int d] st = some (.ok (.bl (decide (isq d.toNat * isq d.toNat = d.toNat))), st) := by
  have e := whole_root_ok h0 h st
  have hb : isq d.toNat < 2 ^ 8500 := isq_bound (k := 8500) (by rw [show 2 * 8500 = 17000 from rfl]; omega)
  have k1 : IntMulOk (isq d.toNat : Int) (isq d.toNat : Int) := mulB (m := 8500) (n := 8500) (by rw [Int.natAbs_natCast]; exact hb) (by rw [Int.natAbs_natCast]; exact hb)
  have e2 : decide ((isq d.toNat : Int) * (isq d.toNat : Int) = d) = decide (isq d.toNat * isq d.toNat = d.toNat) := by
    congr 1
    apply propext
    rw [← Int.natCast_mul]
    generalize isq d.toNat * isq d.toNat = z
    omega
  simp [F_is_square_eq, b_is_square, e, dMul_int, k1]
  simpa using e2
def rootB (r : Rt) : Bool := decide (r.b ≠ 0) && (decide (1 < r.d) && (decide (0 < r.c) && (decide (g3 r.a r.b r.c = 1) && !decide (isq r.d.toNat * isq r.d.toNat = r.d.toNat))))
theorem rootB_iff {r : Rt} : rootB r = true ↔ RtOk r := by
  unfold rootB
  simp only [Bool.and_eq_true, decide_eq_true_eq, Bool.not_eq_true', decide_eq_false_iff_not]
  constructor
  · rintro ⟨h1, h2, h3, h4, h5⟩
    exact ⟨h1, ⟨by omega, h5⟩, h2, h3, h4⟩
  · rintro ⟨h1, ⟨h2, h3⟩, h4, h5, h6⟩
    exact ⟨h1, h4, h5, h6, h3⟩
theorem is_root_in_ok {r : Rt} (h : RtB 8500 r) (st : Sto) : F_is_root_in [rtD r] st = some (.ok (.bl (rootB r)), st) := by
  have e1 := numbers_ok (l := [r.a, r.b, r.d, r.c]) (by simp) st
  have e2 := common_ok (a := r.a) (b := r.b) h.b (by decide) st
  have e3 := common_ok (a := ((Int.gcd r.a r.b : Nat) : Int)) (b := r.c) h.c (by decide) st
  have e3' : F_common [.int ((Int.gcd r.a r.b : Nat) : Int), .int r.c] st = some (.ok (.int (g3 r.a r.b r.c)), st) := e3
  simp only [List.map_cons, List.map_nil] at e1
  unfold rootB
  by_cases c1 : r.b = 0
  · rw [c1] at e1
    simp [F_is_root_in_eq, b_is_root_in, rtD, long_ok, e1, c1]
  · by_cases c2 : 1 < r.d
    · have e4 := is_square_ok (d := r.d) (by omega) (lt_trans_pow h.d (by decide)) st
      by_cases c3 : 0 < r.c
      · by_cases c4 : g3 r.a r.b r.c = 1 <;> simp [F_is_root_in_eq, b_is_root_in, rtD, long_ok, e1, c1, c2, c3, c4, e2, e3', e4]
      · simp [F_is_root_in_eq, b_is_root_in, rtD, long_ok, e1, c1, c2, c3]
    · simp [F_is_root_in_eq, b_is_root_in, rtD, long_ok, e1, c1, c2]
theorem any_big {l : List Int} {x : D} (st : Sto) (hl : l.length < 2 ^ 20) (h : ∀ i ∈ l, i.natAbs ≤ 1000000) (a0 : Option D) : mLc [2] (mItA (mVar 1)) (gV 2) mYes (mBin dGt (mCB fAbs (mCons (mVar 2) mNil)) (mLit (.int 1000000))) [a0, some (.tup (l.map .int)), none] st = some (.ok (.lst (l.map fun _ => .bl false)), st) := by
  refine mLc_ok (ds := l.map .int) (st1 := st) (by simp) (lcL_m D.int (fun _ => .bl false) fun i hi => ?_) (by rw [List.length_map, sl]; omega)
  have c : ¬ (1000000 : Int) < (if i < 0 then -i else i) := by
    have := h i hi
    split <;> omega
  exact ⟨[a0, some (.tup (l.map .int)), some (.int i)], by simp [wipeE], by simp [c]⟩
theorem sure_root_ok {r : Rt} {x : D} (hx : Pl 20 x) (ht : tupD x = rtD r) (h : RtOk r) (ha : r.a.natAbs ≤ 1000000) (hb : r.b.natAbs ≤ 1000000) (hd : r.d.natAbs ≤ 1000000) (hc : r.c.natAbs ≤ 1000000) (st : Sto) : F_sure_root [x] st = some (.ok (rtD r), st) := by
  have e1 := tupled_ok hx st
  rw [ht] at e1
  have e2 := numbers_ok (l := [r.a, r.b, r.d, r.c]) (by simp) st
  have lt : ∀ {z : Int}, z.natAbs ≤ 1000000 → z.natAbs < 2 ^ 8500 := fun {z} hz => lt_trans_pow (m := 20) (by omega) (by decide)
  have e3 := is_root_in_ok (r := r) ⟨lt ha, lt hb, lt hd, lt hc⟩ st
  rw [rootB_iff.mpr h] at e3
  have e4 := any_big (l := [r.a, r.b, r.d, r.c]) (x := x) st (by simp) (by
    intro i hi
    simp only [List.mem_cons, List.not_mem_nil, or_false] at hi
    rcases hi with rfl | rfl | rfl | rfl <;> assumption) (some x)
  have f := fAny_map [false, false, false, false]
  simp only [List.map_cons, List.map_nil] at e2 e4 f
  simp only [rtD] at e1 e3 ⊢
  simp [F_sure_root_eq, b_sure_root, e1, long_ok, e2, e3, e4, f]
theorem st_bits {b d : Int} {m : Nat} (hb : b.natAbs < 2 ^ m) (hd0 : 0 ≤ d) (hd : d.natAbs < 2 ^ m) (hm : 3 * m ≤ 17000) : 0 ≤ b * b * d ∧ (b * b * d).natAbs < 2 ^ 17000 := by
  refine ⟨Int.mul_nonneg (by rw [natAbs_sq]; exact Int.natCast_nonneg _) hd0, ?_⟩
  exact lt_trans_pow (mulA (mulA hb hb) hd) (by omega)
theorem root_floor_in_ok {r : Rt} (h : RtB 5600 r) (hd0 : 0 ≤ r.d) (hc : 0 < r.c) (st : Sto) : F_root_floor_in [rtD r] st = some (.ok (.int (flR r)), st) := by
  obtain ⟨s1, s2⟩ := st_bits h.b hd0 h.d (by decide)
  have e := whole_root_ok s1 s2 st
  have k1 : IntMulOk r.b r.b := mulB h.b h.b
  have k2 : IntMulOk (r.b * r.b) r.d := mulB (mulA h.b h.b) h.d
  have d1 : ∀ x : Int, CDivA x r.c := fun x => cdiv_ok (by omega) (lt_trans_pow h.c (by decide))
  have n1 : ∀ x : Int, x.fdiv r.c = x / r.c := fun x => Int.fdiv_eq_ediv_of_nonneg _ (by omega)
  unfold flR flI stI
  by_cases q : 0 < r.b <;> simp [F_root_floor_in_eq, b_root_floor_in, rtD, e, dMul_int, k1, k2, q, dFdiv_int, d1, n1]
end Pw
/-! roots: the law's own functions -/
namespace Pw
open PySem PySem.Spec PyProof.Rows L2 RZ
theorem lten_ok {k : Int} (h0 : 0 ≤ k) (h : k ≤ 4000) (st : Sto) : F_l_ten [.int k] st = some (.ok (.int ((10 ^ k.toNat : Nat) : Int)), st) := by
  obtain ⟨s, t, h1, h2, h3⟩ := ten_text h0 h
  simp [F_l_ten_eq, b_l_ten, h1, h2, h3]
theorem stI_mul {b d W : Int} (hW : 0 < W) : stI (b * W) d = if 0 < b then (isq (b * b * d * W * W).toNat : Int) else -(isq (b * b * d * W * W).toNat : Int) - 1 := by
  have e : b * W * (b * W) * d = b * b * d * W * W := by grind
  unfold stI
  rw [e]
  have s1 : (0 < b * W) ↔ 0 < b := ⟨fun h => by
    rcases Int.lt_or_le 0 b with q | q
    · exact q
    · have := Int.mul_nonpos_of_nonpos_of_nonneg q (Int.le_of_lt hW); omega, fun h => Int.mul_pos h hW⟩
  by_cases q : 0 < b
  · rw [if_pos (s1.mpr q), if_pos q]
  · rw [if_neg (fun z => q (s1.mp z)), if_neg q]
theorem lnarrow_ok {r : Rt} {m w : Nat} {k : Int} (h : RtB m r) (hd0 : 0 ≤ r.d) (hc : 0 < r.c) (h0 : 0 ≤ k) (hk : k ≤ 4000) (hW : 10 ^ k.toNat < 2 ^ w) (h1 : m + m + m + w + w ≤ 17000) (h2 : m + w ≤ 9000) (st : Sto) :
    F_l_narrow [rtD r, .int k] st = some (.ok (.tup [pairD (cutI (lowR r (10 ^ k.toNat : Nat)) (r.c * (10 ^ k.toNat : Nat))), pairD (cutI (lowR r (10 ^ k.toNat : Nat) + 1) (r.c * (10 ^ k.toNat : Nat)))]), st) := by
  have et := lten_ok h0 hk st
  have hWp : 0 < 10 ^ k.toNat := Nat.pow_pos (by decide)
  generalize 10 ^ k.toNat = W at *
  have hWi : 0 < (W : Int) := by omega
  have hWa : (W : Int).natAbs < 2 ^ w := by rw [Int.natAbs_natCast]; exact hW
  have hcW : 0 < r.c * (W : Int) := Int.mul_pos hc hWi
  have hcb : (r.c * (W : Int)).natAbs < 2 ^ 9000 := lt_trans_pow (mulA h.c hWa) h2
  have k1 : IntMulOk r.b r.b := mulB h.b h.b (by omega)
  have k2 : IntMulOk (r.b * r.b) r.d := mulB (mulA h.b h.b) h.d (by omega)
  have k3 : IntMulOk (r.b * r.b * r.d) W := mulB (mulA (mulA h.b h.b) h.d) hWa (by omega)
  have k4 : IntMulOk (r.b * r.b * r.d * W) W := mulB (mulA (mulA (mulA h.b h.b) h.d) hWa) hWa (by omega)
  have k5 : IntMulOk r.a W := mulB h.a hWa (by omega)
  have k6 : IntMulOk r.c W := mulB h.c hWa (by omega)
  have n0 : 0 ≤ r.b * r.b * r.d * W * W := Int.mul_nonneg (Int.mul_nonneg (Int.mul_nonneg (by rw [natAbs_sq]; exact Int.natCast_nonneg _) hd0) (by omega)) (by omega)
  have es := lisqrt_ok n0 (lt_trans_pow (mulA (mulA (mulA (mulA h.b h.b) h.d) hWa) hWa) h1) st
  have ec1 := lcut_ok (a := lowR r W) hcW hcb st
  have ec2 := lcut_ok (a := lowR r W + 1) hcW hcb st
  have el : lowR r W = r.a * W + (if 0 < r.b then (isq (r.b * r.b * r.d * W * W).toNat : Int) else -(isq (r.b * r.b * r.d * W * W).toNat : Int) - 1) := by
    unfold lowR
    rw [stI_mul hWi]
  generalize cutI (lowR r W) (r.c * W) = p1 at *
  generalize cutI (lowR r W + 1) (r.c * W) = p2 at *
  rw [el] at ec1 ec2
  by_cases q : 0 < r.b
  · rw [if_pos q] at ec1 ec2
    simp [F_l_narrow_eq, b_l_narrow, rtD, et, dMul_int, k1, k2, k3, k4, k5, k6, es, q, ec1, ec2, sl]
  · rw [if_neg q] at ec1 ec2
    have e0 : ∀ z : Int, -z - 1 = 0 - z - 1 := fun z => by omega
    rw [e0] at ec1 ec2
    simp [F_l_narrow_eq, b_l_narrow, rtD, et, dMul_int, k1, k2, k3, k4, k5, k6, es, q, -Int.zero_sub, ec1, ec2, sl]
end Pw
/-! roots: the doors -/
namespace Pw
open PySem PySem.Spec PyProof.Rows L2 RZ
structure RtS (r : Rt) : Prop where
  a : r.a.natAbs ≤ 1000000
  b : r.b.natAbs ≤ 1000000
  d : r.d.natAbs ≤ 1000000
  c : r.c.natAbs ≤ 1000000
theorem RtS.b20 {r : Rt} (h : RtS r) : RtB 20 r := ⟨by have := h.a; omega, by have := h.b; omega, by have := h.d; omega, by have := h.c; omega⟩
theorem ediv_natAbs_le (x : Int) {g : Int} (hg : 0 < g) (h : g ∣ x) : (x / g).natAbs ≤ x.natAbs := by
  obtain ⟨k, rfl⟩ := h
  rw [Int.mul_ediv_cancel_left _ (by omega), Int.natAbs_mul]
  exact Nat.le_mul_of_pos_left _ (by omega)
theorem rtI_b {a b d c : Int} {m : Nat} (hc : 0 < c) (h : RtB m ⟨a, b, d, c⟩) : RtB m (rtI a b d c) := by
  have hg := g3_pos (a := a) (b := b) (show c ≠ 0 by omega)
  rw [rtI_pos hc]
  exact ⟨Nat.lt_of_le_of_lt (ediv_natAbs_le a hg g3_a) h.a, Nat.lt_of_le_of_lt (ediv_natAbs_le b hg g3_b) h.b, h.d, Nat.lt_of_le_of_lt (ediv_natAbs_le c hg g3_c) h.c⟩
theorem rtI_c {a b d c : Int} (hc : 0 < c) : 0 < (rtI a b d c).c := by
  have hg := g3_pos (a := a) (b := b) (show c ≠ 0 by omega)
  rw [rtI_pos hc]
  exact Int.ediv_pos_of_pos_of_dvd hc (Int.le_of_lt hg) g3_c
theorem rtI_d {a b d c : Int} : (rtI a b d c).d = d := by
  unfold rtI
  split <;> rfl
theorem root_floor_ok {r : Rt} {x : D} (hx : Pl 20 x) (ht : tupD x = rtD r) (h : RtOk r) (hs : RtS r) (st : Sto) : F_root_floor [x] st = some (.ok (.int (flR r)), st) := by
  have e1 := sure_root_ok hx ht h hs.a hs.b hs.d hs.c st
  have e2 := root_floor_in_ok (r := r) (hs.b20.mono (by decide)) (Int.le_of_lt h.dd.pos) h.c0 st
  simp [F_root_floor_eq, b_root_floor, e1, e2]
theorem root_under_ok {r : Rt} {x y : D} {p : Int × Int} (hx : Pl 20 x) (ht : tupD x = rtD r) (h : RtOk r) (hs : RtS r) (hy : Pl 20 y) (hp : tupD y = pairD p) (fp : FrOk p) (h1 : p.1.natAbs < 10 ^ 300) (h2 : p.2.natAbs < 10 ^ 300) (st : Sto) : F_root_is_under [x, y] st = some (.ok (.bl (lessR r p)), st) := by
  have e1 := sure_root_ok hx ht h hs.a hs.b hs.d hs.c st
  have e2 := sure_fraction_ok hy hp fp h1 h2 st
  have g1 := Nat.lt_trans h1 ten300
  have g2 := Nat.lt_trans h2 ten300
  have hb := hs.b20
  have k1 : IntMulOk r.a p.2 := mulB hb.a g2
  have k2 : IntMulOk r.c p.1 := mulB hb.c g1
  have k3 : IntMulOk r.b p.2 := mulB hb.b g2
  have k4 : IntMulOk r.c p.2 := mulB hb.c g2
  have hc : 0 < r.c * p.2 := Int.mul_pos h.c0 fp.pos
  have hB : RtB 1021 ⟨r.a * p.2 - r.c * p.1, r.b * p.2, r.d, r.c * p.2⟩ := ⟨subA (mulA hb.a g2) (mulA hb.c g1), lt_trans_pow (mulA hb.b g2) (by decide), lt_trans_pow hb.d (by decide), lt_trans_pow (mulA hb.c g2) (by decide)⟩
  have e3 := lowest_root_ok (a := r.a * p.2 - r.c * p.1) (b := r.b * p.2) (d := r.d) (c := r.c * p.2) (by omega) hB.b (lt_trans_pow hB.c (by decide)) (by decide) st
  have e4 := root_floor_in_ok (r := rtI (r.a * p.2 - r.c * p.1) (r.b * p.2) r.d (r.c * p.2)) ((rtI_b hc hB).mono (by decide)) (by rw [rtI_d]; exact Int.le_of_lt h.dd.pos) (rtI_c hc) st
  have e5 := under_iff h fp.pos
  generalize rtI (r.a * p.2 - r.c * p.1) (r.b * p.2) r.d (r.c * p.2) = q at *
  have e6 : decide (flR q < 0) = lessR r p := by
    by_cases z : flR q < 0
    · rw [decide_eq_true z, e5.mp z]
    · rw [decide_eq_false z]
      exact (Bool.eq_false_iff.mpr fun w => z (e5.mpr w)).symm
  simp only [pairD, rtD] at e1 e2 e3 e4
  simp [F_root_is_under_eq, b_root_is_under, e1, e2, dMul_int, k1, k2, k3, k4, e3, e4, e6]
theorem root_held_ok {x : Str} {pr : Bool} (hk : Bk x pr) {r : Rt} (h : RtB 5600 r) (hd0 : 0 ≤ r.d) (hc : 0 < r.c) (st : Sto) : F_is_root_held [.str x, rtD r] st = some (.ok (.bl (decide (flR r = if pr then 1 else 0))), st) := by
  have e1 := root_floor_in_ok h hd0 hc st
  have e2 := hk.eq
  cases pr <;> simp [F_is_root_held_eq, b_is_root_held, e1, e2]
end Pw
/-! a drawn root that a book holds -/
namespace Pw
open PySem PySem.Spec PyProof.Rows L2 RZ
theorem for_ret {env env' : Env} {st st1 : Sto} {d v : D} {l : List D} {g : Gt} {body : S} (h : g d env = some env') (hb : body env' st = some (.rt v, st1)) : forL g body (d :: l) env st = some (.rt v, st1) := by
  show (match g d env with
    | none => none
    | some env1 => (match body env1 st with
      | some (.nx env', st2) => forL g body l env' st2
      | some (.ct env', st2) => forL g body l env' st2
      | some (.bk env', st2) => some (.nx env', st2)
      | o => o)) = _
  rw [h]
  simp only [hb]
theorem g3_of {k a b c : Int} (h1 : k ∣ a) (h2 : k ∣ b) (h3 : k ∣ c) : k ∣ g3 a b c := Int.dvd_coe_gcd (Int.dvd_coe_gcd h1 h2) h3
theorem g3_nn (a b c : Int) : 0 ≤ g3 a b c := Int.natCast_nonneg _
theorem g3_shift (a b c m : Int) : g3 (a - m * c) b c = g3 a b c := by
  refine Int.dvd_antisymm (g3_nn _ _ _) (g3_nn _ _ _) (g3_of ?_ g3_b g3_c) (g3_of (Int.dvd_sub g3_a (Int.dvd_mul_of_dvd_right g3_c)) g3_b g3_c)
  have h1 : g3 (a - m * c) b c ∣ a - m * c := g3_a
  have h2 : g3 (a - m * c) b c ∣ m * c := Int.dvd_mul_of_dvd_right g3_c
  have := Int.dvd_add h1 h2
  rwa [Int.sub_add_cancel] at this
theorem flI_shift (a b d m : Int) {c : Int} (hc : 0 < c) : flI (a - m * c) b d c = flI a b d c - m := by
  unfold flI
  rw [show a - m * c + stI b d = a + stI b d + (-m) * c by rw [Int.neg_mul]; omega, Int.add_mul_ediv_right _ _ (by omega)]
  omega
theorem rt_shift {r : Rt} (h : RtOk r) (m : Int) : rtI (r.a - m * r.c) r.b r.d r.c = ⟨r.a - m * r.c, r.b, r.d, r.c⟩ := by
  rw [rtI_pos h.c0, g3_shift, h.g]
  simp
theorem rt_shift_ok {r : Rt} (h : RtOk r) (m : Int) : RtOk ⟨r.a - m * r.c, r.b, r.d, r.c⟩ := ⟨h.b0, h.dd, h.d1, h.c0, (g3_shift _ _ _ _).trans h.g⟩
theorem noSq_of {d k : Nat} (h1 : k * k < d) (h2 : d < (k + 1) * (k + 1)) : NoSq d := by
  unfold NoSq
  rw [isq_uniq (Nat.le_of_lt h1) h2]
  omega
def dL : List Int := [2, 3, 5, 6, 7, 8, 10, 11, 13, 19, 21, 61, 94, 999999]
def bL : List Int := [1, 1, -1, 2, -3, 5]
theorem dL_ok {d : Int} (h : d ∈ dL) : RootD d ∧ 1 < d ∧ d ≤ 999999 := by
  have key : ∀ (d : Int) (k : Nat), 0 < d → k * k < d.toNat → d.toNat < (k + 1) * (k + 1) → 1 < d → d ≤ 999999 → RootD d ∧ 1 < d ∧ d ≤ 999999 := fun d k h0 h1 h2 h3 h4 => ⟨⟨h0, noSq_of h1 h2⟩, h3, h4⟩
  simp only [dL, List.mem_cons, List.not_mem_nil, or_false] at h
  rcases h with rfl | rfl | rfl | rfl | rfl | rfl | rfl | rfl | rfl | rfl | rfl | rfl | rfl | rfl
  · exact key _ 1 (by decide) (by decide) (by decide) (by decide) (by decide)
  · exact key _ 1 (by decide) (by decide) (by decide) (by decide) (by decide)
  · exact key _ 2 (by decide) (by decide) (by decide) (by decide) (by decide)
  · exact key _ 2 (by decide) (by decide) (by decide) (by decide) (by decide)
  · exact key _ 2 (by decide) (by decide) (by decide) (by decide) (by decide)
  · exact key _ 2 (by decide) (by decide) (by decide) (by decide) (by decide)
  · exact key _ 3 (by decide) (by decide) (by decide) (by decide) (by decide)
  · exact key _ 3 (by decide) (by decide) (by decide) (by decide) (by decide)
  · exact key _ 3 (by decide) (by decide) (by decide) (by decide) (by decide)
  · exact key _ 4 (by decide) (by decide) (by decide) (by decide) (by decide)
  · exact key _ 4 (by decide) (by decide) (by decide) (by decide) (by decide)
  · exact key _ 7 (by decide) (by decide) (by decide) (by decide) (by decide)
  · exact key _ 9 (by decide) (by decide) (by decide) (by decide) (by decide)
  · exact key _ 999 (by decide) (by decide) (by decide) (by decide) (by decide)
theorem bL_ok {b : Int} (h : b ∈ bL) : b ≠ 0 ∧ b.natAbs ≤ 5 := by
  simp only [bL, List.mem_cons, List.not_mem_nil, or_false] at h
  rcases h with rfl | rfl | rfl | rfl | rfl | rfl <;> decide
theorem stI_abs {b d : Int} (hb : b.natAbs ≤ 5) (hd0 : 0 < d) (hd : d ≤ 999999) : (stI b d).natAbs ≤ 5001 := by
  have e := sq_toNat b d hd0
  have h1 : b.natAbs * b.natAbs * d.toNat < 5001 * 5001 := by
    have a1 : b.natAbs * b.natAbs ≤ 5 * 5 := Nat.mul_le_mul hb hb
    have a2 : b.natAbs * b.natAbs * d.toNat ≤ 5 * 5 * 999999 := Nat.mul_le_mul a1 (by omega)
    omega
  have h2 := isq_lt.mpr h1
  unfold stI
  rw [e]
  split <;> omega
/-- small roots, held -/
structure RtH (r : Rt) (pr : Bool) : Prop where
  ok : RtOk r
  a : r.a.natAbs ≤ 6000
  b : r.b.natAbs ≤ 5
  d : r.d ≤ 999999
  c : r.c ≤ 30
  fl : flR r = if pr then 1 else 0
theorem moved_ok {a b d c : Int} {pr : Bool} (hb : b ∈ bL) (hd : d ∈ dL) (hc : 0 < c) (hc2 : c ≤ 30) : RtH ⟨(rtI a b d c).a - (flR (rtI a b d c) - if pr then 1 else 0) * (rtI a b d c).c, (rtI a b d c).b, (rtI a b d c).d, (rtI a b d c).c⟩ pr := by
  obtain ⟨d1, d2, d3⟩ := dL_ok hd
  obtain ⟨b1, b2⟩ := bL_ok hb
  have h0 := rtI_ok (a := a) hc b1 d1 d2
  have hg := g3_pos (a := a) (b := b) (show c ≠ 0 by omega)
  have hbb : (rtI a b d c).b.natAbs ≤ 5 := by
    rw [rtI_pos hc]
    exact Nat.le_trans (ediv_natAbs_le b hg g3_b) b2
  have hcc : (rtI a b d c).c ≤ 30 := by
    rw [rtI_pos hc]
    exact Int.le_trans (Int.ediv_le_self _ (by omega)) hc2
  have hdd : (rtI a b d c).d = d := rtI_d
  generalize rtI a b d c = r at *
  refine ⟨rt_shift_ok h0 _, ?_, hbb, by show r.d ≤ _; omega, hcc, ?_⟩
  · show (r.a - (flR r - if pr then 1 else 0) * r.c).natAbs ≤ 6000
    have s := stI_abs (b := r.b) (d := r.d) hbb (by omega) (by omega)
    have m1 := Int.mul_ediv_add_emod (r.a + stI r.b r.d) r.c
    have m2 := Int.emod_nonneg (r.a + stI r.b r.d) (show r.c ≠ 0 by have := h0.c0; omega)
    have m3 := Int.emod_lt_of_pos (r.a + stI r.b r.d) h0.c0
    have e : flR r = (r.a + stI r.b r.d) / r.c := rfl
    rw [← e, Int.mul_comm] at m1
    rw [Int.sub_mul]
    have hp : (0 : Int) ≤ (if pr = true then 1 else 0) * r.c ∧ (if pr = true then (1 : Int) else 0) * r.c ≤ 30 := by
      cases pr
      · simp
      · simp
        have := h0.c0
        omega
    generalize (if pr = true then (1 : Int) else 0) * r.c = w at *
    generalize flR r * r.c = v at *
    generalize (r.a + stI r.b r.d) % r.c = u at *
    have := h0.c0
    omega
  · show flI (r.a - (flR r - if pr then 1 else 0) * r.c) r.b r.d r.c = _
    rw [flI_shift _ _ _ _ h0.c0]
    show flR r - _ = _
    omega
theorem RtH.s {r : Rt} {pr : Bool} (h : RtH r pr) : RtS r := ⟨by have := h.a; omega, by have := h.b; omega, by have := h.d; have := h.ok.dd.pos; omega, by have := h.c; have := h.ok.c0; omega⟩
end Pw
/-! rows of roots -/
namespace Pw
open PySem PySem.Spec PyProof.Rows L2 RZ
theorem RtM.B {μ γ m : Nat} {r : Rt} (h : RtM μ γ r) (h1 : μ ≤ m) (h2 : γ ≤ m) (h3 : 20 ≤ m) : RtB m r := ⟨lt_trans_pow h.a h1, lt_trans_pow h.b h1, lt_trans_pow (m := 20) (by have := h.d; have := h.d0; omega) h3, lt_trans_pow h.c h2⟩
theorem norm_bits {r : Rt} {μ γ : Nat} (h : RtM μ γ r) : (r.a * r.a - r.b * r.b * r.d).natAbs < 2 ^ (2 * μ + 21) := by
  have := subA (mulA h.a h.a) (mulA (mulA h.b h.b) (show r.d.natAbs < 2 ^ 20 by have := h.d; have := h.d0; omega))
  exact lt_trans_pow this (by omega)
theorem turned_ok {r : Rt} {μ γ : Nat} (h : RtM μ γ r) (ok : RtOk r) (h1 : μ ≤ 2700) (h2 : γ ≤ 2700) (st : Sto) : F_turned_root [rtD r] st = some (.ok (rtD (turnR r)), st) := by
  have hn := norm_bits h
  have hb : (-r.c * r.b).natAbs < 2 ^ (γ + μ) := mulA (by rw [Int.natAbs_neg]; exact h.c) h.b
  have e := lowest_root_ok (a := r.c * r.a) (b := -r.c * r.b) (d := r.d) (c := r.a * r.a - r.b * r.b * r.d) (by have := sq_ne (A := r.a) ok.dd ok.b0; omega) hb (lt_trans_pow hn (by omega)) (by omega) st
  have k1 : IntMulOk r.c r.a := mulB h.c h.a (by omega)
  have k2 : IntMulOk (-r.c) r.b := mulB (by rw [Int.natAbs_neg]; exact h.c) h.b (by omega)
  have k3 : IntMulOk r.a r.a := mulB h.a h.a (by omega)
  have k4 : IntMulOk r.b r.b := mulB h.b h.b (by omega)
  have k5 : IntMulOk (r.b * r.b) r.d := mulR (by have := h.d; have := h.d0; omega)
  unfold turnR
  generalize rtI (r.c * r.a) (-r.c * r.b) r.d (r.a * r.a - r.b * r.b * r.d) = q at *
  simp [F_turned_root_eq, b_turned_root, rtD, dMul_int, k1, k2, k3, k4, k5, -Int.neg_mul, e]
theorem turnR_M {r : Rt} {μ γ : Nat} (h : RtM μ γ r) (ok : RtOk r) (h1 : μ ≤ 2700) (h2 : γ ≤ 2700) : RtB 5600 (turnR r) ∧ 0 < (turnR r).c ∧ (turnR r).d = r.d := by
  have hn := norm_bits h
  have hne := sq_ne (A := r.a) ok.dd ok.b0
  have h3 : (r.c * r.a).natAbs < 2 ^ (γ + μ) := mulA h.c h.a
  have h4 : (-r.c * r.b).natAbs < 2 ^ (γ + μ) := mulA (by rw [Int.natAbs_neg]; exact h.c) h.b
  have h5 : r.d.natAbs < 2 ^ 20 := by have := h.d; have := h.d0; omega
  unfold turnR
  refine ⟨?_, ?_, rtI_d⟩
  · rcases Int.lt_or_le 0 (r.a * r.a - r.b * r.b * r.d) with q | q
    · exact rtI_b q ⟨lt_trans_pow h3 (by omega), lt_trans_pow h4 (by omega), lt_trans_pow h5 (by omega), lt_trans_pow hn (by omega)⟩
    · rw [rtI_neg (by omega)]
      exact rtI_b (by omega) ⟨by show (-(r.c * r.a)).natAbs < _; rw [Int.natAbs_neg]; exact lt_trans_pow h3 (by omega), by show (-(-r.c * r.b)).natAbs < _; rw [Int.natAbs_neg]; exact lt_trans_pow h4 (by omega), lt_trans_pow h5 (by omega), by show (-(r.a * r.a - r.b * r.b * r.d)).natAbs < _; rw [Int.natAbs_neg]; exact lt_trans_pow hn (by omega)⟩
  · rcases Int.lt_or_le 0 (r.a * r.a - r.b * r.b * r.d) with q | q
    · exact rtI_c q
    · rw [rtI_neg (by omega)]
      exact rtI_c (by omega)
theorem root_next_ok {k : Bo} {r : Rt} {μ γ : Nat} (h : RtM μ γ r) (hg : γ ≤ μ) (ok : RtOk r) (h1 : μ ≤ 2690) (st : Sto) : F_root_next [.str (bkS k), rtD r] st = some (.ok (.int (numR k r)), st) := by
  have hM := base_M (k := k) h hg
  have okb := base_ok (k := k) ok
  have e1 := turned_ok hM okb (by omega) (by omega) st
  obtain ⟨t1, t2, t3⟩ := turnR_M hM okb (by omega) (by omega)
  have e2 := root_floor_in_ok t1 (by rw [t3]; exact Int.le_of_lt hM.d0) t2 st
  have ep : F_lowest_root [.int (r.a - r.c), .int r.b, .int r.d, .int r.c] st = some (.ok (rtD ⟨r.a - r.c, r.b, r.d, r.c⟩), st) := by
    have e := lowest_root_ok (a := r.a - r.c) (b := r.b) (d := r.d) (c := r.c) (by have := ok.c0; omega) h.b (lt_trans_pow h.c (by omega)) (by omega) st
    have o : rtI (r.a - r.c) r.b r.d r.c = ⟨r.a - r.c, r.b, r.d, r.c⟩ := by
      have := rt_shift ok 1
      rwa [Int.one_mul] at this
    rw [o] at e
    exact e
  cases k <;> simp only [baseR, bkS, numR] at * <;> simp only [rtD] at e1 e2 ep ⊢ <;> simp [F_root_next_eq, b_root_next, rtD, sl, e1, e2, ep]
theorem root_past_ok {k : Bo} {r : Rt} {n : Int} {μ γ ν : Nat} (h : RtM μ γ r) (ok : RtOk r) (hn : 1 ≤ n) (hn2 : n.natAbs < 2 ^ ν) (h1 : μ ≤ 4000) (h2 : γ + ν ≤ 8000) (st : Sto) : F_root_past [.str (bkS k), rtD r, .int n] st = some (.ok (rtD (pastR k r n)), st) := by
  obtain ⟨hc, hb, hd⟩ := raw_c (k := k) ok hn
  have k1 : IntMulOk r.a n := mulB h.a hn2 (by omega)
  have k2 : IntMulOk r.b n := mulB h.b hn2 (by omega)
  have k3 : IntMulOk (-r.b) n := mulB (by rw [Int.natAbs_neg]; exact h.b) hn2 (by omega)
  have k4 : IntMulOk r.c n := mulB h.c hn2 (by omega)
  have n2 : (n + 1).natAbs < 2 ^ (ν + 1) := by rw [Nat.pow_succ]; omega
  have k5 : IntMulOk r.c (n + 1) := mulB h.c n2 (by omega)
  have B1 : (r.b * n).natAbs < 2 ^ (μ + ν) := mulA h.b hn2
  have B2 : (-r.b * n).natAbs < 2 ^ (μ + ν) := by rw [Int.neg_mul, Int.natAbs_neg]; exact B1
  have C1 : (r.c * n).natAbs < 2 ^ 9000 := lt_trans_pow (mulA h.c hn2) (by omega)
  have C2 : r.c.natAbs < 2 ^ 9000 := lt_trans_pow h.c (by omega)
  have C3 : (r.c * (n + 1)).natAbs < 2 ^ 9000 := lt_trans_pow (mulA h.c n2) (by omega)
  have eP : pastR k r n = rtI (rawR k r n).a (rawR k r n).b (rawR k r n).d (rawR k r n).c := rfl
  rw [eP]
  clear eP
  cases k
  · have e := lowest_root_ok (a := r.a * n - r.c) (d := r.d) (show r.c * n ≠ 0 by show (rawR .syl r n).c ≠ 0; omega) B1 C1 (by omega) st
    simp only [rawR, bkS]
    generalize rtI (r.a * n - r.c) (r.b * n) r.d (r.c * n) = q at *
    simp [F_root_past_eq, b_root_past, rtD, dMul_int, k1, k2, k4, e]
  · have e := lowest_root_ok (a := r.a * n - r.c) (d := r.d) (show r.c ≠ 0 by show (rawR .eng r n).c ≠ 0; omega) B1 C2 (by omega) st
    simp only [rawR, bkS]
    generalize rtI (r.a * n - r.c) (r.b * n) r.d r.c = q at *
    simp [F_root_past_eq, b_root_past, rtD, dMul_int, k1, k2, k4, e]
  · have e := lowest_root_ok (a := r.c - r.a * n) (d := r.d) (show r.c ≠ 0 by show (rawR .pie r n).c ≠ 0; omega) B2 C2 (by omega) st
    simp only [rawR, bkS]
    generalize rtI (r.c - r.a * n) (-r.b * n) r.d r.c = q at *
    simp [F_root_past_eq, b_root_past, rtD, dMul_int, k1, k3, k4, -Int.neg_mul, e]
  · have e := lowest_root_ok (a := r.c - r.a * n) (d := r.d) (show r.c * n ≠ 0 by show (rawR .ost r n).c ≠ 0; omega) B2 C1 (by omega) st
    simp only [rawR, bkS]
    generalize rtI (r.c - r.a * n) (-r.b * n) r.d (r.c * n) = q at *
    simp [F_root_past_eq, b_root_past, rtD, dMul_int, k1, k3, k4, -Int.neg_mul, e]
  · have e := lowest_root_ok (a := r.a * n) (d := r.d) (show r.c * (n + 1) ≠ 0 by show (rawR .pro r n).c ≠ 0; omega) B1 C3 (by omega) st
    simp only [rawR, bkS]
    generalize rtI (r.a * n) (r.b * n) r.d (r.c * (n + 1)) = q at *
    simp [F_root_past_eq, b_root_past, rtD, dMul_int, k1, k2, k5, e]
/-- so many steps stay in bounds -/
def Fits (k : Bo) : Nat → Rt → Prop
  | 0, _ => True
  | m + 1, r => HeldR k r ∧ RtM 2690 2690 r ∧ (numR k r).natAbs < 2 ^ 5000 ∧ RtB 3900 (pastR k r (numR k r)) ∧ Fits k m (pastR k r (numR k r))
theorem fits_of {k : Bo} : ∀ (m : Nat) {r : Rt} {μ γ : Nat}, HeldR k r → RtM μ γ r → γ ≤ μ → (∀ j, j < m → (Nat.rec (motive := fun _ => Nat × Nat) (μ, γ) (fun _ p => (2 * p.1 + p.2 + 14, 2 * p.2 + p.1 + 14)) j).1 ≤ 1293) → Fits k m r := by
  intro m
  induction m with
  | zero => exact fun _ _ _ _ => trivial
  | succ m ih =>
    intro r μ γ hh h hg hj
    have h0 : μ ≤ 1293 := hj 0 (by omega)
    have n1 := num_pos hh
    have n2 := num_bits h hg hh
    refine ⟨hh, ⟨lt_trans_pow h.a (by omega), lt_trans_pow h.b (by omega), h.d0, h.d, lt_trans_pow h.c (by omega)⟩, ?_, (past_bits h hg hh).B (by omega) (by omega) (by decide), ih (past_held hh) (past_bits h hg hh) (by omega) fun j hjm => ?_⟩
    · have e : (2 : Int) ^ (γ + μ + 12) = ((2 ^ (γ + μ + 12) : Nat) : Int) := by rw [Int.natCast_pow]; rfl
      rw [e] at n2
      have : (2 : Nat) ^ (γ + μ + 12) < 2 ^ 5000 := Nat.pow_lt_pow_right (by decide) (by omega)
      omega
    · have := hj (j + 1) (by omega)
      have e : ∀ j : Nat, (Nat.rec (motive := fun _ => Nat × Nat) (2 * μ + γ + 14, 2 * γ + μ + 14) (fun _ p => (2 * p.1 + p.2 + 14, 2 * p.2 + p.1 + 14)) j : Nat × Nat) = Nat.rec (motive := fun _ => Nat × Nat) (μ, γ) (fun _ p => (2 * p.1 + p.2 + 14, 2 * p.2 + p.1 + 14)) (j + 1) := by
        intro j
        induction j with
        | zero => rfl
        | succ j ih => show (2 * _ + _ + 14, 2 * _ + _ + 14) = _; rw [ih]
      rw [e]
      exact this
theorem ten2000 : 2 ^ 5000 < 10 ^ 2000 := by decide +kernel
theorem rests_loop {k : Bo} (st : Sto) (a2 a1 : Option D) : ∀ (m : Nat) (r : Rt) (acc : List Int) (lo : Int) (x y : Option D), Fits k m r → acc.length + m ≤ 1000 →
    ∃ x' y', forL (gV 5) (sSeq (sSet 6 (mCall F_root_next 2 (mCons (mVar 0) (mCons (mVar 3) mNil)))) (sSeq (sIf (mNot (mTst (mCall F_is_near 2 (mCons (mVar 6) (mCons (mLit (.int 2000)) mNil))))) (sRaise "TooMany") sNext) (sPar [4, 3] (mCons (mBin dAdd (mVar 4) (mTup (mCons (mVar 6) mNil))) (mCons (mCall F_root_past 3 (mCons (mVar 0) (mCons (mVar 3) (mCons (mVar 6) mNil)))) mNil))))) (rangeL lo m) [some (.str (bkS k)), a1, a2, some (rtD r), some (.tup (acc.map .int)), x, y] st =
      some (.nx [some (.str (bkS k)), a1, a2, some (rtD (restsR k r m).2), some (.tup ((acc ++ (restsR k r m).1).map .int)), x', y'], st)
  | 0, r, acc, lo, x, y, _, _ => ⟨x, y, by simp [rangeL, restsR]⟩
  | m + 1, r, acc, lo, x, y, ⟨hh, hM, hn, _, hf⟩, hl => by
    have n1 := num_pos hh
    have e1 := root_next_ok (k := k) hM (by decide) hh.1 (by decide) st
    have e2 := root_past_ok (k := k) hM hh.1 n1 hn (by decide) (by decide) st
    have e3 := near_yes (a := numR k r) (k := 2000) (n := 2000) rfl (by decide) (Nat.lt_trans hn ten2000) st
    have eR : restsR k r (m + 1) = (numR k r :: (restsR k (pastR k r (numR k r)) m).1, (restsR k (pastR k r (numR k r)) m).2) := rfl
    obtain ⟨x', y', e4⟩ := rests_loop st a2 a1 m (pastR k r (numR k r)) (acc ++ [numR k r]) (lo + 1) (some (.int lo)) (some (.int (numR k r))) hf (by rw [List.length_append]; simp; omega)
    refine ⟨x', y', ?_⟩
    rw [eR]
    generalize numR k r = n at *
    generalize pastR k r n = q at *
    unfold rangeL
    rw [for_step (env' := [some (.str (bkS k)), a1, a2, some (rtD r), some (.tup (acc.map .int)), some (.int lo), y]) (e1 := [some (.str (bkS k)), a1, a2, some (rtD q), some (.tup ((acc ++ [n]).map .int)), some (.int lo), some (.int n)]) (st1 := st) (by simp) ?_]
    · rw [e4, List.append_assoc]
      rfl
    · have hs : (acc.map D.int).length + 1 ≤ 16777216 := by rw [List.length_map]; omega
      have ha : dAdd (.tup (acc.map .int)) (.tup [.int n]) = some (.tup (acc.map .int ++ [.int n])) := if_pos (by rw [sl]; exact hs)
      simp [e1, e3, e2, sl, ha]
theorem root_rests_ok {k : Bo} {r : Rt} {m : Int} (h0 : 0 ≤ m) (hm : m ≤ 60) (h : Fits k m.toNat r) (st : Sto) : F_root_rests [.str (bkS k), rtD r, .int m] st = some (.ok (.tup [.tup ((restsR k r m.toNat).1.map .int), rtD (restsR k r m.toNat).2]), st) := by
  obtain ⟨x', y', e⟩ := rests_loop st (some (.int m)) (some (rtD r)) m.toNat r [] 0 none none h (by simp; omega)
  rw [List.nil_append, List.map_nil] at e
  have c := rng_int h0 (by omega)
  simp only [F_root_rests_eq, b_root_rests]
  generalize (sSeq (sSet 6 (mCall F_root_next 2 (mCons (mVar 0) (mCons (mVar 3) mNil)))) (sSeq (sIf (mNot (mTst (mCall F_is_near 2 (mCons (mVar 6) (mCons (mLit (.int 2000)) mNil))))) (sRaise "TooMany") sNext) (sPar [4, 3] (mCons (mBin dAdd (mVar 4) (mTup (mCons (mVar 6) mNil))) (mCons (mCall F_root_past 3 (mCons (mVar 0) (mCons (mVar 3) (mCons (mVar 6) mNil)))) mNil))))) = B at *
  simp [sl, -rngP_1, c, e]
end Pw
/-! rows of roots: the doors -/
namespace Pw
open PySem PySem.Spec PyProof.Rows L2 RZ
theorem within_ok (a b c : Int) (st : Sto) : F_is_within [.int a, .int b, .int c] st = some (.ok (.bl (decide (b ≤ a) && decide (a ≤ c))), st) := by
  by_cases h : b ≤ a <;> simp [F_is_within_eq, b_is_within, number_ok, h]
theorem sure_within_ok {a b c : Int} (h1 : b ≤ a) (h2 : a ≤ c) (st : Sto) : F_sure_within [.int a, .int b, .int c] st = some (.ok (.int a), st) := by
  simp [F_sure_within_eq, b_sure_within, within_ok, h1, h2]
theorem held_fl {k : Bo} {r : Rt} (h : RtOk r) : HeldR k r ↔ flR r = if k.pr then 1 else 0 := by
  have h2 : flR (baseR k r) = 0 ↔ Rt01 (baseR k r) := rt01_iff (base_ok h)
  unfold HeldR
  rw [← h2]
  have h3 : flR ⟨r.a - r.c, r.b, r.d, r.c⟩ = flR r - 1 := by
    have := flI_shift r.a r.b r.d 1 h.c0
    rwa [Int.one_mul] at this
  cases k
  case pro =>
    show RtOk r ∧ flR ⟨r.a - r.c, r.b, r.d, r.c⟩ = 0 ↔ flR r = 1
    rw [h3]
    exact ⟨fun z => by omega, fun z => ⟨h, by omega⟩⟩
  all_goals exact ⟨fun z => z.2, fun z => ⟨h, z⟩⟩
theorem sure_held_ok {k : Bo} {r : Rt} {x : D} (hx : Pl 20 x) (ht : tupD x = rtD r) (h : HeldR k r) (hs : RtS r) (st : Sto) : F_sure_held_root [.str (bkS k), x] st = some (.ok (rtD r), st) := by
  have e1 := sure_root_ok hx ht h.1 hs.a hs.b hs.d hs.c st
  have e2 := root_held_ok (bkS_ok k) (hs.b20.mono (show 20 ≤ 5600 by decide)) (Int.le_of_lt h.1.dd.pos) h.1.c0 st
  rw [decide_eq_true ((held_fl h.1).mp h)] at e2
  simp [F_sure_held_root_eq, b_sure_held_root, e1, e2]
theorem root_numbers_ok {k : Bo} {r : Rt} {x : D} {m : Int} (hx : Pl 20 x) (ht : tupD x = rtD r) (h : HeldR k r) (hs : RtS r) (h0 : 0 ≤ m) (hm : m ≤ 60) (hf : Fits k m.toNat r) (st : Sto) : F_root_numbers [.str (bkS k), x, .int m] st = some (.ok (.tup ((restsR k r m.toNat).1.map .int)), st) := by
  have e1 := sure_book_ok (bkS_ok k) st
  have e2 := sure_held_ok hx ht h hs st
  have e3 := sure_within_ok h0 hm st
  have e4 := root_rests_ok h0 hm hf st
  simp [F_root_numbers_eq, b_root_numbers, e1, e2, e3, e4]
theorem root_rest_ok {k : Bo} {r : Rt} {x : D} {m : Int} (hx : Pl 20 x) (ht : tupD x = rtD r) (h : HeldR k r) (hs : RtS r) (h0 : 0 ≤ m) (hm : m ≤ 60) (hf : Fits k m.toNat r) (st : Sto) : F_root_rest [.str (bkS k), x, .int m] st = some (.ok (rtD (restsR k r m.toNat).2), st) := by
  have e1 := sure_book_ok (bkS_ok k) st
  have e2 := sure_held_ok hx ht h hs st
  have e3 := sure_within_ok h0 hm st
  have e4 := root_rests_ok h0 hm hf st
  simp [F_root_rest_eq, b_root_rest, e1, e2, e3, e4]
theorem RtH.held {k : Bo} {r : Rt} (h : RtH r k.pr) : HeldR k r := (held_fl h.ok).mpr h.fl
theorem RtH.M {r : Rt} {pr : Bool} (h : RtH r pr) : RtM 13 5 r := ⟨by have := h.a; omega, by have := h.b; omega, h.ok.dd.pos, by have := h.d; omega, by have := h.c; have := h.ok.c0; omega⟩
theorem RtH.fits {k : Bo} {r : Rt} (h : RtH r k.pr) {m : Nat} (hm : m ≤ 5) : Fits k m r := by
  refine fits_of m h.held h.M (by decide) fun j hj => ?_
  have : j = 0 ∨ j = 1 ∨ j = 2 ∨ j = 3 ∨ j = 4 := by omega
  rcases this with rfl | rfl | rfl | rfl | rfl <;> decide
theorem lis_less_ok {p q : Int × Int} {n : Nat} (h1 : p.1.natAbs < 2 ^ n) (h2 : p.2.natAbs < 2 ^ n) (h3 : q.1.natAbs < 2 ^ n) (h4 : q.2.natAbs < 2 ^ n) (hn : n ≤ 1000000) (st : Sto) : F_l_is_less [pairD p, pairD q] st = some (.ok (.bl (decide (p.1 * q.2 < q.1 * p.2))), st) := by
  have k1 : IntMulOk p.1 q.2 := mulB h1 h4 (by omega)
  have k2 : IntMulOk q.1 p.2 := mulB h3 h2 (by omega)
  simp [F_l_is_less_eq, b_l_is_less, pairD, dMul_int, k1, k2]
/-! a number put ahead -/
theorem put_b {k : Bo} {r : Rt} {n : Int} (h : RtOk r) (hn : 1 ≤ n) : (putR k r n).b ≠ 0 ∧ 0 < (putR k r n).c := by
  have h1 : r.b * n ≠ 0 := Int.mul_ne_zero h.b0 (by omega)
  have h2 : -r.b * n ≠ 0 := Int.mul_ne_zero (by have := h.b0; omega) (by omega)
  have h3 : r.b * (n + 1) ≠ 0 := Int.mul_ne_zero h.b0 (by omega)
  have h4 := h.b0
  have h5 : 0 < r.c * n := Int.mul_pos h.c0 (by omega)
  cases k <;> exact ⟨by first | assumption | exact Int.neg_ne_zero.mpr h4, h5⟩
end Pw
/-! fractions: the program's functions -/
namespace Pw
open PySem PySem.Spec PyProof.Rows L2 RZ
theorem mulA' {x y : Int} {m n : Nat} (hx : x.natAbs < 2 ^ m) (hy : y.natAbs < 2 ^ n) : (x * y).natAbs < 2 ^ (m + n) := by
  rw [Int.natAbs_mul, Nat.pow_add]
  rcases Nat.eq_zero_or_pos y.natAbs with h | h
  · rw [h, Nat.mul_zero]
    exact Nat.mul_pos (Nat.pow_pos (by decide)) (Nat.pow_pos (by decide))
  · exact Nat.mul_lt_mul'' hx hy
theorem subA' {x y : Int} {m : Nat} (hx : x.natAbs < 2 ^ m) (hy : y.natAbs < 2 ^ m) : (x - y).natAbs < 2 ^ (m + 1) := by
  rw [Nat.pow_succ]
  omega
theorem addA' {x y : Int} {m : Nat} (hx : x.natAbs < 2 ^ m) (hy : y.natAbs < 2 ^ m) : (x + y).natAbs < 2 ^ (m + 1) := by
  rw [Nat.pow_succ]
  omega
structure FrB (m : Nat) (p : Int × Int) : Prop where
  a : p.1.natAbs < 2 ^ m
  b : p.2.natAbs < 2 ^ m
theorem FrB.mono {m n : Nat} {p : Int × Int} (h : FrB m p) (k : m ≤ n) : FrB n p := ⟨lt_trans_pow h.a k, lt_trans_pow h.b k⟩
section
variable {p q : Int × Int} {m n : Nat}
end
theorem cut_B {a b : Int} {m : Nat} (hb : 0 < b) (h1 : a.natAbs < 2 ^ m) (h2 : b.natAbs < 2 ^ m) : FrB m (cutI a b) := by
  refine ⟨Nat.lt_of_le_of_lt (cut_abs hb) h1, ?_⟩
  have q1 := cut_pos (a := a) hb
  have q2 := cut_le (a := a) hb
  have : (cutI a b).2.natAbs ≤ b.natAbs := by omega
  exact Nat.lt_of_le_of_lt this h2
end Pw
/-! the roots r with r + 1 / r = n -/
namespace Pw
structure KN (n : Int) (r : Rt) : Prop where
  ok : RtOk r
  b : r.b < 0
  e1 : 2 * r.a = n * r.c
  e2 : 4 * (r.b * r.b * r.d) = (n * n - 4) * (r.c * r.c)
  ge : 3 ≤ n
/-- between the first and the second number in Pierce's book -/
structure KM (n : Int) (r : Rt) : Prop where
  held : HeldR .pie r
  b : 0 < r.b
  e1 : 2 * r.a = -((n - 2) * (n + 1)) * r.c
  e2 : 4 * (r.b * r.b * r.d) = (n - 1) * (n - 1) * (n * n - 4) * (r.c * r.c)
  ge : 3 ≤ n
def sqN (n : Int) : Int := n * n - 2
def cuN (n : Int) : Int := n * n * n - 3 * n
theorem sqN_ge {n : Int} (h : 3 ≤ n) : n ≤ sqN n ∧ 7 ≤ sqN n := by
  have := Int.mul_le_mul_of_nonneg_right h (show 0 ≤ n by omega)
  unfold sqN
  omega
theorem cuN_ge {n : Int} (h : 3 ≤ n) : sqN n ≤ cuN n ∧ 18 ≤ cuN n := by
  have h1 := Int.mul_le_mul_of_nonneg_right h (show 0 ≤ n by omega)
  have h2 := Int.mul_le_mul_of_nonneg_left h1 (show 0 ≤ n by omega)
  have e : n * (3 * n) = 3 * (n * n) := by grind
  have e2 : n * (n * n) = n * n * n := by grind
  unfold sqN cuN
  omega
theorem lt_of4 {x y : Int} (h : 4 * x < 4 * y) : x < y := by omega
theorem KN.hsq {n : Int} {r : Rt} (h : KN n r) : 4 * (r.a * r.a) = n * n * (r.c * r.c) := by
  have e := h.e1
  have : 4 * (r.a * r.a) = (2 * r.a) * (2 * r.a) := by grind
  rw [this, e]
  grind
theorem KN.n4 {n : Int} {r : Rt} (h : KN n r) : 0 < n * n - 4 := by
  have := Int.mul_le_mul_of_nonneg_right h.ge (show 0 ≤ n by have := h.ge; omega)
  have := h.ge
  omega
theorem KN.r01 {n : Int} {r : Rt} (h : KN n r) : Rt01 r := by
  have hc := sq_pos' h.ok.c0
  have c0 := h.ok.c0
  have g := h.ge
  have hb := h.b
  have e1 := h.e1
  have e2 := h.e2
  have e3 := h.hsq
  refine ⟨h.ok, ?_, ?_⟩
  · refine (ps_iff h.ok.dd h.ok.b0).mpr (.inl ⟨lt_of4 ?_, ?_⟩)
    · rw [e2, e3]
      exact Int.mul_lt_mul_of_pos_right (by omega) hc
    · have := Int.mul_pos (show 0 < n by omega) c0
      omega
  · refine (ps_iff h.ok.dd (by omega)).mpr (.inr ⟨lt_of4 ?_, by omega⟩)
    rw [Int.neg_mul_neg, e2]
    have e4 : 4 * ((r.c - r.a) * (r.c - r.a)) = (n - 2) * (n - 2) * (r.c * r.c) := by
      have : 4 * ((r.c - r.a) * (r.c - r.a)) = (2 * r.c - 2 * r.a) * (2 * r.c - 2 * r.a) := by grind
      rw [this, e1]
      grind
    rw [e4]
    refine Int.mul_lt_mul_of_pos_right ?_ hc
    have : (n - 2) * (n - 2) = n * n - 4 * n + 4 := by grind
    omega
theorem KN.held {n : Int} {r : Rt} (h : KN n r) {k : Bo} (hk : k.pr = false) : HeldR k r := by
  refine ⟨h.ok, ?_⟩
  cases k <;> first | exact h.r01 | cases hk
theorem KN.fl {n : Int} {r : Rt} (h : KN n r) : flR (turnR r) = n - 1 := by
  have hc := sq_pos' h.ok.c0
  have c0 := h.ok.c0
  have g := h.ge
  have hb := h.b
  have e1 := h.e1
  have e2 := h.e2
  have h4 := h.n4
  have nb : n * r.b < 0 := Int.mul_neg_of_pos_of_neg (by omega) hb
  have t1 := (turn_lt h.ok h.r01.lo (m := n) (by omega)).mpr (by
    refine (ps_iff h.ok.dd (by omega)).mpr (.inl ⟨lt_of4 ?_, ?_⟩)
    · have e3 : 4 * (n * r.b * (n * r.b) * r.d) = n * n * (4 * (r.b * r.b * r.d)) := by grind
      have e4 : 4 * ((n * r.a - r.c) * (n * r.a - r.c)) = (n * (2 * r.a) - 2 * r.c) * (n * (2 * r.a) - 2 * r.c) := by grind
      rw [e3, e4, e1, e2]
      have e5 : (n * (n * r.c) - 2 * r.c) * (n * (n * r.c) - 2 * r.c) = (n * n - 2) * (n * n - 2) * (r.c * r.c) := by grind
      have e6 : n * n * ((n * n - 4) * (r.c * r.c)) = n * n * (n * n - 4) * (r.c * r.c) := by grind
      rw [e5, e6]
      refine Int.mul_lt_mul_of_pos_right ?_ hc
      have : (n * n - 2) * (n * n - 2) = n * n * (n * n - 4) + 4 := by grind
      omega
    · have e3 : 2 * (n * r.a - r.c) = (n * n - 2) * r.c := by
        have : 2 * (n * r.a - r.c) = n * (2 * r.a) - 2 * r.c := by grind
        rw [this, e1]
        grind
      have := Int.mul_pos (show 0 < n * n - 2 by omega) c0
      omega)
  have t2 : ¬ flR (turnR r) < n - 1 := fun z => by
    have := (turn_lt h.ok h.r01.lo (m := n - 1) (by omega)).mp z
    have nb2 : (n - 1) * r.b < 0 := Int.mul_neg_of_pos_of_neg (by omega) hb
    rcases (ps_iff h.ok.dd (by omega)).mp this with ⟨y, _⟩ | ⟨_, y⟩
    · have e3 : 4 * ((n - 1) * r.b * ((n - 1) * r.b) * r.d) = (n - 1) * (n - 1) * (4 * (r.b * r.b * r.d)) := by grind
      have e4 : 4 * (((n - 1) * r.a - r.c) * ((n - 1) * r.a - r.c)) = ((n - 1) * (2 * r.a) - 2 * r.c) * ((n - 1) * (2 * r.a) - 2 * r.c) := by grind
      rw [e1] at e4
      rw [e2] at e3
      have e5 : ((n - 1) * (n * r.c) - 2 * r.c) * ((n - 1) * (n * r.c) - 2 * r.c) = (n - 2) * (n * n * n - 3 * n - 2) * (r.c * r.c) := by grind
      have e6 : (n - 1) * (n - 1) * ((n * n - 4) * (r.c * r.c)) = (n - 2) * (n * n * n - 3 * n + 2) * (r.c * r.c) := by grind
      rw [e5] at e4
      rw [e6] at e3
      have : (n - 2) * (n * n * n - 3 * n - 2) * (r.c * r.c) < (n - 2) * (n * n * n - 3 * n + 2) * (r.c * r.c) := Int.mul_lt_mul_of_pos_right (Int.mul_lt_mul_of_pos_left (by omega) (by omega)) hc
      omega
    · omega
  omega
theorem KN.numE {n : Int} {r : Rt} (h : KN n r) : numR .eng r = n := by
  show flR (turnR r) + 1 = n
  rw [h.fl]
  omega
theorem KN.numP {n : Int} {r : Rt} (h : KN n r) : numR .pie r = n - 1 := h.fl
theorem kn_red {n : Int} {q : Rt} (ok : RtOk (redR q)) (hc : 0 < q.c) (hb : q.b < 0) (e1 : 2 * q.a = n * q.c) (e2 : 4 * (q.b * q.b * q.d) = (n * n - 4) * (q.c * q.c)) (ge : 3 ≤ n) : KN n (redR q) := by
  have e := redR_mul (r := q) hc
  have hg : 0 < g3 q.a q.b q.c := g3_pos (by omega)
  generalize g3 q.a q.b q.c = t at *
  generalize redR q = s at *
  have ea : q.a = t * s.a := congrArg Rt.a e
  have eb : q.b = t * s.b := congrArg Rt.b e
  have ed : q.d = (sclR t s).d := congrArg Rt.d e
  have ed : q.d = s.d := ed
  have ec : q.c = t * s.c := congrArg Rt.c e
  rw [ea, ec] at e1
  rw [eb, ec, ed] at e2
  rw [eb] at hb
  have ht2 := sq_pos' hg
  refine ⟨ok, ?_, ?_, ?_, ge⟩
  · rcases Int.lt_or_le s.b 0 with z | z
    · exact z
    · have := Int.mul_nonneg (Int.le_of_lt hg) z; omega
  · refine Int.eq_of_mul_eq_mul_left (show t ≠ 0 by omega) ?_
    have a1 : t * (2 * s.a) = 2 * (t * s.a) := by grind
    have a2 : t * (n * s.c) = n * (t * s.c) := by grind
    rw [a1, a2, e1]
  · refine Int.eq_of_mul_eq_mul_left (show t * t ≠ 0 by omega) ?_
    have a1 : t * t * (4 * (s.b * s.b * s.d)) = 4 * (t * s.b * (t * s.b) * s.d) := by grind
    have a2 : t * t * ((n * n - 4) * (s.c * s.c)) = (n * n - 4) * (t * s.c * (t * s.c)) := by grind
    rw [a1, a2, e2]
theorem KN.pastE {n : Int} {r : Rt} (h : KN n r) : KN (sqN n) (pastR .eng r n) := by
  have hp := past_held (h.held (k := .eng) rfl)
  rw [h.numE] at hp
  have g := h.ge
  have e1 := h.e1
  have e2 := h.e2
  have hb := h.b
  have nb : r.b * n < 0 := Int.mul_neg_of_neg_of_pos hb (by omega)
  refine kn_red (q := rawR .eng r n) hp.1 h.ok.c0 nb ?_ ?_ (by have := sqN_ge g; omega)
  · show 2 * (r.a * n - r.c) = sqN n * r.c
    have : 2 * (r.a * n - r.c) = (2 * r.a) * n - 2 * r.c := by grind
    rw [this, e1]
    unfold sqN
    grind
  · show 4 * (r.b * n * (r.b * n) * r.d) = (sqN n * sqN n - 4) * (r.c * r.c)
    have : 4 * (r.b * n * (r.b * n) * r.d) = n * n * (4 * (r.b * r.b * r.d)) := by grind
    rw [this, e2]
    unfold sqN
    grind
theorem KN.pastP {n : Int} {r : Rt} (h : KN n r) : KM n (pastR .pie r (n - 1)) := by
  have hp := past_held (h.held (k := .pie) rfl)
  rw [h.numP] at hp
  have g := h.ge
  have e1 := h.e1
  have e2 := h.e2
  have hb := h.b
  have c0 := h.ok.c0
  have e := redR_mul (r := rawR .pie r (n - 1)) (show 0 < (rawR .pie r (n - 1)).c from c0)
  have hg : 0 < g3 (rawR .pie r (n - 1)).a (rawR .pie r (n - 1)).b (rawR .pie r (n - 1)).c := g3_pos (by show r.c ≠ 0; omega)
  have nb : 0 < -r.b * (n - 1) := Int.mul_pos (by omega) (by omega)
  show KM n (redR (rawR .pie r (n - 1)))
  have hp1 : HeldR .pie (redR (rawR .pie r (n - 1))) := hp
  generalize g3 (rawR .pie r (n - 1)).a (rawR .pie r (n - 1)).b (rawR .pie r (n - 1)).c = t at *
  generalize redR (rawR .pie r (n - 1)) = s at *
  have ea : r.c - r.a * (n - 1) = t * s.a := congrArg Rt.a e
  have eb : -r.b * (n - 1) = t * s.b := congrArg Rt.b e
  have ed : (rawR .pie r (n - 1)).d = (sclR t s).d := congrArg Rt.d e
  have ed : r.d = s.d := ed
  have ec : r.c = t * s.c := congrArg Rt.c e
  have ht2 := sq_pos' hg
  refine ⟨hp1, ?_, ?_, ?_, g⟩
  · rw [eb] at nb
    rcases Int.lt_or_le 0 s.b with z | z
    · exact z
    · have := Int.mul_nonpos_of_nonneg_of_nonpos (Int.le_of_lt hg) z; omega
  · refine Int.eq_of_mul_eq_mul_left (show t ≠ 0 by omega) ?_
    have a1 : t * (2 * s.a) = 2 * (t * s.a) := by grind
    have a2 : t * (-((n - 2) * (n + 1)) * s.c) = -((n - 2) * (n + 1)) * (t * s.c) := by grind
    rw [a1, a2, ← ea, ← ec]
    have a3 : 2 * (r.c - r.a * (n - 1)) = 2 * r.c - (2 * r.a) * (n - 1) := by grind
    rw [a3, e1]
    grind
  · refine Int.eq_of_mul_eq_mul_left (show t * t ≠ 0 by omega) ?_
    have a1 : t * t * (4 * (s.b * s.b * s.d)) = 4 * (t * s.b * (t * s.b) * s.d) := by grind
    have a2 : t * t * ((n - 1) * (n - 1) * (n * n - 4) * (s.c * s.c)) = (n - 1) * (n - 1) * (n * n - 4) * (t * s.c * (t * s.c)) := by grind
    rw [a1, a2, ← eb, ← ec, ← ed]
    have a3 : 4 * (-r.b * (n - 1) * (-r.b * (n - 1)) * r.d) = (n - 1) * (n - 1) * (4 * (r.b * r.b * r.d)) := by grind
    rw [a3, e2]
    grind
theorem KM.num {n : Int} {r : Rt} (h : KM n r) : numR .pie r = n + 1 := by
  show flR (turnR r) = n + 1
  have ok := h.held.1
  have r01 : Rt01 r := h.held.2
  have hc := sq_pos' ok.c0
  have c0 := ok.c0
  have g := h.ge
  have hb := h.b
  have e1 := h.e1
  have e2 := h.e2
  have h9 := Int.mul_le_mul_of_nonneg_right g (show 0 ≤ n by omega)
  have t1 := (turn_lt ok r01.lo (m := n + 2) (by omega)).mpr (by
    refine (ps_iff ok.dd (by have := Int.mul_pos (show 0 < n + 2 by omega) hb; omega)).mpr (.inr ⟨lt_of4 ?_, Int.mul_pos (by omega) hb⟩)
    have e3 : 4 * ((n + 2) * r.b * ((n + 2) * r.b) * r.d) = (n + 2) * (n + 2) * (4 * (r.b * r.b * r.d)) := by grind
    have e4 : 4 * (((n + 2) * r.a - r.c) * ((n + 2) * r.a - r.c)) = ((n + 2) * (2 * r.a) - 2 * r.c) * ((n + 2) * (2 * r.a) - 2 * r.c) := by grind
    rw [e3, e4, e1, e2]
    have e5 : ((n + 2) * (-((n - 2) * (n + 1)) * r.c) - 2 * r.c) * ((n + 2) * (-((n - 2) * (n + 1)) * r.c) - 2 * r.c) = ((n + 2) * (n - 2) * (n + 1) + 2) * ((n + 2) * (n - 2) * (n + 1) + 2) * (r.c * r.c) := by grind
    have e6 : (n + 2) * (n + 2) * ((n - 1) * (n - 1) * (n * n - 4) * (r.c * r.c)) = (((n + 2) * (n - 2) * (n + 1) + 2) * ((n + 2) * (n - 2) * (n + 1) + 2) + (4 * (n * n) - 20)) * (r.c * r.c) := by grind
    rw [e5, e6]
    exact Int.mul_lt_mul_of_pos_right (by omega) hc)
  have t2 : ¬ flR (turnR r) < n + 1 := fun z => by
    have := (turn_lt ok r01.lo (m := n + 1) (by omega)).mp z
    have nb2 : 0 < (n + 1) * r.b := Int.mul_pos (by omega) hb
    have e4 : 2 * ((n + 1) * r.a - r.c) = -(cuN n) * r.c := by
      have : 2 * ((n + 1) * r.a - r.c) = (n + 1) * (2 * r.a) - 2 * r.c := by grind
      rw [this, e1]
      unfold cuN
      grind
    have hcu := cuN_ge g
    rcases (ps_iff ok.dd (by omega)).mp this with ⟨_, y⟩ | ⟨y, _⟩
    · have : -(cuN n) * r.c < 0 := Int.mul_neg_of_neg_of_pos (by omega) c0
      omega
    · have e3 : 4 * ((n + 1) * r.b * ((n + 1) * r.b) * r.d) = (n + 1) * (n + 1) * (4 * (r.b * r.b * r.d)) := by grind
      have e5 : 4 * (((n + 1) * r.a - r.c) * ((n + 1) * r.a - r.c)) = (2 * ((n + 1) * r.a - r.c)) * (2 * ((n + 1) * r.a - r.c)) := by grind
      rw [e4] at e5
      rw [e2] at e3
      have e6 : -(cuN n) * r.c * (-(cuN n) * r.c) = (cuN n * cuN n) * (r.c * r.c) := by grind
      have e7 : (n + 1) * (n + 1) * ((n - 1) * (n - 1) * (n * n - 4) * (r.c * r.c)) = (cuN n * cuN n - 4) * (r.c * r.c) := by unfold cuN; grind
      rw [e6] at e5
      rw [e7] at e3
      have : (cuN n * cuN n - 4) * (r.c * r.c) < (cuN n * cuN n) * (r.c * r.c) := Int.mul_lt_mul_of_pos_right (by omega) hc
      omega
  omega
theorem KM.past {n : Int} {r : Rt} (h : KM n r) : KN (cuN n) (pastR .pie r (n + 1)) := by
  have hp := past_held h.held
  rw [h.num] at hp
  have g := h.ge
  have e1 := h.e1
  have e2 := h.e2
  have hb := h.b
  have nb : -r.b * (n + 1) < 0 := Int.mul_neg_of_neg_of_pos (by omega) (by omega)
  refine kn_red (q := rawR .pie r (n + 1)) hp.1 h.held.1.c0 nb ?_ ?_ (by have := cuN_ge g; omega)
  · show 2 * (r.c - r.a * (n + 1)) = cuN n * r.c
    have : 2 * (r.c - r.a * (n + 1)) = 2 * r.c - (2 * r.a) * (n + 1) := by grind
    rw [this, e1]
    unfold cuN
    grind
  · show 4 * (-r.b * (n + 1) * (-r.b * (n + 1)) * r.d) = (cuN n * cuN n - 4) * (r.c * r.c)
    have : 4 * (-r.b * (n + 1) * (-r.b * (n + 1)) * r.d) = (n + 1) * (n + 1) * (4 * (r.b * r.b * r.d)) := by grind
    rw [this, e2]
    unfold cuN
    grind
def seqE : Nat → Int → List Int
  | 0, _ => []
  | m + 1, n => n :: seqE m (sqN n)
def seqQ : Nat → Int → List Int
  | 0, _ => []
  | m + 1, n => (n - 1) :: (n + 1) :: seqQ m (cuN n)
def numP : Nat → Int → List Int
  | 0, _ => []
  | 1, n => [n - 1]
  | m + 2, n => (n - 1) :: (n + 1) :: numP m (cuN n)
theorem numP_take : ∀ (m k : Nat) (n : Int), m ≤ 2 * k → (seqQ k n).take m = numP m n
  | 0, _, _, _ => by rw [List.take_zero]; rfl
  | 1, k + 1, n, _ => by
    show ((n - 1) :: (n + 1) :: seqQ k (cuN n)).take 1 = _
    rfl
  | m + 2, k + 1, n, h => by
    show ((n - 1) :: (n + 1) :: seqQ k (cuN n)).take (m + 2) = (n - 1) :: (n + 1) :: numP m (cuN n)
    rw [List.take_succ_cons, List.take_succ_cons, numP_take m k _ (by omega)]
theorem seqE_take : ∀ (m k : Nat) (n : Int), m ≤ k → (seqE k n).take m = seqE m n
  | 0, _, _, _ => by rw [List.take_zero]; rfl
  | m + 1, k + 1, n, h => by
    show (n :: seqE k (sqN n)).take (m + 1) = n :: seqE m (sqN n)
    rw [List.take_succ_cons, seqE_take m k _ (by omega)]
theorem seqE_len : ∀ (m : Nat) (n : Int), (seqE m n).length = m
  | 0, _ => rfl
  | m + 1, n => by unfold seqE; rw [List.length_cons, seqE_len m]
theorem seqP_len : ∀ (m : Nat) (n : Int), (seqQ m n).length = 2 * m
  | 0, _ => rfl
  | m + 1, n => by unfold seqQ; rw [List.length_cons, List.length_cons, seqP_len m]; omega
theorem numP_len : ∀ (m : Nat) (n : Int), (numP m n).length = m
  | 0, _ => rfl
  | 1, _ => rfl
  | m + 2, n => by unfold numP; rw [List.length_cons, List.length_cons, numP_len m]
theorem KN.rowE : ∀ (m : Nat) {n : Int} {r : Rt}, KN n r → (restsR .eng r m).1 = seqE m n
  | 0, _, _, _ => rfl
  | m + 1, n, r, h => by
    show numR .eng r :: (restsR .eng (pastR .eng r (numR .eng r)) m).1 = n :: seqE m (sqN n)
    rw [h.numE, KN.rowE m h.pastE]
theorem KN.rowP : ∀ (m : Nat) {n : Int} {r : Rt}, KN n r → (restsR .pie r m).1 = Pw.numP m n
  | 0, _, _, _ => rfl
  | 1, n, r, h => by
    show [numR .pie r] = [n - 1]
    rw [h.numP]
  | m + 2, n, r, h => by
    show numR .pie r :: numR .pie (pastR .pie r (numR .pie r)) :: (restsR .pie (pastR .pie (pastR .pie r (numR .pie r)) (numR .pie (pastR .pie r (numR .pie r)))) m).1 = (n - 1) :: (n + 1) :: Pw.numP m (cuN n)
    rw [h.numP, h.pastP.num, KN.rowP m h.pastP.past]
/-! products -/
def timesR (r s : Rt) : Rt := rtI (r.a * s.a + r.b * s.b * r.d) (r.a * s.b + r.b * s.a) r.d (r.c * s.c)
theorem KN.sq {n : Int} {r : Rt} (h : KN n r) : timesR r r = pastR .eng r n := by
  have e1 := h.e1
  have e2 := h.e2
  have e3 := h.hsq
  have c0 := h.ok.c0
  have e : (⟨r.a * r.a + r.b * r.b * r.d, r.a * r.b + r.b * r.a, r.d, r.c * r.c⟩ : Rt) = sclR r.c (rawR .eng r n) := by
    show _ = (⟨r.c * (r.a * n - r.c), r.c * (r.b * n), r.d, r.c * r.c⟩ : Rt)
    congr 1
    · refine Int.eq_of_mul_eq_mul_left (show (4 : Int) ≠ 0 by decide) ?_
      have a1 : 4 * (r.a * r.a + r.b * r.b * r.d) = 4 * (r.a * r.a) + 4 * (r.b * r.b * r.d) := by grind
      have a2 : 4 * (r.c * (r.a * n - r.c)) = 2 * (r.c * n * (2 * r.a)) - 4 * (r.c * r.c) := by grind
      rw [a1, a2, e1, e2, e3]
      grind
    · have a1 : r.a * r.b + r.b * r.a = r.b * (2 * r.a) := by grind
      rw [a1, e1]
      grind
  have := congrArg redR e
  rw [redR_scl c0 (show 0 < (rawR .eng r n).c from c0)] at this
  exact this
theorem KN.cube {n : Int} {r : Rt} (h : KN n r) : timesR (timesR r r) r = pastR .pie (pastR .pie r (n - 1)) (n + 1) := by
  rw [h.sq]
  have e1 := h.e1
  have e2 := h.e2
  have e3 := h.hsq
  have c0 := h.ok.c0
  have g := h.ge
  have hs := h.pastE.ok.c0
  have hm := h.pastP.held.1.c0
  have f1 := redR_mul (r := rawR .eng r n) (show 0 < (rawR .eng r n).c from c0)
  have g1 : 0 < g3 (rawR .eng r n).a (rawR .eng r n).b (rawR .eng r n).c := g3_pos (by show r.c ≠ 0; omega)
  have f2 := redR_mul (r := rawR .pie r (n - 1)) (show 0 < (rawR .pie r (n - 1)).c from c0)
  have g2 : 0 < g3 (rawR .pie r (n - 1)).a (rawR .pie r (n - 1)).b (rawR .pie r (n - 1)).c := g3_pos (by show r.c ≠ 0; omega)
  unfold pastR at hs hm ⊢
  generalize g3 (rawR .eng r n).a (rawR .eng r n).b (rawR .eng r n).c = t at *
  generalize redR (rawR .eng r n) = s at *
  generalize g3 (rawR .pie r (n - 1)).a (rawR .pie r (n - 1)).b (rawR .pie r (n - 1)).c = u at *
  generalize redR (rawR .pie r (n - 1)) = q at *
  have ea : r.a * n - r.c = t * s.a := congrArg Rt.a f1
  have eb : r.b * n = t * s.b := congrArg Rt.b f1
  have ed : (rawR .eng r n).d = (sclR t s).d := congrArg Rt.d f1
  have ed : r.d = s.d := ed
  have ec : r.c = t * s.c := congrArg Rt.c f1
  have qa : r.c - r.a * (n - 1) = u * q.a := congrArg Rt.a f2
  have qb : -r.b * (n - 1) = u * q.b := congrArg Rt.b f2
  have qd : (rawR .pie r (n - 1)).d = (sclR u q).d := congrArg Rt.d f2
  have qd : r.d = q.d := qd
  have qc : r.c = u * q.c := congrArg Rt.c f2
  have key : sclR t ⟨s.a * r.a + s.b * r.b * s.d, s.a * r.b + s.b * r.a, s.d, s.c * r.c⟩ = sclR (r.c * u) (rawR .pie q (n + 1)) := by
    show (⟨t * (s.a * r.a + s.b * r.b * s.d), t * (s.a * r.b + s.b * r.a), s.d, t * (s.c * r.c)⟩ : Rt) = ⟨r.c * u * (q.c - q.a * (n + 1)), r.c * u * (-q.b * (n + 1)), q.d, r.c * u * q.c⟩
    congr 1
    · have a1 : t * (s.a * r.a + s.b * r.b * s.d) = (t * s.a) * r.a + (t * s.b) * r.b * s.d := by grind
      have a2 : r.c * u * (q.c - q.a * (n + 1)) = r.c * (u * q.c - (u * q.a) * (n + 1)) := by grind
      rw [a1, a2, ← ea, ← eb, ← qa, ← qc, ← ed]
      refine Int.eq_of_mul_eq_mul_left (show (4 : Int) ≠ 0 by decide) ?_
      have a3 : 4 * ((r.a * n - r.c) * r.a + r.b * n * r.b * r.d) = n * (4 * (r.a * r.a)) - 2 * (r.c * (2 * r.a)) + n * (4 * (r.b * r.b * r.d)) := by grind
      have a4 : 4 * (r.c * (r.c - (r.c - r.a * (n - 1)) * (n + 1))) = 4 * (r.c * r.c) - 4 * (r.c * r.c * (n + 1)) + 2 * (r.c * (2 * r.a) * (n - 1) * (n + 1)) := by grind
      rw [a3, a4, e1, e2, e3]
      grind
    · have a1 : t * (s.a * r.b + s.b * r.a) = (t * s.a) * r.b + (t * s.b) * r.a := by grind
      have a2 : r.c * u * (-q.b * (n + 1)) = -(r.c * (u * q.b) * (n + 1)) := by grind
      rw [a1, a2, ← ea, ← eb, ← qb]
      have a3 : (r.a * n - r.c) * r.b + r.b * n * r.a = r.b * n * (2 * r.a) - r.c * r.b := by grind
      rw [a3, e1]
      grind
    · rw [← ed, ← qd]
    · have a1 : t * (s.c * r.c) = (t * s.c) * r.c := by grind
      have a2 : r.c * u * q.c = r.c * (u * q.c) := by grind
      rw [a1, a2, ← ec, ← qc]
  have k2 := congrArg redR key
  rw [redR_scl g1 (show 0 < s.c * r.c from Int.mul_pos hs c0), redR_scl (Int.mul_pos c0 g2) (show 0 < (rawR .pie q (n + 1)).c from hm)] at k2
  exact k2
/-! beside fractions -/
def valN (n : Int) (x : Int × Int) : Prop := n * x.2 ≤ 2 * x.1 ∨ x.1 * x.1 + x.2 * x.2 < n * (x.1 * x.2)
theorem KN.less {n : Int} {r : Rt} {x : Int × Int} (h : KN n r) (hx : 0 < x.2) : lessR r x = true ↔ valN n x := by
  have hc := sq_pos' h.ok.c0
  have c0 := h.ok.c0
  have hb := h.b
  have hbx : r.b * x.2 < 0 := Int.mul_neg_of_neg_of_pos hb hx
  unfold lessR valN
  rw [if_neg (by omega), Bool.or_eq_true, decide_eq_true_eq, decide_eq_true_eq]
  have e1 : 2 * (x.1 * r.c - r.a * x.2) = (2 * x.1 - n * x.2) * r.c := by
    have : 2 * (x.1 * r.c - r.a * x.2) = 2 * x.1 * r.c - (2 * r.a) * x.2 := by grind
    rw [this, h.e1]
    grind
  have e2 : 4 * (r.b * x.2 * (r.b * x.2) * r.d) = (n * n - 4) * (x.2 * x.2) * (r.c * r.c) := by
    have : 4 * (r.b * x.2 * (r.b * x.2) * r.d) = x.2 * x.2 * (4 * (r.b * r.b * r.d)) := by grind
    rw [this, h.e2]
    grind
  have e3 : 4 * ((x.1 * r.c - r.a * x.2) * (x.1 * r.c - r.a * x.2)) = (2 * x.1 - n * x.2) * (2 * x.1 - n * x.2) * (r.c * r.c) := by
    have : 4 * ((x.1 * r.c - r.a * x.2) * (x.1 * r.c - r.a * x.2)) = (2 * (x.1 * r.c - r.a * x.2)) * (2 * (x.1 * r.c - r.a * x.2)) := by grind
    rw [this, e1]
    grind
  have e4 : (2 * x.1 - n * x.2) * (2 * x.1 - n * x.2) = (n * n - 4) * (x.2 * x.2) + 4 * (x.1 * x.1 + x.2 * x.2 - n * (x.1 * x.2)) := by grind
  constructor
  · rintro (z | z)
    · left
      rcases Int.lt_or_le (2 * x.1) (n * x.2) with y | y
      · have := Int.mul_neg_of_neg_of_pos (show 2 * x.1 - n * x.2 < 0 by omega) c0
        omega
      · exact y
    · right
      have : (2 * x.1 - n * x.2) * (2 * x.1 - n * x.2) * (r.c * r.c) < (n * n - 4) * (x.2 * x.2) * (r.c * r.c) := by omega
      have := Int.lt_of_mul_lt_mul_right this (Int.le_of_lt hc)
      omega
  · rintro (z | z)
    · left
      have := Int.mul_nonneg (show 0 ≤ 2 * x.1 - n * x.2 by omega) (Int.le_of_lt c0)
      omega
    · right
      have : (2 * x.1 - n * x.2) * (2 * x.1 - n * x.2) * (r.c * r.c) < (n * n - 4) * (x.2 * x.2) * (r.c * r.c) := Int.mul_lt_mul_of_pos_right (by omega) hc
      omega
theorem valN_mono {n : Int} {x y : Int × Int} (hx : 0 < x.2) (hy : 0 < y.2) (h : valN n x) (hl : x.1 * y.2 < y.1 * x.2) : valN n y := by
  unfold valN at *
  rcases Int.lt_or_le (2 * y.1) (n * y.2) with c | c
  · right
    have hw := Int.mul_pos hx hy
    have c2 := Int.mul_lt_mul_of_pos_right c hx
    rcases h with z | z
    · have z2 := Int.mul_le_mul_of_nonneg_right z (Int.le_of_lt hy)
      have a1 : n * y.2 * x.2 = n * x.2 * y.2 := by grind
      have a2 : 2 * y.1 * x.2 = 2 * (y.1 * x.2) := by grind
      have a3 : 2 * x.1 * y.2 = 2 * (x.1 * y.2) := by grind
      omega
    · have z2 := Int.mul_lt_mul_of_pos_right z (sq_pos' hy)
      have hd := Int.mul_lt_mul_of_pos_left (show y.1 * x.2 + x.1 * y.2 < n * y.2 * x.2 by
        have a2 : 2 * y.1 * x.2 = 2 * (y.1 * x.2) := by grind
        omega) (show 0 < y.1 * x.2 - x.1 * y.2 by omega)
      refine Int.lt_of_mul_lt_mul_right (a := x.2 * x.2) ?_ (Int.le_of_lt (sq_pos' hx))
      have b1 : (y.1 * x.2 - x.1 * y.2) * (y.1 * x.2 + x.1 * y.2) = (y.1 * y.1 + y.2 * y.2) * (x.2 * x.2) - (x.1 * x.1 + x.2 * x.2) * (y.2 * y.2) := by grind
      have b2 : (y.1 * x.2 - x.1 * y.2) * (n * y.2 * x.2) = n * (y.1 * y.2) * (x.2 * x.2) - n * (x.1 * x.2) * (y.2 * y.2) := by grind
      rw [b1, b2] at hd
      omega
  · exact .inl c
theorem kn_one {n : Int} (h : 3 ≤ n) : valN n (1, n - 1) ∧ ¬ valN n (1, n) := by
  have h1 := Int.mul_le_mul_of_nonneg_right h (show 0 ≤ n by omega)
  refine ⟨.inr ?_, ?_⟩
  · show 1 * 1 + (n - 1) * (n - 1) < n * (1 * (n - 1))
    have a1 : (n - 1) * (n - 1) = n * n - 2 * n + 1 := by grind
    have a2 : n * (1 * (n - 1)) = n * n - n := by grind
    omega
  · rintro (z | z)
    · have z : n * n ≤ 2 * 1 := z
      omega
    · have z : 1 * 1 + n * n < n * (1 * n) := z
      rw [show n * (1 * n) = n * n by grind] at z
      omega
theorem kn_two {n : Int} {q s : Rt} (hq : KN n q) (hs : KN n s) {V W : Int} (hV : 0 < V) (hW : 0 < W) : ¬ (cutI (lowR q V + 1) (q.c * V)).1 * (cutI (lowR s W) (s.c * W)).2 < (cutI (lowR s W) (s.c * W)).1 * (cutI (lowR q V + 1) (q.c * V)).2 := fun z => by
  have h1 := end_high hq.ok hV
  have h2 := end_low hs.ok hW
  have p1 := cut_pos (a := lowR q V + 1) (Int.mul_pos hq.ok.c0 hV)
  have p2 := cut_pos (a := lowR s W) (Int.mul_pos hs.ok.c0 hW)
  have v1 := (hq.less p1).mp h1
  have v2 := (hs.less p2).mpr (valN_mono p1 p2 v1 z)
  rw [h2] at v2
  cases v2
/-- the root known of a number -/
theorem kn_start {n : Int} (h : 3 ≤ n) : KN n (rtI n (-1) (n * n - 4) 2) ∧ (rtI n (-1) (n * n - 4) 2).c ≤ 2 ∧ rtI n (-1) (n * n - 4) 2 = ⟨n, -1, n * n - 4, 2⟩ := by
  have h1 := Int.mul_le_mul_of_nonneg_right h (show 0 ≤ n by omega)
  have hg : g3 n (-1) 2 = 1 := by
    unfold g3
    have : Int.gcd n (-1) = 1 := by rw [Int.gcd_neg, Int.gcd_one]
    rw [this]
    rfl
  have ok : RtOk ⟨n, -1, n * n - 4, 2⟩ := by
    refine ⟨(by decide : (-1 : Int) ≠ 0), ⟨by show 0 < n * n - 4; omega, ?_⟩, by show 1 < n * n - 4; omega, (by decide : (0 : Int) < 2), hg⟩
    show NoSq (n * n - 4).toNat
    intro z
    have e1 : (n - 1) * (n - 1) = n * n - 2 * n + 1 := by grind
    have z1 := isq_uniq (n := (n * n - 4).toNat) (k := (n - 1).toNat) (by
      have : (((n - 1).toNat * (n - 1).toNat : Nat) : Int) ≤ (((n * n - 4).toNat : Nat) : Int) := by
        rw [Int.natCast_mul, Int.toNat_of_nonneg (by omega), Int.toNat_of_nonneg (by omega), e1]
        omega
      omega) (by
      have : (((n * n - 4).toNat : Nat) : Int) < ((((n - 1).toNat + 1) * ((n - 1).toNat + 1) : Nat) : Int) := by
        rw [Int.natCast_mul, Int.natCast_add, Int.toNat_of_nonneg (by omega), Int.toNat_of_nonneg (by omega)]
        rw [show n - 1 + ((1 : Nat) : Int) = n by omega]
        omega
      omega)
    rw [z1] at z
    have : (((n - 1).toNat * (n - 1).toNat : Nat) : Int) = (((n * n - 4).toNat : Nat) : Int) := by rw [z]
    rw [Int.natCast_mul, Int.toNat_of_nonneg (by omega), Int.toNat_of_nonneg (by omega), e1] at this
    omega
  have e : rtI n (-1) (n * n - 4) 2 = ⟨n, -1, n * n - 4, 2⟩ := rtI_id ok
  rw [e]
  refine ⟨⟨ok, by show (-1 : Int) < 0; decide, ?_, ?_, h⟩, (by decide : (2 : Int) ≤ 2), rfl⟩
  · show 2 * n = n * 2
    omega
  · show 4 * (-1 * -1 * (n * n - 4)) = (n * n - 4) * (2 * 2)
    grind
end Pw
set_option exponentiation.threshold 20000
namespace Pw
open PySem PySem.Spec PyProof.Rows L2 RZ
def extK (i : Nat) (d : D) (env : Env) (st : Sto) : Option (Fl × Sto) := match d with
  | .lst r => (match env[i]? with
    | some (some (.lst l)) => if l.length + r.length ≤ sizeLine then some (.nx (env.set i (some (.lst (l ++ r)))), st) else none
    | _ => none)
  | _ => none
@[simp] theorem sExt_ap {i : Nat} {ma : M D} {env : Env} {st : Sto} : sExt i ma env st = eK (ma env st) (extK i) env := by
  unfold sExt
  exact sEx_ap
theorem extK_at {i : Nat} {l r : List D} {env : Env} {st : Sto} (h : env[i]? = some (some (.lst l))) (hl : l.length + r.length ≤ sizeLine) : extK i (.lst r) env st = some (.nx (env.set i (some (.lst (l ++ r)))), st) := by
  unfold extK
  simp only
  rw [h]
  exact if_pos hl
theorem for_exn {env env' : Env} {st st1 : Sto} {d : D} {x : Str} {v : List D} {l : List D} {g : Gt} {body : S} (h : g d env = some env') (hb : body env' st = some (.exn x v, st1)) : forL g body (d :: l) env st = some (.exn x v, st1) := by
  show (match g d env with
    | none => none
    | some env1 => (match body env1 st with
      | some (.nx env', st2) => forL g body l env' st2
      | some (.ct env', st2) => forL g body l env' st2
      | some (.bk env', st2) => some (.nx env', st2)
      | o => o)) = _
  rw [h]
  simp only [hb]
theorem wh_exn {mt : M Bool} {body : S} {n : Nat} {env : Env} {st st1 st2 : Sto} {x : Str} {v : List D} (h : mt env st = some (.ok true, st1)) (hb : body env st1 = some (.exn x v, st2)) : whileF mt body (n + 1) env st = some (.exn x v, st2) := by
  show (match mt env st with
    | some (.ok true, st1) => (match body env st1 with
      | some (.nx env', st2) => whileF mt body n env' st2
      | some (.ct env', st2) => whileF mt body n env' st2
      | some (.bk env', st2) => some (.nx env', st2)
      | o => o)
    | some (.ok false, st1) => some (.nx env, st1)
    | some (.exn x l, st1) => some (.exn x l, st1)
    | none => none) = _
  rw [h]
  simp only [hb]
theorem known_root_ok {n : Int} (h1 : 3 ≤ n) (h2 : n ≤ 1000) (st : Sto) : F_known_root [.int n] st = some (.ok (rtD (rtI n (-1) (n * n - 4) 2)), st) := by
  have e1 := sure_within_ok h1 h2 st
  have m1 : IntMulOk n n := mulB (m := 10) (n := 10) (by omega) (by omega)
  have e2 := lowest_root_ok (a := n) (b := -1) (d := n * n - 4) (c := 2) (k := 1) (by decide) (by decide) (lt_trans_pow (a := (2 : Int).natAbs) (m := 2) (by decide) (by decide)) (by decide) st
  simp [F_known_root_eq, b_known_root, F_sure_known_eq, b_sure_known, F_known_in_eq, b_known_in, e1, dMul_int, m1, e2]
theorem sqN_bits {n : Int} {α : Nat} (h : 3 ≤ n) (hb : n.natAbs < 2 ^ α) : (sqN n).natAbs < 2 ^ (2 * α) := by
  have h1 := mulA' hb hb
  have h4 := Int.mul_le_mul_of_nonneg_right h (show 0 ≤ n by omega)
  unfold sqN
  rw [show 2 * α = α + α by omega]
  generalize 2 ^ (α + α) = N at *
  omega
theorem cuN_bits {n : Int} {α : Nat} (h : 3 ≤ n) (hb : n.natAbs < 2 ^ α) : (cuN n).natAbs < 2 ^ (3 * α) := by
  have h1 := mulA' (mulA' hb hb) hb
  have h4 := cuN_ge h
  unfold cuN at *
  rw [show 3 * α = α + α + α by omega]
  generalize 2 ^ (α + α + α) = N at *
  omega
theorem sqN_far {n : Int} {j : Nat} (h : (((2 ^ 2 ^ j : Nat)) : Int) + 1 ≤ n) : (((2 ^ 2 ^ (j + 1) : Nat)) : Int) + 1 ≤ sqN n := by
  have e : 2 ^ 2 ^ (j + 1) = 2 ^ 2 ^ j * 2 ^ 2 ^ j := by rw [← Nat.pow_add]; congr 1; rw [Nat.pow_succ]; omega
  have hp : 1 ≤ 2 ^ 2 ^ j := Nat.pow_pos (by decide)
  rw [e]
  generalize 2 ^ 2 ^ j = N at *
  have := Int.mul_le_mul h h (by omega) (by omega)
  have e2 : ((N : Int) + 1) * ((N : Int) + 1) = (N : Int) * N + 2 * N + 1 := by grind
  rw [Int.natCast_mul]
  unfold sqN
  omega
theorem far13 : 10 ^ 2000 < 2 ^ 2 ^ 13 := by decide +kernel
theorem ten6700 : 10 ^ 2000 < 2 ^ 6700 := by decide +kernel
theorem far_no {n : Int} {j : Nat} (hj : 13 ≤ j) (h : (((2 ^ 2 ^ j : Nat)) : Int) + 1 ≤ n) : ¬ n.natAbs < 10 ^ 2000 := fun z => by
  have h1 : 2 ^ 2 ^ 13 ≤ 2 ^ 2 ^ j := Nat.pow_le_pow_right (by decide) (Nat.pow_le_pow_right (by decide) hj)
  have h2 := far13
  generalize 2 ^ 2 ^ 13 = A at *
  generalize 2 ^ 2 ^ j = B at *
  generalize 10 ^ 2000 = C at *
  omega
theorem tup_add {l : List D} {r : List D} (h : l.length + r.length ≤ 16777216) : dAdd (.tup l) (.tup r) = some (.tup (l ++ r)) := if_pos h
noncomputable def keBody : S := (sSeq (sIf (mNot (mTst (mCall F_is_near 2 (mCons (mVar 2) (mCons (mLit (.int 2000)) mNil))))) (sRaise "TooMany") sNext) (sPar [3, 2] (mCons (mBin dAdd (mVar 3) (mTup (mCons (mVar 2) mNil))) (mCons (mBin dSub (mBin dMul (mVar 2) (mVar 2)) (mLit (.int 2))) mNil))))
theorem ke_loop {e0 e1 : Option D} (st : Sto) : ∀ (m : Nat) (lo n : Int) (α : Nat) (acc : List Int) (z : Option D), 3 ≤ n → n.natAbs < 2 ^ α → α * 2 ^ m ≤ 5000 → acc.length + m ≤ 100 →
    ∃ w z', forL (gV 4) keBody (rangeL lo m) [e0, e1, some (.int n), some (.tup (acc.map .int)), z] st = some (.nx [e0, e1, some (.int w), some (.tup ((acc ++ seqE m n).map .int)), z'], st)
  | 0, lo, n, α, acc, z, _, _, _, _ => ⟨n, z, by rw [show seqE 0 n = [] from rfl, List.append_nil]; rfl⟩
  | m + 1, lo, n, α, acc, z, h, hb, hm, hl => by
    have g := sqN_ge h
    have hα : α ≤ 5000 := by
      have : 1 ≤ 2 ^ (m + 1) := Nat.pow_pos (by decide)
      have := Nat.mul_le_mul_left α this
      omega
    rw [Nat.pow_succ, ← Nat.mul_assoc, Nat.mul_comm, ← Nat.mul_assoc] at hm
    obtain ⟨w, z', e⟩ := ke_loop (e0 := e0) (e1 := e1) st m (lo + 1) (sqN n) (2 * α) (acc ++ [n]) (some (.int lo)) (by omega) (sqN_bits h hb) hm (by rw [List.length_append, List.length_singleton]; omega)
    refine ⟨w, z', ?_⟩
    have m1 : IntMulOk n n := mulB (m := α) (n := α) hb hb (by omega)
    have e3 := near_yes (a := n) (k := 2000) (n := 2000) rfl (by decide) (Nat.lt_trans (lt_trans_pow hb hα) ten2000) st
    rw [show (acc ++ [n]) ++ seqE m (sqN n) = acc ++ seqE (m + 1) n by simp [seqE]] at e
    have ha : dAdd (.tup (acc.map .int)) (.tup [.int n]) = some (.tup (acc.map .int ++ [.int n])) := tup_add (by rw [List.length_map, List.length_singleton]; omega)
    show forL _ _ (.int lo :: rangeL (lo + 1) m) _ _ = _
    rw [for_step (env' := [e0, e1, some (.int n), some (.tup (acc.map .int)), some (.int lo)]) (e1 := [e0, e1, some (.int (sqN n)), some (.tup ((acc ++ [n]).map .int)), some (.int lo)]) (st1 := st) (by simp) ?_]
    · exact e
    · simp [keBody, e3, sl, ha, dMul_int, m1, sqN]
theorem known_engel_ok {n m : Int} (h1 : 3 ≤ n) (h2 : n ≤ 1000) (h3 : 0 ≤ m) (h4 : m ≤ 6) (st : Sto) : F_known_engel [.int n, .int m] st = some (.ok (.tup ((seqE m.toNat n).map .int)), st) := by
  have e1 := sure_within_ok h1 h2 st
  have e2 := sure_within_ok h3 (show m ≤ 60 by omega) st
  have hp : 2 ^ m.toNat ≤ 2 ^ 6 := Nat.pow_le_pow_right (by decide) (by omega)
  obtain ⟨w, z, e3⟩ := ke_loop (e0 := some (.int n)) (e1 := some (.int m)) st m.toNat 0 n 10 [] none h1 (by omega) (by omega) (by simp; omega)
  rw [List.nil_append, List.map_nil] at e3
  have c := rng_int h3 (by omega)
  simp only [F_known_engel_eq, b_known_engel]
  have e3' := e3
  unfold keBody at e3'
  simp [F_sure_known_eq, b_sure_known, e1, e2, sl, -rngP_1, c, e3']
theorem ke_many {e0 e1 : Option D} (st : Sto) : ∀ (m : Nat) (lo n : Int) (j : Nat) (acc : List D) (z : Option D), (((2 ^ 2 ^ j : Nat)) : Int) + 1 ≤ n → j ≤ 13 → 14 ≤ j + m → acc.length + m ≤ 100 →
    forL (gV 4) keBody (rangeL lo m) [e0, e1, some (.int n), some (.tup acc), z] st = some (.exn "TooMany" [], st)
  | 0, lo, n, j, acc, z, _, _, _, _ => by omega
  | m + 1, lo, n, j, acc, z, h, hj, hm, hl => by
    have e3 := near_ok (k := 2000) (by decide) (by decide) n st
    rw [show (2000 : Int).toNat = 2000 from rfl] at e3
    show forL _ _ (.int lo :: rangeL (lo + 1) m) _ _ = _
    by_cases c : n.natAbs < 10 ^ 2000
    · rw [decide_eq_true c] at e3
      have j12 : j + 1 ≤ 13 := by
        rcases Nat.lt_or_ge j 13 with z | z
        · exact z
        · exact absurd c (far_no z h)
      have bits := Nat.lt_trans c ten6700
      have m1 : IntMulOk n n := mulB bits bits (by decide)
      have ha : dAdd (.tup acc) (.tup [.int n]) = some (.tup (acc ++ [.int n])) := tup_add (by rw [List.length_singleton]; omega)
      have e := ke_many (e0 := e0) (e1 := e1) st m (lo + 1) (sqN n) (j + 1) (acc ++ [.int n]) (some (.int lo)) (sqN_far h) j12 (by omega) (by rw [List.length_append, List.length_singleton]; omega)
      rw [for_step (env' := [e0, e1, some (.int n), some (.tup acc), some (.int lo)]) (e1 := [e0, e1, some (.int (sqN n)), some (.tup (acc ++ [.int n])), some (.int lo)]) (st1 := st) (by simp) ?_]
      · exact e
      · simp [keBody, e3, sl, ha, dMul_int, m1, sqN]
    · rw [decide_eq_false c] at e3
      exact for_exn (env' := [e0, e1, some (.int n), some (.tup acc), some (.int lo)]) (by simp) (by simp [keBody, e3])
theorem known_engel_many {n : Int} (h1 : 3 ≤ n) (h2 : n ≤ 1000) (st : Sto) : F_known_engel [.int n, .int 60] st = some (.exn "TooMany" [], st) := by
  have e1 := sure_within_ok h1 h2 st
  have e2 := sure_within_ok (a := 60) (b := 0) (c := 60) (by decide) (by decide) st
  have e3 := ke_many (e0 := some (.int n)) (e1 := some (.int 60)) st 60 0 n 0 [] none (by show (2 : Int) + 1 ≤ n; omega) (by decide) (by decide) (by decide)
  have c := rng_int (m := 60) (by decide) (by decide)
  rw [show (60 : Int).toNat = 60 from rfl] at c
  simp only [F_known_engel_eq, b_known_engel]
  unfold keBody at e3
  simp [F_sure_known_eq, b_sure_known, e1, e2, sl, -rngP_1, c, e3]
noncomputable def kpTest : M Bool := (mTst (mBin dLt (mCB fLen (mCons (mVar 3) mNil)) (mVar 4)))
noncomputable def kpBody : S := (sSeq (sIf (mNot (mTst (mCall F_is_near 2 (mCons (mIf (mTst (mBin dEq (mBin dAdd (mCB fLen (mCons (mVar 3) mNil)) (mLit (.int 1))) (mVar 4))) (mBin dSub (mVar 2) (mLit (.int 1))) (mBin dAdd (mVar 2) (mLit (.int 1)))) (mCons (mLit (.int 2000)) mNil))))) (sRaise "TooMany") sNext) (sPar [3, 2] (mCons (mBin dAdd (mVar 3) (mTup (mCons (mBin dSub (mVar 2) (mLit (.int 1))) (mCons (mBin dAdd (mVar 2) (mLit (.int 1))) mNil)))) (mCons (mBin dSub (mBin dMul (mBin dMul (mVar 2) (mVar 2)) (mVar 2)) (mBin dMul (mLit (.int 3)) (mVar 2))) mNil))))
theorem kp_step {e0 e1 : Option D} {n wn : Int} {acc : List D} (st : Sto) (hb : n.natAbs < 2 ^ 6700) (hl : acc.length ≤ 100) (h : F_is_near [.int (if (acc.length : Int) + 1 = wn then n - 1 else n + 1), .int 2000] st = some (.ok (.bl true), st)) :
    kpBody [e0, e1, some (.int n), some (.tup acc), some (.int wn)] st = some (.nx [e0, e1, some (.int (cuN n)), some (.tup (acc ++ [.int (n - 1), .int (n + 1)])), some (.int wn)], st) := by
  have m1 : IntMulOk n n := mulB hb hb (by decide)
  have m2 : IntMulOk (n * n) n := mulB (mulA' hb hb) hb (by decide)
  have m3 : IntMulOk 3 n := mulL (by decide)
  have ha : dAdd (.tup acc) (.tup [.int (n - 1), .int (n + 1)]) = some (.tup (acc ++ [.int (n - 1), .int (n + 1)])) := tup_add (by show acc.length + 2 ≤ _; omega)
  by_cases c : (acc.length : Int) + 1 = wn
  · rw [if_pos c] at h
    simp [kpBody, c, h, sl, ha, dMul_int, m1, m2, m3, cuN]
  · rw [if_neg c] at h
    simp [kpBody, c, h, sl, ha, dMul_int, m1, m2, m3, cuN]
theorem kp_loop {e0 e1 : Option D} {wn : Int} (st : Sto) : ∀ (k N : Nat) (n : Int) (α : Nat) (acc : List Int), 3 ≤ n → n.natAbs < 2 ^ α → α * 3 ^ k ≤ 4000 → k + 1 ≤ N → acc.length + 2 * k ≤ 100 → wn ≤ acc.length + 2 * k → (k = 0 ∨ ((acc.length + 2 * k : Nat) : Int) < wn + 2) →
    ∃ w, whileF kpTest kpBody N [e0, e1, some (.int n), some (.tup (acc.map .int)), some (.int wn)] st = some (.nx [e0, e1, some (.int w), some (.tup ((acc ++ seqQ k n).map .int)), some (.int wn)], st)
  | 0, N, n, α, acc, _, _, _, hN, hl, hw, _ => by
    obtain ⟨M, rfl⟩ : ∃ M, N = M + 1 := ⟨N - 1, by omega⟩
    refine ⟨n, ?_⟩
    rw [show seqQ 0 n = [] from rfl, List.append_nil]
    exact wh_stop (st1 := st) (by
      have : ¬ ((acc.length : Int) < wn) := by omega
      simp [kpTest, this])
  | k + 1, N, n, α, acc, h, hb, hm, hN, hl, hw, hw2 => by
    obtain ⟨M, rfl⟩ : ∃ M, N = M + 1 := ⟨N - 1, by omega⟩
    have g := cuN_ge h
    have g2 := sqN_ge h
    have hα : α ≤ 4000 := by
      have : 1 ≤ 3 ^ (k + 1) := Nat.pow_pos (by decide)
      have := Nat.mul_le_mul_left α this
      omega
    rw [Nat.pow_succ, ← Nat.mul_assoc, Nat.mul_comm, ← Nat.mul_assoc] at hm
    obtain ⟨w, e⟩ := kp_loop (e0 := e0) (e1 := e1) (wn := wn) st k M (cuN n) (3 * α) (acc ++ [n - 1, n + 1]) (by omega) (cuN_bits h hb) hm (by omega) (by rw [List.length_append]; show acc.length + 2 + 2 * k ≤ 100; omega) (by rw [List.length_append]; show wn ≤ ((acc.length + 2 : Nat) : Int) + 2 * k; omega) (by
      rcases Nat.eq_zero_or_pos k with z | z
      · exact .inl z
      · right
        rw [List.length_append]
        show ((acc.length + 2 + 2 * k : Nat) : Int) < wn + 2
        omega)
    refine ⟨w, ?_⟩
    have hlt : (acc.length : Int) < wn := by omega
    have near : F_is_near [.int (if ((acc.map D.int).length : Int) + 1 = wn then n - 1 else n + 1), .int 2000] st = some (.ok (.bl true), st) := by
      have b1 : (n + 1).natAbs < 2 ^ (α + 1) := addA' hb (lt_trans_pow (a := (1 : Int).natAbs) (m := 1) (by decide) (by
        rcases Nat.eq_zero_or_pos α with z | z
        · subst z; simp at hb; omega
        · exact z))
      refine near_yes (k := 2000) (n := 2000) rfl (by decide) (Nat.lt_of_le_of_lt ?_ (Nat.lt_trans (lt_trans_pow b1 (show α + 1 ≤ 5000 by omega)) ten2000)) st
      split <;> omega
    rw [show (acc ++ [n - 1, n + 1]) ++ seqQ k (cuN n) = acc ++ seqQ (k + 1) n by simp [seqQ]] at e
    rw [wh_step (st1 := st) (by simp [kpTest, hlt]) (kp_step st (lt_trans_pow hb (by omega)) (by rw [List.length_map]; omega) near)]
    rw [show acc.map D.int ++ [.int (n - 1), .int (n + 1)] = (acc ++ [n - 1, n + 1]).map .int by simp]
    exact e
theorem cut_take' {α : Type} (l : List α) (n : Nat) : cutL l none (some (n : Int)) = l.take n := by
  unfold cutL
  rw [HT.sIx_nat]
  have e1 : HT.sIx l.length 0 none = 0 := rfl
  rw [e1, List.drop_zero, Nat.sub_zero]
  rw [List.take_eq_take_iff]
  omega
theorem known_pierce_ok {n m : Int} (h1 : 3 ≤ n) (h2 : n ≤ 1000) (h3 : 0 ≤ m) (h4 : m ≤ 6) (st : Sto) : F_known_pierce [.int n, .int m] st = some (.ok (.tup ((numP m.toNat n).map .int)), st) := by
  have e1 := sure_within_ok h1 h2 st
  have e2 := sure_within_ok h3 (show m ≤ 60 by omega) st
  obtain ⟨k, rfl⟩ := Int.eq_ofNat_of_zero_le h3
  have hp : 3 ^ ((k + 1) / 2) ≤ 3 ^ 3 := Nat.pow_le_pow_right (by decide) (by omega)
  obtain ⟨w, e3⟩ := kp_loop (e0 := some (.int n)) (e1 := some (.int k)) (wn := k) st ((k + 1) / 2) manyTurns n 10 [] h1 (by omega) (by omega) (by unfold manyTurns; omega) (by simp; omega) (by show (k : Int) ≤ ((0 : Nat) : Int) + 2 * ((((k + 1) / 2 : Nat)) : Int); omega) (by
    rcases Nat.eq_zero_or_pos k with z | z
    · left; omega
    · right
      show ((0 + 2 * ((k + 1) / 2) : Nat) : Int) < (k : Int) + 2
      omega)
  rw [List.nil_append, List.map_nil] at e3
  have ec : cutL ((seqQ ((k + 1) / 2) n).map D.int) none (some (k : Int)) = (numP k n).map .int := by rw [cut_take', ← List.map_take, numP_take _ _ _ (by omega)]
  rw [Int.toNat_natCast]
  simp only [F_known_pierce_eq, b_known_pierce]
  unfold kpTest kpBody at e3
  simp [F_sure_known_eq, b_sure_known, e1, e2, sl, e3, ec, -mTst_ap]
theorem kp_many {e0 e1 : Option D} (st : Sto) : ∀ (k N : Nat) (n : Int) (j : Nat) (acc : List D), (((2 ^ 2 ^ j : Nat)) : Int) + 1 ≤ n → j ≤ 13 → 14 ≤ j + k → k ≤ N → acc.length + 2 * k ≤ 58 →
    whileF kpTest kpBody N [e0, e1, some (.int n), some (.tup acc), some (.int 60)] st = some (.exn "TooMany" [], st)
  | 0, N, n, j, acc, _, _, _, _, _ => by omega
  | k + 1, N, n, j, acc, h, hj, hm, hN, hl => by
    obtain ⟨M, rfl⟩ : ∃ M, N = M + 1 := ⟨N - 1, by omega⟩
    have hp : 2 ≤ 2 ^ 2 ^ j := by
      have : 2 ^ 1 ≤ 2 ^ 2 ^ j := Nat.pow_le_pow_right (by decide) (Nat.pow_pos (by decide))
      exact this
    have h3 : 3 ≤ n := by omega
    have e3 := near_ok (k := 2000) (by decide) (by decide) (n + 1) st
    rw [show (2000 : Int).toNat = 2000 from rfl] at e3
    have hlt : (acc.length : Int) < 60 := by omega
    have hne : ¬ ((acc.length : Int) + 1 = 60) := by omega
    by_cases c : (n + 1).natAbs < 10 ^ 2000
    · rw [decide_eq_true c] at e3
      have c2 : n.natAbs < 10 ^ 2000 := by generalize 10 ^ 2000 = C at *; omega
      have j12 : j + 1 ≤ 13 := by
        rcases Nat.lt_or_ge j 13 with z | z
        · exact z
        · exact absurd c2 (far_no z h)
      have h4 := sqN_far h
      have g := cuN_ge h3
      have e := kp_many (e0 := e0) (e1 := e1) st k M (cuN n) (j + 1) (acc ++ [.int (n - 1), .int (n + 1)]) (by omega) j12 (by omega) (by omega) (by rw [List.length_append]; show acc.length + 2 + 2 * k ≤ 58; omega)
      rw [wh_step (st1 := st) (by simp [kpTest, hlt]) (kp_step st (Nat.lt_trans c2 ten6700) (by omega) (by rw [if_neg hne]; exact e3))]
      exact e
    · rw [decide_eq_false c] at e3
      exact wh_exn (st1 := st) (by simp [kpTest, hlt]) (by simp [kpBody, hne, e3])
theorem known_pierce_many {n : Int} (h1 : 3 ≤ n) (h2 : n ≤ 1000) (st : Sto) : F_known_pierce [.int n, .int 60] st = some (.exn "TooMany" [], st) := by
  have e1 := sure_within_ok h1 h2 st
  have e2 := sure_within_ok (a := 60) (b := 0) (c := 60) (by decide) (by decide) st
  have e3 := kp_many (e0 := some (.int n)) (e1 := some (.int 60)) st 20 manyTurns n 0 [] (by show (2 : Int) + 1 ≤ n; omega) (by decide) (by decide) (by unfold manyTurns; omega) (by decide)
  simp only [F_known_pierce_eq, b_known_pierce]
  unfold kpTest kpBody at e3
  simp [F_sure_known_eq, b_sure_known, e1, e2, sl, e3, -mTst_ap]
theorem ltimes_ok {r s : Rt} {m : Nat} (hr : RtB m r) (hs : RtB m s) (hm : 3 * m ≤ 9000) (hb : r.a * s.b + r.b * s.a ≠ 0) (hc : r.c * s.c ≠ 0) (st : Sto) : F_l_times [rtD r, rtD s] st = some (.ok (rtD (timesR r s)), st) := by
  have k1 : IntMulOk r.a s.a := mulB hr.a hs.a (by omega)
  have k2 : IntMulOk r.b s.b := mulB hr.b hs.b (by omega)
  have k3 : IntMulOk (r.b * s.b) r.d := mulB (mulA' hr.b hs.b) hr.d (by omega)
  have k4 : IntMulOk r.a s.b := mulB hr.a hs.b (by omega)
  have k5 : IntMulOk r.b s.a := mulB hr.b hs.a (by omega)
  have k6 : IntMulOk r.c s.c := mulB hr.c hs.c (by omega)
  have e := root_terms_ok (a := r.a * s.a + r.b * s.b * r.d) (d := r.d) hb hc (addA' (mulA' hr.a hs.b) (mulA' hr.b hs.a)) (lt_trans_pow (mulA' hr.c hs.c) (by omega)) (by omega) st
  unfold timesR
  generalize rtI (r.a * s.a + r.b * s.b * r.d) (r.a * s.b + r.b * s.a) r.d (r.c * s.c) = q at *
  simp only [rtD] at e ⊢
  simp [F_l_times_eq, b_l_times, dMul_int, k1, k2, k3, k4, k5, k6, e]
theorem call2t_ok {x : Str} {F : FSem} {a b : D} {st : Sto} (h : findD doorT x = some (2, F)) : F_l_call [.fn x, .tup [a, b]] st = F [a, b] st := by
  simp [F_l_call_eq, b_l_call, doorK_at h]
  rcases F [a, b] st with _ | ⟨_ | _, _⟩
  · rfl
  · simp
  · simp
theorem word_many' : wordOf [("Unfit", 2, "unfit"), ("CanNot", 3, "can not"), ("TooMany", 4, "many")] "TooMany" = some "many" := by rfl
theorem heard_many {x : Str} {F : FSem} {a b : D} {st : Sto} (h : findD doorT x = some (2, F)) (hF : F [a, b] st = some (.exn "TooMany" [], st)) : F_l_heard [.fn x, .tup [a, b]] st = some (.ok (.lst [.str "many", .bl true]), st) := by
  have e1 := call2t_ok (a := a) (b := b) (st := st) h
  rw [hF] at e1
  have e2 : F_l_slip [.fn x, .tup [a, b]] st = some (.ok (.str "many"), st) := by simp [F_l_slip_eq, b_l_slip, e1, slipK_exn word_many']
  have ni : dIn (.str "many") (.tup [.str "unfit", .str "can not", .str "many", .str "odd"]) = some (.bl true) := by rfl
  simp [F_l_heard_eq, b_l_heard, e2, ni, sl]
theorem find_ke : findD doorT "known_engel" = some (2, F_known_engel) := by rfl
theorem find_kp : findD doorT "known_pierce" = some (2, F_known_pierce) := by rfl
end Pw
namespace Pw
open PySem PySem.Spec PyProof.Rows L2 RZ
theorem red_c {q : Rt} (hc : 0 < q.c) : (redR q).c ≤ q.c ∧ 0 < (redR q).c := by
  have e := redR_mul (r := q) hc
  have hg : 0 < g3 q.a q.b q.c := g3_pos (by omega)
  have ec : q.c = g3 q.a q.b q.c * (redR q).c := congrArg Rt.c e
  have h2 : 0 < (redR q).c := rtI_c hc
  generalize g3 q.a q.b q.c = t at *
  generalize (redR q).c = x at *
  have := Int.mul_le_mul_of_nonneg_right (show 1 ≤ t by omega) (Int.le_of_lt h2)
  omega
theorem b_small {b d N : Int} (hd : 1 ≤ d) (hN : 0 < N) (h : b * b * d < N * N) : b.natAbs < N.natAbs := by
  have h1 : b * b ≤ b * b * d := by
    have := Int.mul_le_mul_of_nonneg_left hd (sq_nn b)
    omega
  have h2 : b * b < N * N := by omega
  rw [natAbs_sq b, natAbs_sq N] at h2
  exact sq_lt.mp (by omega)
theorem KN.bits {n : Int} {r : Rt} (h : KN n r) (hc : r.c ≤ 2) : r.a.natAbs ≤ n.natAbs ∧ r.b.natAbs < n.natAbs := by
  have c0 := h.ok.c0
  have g := h.ge
  have e1 := h.e1
  have e2 := h.e2
  have h4 := h.n4
  have n0 := Int.mul_pos (show 0 < n by omega) c0
  have n1 := Int.mul_le_mul_of_nonneg_left hc (show 0 ≤ n by omega)
  refine ⟨by omega, b_small (d := r.d) (by have := h.ok.dd.pos; omega) (by omega) ?_⟩
  have cc : r.c * r.c ≤ 4 := Int.mul_le_mul hc hc (Int.le_of_lt c0) (by decide)
  have := Int.mul_le_mul_of_nonneg_left cc (Int.le_of_lt h4)
  have e3 : (n * n - 4) * 4 = 4 * (n * n) - 16 := by grind
  omega
theorem KN.B {n : Int} {r : Rt} {α m : Nat} (h : KN n r) (hc : r.c ≤ 2) (hd : r.d < 2 ^ 20) (ha : n.natAbs < 2 ^ α) (h1 : α ≤ m) (h2 : 20 ≤ m) : RtB m r := by
  have hb := h.bits hc
  have c0 := h.ok.c0
  have d0 := h.ok.dd.pos
  exact ⟨lt_trans_pow (Nat.lt_of_le_of_lt hb.1 ha) h1, lt_trans_pow (Nat.lt_trans hb.2 ha) h1, lt_trans_pow (m := 20) (by omega) h2, lt_trans_pow (m := 20) (by omega) h2⟩
theorem KN.M {n : Int} {r : Rt} {α : Nat} (h : KN n r) (hc : r.c ≤ 2) (hd : r.d < 2 ^ 20) (ha : n.natAbs < 2 ^ α) (h1 : α ≤ 2600) : RtM 2690 2690 r := by
  have B := h.B (m := 2690) hc hd ha (by omega) (by omega)
  exact ⟨B.a, B.b, h.ok.dd.pos, hd, B.c⟩
theorem KM.B {n : Int} {r : Rt} {α m : Nat} (h : KM n r) (hc : r.c ≤ 2) (hd : r.d < 2 ^ 20) (ha : n.natAbs < 2 ^ α) (h1 : 2 * α ≤ m) (h2 : 20 ≤ m) : RtB m r := by
  have ok := h.held.1
  have c0 := ok.c0
  have d0 := ok.dd.pos
  have g := h.ge
  have e1 := h.e1
  have e2 := h.e2
  have hb := h.b
  have h9 := Int.mul_le_mul_of_nonneg_right g (show 0 ≤ n by omega)
  have k1 : (n - 2) * (n + 1) = n * n - n - 2 := by grind
  have k2 : (n - 1) * (n - 1) = n * n - 2 * n + 1 := by grind
  have nn : (n * n).natAbs < 2 ^ (2 * α) := by rw [show 2 * α = α + α by omega]; exact mulA' ha ha
  have p0 : 0 ≤ ((n - 2) * (n + 1)) * r.c := Int.mul_nonneg (by omega) (Int.le_of_lt c0)
  have p1 := Int.mul_le_mul_of_nonneg_left hc (show 0 ≤ (n - 2) * (n + 1) by omega)
  rw [Int.neg_mul] at e1
  have bb : r.b.natAbs < (n * n).natAbs := b_small (d := r.d) (by omega) (by omega) (by
    have cc : r.c * r.c ≤ 4 := Int.mul_le_mul hc hc (Int.le_of_lt c0) (by decide)
    have k3 : (n - 1) * (n - 1) * (n * n - 4) < (n * n) * (n * n) := by
      have a1 : (n - 1) * (n - 1) * (n * n - 4) ≤ (n * n) * (n * n - 4) := Int.mul_le_mul_of_nonneg_right (by omega) (by omega)
      have a2 : (n * n) * (n * n - 4) < (n * n) * (n * n) := Int.mul_lt_mul_of_pos_left (by omega) (by omega)
      omega
    have k4 : 0 ≤ (n - 1) * (n - 1) * (n * n - 4) := Int.mul_nonneg (by omega) (by omega)
    have := Int.mul_le_mul_of_nonneg_left cc k4
    omega)
  exact ⟨lt_trans_pow (Nat.lt_of_le_of_lt (show r.a.natAbs ≤ (n * n).natAbs by omega) nn) h1, lt_trans_pow (Nat.lt_trans bb nn) h1, lt_trans_pow (m := 20) (by omega) h2, lt_trans_pow (m := 20) (by omega) h2⟩
theorem past_cd {k : Bo} {r : Rt} {n : Int} (hk : k = .eng ∨ k = .pie) (h : RtOk r) (hc : r.c ≤ 2) : (pastR k r n).c ≤ 2 ∧ (pastR k r n).d = r.d := by
  have h1 : (rawR k r n).c = r.c := by rcases hk with rfl | rfl <;> rfl
  have h2 : (rawR k r n).d = r.d := by rcases hk with rfl | rfl <;> rfl
  have := red_c (q := rawR k r n) (by rw [h1]; exact h.c0)
  refine ⟨?_, ?_⟩
  · show (redR (rawR k r n)).c ≤ 2
    omega
  · show (rtI (rawR k r n).a (rawR k r n).b (rawR k r n).d (rawR k r n).c).d = r.d
    rw [rtI_d, h2]
theorem two_pos (m : Nat) : 1 ≤ 2 ^ m := Nat.pow_pos (by decide)
theorem fits_E : ∀ (m : Nat) {n : Int} {r : Rt} {α : Nat}, KN n r → n.natAbs < 2 ^ α → r.c ≤ 2 → r.d < 2 ^ 20 → α * 2 ^ m ≤ 1900 → 10 ≤ α → Fits .eng m r
  | 0, _, _, _, _, _, _, _, _, _ => trivial
  | m + 1, n, r, α, h, ha, hc, hd, hm, h10 => by
    rw [Nat.pow_succ, ← Nat.mul_assoc, Nat.mul_comm, ← Nat.mul_assoc] at hm
    have hα : 2 * α ≤ 1900 := by
      have := Nat.mul_le_mul_left (2 * α) (two_pos m)
      omega
    have hp := past_cd (n := n) (.inl rfl : Bo.eng = .eng ∨ Bo.eng = .pie) h.ok hc
    have ha2 := sqN_bits h.ge ha
    refine ⟨h.held rfl, h.M hc hd ha (by omega), ?_⟩
    rw [h.numE]
    refine ⟨lt_trans_pow ha (by omega), h.pastE.B (α := 2 * α) hp.1 (by rw [hp.2]; exact hd) ha2 (by omega) (by omega), ?_⟩
    exact fits_E m h.pastE ha2 hp.1 (by rw [hp.2]; exact hd) hm (by omega)
theorem fits_P : ∀ (m : Nat) {n : Int} {r : Rt} {α : Nat}, KN n r → n.natAbs < 2 ^ α → r.c ≤ 2 → r.d < 2 ^ 20 → α * 2 ^ m ≤ 1900 → 10 ≤ α → Fits .pie m r
  | 0, _, _, _, _, _, _, _, _, _ => trivial
  | 1, n, r, α, h, ha, hc, hd, hm, h10 => by
    have hp := past_cd (n := n - 1) (.inr rfl : Bo.pie = .eng ∨ Bo.pie = .pie) h.ok hc
    refine ⟨h.held rfl, h.M hc hd ha (by omega), ?_⟩
    rw [h.numP]
    exact ⟨lt_trans_pow (m := α) (by have := h.ge; omega) (by omega), h.pastP.B (α := α) hp.1 (by rw [hp.2]; exact hd) ha (by omega) (by omega), trivial⟩
  | m + 2, n, r, α, h, ha, hc, hd, hm, h10 => by
    rw [show 2 ^ (m + 2) = 4 * 2 ^ m by rw [Nat.pow_succ, Nat.pow_succ]; omega, ← Nat.mul_assoc, Nat.mul_comm α 4] at hm
    have h3 : 3 * α * 2 ^ m ≤ 4 * α * 2 ^ m := Nat.mul_le_mul_right _ (by omega)
    have hα : 4 * α ≤ 1900 := by
      have := Nat.mul_le_mul_left (4 * α) (two_pos m)
      omega
    have hp := past_cd (n := n - 1) (.inr rfl : Bo.pie = .eng ∨ Bo.pie = .pie) h.ok hc
    have hd1 : (pastR .pie r (n - 1)).d < 2 ^ 20 := by rw [hp.2]; exact hd
    have kB := h.pastP.B (α := α) (m := 1950) hp.1 hd1 ha (by omega) (by omega)
    have hp2 := past_cd (n := n + 1) (.inr rfl : Bo.pie = .eng ∨ Bo.pie = .pie) h.pastP.held.1 hp.1
    have hd2 : (pastR .pie (pastR .pie r (n - 1)) (n + 1)).d < 2 ^ 20 := by rw [hp2.2]; exact hd1
    have ha2 := cuN_bits h.ge ha
    refine ⟨h.held rfl, h.M hc hd ha (by omega), ?_⟩
    rw [h.numP]
    have g := h.ge
    refine ⟨lt_trans_pow (m := α) (by omega) (by omega), kB.mono (by omega), h.pastP.held, ⟨lt_trans_pow kB.a (by omega), lt_trans_pow kB.b (by omega), h.pastP.held.1.dd.pos, hd1, lt_trans_pow kB.c (by omega)⟩, ?_⟩
    rw [h.pastP.num]
    refine ⟨lt_trans_pow (m := α + 1) (by rw [Nat.pow_succ]; omega) (by omega), h.pastP.past.B (α := 3 * α) hp2.1 hd2 ha2 (by omega) (by omega), ?_⟩
    exact fits_P m h.pastP.past ha2 hp2.1 hd2 (by omega) (by omega)
noncomputable def leBody : S := (sSeq (sApp 8 (mVar 10)) (sSet 10 (mBin dSub (mBin dMul (mVar 10) (mVar 10)) (mLit (.int 2)))))
theorem le_loop {e0 e1 e2 e3 e4 e5 e6 e7 e9 e12 e13 e14 e15 e16 : Option D} (st : Sto) : ∀ (m : Nat) (lo : Int) (acc : List Int) (n : Int) (α : Nat) (z : Option D), 3 ≤ n → n.natAbs < 2 ^ α → α * 2 ^ m ≤ 5000 → acc.length + m ≤ 100 →
    ∃ w z', forL (gV 11) leBody (rangeL lo m) [e0, e1, e2, e3, e4, e5, e6, e7, some (.lst (acc.map .int)), e9, some (.int n), z, e12, e13, e14, e15, e16] st = some (.nx [e0, e1, e2, e3, e4, e5, e6, e7, some (.lst ((acc ++ seqE m n).map .int)), e9, some (.int w), z', e12, e13, e14, e15, e16], st)
  | 0, lo, acc, n, α, z, _, _, _, _ => ⟨n, z, by rw [show seqE 0 n = [] from rfl, List.append_nil]; rfl⟩
  | m + 1, lo, acc, n, α, z, h, hb, hm, hl => by
    have g := sqN_ge h
    have hα : α ≤ 5000 := by
      have := Nat.mul_le_mul_left α (two_pos (m + 1))
      omega
    rw [Nat.pow_succ, ← Nat.mul_assoc, Nat.mul_comm, ← Nat.mul_assoc] at hm
    obtain ⟨w, z', e⟩ := le_loop (e0 := e0) (e1 := e1) (e2 := e2) (e3 := e3) (e4 := e4) (e5 := e5) (e6 := e6) (e7 := e7) (e9 := e9) (e12 := e12) (e13 := e13) (e14 := e14) (e15 := e15) (e16 := e16) st m (lo + 1) (acc ++ [n]) (sqN n) (2 * α) (some (.int lo)) (by omega) (sqN_bits h hb) hm (by rw [List.length_append, List.length_singleton]; omega)
    refine ⟨w, z', ?_⟩
    have m1 : IntMulOk n n := mulB (m := α) (n := α) hb hb (by omega)
    rw [show (acc ++ [n]) ++ seqE m (sqN n) = acc ++ seqE (m + 1) n by simp [seqE]] at e
    rw [← e]
    have n5 : ∀ d : D, appK 8 d [e0, e1, e2, e3, e4, e5, e6, e7, some (.lst (acc.map .int)), e9, some (.int n), some (.int lo), e12, e13, e14, e15, e16] st = some (.nx [e0, e1, e2, e3, e4, e5, e6, e7, some (.lst (acc.map .int ++ [d])), e9, some (.int n), some (.int lo), e12, e13, e14, e15, e16], st) := fun d => appK_at rfl (by rw [List.length_map, sl]; omega)
    show forL _ _ (.int lo :: rangeL (lo + 1) m) _ _ = _
    refine for_step (env' := [e0, e1, e2, e3, e4, e5, e6, e7, some (.lst (acc.map .int)), e9, some (.int n), some (.int lo), e12, e13, e14, e15, e16]) (by simp) ?_
    simp [leBody, n5, dMul_int, m1, sqN]
noncomputable def lpBody : S := (sSeq (sExt 9 (mLst (mCons (mBin dSub (mVar 10) (mLit (.int 1))) (mCons (mBin dAdd (mVar 10) (mLit (.int 1))) mNil)))) (sSet 10 (mBin dSub (mBin dMul (mBin dMul (mVar 10) (mVar 10)) (mVar 10)) (mBin dMul (mLit (.int 3)) (mVar 10)))))
theorem lp_loop {e0 e1 e2 e3 e4 e5 e6 e7 e8 e12 e13 e14 e15 e16 : Option D} (st : Sto) : ∀ (m : Nat) (lo : Int) (acc : List Int) (n : Int) (α : Nat) (z : Option D), 3 ≤ n → n.natAbs < 2 ^ α → α * 3 ^ m ≤ 5000 → acc.length + 2 * m ≤ 100 →
    ∃ w z', forL (gV 11) lpBody (rangeL lo m) [e0, e1, e2, e3, e4, e5, e6, e7, e8, some (.lst (acc.map .int)), some (.int n), z, e12, e13, e14, e15, e16] st = some (.nx [e0, e1, e2, e3, e4, e5, e6, e7, e8, some (.lst ((acc ++ seqQ m n).map .int)), some (.int w), z', e12, e13, e14, e15, e16], st)
  | 0, lo, acc, n, α, z, _, _, _, _ => ⟨n, z, by rw [show seqQ 0 n = [] from rfl, List.append_nil]; rfl⟩
  | m + 1, lo, acc, n, α, z, h, hb, hm, hl => by
    have g := cuN_ge h
    have g2 := sqN_ge h
    have hα : α ≤ 5000 := by
      have : 1 ≤ 3 ^ (m + 1) := Nat.pow_pos (by decide)
      have := Nat.mul_le_mul_left α this
      omega
    rw [Nat.pow_succ, ← Nat.mul_assoc, Nat.mul_comm, ← Nat.mul_assoc] at hm
    obtain ⟨w, z', e⟩ := lp_loop (e0 := e0) (e1 := e1) (e2 := e2) (e3 := e3) (e4 := e4) (e5 := e5) (e6 := e6) (e7 := e7) (e8 := e8) (e12 := e12) (e13 := e13) (e14 := e14) (e15 := e15) (e16 := e16) st m (lo + 1) (acc ++ [n - 1, n + 1]) (cuN n) (3 * α) (some (.int lo)) (by omega) (cuN_bits h hb) hm (by rw [List.length_append]; show acc.length + 2 + 2 * m ≤ 100; omega)
    refine ⟨w, z', ?_⟩
    have m1 : IntMulOk n n := mulB (m := α) (n := α) hb hb (by omega)
    have m2 : IntMulOk (n * n) n := mulB (mulA' hb hb) hb (by omega)
    have m3 : IntMulOk 3 n := mulL (by decide)
    rw [show (acc ++ [n - 1, n + 1]) ++ seqQ m (cuN n) = acc ++ seqQ (m + 1) n by simp [seqQ]] at e
    rw [← e]
    have n5 : extK 9 (.lst [.int (n - 1), .int (n + 1)]) [e0, e1, e2, e3, e4, e5, e6, e7, e8, some (.lst (acc.map .int)), some (.int n), some (.int lo), e12, e13, e14, e15, e16] st = some (.nx [e0, e1, e2, e3, e4, e5, e6, e7, e8, some (.lst (acc.map .int ++ [.int (n - 1), .int (n + 1)])), some (.int n), some (.int lo), e12, e13, e14, e15, e16], st) := extK_at rfl (by rw [List.length_map, sl]; show acc.length + 2 ≤ _; omega)
    show forL _ _ (.int lo :: rangeL (lo + 1) m) _ _ = _
    refine for_step (env' := [e0, e1, e2, e3, e4, e5, e6, e7, e8, some (.lst (acc.map .int)), some (.int n), some (.int lo), e12, e13, e14, e15, e16]) (by simp) ?_
    simp [lpBody, n5, sl, dMul_int, m1, m2, m3, cuN]
theorem p200 : 10 ^ 40 < 2 ^ 140 := by decide +kernel
theorem low_bits {r : Rt} (h : RtOk r) (hB : RtB 100 r) {W : Int} (hW : 0 < W) (hW2 : W.natAbs < 2 ^ 200) : (lowR r W).natAbs < 2 ^ 7000 ∧ (lowR r W + 1).natAbs < 2 ^ 7000 ∧ (r.c * W).natAbs < 2 ^ 7000 := by
  have s0 : (r.b * W).natAbs < 2 ^ 300 := mulA hB.b hW2
  have s1 := sq_toNat (r.b * W) r.d h.dd.pos
  have s2 : (r.b * W).natAbs * (r.b * W).natAbs * r.d.toNat < 2 ^ (2 * 6515) := by
    have := mulA (mulA s0 s0) hB.d
    rw [Int.natAbs_mul, Int.natAbs_mul] at this
    have hd := h.dd.pos
    rw [show r.d.toNat = r.d.natAbs by omega]
    exact lt_trans_pow this (by decide)
  have s3 := isq_bound s2
  have s4 : (stI (r.b * W) r.d).natAbs < 2 ^ 6516 := by
    have e : 2 ^ 6516 = 2 ^ 6515 * 2 := Nat.pow_succ 2 6515
    unfold stI
    rw [s1]
    split <;> omega
  have s5 : (lowR r W).natAbs < 2 ^ 6517 := addA (mulA hB.a hW2) s4
  have s6 : (lowR r W + 1).natAbs < 2 ^ 6518 := addA s5 (y := 1) (n := 1) (by decide)
  exact ⟨lt_trans_pow s5 (by decide), lt_trans_pow s6 (by decide), lt_trans_pow (mulA hB.c hW2) (by decide)⟩
theorem rests1 (k : Bo) (r : Rt) : (restsR k r 1).2 = pastR k r (numR k r) := rfl
theorem rests2 (k : Bo) (r : Rt) : (restsR k r 2).2 = pastR k (pastR k r (numR k r)) (numR k (pastR k r (numR k r))) := rfl
theorem dMul_two {a b : D} : dMul (.lst [a, b]) (.int 2) = some (.lst [a, b, a, b]) := by
  show (if -(2 ^ 63) ≤ (2 : Int) ∧ (2 : Int) < 2 ^ 63 ∧ ([a, b]).length * (2 : Int).toNat ≤ sizeLine then some (D.lst (List.replicate (2 : Int).toNat [a, b]).flatten) else none) = _
  rw [if_pos ⟨by decide, by decide, by show 2 * 2 ≤ sizeLine; decide⟩]
  rfl
/-- the part asked where the square's number may be asked -/
noncomputable def nxBody : S := (sSeq (sSet 14 (mCall F_known_root 1 (mCons (mIdx (mVar 8) (mLit (.int 1))) mNil))) (sSeq (sPar [15, 16] (mCons (mCall F_l_narrow 2 (mCons (mVar 14) (mCons (mLit (.int 40)) mNil))) (mCons (mCall F_l_narrow 2 (mCons (mVar 7) (mCons (mLit (.int 40)) mNil))) mNil))) (sSeq (sIf (mOr (mTst (mCall F_l_is_less 2 (mCons (mIdx (mVar 15) (mLit (.int 1))) (mCons (mIdx (mVar 16) (mLit (.int 0))) mNil)))) (mTst (mCall F_l_is_less 2 (mCons (mIdx (mVar 16) (mLit (.int 1))) (mCons (mIdx (mVar 15) (mLit (.int 0))) mNil))))) (sRet (mLit (.bl false))) sNext) (sIf (mNot (mTst (mCall F_l_same 2 (mCons (mLst (mCons (mCall F_known_engel 2 (mCons (mIdx (mVar 8) (mLit (.int 1))) (mCons (mLit (.int 4)) mNil))) (mCons (mCall F_known_pierce 2 (mCons (mIdx (mVar 8) (mLit (.int 1))) (mCons (mLit (.int 2)) mNil))) mNil))) (mCons (mLst (mCons (mCB fTuple (mCons (mCut (mVar 8) (mPart (mLit (.int 1))) (mPart (mLit (.int 5)))) mNil)) (mCons (mTup (mCons (mBin dSub (mIdx (mVar 8) (mLit (.int 1))) (mLit (.int 1))) (mCons (mBin dAdd (mIdx (mVar 8) (mLit (.int 1))) (mLit (.int 1))) mNil))) mNil))) mNil))))) (sRet (mLit (.bl false))) sNext))))
theorem nx_ok {n : Int} {s : Rt} {e0 e1 e2 e3 e4 e5 e6 e9 e10 e11 e12 e13 e14 e15 e16 : Option D} (h : 3 ≤ n) (hn : n ≤ 1000) (hs : KN (sqN n) s) (sB : RtB 100 s) (c : sqN n ≤ 1000) (st : Sto) :
    ∃ x y z, nxBody [e0, e1, e2, e3, e4, e5, e6, some (rtD s), some (.lst ((seqE 6 n).map .int)), e9, e10, e11, e12, e13, e14, e15, e16] st = some (.nx [e0, e1, e2, e3, e4, e5, e6, some (rtD s), some (.lst ((seqE 6 n).map .int)), e9, e10, e11, e12, e13, x, y, z], st) := by
  have g := sqN_ge h
  have e1' := known_root_ok (n := sqN n) (by omega) c st
  obtain ⟨ko, _, eo⟩ := kn_start (n := sqN n) (by omega)
  rw [eo] at ko e1'
  have at1 : atI ((seqE 6 n).map D.int) 1 = some (.int (sqN n)) := atI_1
  have oB : RtB 100 ⟨sqN n, -1, sqN n * sqN n - 4, 2⟩ := by
    have bb : (sqN n).natAbs < 2 ^ 10 := by omega
    have h2 := mulA' bb bb
    have h3 := Int.mul_le_mul_of_nonneg_right (show 3 ≤ sqN n by omega) (show 0 ≤ sqN n by omega)
    exact ⟨lt_trans_pow bb (by decide), lt_trans_pow (a := (-1 : Int).natAbs) (m := 1) (by decide) (by decide), lt_trans_pow (m := 20) (by show (sqN n * sqN n - 4).natAbs < 2 ^ 20; omega) (by decide), lt_trans_pow (a := (2 : Int).natAbs) (m := 2) (by decide) (by decide)⟩
  have k1 := known_engel_ok (n := sqN n) (m := 4) (by omega) c (by decide) (by decide) st
  have k2 := known_pierce_ok (n := sqN n) (m := 2) (by omega) c (by decide) (by decide) st
  rw [show (numP (2 : Int).toNat (sqN n)).map D.int = [.int (sqN n - 1), .int (sqN n + 1)] from rfl] at k2
  have kc : cutL ((seqE 6 n).map D.int) (some 1) (some 5) = (seqE (4 : Int).toNat (sqN n)).map .int := rfl
  have hW0 : (0 : Int) < ((10 ^ 40 : Nat) : Int) := by have : 0 < 10 ^ 40 := Nat.pow_pos (by decide); omega
  have e11 := lnarrow_ok (r := s) (k := 40) (w := 140) sB (Int.le_of_lt hs.ok.dd.pos) hs.ok.c0 (by decide) (by decide) p200 (by decide) (by decide) st
  have e12 := lnarrow_ok (k := 40) (w := 140) oB (Int.le_of_lt ko.ok.dd.pos) ko.ok.c0 (by decide) (by decide) p200 (by decide) (by decide) st
  rw [show (40 : Int).toNat = 40 from rfl] at e11 e12
  have hWb : (((10 ^ 40 : Nat) : Int)).natAbs < 2 ^ 200 := by rw [Int.natAbs_natCast]; exact lt_trans_pow p200 (by decide)
  generalize 10 ^ 40 = V at *
  obtain ⟨w1, w2, w3⟩ := low_bits hs.ok sB hW0 hWb
  obtain ⟨w4, w5, w6⟩ := low_bits ko.ok oB hW0 hWb
  have n1 := kn_two hs ko hW0 hW0
  have n2 := kn_two ko hs hW0 hW0
  generalize (⟨sqN n, -1, sqN n * sqN n - 4, 2⟩ : Rt) = o at *
  have D1 : 0 < s.c * (V : Int) := Int.mul_pos hs.ok.c0 hW0
  have D2 : 0 < o.c * (V : Int) := Int.mul_pos ko.ok.c0 hW0
  have c1 := cut_B D1 w1 w3
  have c2 := cut_B D1 w2 w3
  have c3 := cut_B D2 w4 w6
  have c4 := cut_B D2 w5 w6
  generalize cutI (lowR s V) (s.c * V) = P1 at *
  generalize cutI (lowR s V + 1) (s.c * V) = P2 at *
  generalize cutI (lowR o V) (o.c * V) = P3 at *
  generalize cutI (lowR o V + 1) (o.c * V) = P4 at *
  have e13' := lis_less_ok c2.a c2.b c3.a c3.b (by decide) st
  have e14' := lis_less_ok c4.a c4.b c1.a c1.b (by decide) st
  rw [decide_eq_false n1] at e13'
  rw [decide_eq_false n2] at e14'
  have s1 := same20 (d := .lst [.tup ((seqE (4 : Int).toNat (sqN n)).map .int), .tup [.int (sqN n - 1), .int (sqN n + 1)]]) (pl_lst (n := 19) (by simp) fun z hz => by
    simp only [List.mem_cons, List.not_mem_nil, or_false] at hz
    rcases hz with rfl | rfl
    · exact pl_intsT (n := 17) (by rw [seqE_len]; decide)
    · exact pl_intsT (n := 17) (xs := [sqN n - 1, sqN n + 1]) (by simp)) st
  generalize (seqE (4 : Int).toNat (sqN n)).map D.int = S4 at *
  generalize (seqE 6 n).map D.int = S6 at *
  generalize sqN n = m at *
  refine ⟨some (rtD o), some (.tup [pairD P3, pairD P4]), some (.tup [pairD P1, pairD P2]), ?_⟩
  simp only [pairD] at *
  simp [nxBody, sl, at1, e1', e11, e12, e13', e14', k1, k2, kc, s1]
theorem right_ok {n : Nat} {st : Sto} (t : Tin n st) (hn : n < 2 ^ 29) : ∃ st', F_l_right [.cell 0] st = some (.ok (.bl true), st') ∧ Tin (n + 40) st' := by
  obtain ⟨d1, st1, hd1, e1, t1⟩ := of_ok (l := [.int 4, .int 20, .int 998]) t (by omega) (by decide) (by decide)
  obtain ⟨wd, hwd, rfl⟩ : ∃ wd : Int, (0 < wd ∧ wd ≤ 998) ∧ d1 = .int wd := by
    simp only [List.mem_cons, List.not_mem_nil, or_false] at hd1
    rcases hd1 with rfl | rfl | rfl
    · exact ⟨4, by decide, rfl⟩
    · exact ⟨20, by decide, rfl⟩
    · exact ⟨998, by decide, rfl⟩
  obtain ⟨x2, st2, e2, a0, a1, t2⟩ := take_ok (m := wd) hwd.1 (by omega) t1 (by omega)
  generalize hA : 3 + x2 = a at *
  have ha : 3 ≤ a := by omega
  have ha2 : a ≤ 1000 := by omega
  have hsq : a * a ≤ 1000 * 1000 := Int.mul_le_mul ha2 ha2 (by omega) (by decide)
  have hsq2 : 3 * a ≤ a * a := Int.mul_le_mul_of_nonneg_right ha (by omega)
  have bits : a.natAbs < 2 ^ 10 := by omega
  have e3 := known_root_ok ha ha2 st2
  obtain ⟨kn, _, er⟩ := kn_start ha
  rw [er] at e3 kn
  have rs : RtS ⟨a, -1, a * a - 4, 2⟩ := ⟨by show a.natAbs ≤ _; omega, (by decide : (-1 : Int).natAbs ≤ 1000000), by show (a * a - 4).natAbs ≤ _; omega, (by decide : (2 : Int).natAbs ≤ 1000000)⟩
  have rc : (⟨a, -1, a * a - 4, 2⟩ : Rt).c ≤ 2 := (by decide : (2 : Int) ≤ 2)
  have rd : (⟨a, -1, a * a - 4, 2⟩ : Rt).d < 2 ^ 20 := by show a * a - 4 < _; omega
  have hx0 : Pl 20 (rtD ⟨a, -1, a * a - 4, 2⟩) := pl_intsT (n := 18) (xs := [a, -1, a * a - 4, 2]) (by simp)
  have tp0 : tupD (rtD ⟨a, -1, a * a - 4, 2⟩) = rtD ⟨a, -1, a * a - 4, 2⟩ := rfl
  generalize (⟨a, -1, a * a - 4, 2⟩ : Rt) = r at *
  have rB := kn.B (m := 20) rc rd bits (by decide) (by decide)
  have rb := kn.b
  have c0 := kn.ok.c0
  -- the square
  have ks := kn.pastE
  have hp := past_cd (n := a) (.inl rfl : Bo.eng = .eng ∨ Bo.eng = .pie) kn.ok rc
  have sd : (pastR .eng r a).d < 2 ^ 20 := by rw [hp.2]; exact rd
  have sbits := sqN_bits ha bits
  have sB := ks.B (m := 20) hp.1 sd sbits (by decide) (by decide)
  have hab : r.a * r.b + r.b * r.a ≠ 0 := by
    have e1 := kn.e1
    have ra : 0 < r.a := by have := Int.mul_pos (show 0 < a by omega) c0; omega
    have := Int.mul_neg_of_pos_of_neg ra rb
    rw [Int.mul_comm r.b r.a]
    omega
  have e4 := ltimes_ok rB rB (by decide) hab (Int.mul_ne_zero (by omega) (by omega)) st2
  rw [kn.sq] at e4
  have m1 : IntMulOk a r.a := mulB bits rB.a (by decide)
  have m2 : IntMulOk a r.b := mulB bits rB.b (by decide)
  have e5 := root_terms_ok (a := a * r.a - r.c) (b := a * r.b) (d := r.d) (c := r.c) (Int.mul_ne_zero (by omega) (by omega)) (by omega) (mulA' bits rB.b) (lt_trans_pow rB.c (by decide)) (by decide) st2
  have e5r : rtI (a * r.a - r.c) (a * r.b) r.d r.c = pastR .eng r a := by
    show _ = rtI (r.a * a - r.c) (r.b * a) r.d r.c
    rw [Int.mul_comm a r.a, Int.mul_comm a r.b]
  rw [e5r] at e5
  have hH := kn.held (k := .eng) rfl
  have hH2 := kn.held (k := .pie) rfl
  have e6 := root_floor_ok hx0 tp0 kn.ok rs st2
  rw [(rt01_iff kn.ok).mpr kn.r01] at e6
  have ten1 : ∀ z : Int, z.natAbs ≤ 1000 → z.natAbs < 10 ^ 300 := fun z hz => Nat.lt_of_le_of_lt hz (by decide +kernel)
  have v := kn_one ha
  have e7 := root_under_ok hx0 tp0 kn.ok rs (pl_pair (p := (1, a - 1))) rfl ⟨by show 0 < a - 1; omega, by show Int.gcd 1 (a - 1) = 1; rw [Int.gcd_comm, Int.gcd_one]⟩ (ten1 1 (by decide)) (ten1 (a - 1) (by omega)) st2
  have e8 := root_under_ok hx0 tp0 kn.ok rs (pl_pair (p := (1, a))) rfl ⟨by show 0 < a; omega, by show Int.gcd 1 a = 1; rw [Int.gcd_comm, Int.gcd_one]⟩ (ten1 1 (by decide)) (ten1 a (by omega)) st2
  rw [(kn.less (x := (1, a - 1)) (by show 0 < a - 1; omega)).mpr v.1] at e7
  have v2 : lessR r (1, a) = false := by
    cases z : lessR r (1, a)
    · rfl
    · exact absurd ((kn.less (x := (1, a)) (by show 0 < a; omega)).mp z) v.2
  rw [v2] at e8
  have s1 := same20 (d := .lst [.int 0, .bl true, .bl false]) (by simp [Pl]) st2
  -- what is told
  obtain ⟨w1, z1, l1⟩ := le_loop (e0 := some (.cell 0)) (e1 := some (.int a)) (e2 := some (rtD r)) (e3 := some (.int r.a)) (e4 := some (.int r.b)) (e5 := some (.int r.d)) (e6 := some (.int r.c)) (e7 := some (rtD (pastR .eng r a))) (e9 := some (.lst [])) (e12 := none) (e13 := none) (e14 := none) (e15 := none) (e16 := none) st2 6 0 [] a 10 none ha bits (by decide) (by decide)
  rw [List.nil_append, List.map_nil] at l1
  obtain ⟨w2, z2, l2⟩ := lp_loop (e0 := some (.cell 0)) (e1 := some (.int a)) (e2 := some (rtD r)) (e3 := some (.int r.a)) (e4 := some (.int r.b)) (e5 := some (.int r.d)) (e6 := some (.int r.c)) (e7 := some (rtD (pastR .eng r a))) (e8 := some (.lst ((seqE 6 a).map .int))) (e12 := none) (e13 := none) (e14 := none) (e15 := none) (e16 := none) st2 3 0 [] a 10 z1 ha bits (by decide) (by decide)
  rw [List.nil_append, List.map_nil] at l2
  obtain ⟨y, st3, e9, y0, y1, t3⟩ := take_ok (m := 7) (by decide) (by decide) t2 (by omega)
  obtain ⟨x, st4, e10, x6, x7, t4⟩ := mixed_ok hx0 t3 (by show n + 1 + 1 + 1 + 1 < _; omega)
  rw [tp0] at x6
  obtain ⟨k, rfl⟩ := Int.eq_ofNat_of_zero_le y0
  have hp2 : 2 ^ k ≤ 2 ^ 6 := Nat.pow_le_pow_right (by decide) (by omega)
  have e11 := known_engel_ok (m := k) ha ha2 (by omega) (by omega) st3
  have e12 := known_pierce_ok (m := k) ha ha2 (by omega) (by omega) st3
  have e13 := root_numbers_ok (k := .eng) (m := k) hx0 tp0 hH rs (by omega) (by omega) (fits_E _ kn bits rc rd (by rw [Int.toNat_natCast]; omega) (by decide)) st3
  have e14 := root_numbers_ok (k := .pie) (m := k) x7 x6 hH2 rs (by omega) (by omega) (fits_P _ kn bits rc rd (by rw [Int.toNat_natCast]; omega) (by decide)) st4
  rw [kn.rowE] at e13
  rw [kn.rowP] at e14
  rw [Int.toNat_natCast] at e11 e12 e13 e14
  have q1 : cutL ((seqE 6 a).map D.int) none (some (k : Int)) = (seqE k a).map .int := by rw [cut_take', ← List.map_take, seqE_take _ _ _ (by omega)]
  have q2 : cutL ((seqQ 3 a).map D.int) none (some (k : Int)) = (numP k a).map .int := by rw [cut_take', ← List.map_take, numP_take _ _ _ (by omega)]
  have s2 := same20 (d := .lst [.tup ((seqE k a).map .int), .tup ((numP k a).map .int), .tup ((seqE k a).map .int), .tup ((numP k a).map .int)]) (pl_lst (n := 19) (by simp) fun z hz => by
    have p1 : Pl 19 (.tup ((seqE k a).map .int)) := pl_intsT (n := 17) (by rw [seqE_len]; omega)
    have p2 : Pl 19 (.tup ((numP k a).map .int)) := pl_intsT (n := 17) (by rw [numP_len]; omega)
    simp only [List.mem_cons, List.not_mem_nil, or_false] at hz
    rcases hz with rfl | rfl | rfl | rfl
    · exact p1
    · exact p2
    · exact p1
    · exact p2) st4
  -- rests
  have r1 := root_rest_ok (k := .eng) (m := 1) hx0 tp0 hH rs (by decide) (by decide) (fits_E 1 kn bits rc rd (by decide) (by decide)) st4
  have r2 := root_rest_ok (k := .pie) (m := 2) hx0 tp0 hH2 rs (by decide) (by decide) (fits_P 2 kn bits rc rd (by decide) (by decide)) st4
  have r3 := root_rest_ok (k := .eng) (m := 2) hx0 tp0 hH rs (by decide) (by decide) (fits_E 2 kn bits rc rd (by decide) (by decide)) st4
  rw [show (1 : Int).toNat = 1 from rfl, rests1, kn.numE] at r1
  rw [show (2 : Int).toNat = 2 from rfl, rests2, kn.numP, kn.pastP.num, ← kn.cube, kn.sq] at r2
  rw [show (2 : Int).toNat = 2 from rfl, rests2, kn.numE, ks.numE, ← ks.sq] at r3
  have sgn : ∀ {m : Int} {q : Rt}, KN m q → 0 < q.a ∧ q.b < 0 ∧ 0 < q.c := fun {m q} h => ⟨by
    have := h.e1
    have := Int.mul_pos (show 0 < m by have := h.ge; omega) h.ok.c0
    omega, h.b, h.ok.c0⟩
  obtain ⟨ga, gb, gc⟩ := sgn kn
  obtain ⟨fa, fb, fc⟩ := sgn ks
  generalize pastR .eng r a = s at *
  have e15 := ltimes_ok sB rB (by decide) (by
    have := Int.mul_neg_of_pos_of_neg fa gb
    have := Int.mul_neg_of_neg_of_pos fb ga
    omega) (Int.mul_ne_zero (by omega) (by omega)) st4
  have e16 := ltimes_ok sB sB (by decide) (by
    have := Int.mul_neg_of_pos_of_neg fa fb
    have := Int.mul_neg_of_neg_of_pos fb fa
    omega) (Int.mul_ne_zero (by omega) (by omega)) st4
  have prt : ∀ q : Rt, Pl 19 (rtD q) := fun q => pl_intsT (n := 17) (xs := [q.a, q.b, q.d, q.c]) (by simp)
  have s3 := same20 (d := .lst [rtD s, rtD (timesR s r), rtD (timesR s s)]) (pl_lst (n := 19) (by simp) fun z hz => by
    simp only [List.mem_cons, List.not_mem_nil, or_false] at hz
    rcases hz with rfl | rfl | rfl
    · exact prt _
    · exact prt _
    · exact prt _) st4
  have ne0 : dNe (rtD s) (rtD s) = some (.bl false) := dNe_self (by simp [rtD, Pl])
  have h1 := heard_many find_ke (known_engel_many ha ha2 st4)
  have h2 := heard_many find_kp (known_pierce_many ha ha2 st4)
  have su : SeqAt.shaped (.str "many") = true := by decide +kernel
  have s4 := same20 (d := .lst [.lst [.str "many", .bl true], .lst [.str "many", .bl true]]) (by simp [Pl, su]) st4
  have at1 : atI ((seqE 6 a).map D.int) 1 = some (.int (sqN a)) := atI_1
  have nx := fun (c : sqN a ≤ 1000) => nx_ok (e0 := some (.cell 0)) (e1 := some (.int a)) (e2 := some (rtD r)) (e3 := some (.int r.a)) (e4 := some (.int r.b)) (e5 := some (.int r.d)) (e6 := some (.int r.c)) (e9 := some (.lst ((seqQ 3 a).map .int))) (e10 := some (.int w2)) (e11 := z2) (e12 := some (.int (k : Int))) (e13 := some (.lst [.tup ((seqE k a).map .int), .tup ((numP k a).map .int), .tup ((seqE k a).map .int), .tup ((numP k a).map .int)])) (e14 := none) (e15 := none) (e16 := none) ha ha2 ks (sB.mono (by decide)) c st4
  refine ⟨st4, ?_, t4.mono (by show n + 1 + 1 + 1 + 1 ≤ _; omega)⟩
  simp only [bkS] at e13 e14 r1 r2 r3
  have nb : ¬ (0 ≤ r.b) := by omega
  clear er e5r
  generalize timesR s r = T1 at *
  generalize timesR s s = T2 at *
  generalize (seqE k a).map D.int = SE at *
  generalize (numP k a).map D.int = SP at *
  generalize (seqE 6 a).map D.int = S6 at *
  generalize (seqQ 3 a).map D.int = S3 at *
  have rtD_eq : rtD r = .tup [.int r.a, .int r.b, .int r.d, .int r.c] := rfl
  have as1 : ∀ env : Env, gT [gV 3, gV 4, gV 5, gV 6] (rtD r) env = gAll [gV 3, gV 4, gV 5, gV 6] [.int r.a, .int r.b, .int r.d, .int r.c] env := fun env => rfl
  by_cases c : sqN a ≤ 1000
  · obtain ⟨x14, x15, x16, ex⟩ := nx c
    unfold leBody at l1
    unfold lpBody at l2
    unfold nxBody at ex
    simp only [pairD] at e7 e8
    simp only [F_l_right_eq, b_l_right]
    generalize (sSeq (sSet 14 (mCall F_known_root 1 (mCons (mIdx (mVar 8) (mLit (.int 1))) mNil))) (sSeq (sPar [15, 16] (mCons (mCall F_l_narrow 2 (mCons (mVar 14) (mCons (mLit (.int 40)) mNil))) (mCons (mCall F_l_narrow 2 (mCons (mVar 7) (mCons (mLit (.int 40)) mNil))) mNil))) (sSeq (sIf (mOr (mTst (mCall F_l_is_less 2 (mCons (mIdx (mVar 15) (mLit (.int 1))) (mCons (mIdx (mVar 16) (mLit (.int 0))) mNil)))) (mTst (mCall F_l_is_less 2 (mCons (mIdx (mVar 16) (mLit (.int 1))) (mCons (mIdx (mVar 15) (mLit (.int 0))) mNil))))) (sRet (mLit (.bl false))) sNext) (sIf (mNot (mTst (mCall F_l_same 2 (mCons (mLst (mCons (mCall F_known_engel 2 (mCons (mIdx (mVar 8) (mLit (.int 1))) (mCons (mLit (.int 4)) mNil))) (mCons (mCall F_known_pierce 2 (mCons (mIdx (mVar 8) (mLit (.int 1))) (mCons (mLit (.int 2)) mNil))) mNil))) (mCons (mLst (mCons (mCB fTuple (mCons (mCut (mVar 8) (mPart (mLit (.int 1))) (mPart (mLit (.int 5)))) mNil)) (mCons (mTup (mCons (mBin dSub (mIdx (mVar 8) (mLit (.int 1))) (mLit (.int 1))) (mCons (mBin dAdd (mIdx (mVar 8) (mLit (.int 1))) (mLit (.int 1))) mNil))) mNil))) mNil))))) (sRet (mLit (.bl false))) sNext)))) = B at *
    simp [sl, e1, e2, hA, e3, as1, e4, dMul_int, m1, m2, e5, ne0, nb, e6, e7, e8, s1, l1, l2, e9, e10, e11, e12, e13, e14, q1, q2, dMul_two, s2, r1, r2, r3, e15, e16, s3, at1, c, ex, h1, h2, s4]
  · unfold leBody at l1
    unfold lpBody at l2
    simp only [pairD] at e7 e8
    simp [F_l_right_eq, b_l_right, sl, e1, e2, hA, e3, as1, e4, dMul_int, m1, m2, e5, ne0, nb, e6, e7, e8, s1, l1, l2, e9, e10, e11, e12, e13, e14, q1, q2, dMul_two, s2, r1, r2, r3, e15, e16, s3, at1, c, h1, h2, s4]
theorem law_true : ∀ ns : List Int, ns.length ≤ 63 → (∀ z ∈ ns, Builtin.Int.intBits z ≤ 1048576) → ∃ st', F_law [.scr ns] [] = some (.ok (.bl true), st') := by
  intro ns hl _
  obtain ⟨c, ec⟩ := cells_ok hl []
  obtain ⟨a, b, eb, h1, h2, h3⟩ := box_ok c []
  have t0 : Tin 0 [.lst [.int a, .int b, .int 0]] := ⟨a, b, 0, rfl, h1, h2, h3, by omega, by omega⟩
  have u1 := known_root_ok (n := 3) (by decide) (by decide) [.lst [.int a, .int b, .int 0]]
  have u4 := known_root_ok (n := 4) (by decide) (by decide) [.lst [.int a, .int b, .int 0]]
  rw [(kn_start (n := 3) (by decide)).2.2] at u1
  rw [(kn_start (n := 4) (by decide)).2.2] at u4
  have u2 := known_engel_ok (n := 4) (m := 3) (by decide) (by decide) (by decide) (by decide) [.lst [.int a, .int b, .int 0]]
  have u3 := known_pierce_ok (n := 4) (m := 3) (by decide) (by decide) (by decide) (by decide) [.lst [.int a, .int b, .int 0]]
  have u5 := known_engel_ok (n := 10) (m := 4) (by decide) (by decide) (by decide) (by decide) [.lst [.int a, .int b, .int 0]]
  have u6 := known_pierce_ok (n := 10) (m := 4) (by decide) (by decide) (by decide) (by decide) [.lst [.int a, .int b, .int 0]]
  rw [show (seqE (3 : Int).toNat 4) = [4, 14, 194] by decide] at u2
  rw [show (numP (3 : Int).toNat 4) = [3, 5, 51] by decide] at u3
  rw [show (seqE (4 : Int).toNat 10) = [10, 98, 9602, 92198402] by decide] at u5
  rw [show (numP (4 : Int).toNat 10) = [9, 11, 969, 971] by decide] at u6
  have s0 := same20 (d := .lst [.tup [.int 3, .int (-1), .int 5, .int 2], .tup [.int 4, .int 14, .int 194], .tup [.int 3, .int 5, .int 51], .tup [.int 4, .int (-1), .int 12, .int 2], .tup [.int 10, .int 98, .int 9602, .int 92198402], .tup [.int 9, .int 11, .int 969, .int 971]]) (by simp [Pl]) [.lst [.int a, .int b, .int 0]]
  obtain ⟨st', e2, _⟩ := lcL_true (env := [some (.scr ns), some (.cell 0), some (.lst [.tup [.int 3, .int (-1), .int 5, .int 2], .tup [.int 4, .int 14, .int 194], .tup [.int 3, .int 5, .int 51], .tup [.int 4, .int (-1), .int 12, .int 2], .tup [.int 10, .int 98, .int 9602, .int 92198402], .tup [.int 9, .int 11, .int 969, .int 971]]), none]) (g := gV 3) (me := mCall F_l_right 1 (mCons (mVar 1) mNil)) (fun k st => Tin (40 * k) st) (ds := rangeL 0 4) (k := 0) (st := [.lst [.int a, .int b, .int 0]]) (fun j d st hj hd hJ => by
    obtain ⟨st', e, t⟩ := right_ok hJ (by rw [rangeL_length] at hj; omega)
    exact ⟨_, st', rfl, by simp [e], t.mono (by omega)⟩) t0
  have e3 := mLc_ok (vs := [3]) (mi := mRng1 (mCons (mLit (.int 4)) mNil)) (env := [some (.scr ns), some (.cell 0), some (.lst [.tup [.int 3, .int (-1), .int 5, .int 2], .tup [.int 4, .int 14, .int 194], .tup [.int 3, .int 5, .int 51], .tup [.int 4, .int (-1), .int 12, .int 2], .tup [.int 10, .int 98, .int 9602, .int 92198402], .tup [.int 9, .int 11, .int 969, .int 971]]), none]) (st := [.lst [.int a, .int b, .int 0]]) (ds := rangeL 0 4) (st1 := [.lst [.int a, .int b, .int 0]]) (by simp) e2 (by simp [rangeL, sl])
  have e4 := fAll_true (rangeL 0 4)
  simp only [rtD] at u1 u4
  rw [show (3 : Int) * 3 - 4 = 5 by decide] at u1
  rw [show (4 : Int) * 4 - 4 = 12 by decide] at u4
  simp only [List.map_cons, List.map_nil] at u2 u3 u5 u6
  refine ⟨st', ?_⟩
  simp [F_law_eq, b_law, sl, ec, eb, u1, u2, u3, u4, u5, u6, s0, e3, e4]
end Pw
open PySem PySem.W PySem.Calls PyProof.Rows
theorem PySem.Challenge.cw_rowsofunits_k31_main_known_rows_of_roots_holds : PySem.Challenge.rw_rowsofunits_k31_main_known_rows_of_roots.Holds := by
  w_on; o_law
  refine HandSHeadRun.head_any (r := OpenLaw.row PySem.Challenge.rw_rowsofunits_k31_main_known_rows_of_roots) (q := view (OpenLaw.row PySem.Challenge.rw_rowsofunits_k31_main_known_rows_of_roots).prog [66]) (H := Pw.hkM) (ob := Pw.obs0) (M := 4000) (loose := Pw.looseL) (d := HandSHeadRun.topDef (OpenLaw.row PySem.Challenge.rw_rowsofunits_k31_main_known_rows_of_roots).prog 66) (kwd := []) Pw.obs_eq
    (by kernel_rfl) (fun s => by kernel_rfl) Pw.run0 (by kernel_rfl) (by kernel_rfl) (by kernel_rfl) (by rfl) (by first | assumption | decide +kernel) (by decide +kernel) ⟨rfl, rfl, rfl, rfl, rfl, by decide +kernel⟩ ?hw ?hc
  case hw => w_witness2
  case hc =>
    refine Pw.walk_ofEB (l := PySem.Challenge.rw_rowsofunits_k31_main_known_rows_of_roots) (n := 63) (k := 26) (x := "script") (CX := fun w => L2.CX PySem.Challenge.pw_rowsofunits_k31_main_known_rows_of_roots w) rfl (by decide) (by kernel_rfl) ⟨rfl, by decide, by decide⟩ ?F Pw.cx_no
    intro w mg fa h Y G hmg0
    obtain ⟨K, KX, m, c⟩ := Y
    have hmg : mg ("law" : PySem.Str) = some (.ref fa) := by
      have e : (HandSHeadRun.topDef (OpenLaw.row PySem.Challenge.rw_rowsofunits_k31_main_known_rows_of_roots).prog 66).name = ("law" : PySem.Str) := by kernel_rfl
      rw [← e]
      exact hmg0
    exact Pw.law_fin Pw.law_true KX G m c hmg
