import PyProof.Rows.All
import Wide.All
import OpenK.AllK
import Wide.FinOn
import HandS.ForMost
import HandS.IsInst
import HandS.SortRule
import HandS.Wide
import HandS.Lambda
import HandS.EndTab
import HandS.TupAny
import HandS.Zip
import HandS.Style
import HandS.Walk
import HandS.More
import HandS.Strs
import HandS.DictTup
import KE.GoesEnum
import KE.GoesMore
import KE.SortData
import HandS.Iter
import KE.KDictZip
import KE.GoesZip
import HandS.TupLe
import HandS.HotCalls
import HandS.ExcCtx
import HandS.ExcIs
import PyProof.ExcBaseAll.ValueError
import KE.KNestM
import HandS.TupMul
import PySem.Challenge.RW_paidback_k10_orders_told_back
set_option Elab.async false
set_option linter.all false
set_option maxRecDepth 100000
set_option maxHeartbeats 4000000
/-! PL: plain data over the hand layer. A value is told by what it is (D), what may change by a store (Sto) of the objects that are ours. -/
namespace PL
open PySem L2

/-- plain data; ref: an object of which nothing is said here (ours: the store tells it); scr: a list that is only read; key: a tuple that may be a dict's key; dct: a dict by tuples that stays as it is; lam: a lambda -/
inductive D where
  | non | bl (b : Bool) | int (i : Int) | str (x : Str) | tup (xs : List D) | lst (xs : List D) | ref (a : Addr) | ty (n : String) | scr (xs : List D) | key (xs : List D) | dct (kvs : List (List Key × D)) | lam (ob : Obj) (c : Addr) (q : Str)

/-- what an object of ours holds -/
inductive O where
  | lst (xs : List D) | dK (kvs : List (Key × D)) | dT (kvs : List (List Key × D)) | ins (C dx : Addr) (fs : List (Str × D)) | tab (q : Str)
abbrev Sto := Addr → Option O
abbrev Env := List (Option D)
def Sto.upd (S : Sto) (a : Addr) (o : O) : Sto := fun b => if b = a then some o else S b
def Sto.del (S : Sto) (a : Addr) : Sto := fun b => if b = a then none else S b
theorem upd_at {S : Sto} {a : Addr} {o : O} : (S.upd a o) a = some o := by unfold Sto.upd; rw [if_pos rfl]
theorem upd_off {S : Sto} {a b : Addr} {o : O} (h : b ≠ a) : (S.upd a o) b = S b := by unfold Sto.upd; rw [if_neg h]
theorem upd_twice {S : Sto} {a : Addr} {o u : O} : (S.upd a o).upd a u = S.upd a u := by
  funext b; unfold Sto.upd; split <;> rfl
theorem upd_comm {S : Sto} {a b : Addr} {o u : O} (h : a ≠ b) : (S.upd a o).upd b u = (S.upd b u).upd a o := by
  funext c; unfold Sto.upd
  by_cases h1 : c = b
  · subst h1
    rw [if_pos rfl, if_neg (fun e => h e.symm), if_pos rfl]
  · rw [if_neg h1, if_neg h1]
theorem del_upd {S : Sto} {a : Addr} {o : O} (h : S a = none) : (S.upd a o).del a = S := by
  funext b
  show (if b = a then none else if b = a then some o else S b) = S b
  by_cases e : b = a
  · subst e; rw [if_pos rfl, h]
  · rw [if_neg e, if_neg e]
theorem sne {S : Sto} {a b : Addr} {o : O} (h : S a = some o) (h' : S b = none) : a ≠ b := by
  intro e; subst e; rw [h] at h'; cases h'

/-- a tuple whose object is known: it has no dict -/
def TupC (H : Hp) (a : Addr) (xs : List V) : Prop := ∃ o : Obj, o.dict = none ∧ H a = some (.frz o (.tup xs))
theorem TupC.sq {K : PySem.W.Frag} {H : Hp} {a : Addr} {xs : List V} (h : TupC H a xs) : SqT K H a xs := let ⟨o, _, e⟩ := h; .inl (.inr ⟨o, e⟩)
/-- the object at f is ob -/
def FunO (f : Addr) (ob : Obj) : HO := .ext fun h => h.get? f = some ob
mutual
inductive Dat (K : PySem.W.Frag) (H : Hp) : V → D → Prop
  | non : Dat K H .non .non
  | bl (b : Bool) : Dat K H (.bl b) (.bl b)
  | int (i : Int) : Dat K H (.int i) (.int i)
  | str (x : Str) : Dat K H (.str x) (.str x)
  | tup {a : Addr} {xs : List V} {ds : List D} : TupC H a xs → DatA K H xs ds → Dat K H (.ref a) (.tup ds)
  | key {a : Addr} {xs : List V} {ds : List D} : H a = some (.tup xs) → DatA K H xs ds → Dat K H (.ref a) (.key ds)
  | lst {a : Addr} {xs : List V} {ds : List D} : H a = some (.lst xs) → DatA K H xs ds → Dat K H (.ref a) (.lst ds)
  | scr {a : Addr} {xs : List V} {ds : List D} : SqL K H a xs → DatA K H xs ds → Dat K H (.ref a) (.scr ds)
  | ref (a : Addr) : Dat K H (.ref a) (.ref a)
  | ty (n : String) : Dat K H (.ty n) (.ty n)
  | dct {a : Addr} {o : Obj} {kvs : List (List Key × V)} {kds : List (List Key × D)} : H a = some (.frz o (.dT kvs)) → DatT K H kvs kds → Dat K H (.ref a) (.dct kds)
  | lam {f c : Addr} {ob : Obj} {q : Str} : H f = some (FunO f ob) → H c = some (LamX.CodeO c q) → Dat K H (.ref f) (.lam ob c q)
inductive DatT (K : PySem.W.Frag) (H : Hp) : List (List Key × V) → List (List Key × D) → Prop
  | nil : DatT K H [] []
  | cons {k : List Key} {v : V} {vs : List (List Key × V)} {d : D} {ds : List (List Key × D)} : Dat K H v d → DatT K H vs ds → DatT K H ((k, v) :: vs) ((k, d) :: ds)
inductive DatA (K : PySem.W.Frag) (H : Hp) : List V → List D → Prop
  | nil : DatA K H [] []
  | cons {v : V} {vs : List V} {d : D} {ds : List D} : Dat K H v d → DatA K H vs ds → DatA K H (v :: vs) (d :: ds)
end

/-- all that is known stays -/
def Ex (H H' : Hp) : Prop := ∀ a o, H a = some o → H' a = some o
theorem Ex.refl (H : Hp) : Ex H H := fun _ _ h => h
theorem Ex.trans {H H1 H2 : Hp} (a : Ex H H1) (b : Ex H1 H2) : Ex H H2 := fun x o h => b x o (a x o h)
theorem Ex.rd {H H' : Hp} {a : Addr} {u : HO} (e : Ex H H') (h : Rd H a u) : Rd H' a u := by
  rcases h with h | ⟨o, h⟩
  · exact .inl (e a _ h)
  · exact .inr ⟨o, e a _ h⟩
theorem Ex.sqL {K : PySem.W.Frag} {H H' : Hp} {a : Addr} {xs : List V} (e : Ex H H') (h : SqL K H a xs) : SqL K H' a xs := by
  rcases h with h | h
  · exact .inl (e.rd h)
  · exact .inr h
theorem Ex.sqT {K : PySem.W.Frag} {H H' : Hp} {a : Addr} {xs : List V} (e : Ex H H') (h : SqT K H a xs) : SqT K H' a xs := by
  rcases h with h | h
  · exact .inl (e.rd h)
  · exact .inr h
theorem Ex.tc {H H' : Hp} {a : Addr} {xs : List V} (e : Ex H H') (h : TupC H a xs) : TupC H' a xs := let ⟨o, h1, h2⟩ := h; ⟨o, h1, e _ _ h2⟩
theorem Ex.new {H : Hp} {p : Addr} {o : HO} (h : H p = none) : Ex H (upd H p o) := fun a u e => by
  rw [upd_ne (ne_of_none e h)]
  exact e
theorem fresh_of {H H' : Hp} {p : Addr} (e : Ex H H') (h : H' p = none) : H p = none := by
  cases h1 : H p with
  | none => rfl
  | some o => rw [e p o h1] at h; cases h

section
variable {K : PySem.W.Frag} {H H' : Hp}
mutual
theorem Dat.mono (e : Ex H H') : ∀ {v : V} {d : D}, Dat K H v d → Dat K H' v d
  | _, _, .non => .non
  | _, _, .bl b => .bl b
  | _, _, .int i => .int i
  | _, _, .str x => .str x
  | _, _, .tup h r => .tup (e.tc h) (DatA.mono e r)
  | _, _, .key h r => .key (e _ _ h) (DatA.mono e r)
  | _, _, .lst h r => .lst (e _ _ h) (DatA.mono e r)
  | _, _, .scr h r => .scr (e.sqL h) (DatA.mono e r)
  | _, _, .ref a => .ref a
  | _, _, .ty n => .ty n
  | _, _, .dct h r => .dct (e _ _ h) (DatT.mono e r)
  | _, _, .lam h r => .lam (e _ _ h) (e _ _ r)
theorem DatT.mono (e : Ex H H') : ∀ {vs : List (List Key × V)} {ds : List (List Key × D)}, DatT K H vs ds → DatT K H' vs ds
  | _, _, .nil => .nil
  | _, _, .cons h r => .cons (Dat.mono e h) (DatT.mono e r)
theorem DatA.mono (e : Ex H H') : ∀ {vs : List V} {ds : List D}, DatA K H vs ds → DatA K H' vs ds
  | _, _, .nil => .nil
  | _, _, .cons h r => .cons (Dat.mono e h) (DatA.mono e r)
end
theorem DatA.len : ∀ {vs : List V} {ds : List D}, DatA K H vs ds → vs.length = ds.length
  | _, _, .nil => rfl
  | _, _, .cons _ r => by rw [List.length_cons, List.length_cons, DatA.len r]
theorem DatA.get : ∀ {vs : List V} {ds : List D} {i : Nat} {d : D}, DatA K H vs ds → ds[i]? = some d → ∃ v, vs[i]? = some v ∧ Dat K H v d
  | _, _, _, _, .nil, h => by simp at h
  | _, _, 0, _, .cons q r, h => by simp at h; subst h; exact ⟨_, rfl, q⟩
  | _, _, i + 1, d, .cons _ r, h => by
    obtain ⟨v, h1, h2⟩ := DatA.get (i := i) (d := d) r (by simpa using h)
    exact ⟨v, by simpa using h1, h2⟩
theorem DatA.at : ∀ {vs : List V} {ds : List D} {i : Nat} {v : V}, DatA K H vs ds → vs[i]? = some v → ∃ d, ds[i]? = some d ∧ Dat K H v d
  | _, _, _, _, .nil, h => by simp at h
  | _, _, 0, _, .cons q r, h => by simp at h; subst h; exact ⟨_, rfl, q⟩
  | _, _, i + 1, d, .cons _ r, h => by
    obtain ⟨v, h1, h2⟩ := DatA.at (i := i) (v := d) r (by simpa using h)
    exact ⟨v, by simpa using h1, h2⟩
theorem DatA.append : ∀ {xs ys : List V} {ds es : List D}, DatA K H xs ds → DatA K H ys es → DatA K H (xs ++ ys) (ds ++ es)
  | _, _, _, _, .nil, s => s
  | _, _, _, _, .cons r t, s => .cons r (DatA.append t s)
theorem DatA.take : ∀ {xs : List V} {ds : List D} (n : Nat), DatA K H xs ds → DatA K H (xs.take n) (ds.take n)
  | _, _, 0, _ => .nil
  | _, _, _ + 1, .nil => .nil
  | _, _, n + 1, .cons r t => .cons r (DatA.take n t)
theorem DatA.drop : ∀ {xs : List V} {ds : List D} (n : Nat), DatA K H xs ds → DatA K H (xs.drop n) (ds.drop n)
  | _, _, 0, r => r
  | _, _, _ + 1, .nil => .nil
  | _, _, n + 1, .cons _ t => DatA.drop n t
theorem DatA.set {v : V} {d : D} (q : Dat K H v d) : ∀ {xs : List V} {ds : List D} (n : Nat), DatA K H xs ds → DatA K H (xs.set n v) (ds.set n d)
  | _, _, _, .nil => .nil
  | _, _, 0, .cons _ t => .cons q t
  | _, _, n + 1, .cons r t => .cons r (DatA.set q n t)
theorem DatA.eraseIdx : ∀ {xs : List V} {ds : List D} (n : Nat), DatA K H xs ds → DatA K H (xs.eraseIdx n) (ds.eraseIdx n)
  | _, _, _, .nil => .nil
  | _, _, 0, .cons _ t => t
  | _, _, n + 1, .cons r t => .cons r (DatA.eraseIdx n t)
theorem DatA.rev : ∀ {xs : List V} {ds : List D}, DatA K H xs ds → DatA K H xs.reverse ds.reverse
  | _, _, .nil => .nil
  | _, _, .cons r t => by rw [List.reverse_cons, List.reverse_cons]; exact DatA.append (DatA.rev t) (.cons r .nil)
theorem DatA.nil_iff {xs : List V} {ds : List D} (h : DatA K H xs ds) : xs = [] ↔ ds = [] := by
  cases h with
  | nil => exact Iff.intro (fun _ => rfl) fun _ => rfl
  | cons _ _ => exact Iff.intro (fun z => nomatch z) fun z => nomatch z
theorem DatA.ints : ∀ {xs : List V} {ns : List Int}, DatA K H xs (ns.map D.int) → xs = ns.map V.int
  | _, [], .nil => rfl
  | _, n :: ns, .cons q r => by cases q; rw [List.map_cons, DatA.ints r]
theorem DatA.bls : ∀ {xs : List V} {ns : List Bool}, DatA K H xs (ns.map D.bl) → xs = ns.map V.bl
  | _, [], .nil => rfl
  | _, n :: ns, .cons q r => by cases q; rw [List.map_cons, DatA.bls r]
theorem DatA.strs : ∀ {xs : List V} {ns : List Str}, DatA K H xs (ns.map D.str) → xs = ns.map V.str
  | _, [], .nil => rfl
  | _, n :: ns, .cons q r => by cases q; rw [List.map_cons, DatA.strs r]
theorem datA_ints : ∀ (ns : List Int), DatA K H (ns.map V.int) (ns.map D.int)
  | [] => .nil
  | n :: ns => .cons (.int n) (datA_ints ns)
theorem datA_strs : ∀ (ns : List Str), DatA K H (ns.map V.str) (ns.map D.str)
  | [] => .nil
  | n :: ns => .cons (.str n) (datA_strs ns)
theorem datA_bls : ∀ (ns : List Bool), DatA K H (ns.map V.bl) (ns.map D.bl)
  | [] => .nil
  | n :: ns => .cons (.bl n) (datA_bls ns)
/-- from a list of pairs of what is and what it means -/
theorem datA_of {α : Type} {f : α → V} {g : α → D} : ∀ {xs : List α}, (∀ x ∈ xs, Dat K H (f x) (g x)) → DatA K H (xs.map f) (xs.map g)
  | [], _ => .nil
  | x :: xs, h => .cons (h x (List.mem_cons_self ..)) (datA_of fun y hy => h y (List.mem_cons_of_mem _ hy))
end

/-- what an object holds, by what is known -/
def RepO (K : PySem.W.Frag) (H : Hp) : HO → O → Prop
  | .lst vs, .lst ds => DatA K H vs ds
  | .dK kvs, .dK kds => Paired (fun (p : Key × V) (q : Key × D) => p.1 = q.1 ∧ Dat K H p.2 q.2) kvs kds
  | .dT kvs, .dT kds => Paired (fun (p : List Key × V) (q : List Key × D) => p.1 = q.1 ∧ Dat K H p.2 q.2) kvs kds
  | .ins C dx fs, .ins C' dx' gs => C = C' ∧ dx = dx' ∧ Paired (fun (p : Str × V) (q : Str × D) => p.1 = q.1 ∧ Dat K H p.2 q.2) fs gs
  | .tbl ps, .tab q => TriplesOk ps.toList ∧ ∀ (pos : Pos) (cv : Value), codeAmong pos ps.toList = some cv → ∃ c, cv = .ref c ∧ H c = some (LamX.CodeO c q)
  | _, _ => False
theorem pairedM {α β : Type} {F G : α → β → Prop} (h : ∀ a b, F a b → G a b) : ∀ {xs : List α} {ys : List β}, Paired F xs ys → Paired G xs ys
  | _, _, .nil => .nil
  | _, _, .cons r t => .cons (h _ _ r) (pairedM h t)
theorem RepO.mono {K : PySem.W.Frag} {H H' : Hp} (e : Ex H H') {ho : HO} {o : O} (h : RepO K H ho o) : RepO K H' ho o := by
  cases ho <;> cases o <;> first
    | exact DatA.mono e h
    | exact pairedM (fun _ _ r => ⟨r.1, r.2.mono e⟩) h
    | exact ⟨h.1, h.2.1, pairedM (fun _ _ r => ⟨r.1, r.2.mono e⟩) h.2.2⟩
    | exact ⟨h.1, fun pos cv z => let ⟨c, a, b⟩ := h.2 pos cv z; ⟨c, a, e _ _ b⟩⟩
    | exact (h : False).elim

/-- Hs: what is shared and stays; H: all; S: what is ours -/
structure Rep (K : PySem.W.Frag) (Hs H : Hp) (S : Sto) : Prop where
  ex : Ex Hs H
  ob : ∀ p o, S p = some o → Hs p = none ∧ ∃ ho, H p = some ho ∧ RepO K Hs ho o
theorem Rep.free {K : PySem.W.Frag} {Hs H : Hp} {S : Sto} (R : Rep K Hs H S) {p : Addr} (h : H p = none) : Hs p = none ∧ S p = none := by
  refine ⟨fresh_of R.ex h, ?_⟩
  cases e : S p with
  | none => rfl
  | some o =>
    obtain ⟨_, ho, q, _⟩ := R.ob p o e
    rw [h] at q; cases q
/-- something new that is shared -/
theorem Rep.newS {K : PySem.W.Frag} {Hs H : Hp} {S : Sto} (R : Rep K Hs H S) {p : Addr} (h : H p = none) (o : HO) : Rep K (upd Hs p o) (upd H p o) S := by
  obtain ⟨h1, h2⟩ := R.free h
  refine ⟨fun a u e => ?_, fun q u e => ?_⟩
  · by_cases z : a = p
    · subst z; rw [upd_same] at e ⊢; exact e
    · rw [upd_ne z] at e ⊢; exact R.ex a u e
  · obtain ⟨q1, ho, q2, q3⟩ := R.ob q u e
    have z : q ≠ p := sne e h2
    exact ⟨by rw [upd_ne z]; exact q1, ho, by rw [upd_ne z]; exact q2, q3.mono (Ex.new h1)⟩
/-- something new that is ours -/
theorem Rep.newO {K : PySem.W.Frag} {Hs H : Hp} {S : Sto} (R : Rep K Hs H S) {p : Addr} (h : H p = none) {ho : HO} {o : O} (r : RepO K Hs ho o) : Rep K Hs (upd H p ho) (S.upd p o) := by
  obtain ⟨h1, h2⟩ := R.free h
  refine ⟨fun a u e => ?_, fun q u e => ?_⟩
  · rw [upd_ne (ne_of_none e h1)]; exact R.ex a u e
  · by_cases z : q = p
    · subst z
      rw [upd_at] at e; cases e
      exact ⟨h1, ho, upd_same, r⟩
    · rw [upd_off z] at e
      obtain ⟨q1, ho, q2, q3⟩ := R.ob q u e
      exact ⟨q1, ho, by rw [upd_ne z]; exact q2, q3⟩
/-- one of ours is written -/
theorem Rep.write {K : PySem.W.Frag} {Hs H : Hp} {S : Sto} (R : Rep K Hs H S) {p : Addr} {o0 : O} (h : S p = some o0) {ho : HO} {o : O} (r : RepO K Hs ho o) : Rep K Hs (upd H p ho) (S.upd p o) := by
  obtain ⟨h1, _⟩ := R.ob p o0 h
  refine ⟨fun a u e => ?_, fun q u e => ?_⟩
  · rw [upd_ne (ne_of_none e h1)]; exact R.ex a u e
  · by_cases z : q = p
    · subst z
      rw [upd_at] at e; cases e
      exact ⟨h1, ho, upd_same, r⟩
    · rw [upd_off z] at e
      obtain ⟨q1, ho, q2, q3⟩ := R.ob q u e
      exact ⟨q1, ho, by rw [upd_ne z]; exact q2, q3⟩
/-- less is ours -/
def Sub (S S' : Sto) : Prop := ∀ p o, S p = some o → S' p = some o
theorem Sub.refl (S : Sto) : Sub S S := fun _ _ h => h
theorem Sub.trans {S S1 S2 : Sto} (a : Sub S S1) (b : Sub S1 S2) : Sub S S2 := fun p o h => b p o (a p o h)
theorem Sub.new {S : Sto} {p : Addr} {o : O} (h : S p = none) : Sub S (S.upd p o) := fun q u e => by rw [upd_off (sne e h)]; exact e
theorem Sub.both {S S' : Sto} (h : Sub S S') (p : Addr) (o : O) : Sub (S.upd p o) (S'.upd p o) := fun q u e => by
  by_cases z : q = p
  · subst z; rw [upd_at] at e ⊢; exact e
  · rw [upd_off z] at e ⊢; exact h q u e
theorem Rep.sub {K : PySem.W.Frag} {Hs H : Hp} {S S' : Sto} (R : Rep K Hs H S') (h : Sub S S') : Rep K Hs H S := ⟨R.ex, fun p o e => R.ob p o (h p o e)⟩
/-- a list of ours becomes shared -/
theorem Rep.freeze {K : PySem.W.Frag} {Hs H : Hp} {S : Sto} (R : Rep K Hs H S) {p : Addr} {ds : List D} (h : S p = some (.lst ds)) : ∃ Hs', Ex Hs Hs' ∧ Rep K Hs' H (S.del p) ∧ Dat K Hs' (.ref p) (.lst ds) := by
  obtain ⟨h1, ho, h2, h3⟩ := R.ob p _ h
  cases ho with
  | lst vs =>
    have e1 : Ex Hs (upd Hs p (.lst vs)) := Ex.new h1
    refine ⟨upd Hs p (.lst vs), e1, ⟨fun a u e => ?_, fun q u e => ?_⟩, .lst upd_same (DatA.mono e1 h3)⟩
    · by_cases z : a = p
      · subst z; rw [upd_same] at e; cases e; exact h2
      · rw [upd_ne z] at e; exact R.ex a u e
    · unfold Sto.del at e
      by_cases z : q = p
      · rw [if_pos z] at e; cases e
      · rw [if_neg z] at e
        obtain ⟨q1, ho, q2, q3⟩ := R.ob q u e
        exact ⟨by rw [upd_ne z]; exact q1, ho, q2, q3.mono e1⟩
  | _ => exact (h3 : False).elim

/-- what is known of the program's written part; what was shared when the def (or the try) began -/
structure KX where
  f : PySem.W.Frag
  b : Hp
instance : Coe KX PySem.W.Frag := ⟨KX.f⟩
/-- the slots -/
def SltB (K : PySem.W.Frag) (H : Hp) (σ : St) (δ : Env) : Prop := σ.length = δ.length ∧ ∀ (i : Nat) (d : D), δ[i]? = some (some d) → ∃ v, σ[i]? = some (some v) ∧ Dat K H v d
theorem SltB.mono {K : PySem.W.Frag} {H H' : Hp} {σ : St} {δ : Env} (e : Ex H H') (h : SltB K H σ δ) : SltB K H' σ δ := ⟨h.1, fun i d q => let ⟨v, a, b⟩ := h.2 i d q; ⟨v, a, b.mono e⟩⟩
theorem SltB.set {K : PySem.W.Frag} {H : Hp} {σ : St} {δ : Env} {v : V} {d : D} (i : Nat) (h : SltB K H σ δ) (q : Dat K H v d) : SltB K H (σ.set i (some v)) (δ.set i (some d)) := by
  refine ⟨by rw [List.length_set, List.length_set]; exact h.1, fun j x e => ?_⟩
  by_cases z : i = j
  · subst z
    by_cases hl : i < δ.length
    · rw [List.getElem?_set_self hl] at e
      cases e
      exact ⟨v, List.getElem?_set_self (by rw [h.1]; exact hl), q⟩
    · rw [List.getElem?_eq_none (by rw [List.length_set]; omega)] at e; cases e
  · rw [List.getElem?_set_ne z] at e
    obtain ⟨u, a, b⟩ := h.2 j x e
    exact ⟨u, by rw [List.getElem?_set_ne z]; exact a, b⟩
/-- forgetting -/
theorem SltB.wipe1 {K : PySem.W.Frag} {H : Hp} {σ : St} {δ : Env} (i : Nat) (h : SltB K H σ δ) : SltB K H (σ.set i none) (δ.set i none) := by
  refine ⟨by rw [List.length_set, List.length_set]; exact h.1, fun j x e => ?_⟩
  by_cases z : i = j
  · subst z
    by_cases hl : i < δ.length
    · rw [List.getElem?_set_self hl] at e; cases e
    · rw [List.getElem?_eq_none (by rw [List.length_set]; omega)] at e; cases e
  · rw [List.getElem?_set_ne z] at e
    obtain ⟨u, a, b⟩ := h.2 j x e
    exact ⟨u, by rw [List.getElem?_set_ne z]; exact a, b⟩
def wipeE (δ : Env) : List Nat → Env
  | [] => δ
  | v :: vs => (wipeE δ vs).set v none
theorem SltB.wipe {K : PySem.W.Frag} {H : Hp} {σ : St} {δ : Env} (h : SltB K H σ δ) : ∀ vs, SltB K H (L2.wipe σ vs) (wipeE δ vs)
  | [] => h
  | v :: vs => (SltB.wipe h vs).wipe1 v

def Slt (K : KX) (H : Hp) (σ : St) (δ : Env) : Prop := SltB K H σ δ ∧ Ex K.b H
theorem Slt.at {K : KX} {H : Hp} {σ : St} {δ : Env} (h : Slt K H σ δ) {i : Nat} {d : D} (e : δ[i]? = some (some d)) : ∃ v, σ[i]? = some (some v) ∧ Dat K H v d := h.1.2 i d e
theorem Slt.mono {K : KX} {H H' : Hp} {σ : St} {δ : Env} (e : Ex H H') (h : Slt K H σ δ) : Slt K H' σ δ := ⟨h.1.mono e, h.2.trans e⟩
theorem Slt.set {K : KX} {H : Hp} {σ : St} {δ : Env} {v : V} {d : D} (i : Nat) (h : Slt K H σ δ) (q : Dat K H v d) : Slt K H (σ.set i (some v)) (δ.set i (some d)) := ⟨h.1.set i q, h.2⟩
theorem Slt.wipe {K : KX} {H : Hp} {σ : St} {δ : Env} (h : Slt K H σ δ) (vs : List Nat) : Slt K H (L2.wipe σ vs) (wipeE δ vs) := ⟨h.1.wipe vs, h.2⟩

/-! ### the judgements -/
section
variable (K : KX)
def WE (te : TE) (δ : Env) (S : Sto) (Q : D → Sto → Prop) : Prop :=
  ∀ (Hs H : Hp) (σ : St) (QQ : VK), Rep K Hs H S → Slt K Hs σ δ → (∀ v d Hs' H' S', Ex Hs Hs' → Rep K Hs' H' S' → Dat K Hs' v d → Q d S' → QQ v H') → te σ H QQ
def WT (tt : TT) (δ : Env) (S : Sto) (Q : Bool → Sto → Prop) : Prop :=
  ∀ (Hs H : Hp) (σ : St) (QQ : Bool → Hp → Prop), Rep K Hs H S → Slt K Hs σ δ → (∀ b Hs' H' S', Ex Hs Hs' → Rep K Hs' H' S' → Q b S' → QQ b H') → tt σ H QQ
def WA (ta : TA) (δ : Env) (S : Sto) (Q : List D → Sto → Prop) : Prop :=
  ∀ (Hs H : Hp) (σ : St) (QQ : List V → Hp → Prop), Rep K Hs H S → Slt K Hs σ δ → (∀ vs ds Hs' H' S', Ex Hs Hs' → Rep K Hs' H' S' → DatA K Hs' vs ds → Q ds S' → QQ vs H') → ta σ H QQ
end
section
variable (K : PySem.W.Frag)
/-- by values: two, one, several -/
def W2 (r : R2) (x y : D) (S : Sto) (Q : D → Sto → Prop) : Prop :=
  ∀ (Hs H : Hp) (vx vy : V) (QQ : VK), Rep K Hs H S → Dat K Hs vx x → Dat K Hs vy y → (∀ v d Hs' H' S', Ex Hs Hs' → Rep K Hs' H' S' → Dat K Hs' v d → Q d S' → QQ v H') → r vx vy H QQ
def W1 (r : V → Hp → VK → Prop) (x : D) (S : Sto) (Q : D → Sto → Prop) : Prop :=
  ∀ (Hs H : Hp) (vx : V) (QQ : VK), Rep K Hs H S → Dat K Hs vx x → (∀ v d Hs' H' S', Ex Hs Hs' → Rep K Hs' H' S' → Dat K Hs' v d → Q d S' → QQ v H') → r vx H QQ
def WC (r : List V → Hp → VK → Prop) (xs : List D) (S : Sto) (Q : D → Sto → Prop) : Prop :=
  ∀ (Hs H : Hp) (vs : List V) (QQ : VK), Rep K Hs H S → DatA K Hs vs xs → (∀ v d Hs' H' S', Ex Hs Hs' → Rep K Hs' H' S' → Dat K Hs' v d → Q d S' → QQ v H') → r vs H QQ
def WM (r : V → List V → Hp → VK → Prop) (x : D) (xs : List D) (S : Sto) (Q : D → Sto → Prop) : Prop :=
  ∀ (Hs H : Hp) (vx : V) (vs : List V) (QQ : VK), Rep K Hs H S → Dat K Hs vx x → DatA K Hs vs xs → (∀ v d Hs' H' S', Ex Hs Hs' → Rep K Hs' H' S' → Dat K Hs' v d → Q d S' → QQ v H') → r vx vs H QQ
end
section
variable (K : KX)
structure AE where
  nx : Env → Sto → Prop
  rt : D → Sto → Prop
  bk : Env → Sto → Prop := fun _ _ => False
  ct : Env → Sto → Prop := fun _ _ => False
structure EndsR (Hs : Hp) (E : AE) (D : Ends) : Prop where
  nx : ∀ Hs' H' σ' δ' S', Ex Hs Hs' → Rep K Hs' H' S' → Slt K Hs' σ' δ' → E.nx δ' S' → D.nx σ' H'
  rt : ∀ v d Hs' H' S', Ex Hs Hs' → Rep K Hs' H' S' → Dat K Hs' v d → E.rt d S' → D.rt v H'
  bk : ∀ Hs' H' σ' δ' S', Ex Hs Hs' → Rep K Hs' H' S' → Slt K Hs' σ' δ' → E.bk δ' S' → D.bk σ' H'
  ct : ∀ Hs' H' σ' δ' S', Ex Hs Hs' → Rep K Hs' H' S' → Slt K Hs' σ' δ' → E.ct δ' S' → D.ct σ' H'
def WS (ts : TS) (δ : Env) (S : Sto) (E : AE) : Prop :=
  ∀ (Hs H : Hp) (σ : St) (D : Ends), Rep K Hs H S → Slt K Hs σ δ → EndsR K Hs E D → ts D σ H
def WG (g : TG) (d : D) (δ : Env) (S : Sto) (Q : Env → Sto → Prop) : Prop :=
  ∀ (Hs H : Hp) (v : V) (σ : St) (QQ : St → Hp → Prop), Rep K Hs H S → Slt K Hs σ δ → Dat K Hs v d → (∀ Hs' H' σ' δ' S', Ex Hs Hs' → Rep K Hs' H' S' → Slt K Hs' σ' δ' → Q δ' S' → QQ σ' H') → g v σ H QQ
def WGs (g : TGs) (ds : List D) (δ : Env) (S : Sto) (Q : Env → Sto → Prop) : Prop :=
  ∀ (Hs H : Hp) (vs : List V) (σ : St) (QQ : St → Hp → Prop), Rep K Hs H S → Slt K Hs σ δ → DatA K Hs vs ds → (∀ Hs' H' σ' δ' S', Ex Hs Hs' → Rep K Hs' H' S' → Slt K Hs' σ' δ' → Q δ' S' → QQ σ' H') → g vs σ H QQ
end
theorem EndsR.mono {K : KX} {Hs Hs' : Hp} {E : AE} {D : Ends} (h : EndsR K Hs E D) (e : Ex Hs Hs') : EndsR K Hs' E D :=
  ⟨fun _ _ _ _ _ e' => h.nx _ _ _ _ _ (e.trans e'), fun _ _ _ _ _ e' => h.rt _ _ _ _ _ (e.trans e'), fun _ _ _ _ _ e' => h.bk _ _ _ _ _ (e.trans e'), fun _ _ _ _ _ e' => h.ct _ _ _ _ _ (e.trans e')⟩

/-- a bool, an int, both ways of a test, a size: named, so that a proof may go by names -/
def IsB (x : D) (P : Bool → Prop) : Prop := ∃ b, x = .bl b ∧ P b
def IsI (x : D) (P : Int → Prop) : Prop := ∃ i, x = .int i ∧ P i
def Br (b : Bool) (A B : Prop) : Prop := (b = true → A) ∧ (b = false → B)
def Lz (xs : List D) (A : Prop) : Prop := xs.length ≤ sizeLine ∧ A
theorem isB_mk {b : Bool} {P : Bool → Prop} (h : P b) : IsB (.bl b) P := ⟨b, rfl, h⟩
theorem isI_mk {b : Int} {P : Int → Prop} (h : P b) : IsI (.int b) P := ⟨b, rfl, h⟩
theorem br_mk {b : Bool} {A B : Prop} (h1 : b = true → A) (h2 : b = false → B) : Br b A B := ⟨h1, h2⟩
theorem br_t {A B : Prop} (h : A) : Br true A B := ⟨fun _ => h, fun z => nomatch z⟩
theorem br_f {A B : Prop} (h : B) : Br false A B := ⟨(fun z => nomatch z), fun _ => h⟩
theorem br_p {c : Prop} [Decidable c] {A B : Prop} (h1 : c → A) (h2 : ¬ c → B) : Br (decide c) A B := ⟨fun e => h1 (of_decide_eq_true e), fun e => h2 (of_decide_eq_false e)⟩
theorem br_n {c : Prop} [Decidable c] {A B : Prop} (h1 : ¬ c → A) (h2 : c → B) : Br (!decide c) A B := ⟨fun e => h1 (by simpa using e), fun e => h2 (by simpa using e)⟩
theorem lz_mk {xs : List D} {A : Prop} (h : xs.length ≤ sizeLine) (k : A) : Lz xs A := ⟨h, k⟩
section
variable {K : KX} {δ : Env} {S : Sto} {te ta tb tc : TE} {Q : D → Sto → Prop}
theorem WE.imp {Q' : D → Sto → Prop} (h : WE K te δ S Q) (k : ∀ d S', Q d S' → Q' d S') : WE K te δ S Q' := fun Hs H σ QQ R L q => h Hs H σ QQ R L fun v d Hs' H' S' e R' r z => q v d Hs' H' S' e R' r (k d S' z)
theorem WT.imp {tt : TT} {P P' : Bool → Sto → Prop} (h : WT K tt δ S P) (k : ∀ d S', P d S' → P' d S') : WT K tt δ S P' := fun Hs H σ QQ R L q => h Hs H σ QQ R L fun b Hs' H' S' e R' z => q b Hs' H' S' e R' (k b S' z)
theorem WS.imp {ts : TS} {E E' : AE} (h : WS K ts δ S E) (h1 : ∀ δ S, E.nx δ S → E'.nx δ S) (h2 : ∀ d S, E.rt d S → E'.rt d S) (h3 : ∀ δ S, E.bk δ S → E'.bk δ S) (h4 : ∀ δ S, E.ct δ S → E'.ct δ S) : WS K ts δ S E' :=
  fun Hs H σ D R L q => h Hs H σ D R L ⟨fun _ _ _ _ _ e a b c => q.nx _ _ _ _ _ e a b (h1 _ _ c), fun _ _ _ _ _ e a b c => q.rt _ _ _ _ _ e a b (h2 _ _ c), fun _ _ _ _ _ e a b c => q.bk _ _ _ _ _ e a b (h3 _ _ c), fun _ _ _ _ _ e a b c => q.ct _ _ _ _ _ e a b (h4 _ _ c)⟩
/-- what is ours is forgotten -/
theorem WE.drop {S' : Sto} (hs : Sub S S') (h : WE K te δ S Q) : WE K te δ S' Q := fun Hs H σ QQ R L q => h Hs H σ QQ (R.sub hs) L q
theorem WS.drop {ts : TS} {E : AE} {S' : Sto} (hs : Sub S S') (h : WS K ts δ S E) : WS K ts δ S' E := fun Hs H σ D R L q => h Hs H σ D (R.sub hs) L q
/-- at the end what is ours is forgotten -/
theorem WE.less (h : WE K te δ S fun d S' => ∃ S'', Sub S'' S' ∧ Q d S'') : WE K te δ S Q := fun Hs H σ QQ R L q => h Hs H σ QQ R L fun v d Hs' H' S' e R' r ⟨S'', hs, z⟩ => q v d Hs' H' S'' e (R'.sub hs) r z
/-- at the end a list of ours is shared -/
theorem WE.share (h : WE K te δ S fun d S' => ∃ p ds, d = .ref p ∧ S' p = some (.lst ds) ∧ Q (.lst ds) (S'.del p)) : WE K te δ S Q := fun Hs H σ QQ R L q => h Hs H σ QQ R L fun v d Hs' H' S' e R' r ⟨p, ds, hd, hp, z⟩ => by
  subst hd
  cases r
  obtain ⟨Hs2, e2, R2, r2⟩ := R'.freeze hp
  exact q _ _ Hs2 H' _ (e.trans e2) R2 r2 z

theorem we_var {i : Nat} {d : D} (h : δ[i]? = some (some d)) (q : Q d S) : WE K (tVar i) δ S Q := fun Hs H σ QQ R L k => by
  obtain ⟨v, e, r⟩ := L.at h
  exact ⟨v, e, k v d Hs H S (Ex.refl _) R r q⟩
theorem we_int {i : Int} (q : Q (.int i) S) : WE K (tC (.int i)) δ S Q := fun Hs H σ QQ R L k => k _ _ Hs H S (Ex.refl _) R (.int i) q
theorem we_bl {b : Bool} (q : Q (.bl b) S) : WE K (tC (.bl b)) δ S Q := fun Hs H σ QQ R L k => k _ _ Hs H S (Ex.refl _) R (.bl b) q
theorem we_str {x : Str} (q : Q (.str x) S) : WE K (tC (.str x)) δ S Q := fun Hs H σ QQ R L k => k _ _ Hs H S (Ex.refl _) R (.str x) q
theorem we_non (q : Q .non S) : WE K (tC .non) δ S Q := fun Hs H σ QQ R L k => k _ _ Hs H S (Ex.refl _) R .non q
theorem we_ty {n : String} (q : Q (.ty n) S) : WE K (tC (.ty n)) δ S Q := fun Hs H σ QQ R L k => k _ _ Hs H S (Ex.refl _) R (.ty n) q
theorem we_ref {a : Addr} (q : Q (.ref a) S) : WE K (tC (.ref a)) δ S Q := fun Hs H σ QQ R L k => k _ _ Hs H S (Ex.refl _) R (.ref a) q
theorem we_op {r : R2} (h : WE K ta δ S fun x S1 => WE K tb δ S1 fun y S2 => W2 K r x y S2 Q) : WE K (tOp r ta tb) δ S Q := fun Hs H σ QQ R L k =>
  h Hs H σ _ R L fun v d Hs1 H1 S1 e1 R1 r1 h2 => h2 Hs1 H1 σ _ R1 (L.mono e1) fun v2 d2 Hs2 H2 S2 e2 R2 r2 h3 => h3 Hs2 H2 v v2 QQ R2 (r1.mono e2) r2 fun v' d' Hs' H' S' e R' => k v' d' Hs' H' S' ((e1.trans e2).trans e) R'
theorem we_un {r : V → Hp → VK → Prop} (h : WE K ta δ S fun x S1 => W1 K r x S1 Q) : WE K (tUn r ta) δ S Q := fun Hs H σ QQ R L k =>
  h Hs H σ _ R L fun v d Hs1 H1 S1 e1 R1 r1 h2 => h2 Hs1 H1 v QQ R1 r1 fun v' d' Hs' H' S' e R' => k v' d' Hs' H' S' (e1.trans e) R'
theorem wa_nil {P : List D → Sto → Prop} (q : P [] S) : WA K tNil δ S P := fun Hs H σ QQ R L k => k [] [] Hs H S (Ex.refl _) R .nil q
theorem wa_cons {t : TA} {P : List D → Sto → Prop} (h : WE K ta δ S fun x S1 => WA K t δ S1 fun xs S2 => P (x :: xs) S2) : WA K (tCons ta t) δ S P := fun Hs H σ QQ R L k =>
  h Hs H σ _ R L fun v d Hs1 H1 S1 e1 R1 r1 h2 => h2 Hs1 H1 σ _ R1 (L.mono e1) fun vs ds Hs2 H2 S2 e2 R2 r2 q => k _ _ Hs2 H2 S2 (e1.trans e2) R2 (.cons (r1.mono e2) r2) q
/-- a tuple that is to be a key -/
theorem we_key {t : TA} (h : WA K t δ S fun xs S1 => Lz xs (Q (.key xs) S1)) : WE K (tTup t) δ S Q := fun Hs H σ QQ R L k =>
  h Hs H σ _ R L fun vs ds Hs1 H1 S1 e1 R1 r1 ⟨hz, q⟩ => ⟨by rw [r1.len]; exact hz, fun p hp =>
    have e2 : Ex Hs1 (upd Hs1 p (.tup vs)) := Ex.new (R1.free hp).1
    k _ _ (upd Hs1 p (.tup vs)) _ S1 (e1.trans e2) (R1.newS hp _) (.key upd_same (r1.mono e2)) q⟩
/-- any other -/
def tTupC (t : TA) : TE := fun σ H Q => t σ H fun xs H1 => xs.length ≤ sizeLine ∧ ∀ p ob, ob.dict = none → H1 p = none → Q (.ref p) (upd H1 p (.frz ob (.tup xs)))
theorem we_tup {t : TA} (h : WA K t δ S fun xs S1 => Lz xs (Q (.tup xs) S1)) : WE K (tTupC t) δ S Q := fun Hs H σ QQ R L k =>
  h Hs H σ _ R L fun vs ds Hs1 H1 S1 e1 R1 r1 ⟨hz, q⟩ => ⟨by rw [r1.len]; exact hz, fun p ob ho hp =>
    have e2 : Ex Hs1 (upd Hs1 p (.frz ob (.tup vs))) := Ex.new (R1.free hp).1
    k _ _ (upd Hs1 p (.frz ob (.tup vs))) _ S1 (e1.trans e2) (R1.newS hp _) (.tup ⟨ob, ho, upd_same⟩ (r1.mono e2)) q⟩
/-- a new list: ours -/
theorem we_lst {t : TA} (h : WA K t δ S fun xs S1 => Lz xs (∀ p, S1 p = none → Q (.ref p) (S1.upd p (.lst xs)))) : WE K (tLst t) δ S Q := fun Hs H σ QQ R L k =>
  h Hs H σ _ R L fun vs ds Hs1 H1 S1 e1 R1 r1 ⟨hz, q⟩ => ⟨by rw [r1.len]; exact hz, fun p hp => k _ _ Hs1 _ _ e1 (R1.newO hp (ho := .lst vs) (o := .lst ds) r1) (.ref p) (q p (R1.free hp).2)⟩
/-- a new list: shared -/
theorem we_lstS {t : TA} (h : WA K t δ S fun xs S1 => Lz xs (Q (.lst xs) S1)) : WE K (tLst t) δ S Q := fun Hs H σ QQ R L k =>
  h Hs H σ _ R L fun vs ds Hs1 H1 S1 e1 R1 r1 ⟨hz, q⟩ => ⟨by rw [r1.len]; exact hz, fun p hp =>
    have e2 : Ex Hs1 (upd Hs1 p (.lst vs)) := Ex.new (R1.free hp).1
    k _ _ (upd Hs1 p (.lst vs)) _ S1 (e1.trans e2) (R1.newS hp _) (.lst upd_same (r1.mono e2)) q⟩
theorem we_cb {r : List V → Hp → VK → Prop} {t : TA} (h : WA K t δ S fun xs S1 => WC K r xs S1 Q) : WE K (tCB r t) δ S Q := fun Hs H σ QQ R L k =>
  h Hs H σ _ R L fun vs ds Hs1 H1 S1 e1 R1 r1 h2 => h2 Hs1 H1 vs QQ R1 r1 fun v' d' Hs' H' S' e R' => k v' d' Hs' H' S' (e1.trans e) R'
/-! tests -/
variable {tt uu : TT} {B : Bool → Sto → Prop}
theorem wt_test (h : WE K te δ S fun x S1 => IsB x fun b => B b S1) : WT K (tTest te) δ S B := fun Hs H σ QQ R L k => h Hs H σ _ R L fun v d Hs1 H1 S1 e1 R1 r1 ⟨b, hb, q⟩ => by
  subst hb; cases r1; exact ⟨b, rfl, k b Hs1 H1 S1 e1 R1 q⟩
theorem wt_B (h : WE K te δ S fun x S1 => IsB x fun b => B b S1) : WT K (tB te) δ S B := fun Hs H σ QQ R L k => h Hs H σ _ R L fun v d Hs1 H1 S1 e1 R1 r1 ⟨b, hb, q⟩ => by
  subst hb; cases r1; exact ⟨b, rfl, k b Hs1 H1 S1 e1 R1 q⟩
theorem wt_and (h : WT K tt δ S fun b S1 => Br b (WT K uu δ S1 B) (B false S1)) : WT K (tAnd tt uu) δ S B := fun Hs H σ QQ R L k => h Hs H σ _ R L fun b Hs1 H1 S1 e1 R1 ⟨h1, h2⟩ => by
  cases b with
  | true => exact iteT (h1 rfl Hs1 H1 σ QQ R1 (L.mono e1) fun b' Hs' H' S' e R' => k b' Hs' H' S' (e1.trans e) R')
  | false => exact iteF (k false Hs1 H1 S1 e1 R1 (h2 rfl))
theorem wt_or (h : WT K tt δ S fun b S1 => Br b (B true S1) (WT K uu δ S1 B)) : WT K (tOr tt uu) δ S B := fun Hs H σ QQ R L k => h Hs H σ _ R L fun b Hs1 H1 S1 e1 R1 ⟨h2, h1⟩ => by
  cases b with
  | true => exact iteT (k true Hs1 H1 S1 e1 R1 (h2 rfl))
  | false => exact iteF (h1 rfl Hs1 H1 σ QQ R1 (L.mono e1) fun b' Hs' H' S' e R' => k b' Hs' H' S' (e1.trans e) R')
theorem wt_not (h : WT K tt δ S fun b S1 => B (!b) S1) : WT K (tNot tt) δ S B := fun Hs H σ QQ R L k => h Hs H σ _ R L fun b Hs1 H1 S1 e1 R1 q => k _ Hs1 H1 S1 e1 R1 q
theorem we_andV (h : WE K ta δ S fun x S1 => IsB x fun b => Br b (WE K tb δ S1 Q) (Q (.bl false) S1)) : WE K (tAndV ta tb) δ S Q := fun Hs H σ QQ R L k => h Hs H σ _ R L fun v d Hs1 H1 S1 e1 R1 r1 ⟨b, hb, h1, h2⟩ => by
  subst hb; cases r1
  refine ⟨b, rfl, ?_⟩
  cases b with
  | true => exact iteT (h1 rfl Hs1 H1 σ QQ R1 (L.mono e1) fun v d Hs' H' S' e R' => k v d Hs' H' S' (e1.trans e) R')
  | false => exact iteF (k _ _ Hs1 H1 S1 e1 R1 (.bl false) (h2 rfl))
theorem we_orV (h : WE K ta δ S fun x S1 => IsB x fun b => Br b (Q (.bl true) S1) (WE K tb δ S1 Q)) : WE K (tOrV ta tb) δ S Q := fun Hs H σ QQ R L k => h Hs H σ _ R L fun v d Hs1 H1 S1 e1 R1 r1 ⟨b, hb, h2, h1⟩ => by
  subst hb; cases r1
  refine ⟨b, rfl, ?_⟩
  cases b with
  | true => exact iteT (k _ _ Hs1 H1 S1 e1 R1 (.bl true) (h2 rfl))
  | false => exact iteF (h1 rfl Hs1 H1 σ QQ R1 (L.mono e1) fun v d Hs' H' S' e R' => k v d Hs' H' S' (e1.trans e) R')
theorem we_notV (h : WE K ta δ S fun x S1 => IsB x fun b => Q (.bl (!b)) S1) : WE K (tNotV ta) δ S Q := fun Hs H σ QQ R L k => h Hs H σ _ R L fun v d Hs1 H1 S1 e1 R1 r1 ⟨b, hb, q⟩ => by
  subst hb; cases r1
  exact ⟨b, rfl, k _ _ Hs1 H1 S1 e1 R1 (.bl (!b)) q⟩
theorem we_if (h : WT K tt δ S fun b S1 => Br b (WE K ta δ S1 Q) (WE K tb δ S1 Q)) : WE K (tIf tt ta tb) δ S Q := fun Hs H σ QQ R L k => h Hs H σ _ R L fun b Hs1 H1 S1 e1 R1 ⟨h1, h2⟩ => by
  cases b with
  | true => exact iteT (h1 rfl Hs1 H1 σ QQ R1 (L.mono e1) fun v d Hs' H' S' e R' => k v d Hs' H' S' (e1.trans e) R')
  | false => exact iteF (h2 rfl Hs1 H1 σ QQ R1 (L.mono e1) fun v d Hs' H' S' e R' => k v d Hs' H' S' (e1.trans e) R')
/-- a < b < c -/
theorem we_chain {r r' : R2} (h : WE K ta δ S fun x S1 => WE K tb δ S1 fun y S2 => W2 K r x y S2 fun z S3 => IsB z fun b => Br b (WE K tc δ S3 fun w S4 => W2 K r' y w S4 Q) (Q (.bl false) S3)) : WE K (tChain r r' ta tb tc) δ S Q := fun Hs H σ QQ R L k =>
  h Hs H σ _ R L fun v d Hs1 H1 S1 e1 R1 r1 h2 => h2 Hs1 H1 σ _ R1 (L.mono e1) fun v2 d2 Hs2 H2 S2 e2 R2 r2 h3 => h3 Hs2 H2 v v2 _ R2 (r1.mono e2) r2 fun z dz Hs3 H3 S3 e3 R3 rz ⟨b, hb, h1, h0⟩ => by
    subst hb; cases rz
    refine ⟨b, rfl, ?_⟩
    cases b with
    | true => exact iteT (h1 rfl Hs3 H3 σ _ R3 (L.mono ((e1.trans e2).trans e3)) fun v4 d4 Hs4 H4 S4 e4 R4 r4 h5 => h5 Hs4 H4 v2 v4 QQ R4 (r2.mono (e3.trans e4)) r4 fun v' d' Hs' H' S' e R' => k v' d' Hs' H' S' ((((e1.trans e2).trans e3).trans e4).trans e) R')
    | false => exact iteF (k _ _ Hs3 H3 S3 ((e1.trans e2).trans e3) R3 (.bl false) (h0 rfl))
/-! statements -/
variable {ts us : TS} {E : AE}
theorem ws_next (q : E.nx δ S) : WS K tNext δ S E := fun Hs H σ D R L k => k.nx Hs H σ δ S (Ex.refl _) R L q
theorem ws_seq (h : WS K ts δ S { E with nx := fun δ' S' => WS K us δ' S' E }) : WS K (tSeq ts us) δ S E := fun Hs H σ D R L k =>
  h Hs H σ { D with nx := us D } R L ⟨fun Hs' H' σ' δ' S' e R' L' q => q Hs' H' σ' D R' L' (k.mono e), k.rt, k.bk, k.ct⟩
theorem ws_break (q : E.bk δ S) : WS K tBreak δ S E := fun Hs H σ D R L k => k.bk Hs H σ δ S (Ex.refl _) R L q
theorem ws_cont (q : E.ct δ S) : WS K tCont δ S E := fun Hs H σ D R L k => k.ct Hs H σ δ S (Ex.refl _) R L q
theorem ws_drop (h : WE K te δ S fun _ S' => E.nx δ S') : WS K (tDrop te) δ S E := fun Hs H σ D R L k => h Hs H σ _ R L fun v d Hs1 H1 S1 e1 R1 r1 q => k.nx Hs1 H1 σ δ S1 e1 R1 (L.mono e1) q
theorem ws_ret (h : WE K te δ S E.rt) : WS K (tRet te) δ S E := fun Hs H σ D R L k => h Hs H σ _ R L fun v d Hs1 H1 S1 e1 R1 r1 q => k.rt v d Hs1 H1 S1 e1 R1 r1 q
theorem ws_retN (h : E.rt .non S) : WS K tRetN δ S E := fun Hs H σ D R L k => k.rt .non .non Hs H S (Ex.refl _) R .non h
theorem ws_if (h : WT K tt δ S fun b S1 => Br b (WS K ts δ S1 E) (WS K us δ S1 E)) : WS K (tIfS tt ts us) δ S E := fun Hs H σ D R L k => h Hs H σ _ R L fun b Hs1 H1 S1 e1 R1 ⟨h1, h2⟩ => by
  cases b with
  | true => exact iteT (h1 rfl Hs1 H1 σ D R1 (L.mono e1) (k.mono e1))
  | false => exact iteF (h2 rfl Hs1 H1 σ D R1 (L.mono e1) (k.mono e1))
theorem ws_never (h : False) : WS K tNever δ S E := h.elim
/-! targets -/
variable {g : TG} {gs : TGs} {T : Env → Sto → Prop}
theorem wg_name {i : Nat} {d : D} (q : T (δ.set i (some d)) S) : WG K (gName i) d δ S T := fun Hs H v σ QQ R L r k => k Hs H _ _ S (Ex.refl _) R (L.set i r) q
theorem wgs_nil (q : T δ S) : WGs K gNil [] δ S T := fun Hs H vs σ QQ R L r k => by
  cases r
  exact ⟨rfl, k Hs H σ δ S (Ex.refl _) R L q⟩
theorem wgs_cons {d : D} {ds : List D} (h : WG K g d δ S fun δ' S' => WGs K gs ds δ' S' T) : WGs K (gCons g gs) (d :: ds) δ S T := fun Hs H vs σ QQ R L r k => by
  cases r with
  | cons r1 r2 => exact ⟨_, _, rfl, h Hs H _ σ _ R L r1 fun Hs' H' σ' δ' S' e R' L' q => q Hs' H' _ σ' QQ R' L' (r2.mono e) fun Hs2 H2 σ2 δ2 S2 e2 => k Hs2 H2 σ2 δ2 S2 (e.trans e2)⟩
theorem wg_tup {n : Nat} {ds : List D} (hn : ds.length = n) (h : WGs K gs ds δ S T) : WG K (gTup K n gs) (.tup ds) δ S T := fun Hs H v σ QQ R L r k => by
  cases r with
  | tup hq ra => exact ⟨_, _, rfl, (R.ex.tc hq).sq, by rw [ra.len]; exact hn, h Hs H _ σ QQ R L ra k⟩
theorem wg_key {n : Nat} {ds : List D} (hn : ds.length = n) (h : WGs K gs ds δ S T) : WG K (gTup K n gs) (.key ds) δ S T := fun Hs H v σ QQ R L r k => by
  cases r with
  | key hq ra => exact ⟨_, _, rfl, .of (R.ex _ _ hq), by rw [ra.len]; exact hn, h Hs H _ σ QQ R L ra k⟩
theorem ws_asg (h : WE K te δ S fun d S1 => WG K g d δ S1 E.nx) : WS K (tAsg te g) δ S E := fun Hs H σ D R L k => h Hs H σ _ R L fun v d Hs1 H1 S1 e1 R1 r1 q => q Hs1 H1 v σ _ R1 (L.mono e1) r1 fun Hs2 H2 σ2 δ2 S2 e2 => k.nx Hs2 H2 σ2 δ2 S2 (e1.trans e2)
theorem ws_set {i : Nat} (h : WE K te δ S fun d S1 => E.nx (δ.set i (some d)) S1) : WS K (tAsg te (gName i)) δ S E := ws_asg (h.imp fun _ _ q => wg_name q)
theorem ws_par {i j : Nat} {t : TA} (h : WA K t δ S fun ds S1 => ∃ a b, ds = [a, b] ∧ E.nx ((δ.set i (some a)).set j (some b)) S1) : WS K (tPar i j t) δ S E := fun Hs H σ D R L k => h Hs H σ _ R L fun vs ds Hs1 H1 S1 e1 R1 r1 ⟨a, b, hd, q⟩ => by
  subst hd
  cases r1 with
  | cons ra r2 => cases r2 with
    | cons rb r3 =>
      cases r3
      exact ⟨_, _, rfl, k.nx Hs1 H1 _ _ S1 e1 R1 (((L.mono e1).set i ra).set j rb) q⟩
end
end PL

set_option Elab.async false
set_option linter.all false
set_option maxRecDepth 100000
set_option maxHeartbeats 4000000
/-! PL2: operators, built-ins, calls, walks over plain data. -/
namespace PL
open PySem L2

/-- what follows -/
abbrev Kq := D → Sto → Prop
def Cont (K : PySem.W.Frag) (Hs : Hp) (q : Kq) (QQ : VK) : Prop := ∀ v d Hs' H' S', Ex Hs Hs' → Rep K Hs' H' S' → Dat K Hs' v d → q d S' → QQ v H'
/-- a new list: shared at once, or ours -/
def NewL (S : Sto) (ds : List D) (q : Kq) : Prop := q (.lst ds) S ∨ ∀ p, S p = none → q (.ref p) (S.upd p (.lst ds))
theorem newL_run {K : PySem.W.Frag} {Hs H : Hp} {S : Sto} {vs : List V} {ds : List D} {q : Kq} {QQ : VK} {p : Addr} (R : Rep K Hs H S) (r : DatA K Hs vs ds) (h : NewL S ds q) (k : Cont K Hs q QQ) (hp : H p = none) : QQ (.ref p) (upd H p (.lst vs)) := by
  rcases h with h | h
  · have e : Ex Hs (upd Hs p (.lst vs)) := Ex.new (R.free hp).1
    exact k _ _ (upd Hs p (.lst vs)) _ S e (R.newS hp _) (.lst upd_same (r.mono e)) h
  · exact k _ _ Hs _ _ (Ex.refl _) (R.newO hp (ho := .lst vs) (o := .lst ds) r) (.ref p) (h p (R.free hp).2)
theorem newT_run {K : PySem.W.Frag} {Hs H : Hp} {S : Sto} {vs : List V} {ds : List D} {q : Kq} {QQ : VK} {p : Addr} {ob : Obj} (R : Rep K Hs H S) (r : DatA K Hs vs ds) (h : q (.tup ds) S) (k : Cont K Hs q QQ) (ho : ob.dict = none) (hp : H p = none) : QQ (.ref p) (upd H p (.frz ob (.tup vs))) := by
  have e : Ex Hs (upd Hs p (.frz ob (.tup vs))) := Ex.new (R.free hp).1
  exact k _ _ (upd Hs p (.frz ob (.tup vs))) _ S e (R.newS hp _) (.tup ⟨ob, ho, upd_same⟩ (r.mono e)) h
/-- a tuple, of either kind -/
def asT : D → Option (List D)
  | .tup xs => some xs
  | .key xs => some xs
  | _ => none
theorem asT_rep {K : PySem.W.Frag} {Hs H : Hp} {S : Sto} {v : V} {x : D} {xs : List D} (R : Rep K Hs H S) (r : Dat K Hs v x) (h : asT x = some xs) : ∃ a vs, v = .ref a ∧ SqT K H a vs ∧ DatA K Hs vs xs := by
  cases r with
  | tup hq ha => cases h; exact ⟨_, _, rfl, (R.ex.tc hq).sq, ha⟩
  | key hq ha => cases h; exact ⟨_, _, rfl, .of (R.ex _ _ hq), ha⟩
  | _ => cases h
def O.items : Option O → Option (List D)
  | some (.lst xs) => some xs
  | _ => none
/-- a list, shared or ours -/
def asL (S : Sto) : D → Option (List D)
  | .lst xs => some xs
  | .ref a => O.items (S a)
  | _ => none
theorem asL_lst {S : Sto} {xs : List D} : asL S (.lst xs) = some xs := rfl
theorem asL_ref {S : Sto} {a : Addr} {xs : List D} (h : S a = some (.lst xs)) : asL S (.ref a) = some xs := by
  show O.items (S a) = some xs
  rw [h]
  rfl
theorem asL_rep {K : PySem.W.Frag} {Hs H : Hp} {S : Sto} {v : V} {x : D} {xs : List D} (R : Rep K Hs H S) (r : Dat K Hs v x) (h : asL S x = some xs) : ∃ a vs, v = .ref a ∧ H a = some (.lst vs) ∧ DatA K Hs vs xs := by
  cases r with
  | lst hr ha => cases h; exact ⟨_, _, rfl, R.ex _ _ hr, ha⟩
  | ref a =>
    have h' : O.items (S a) = some xs := h
    cases e : S a with
    | none => rw [e] at h'; cases h'
    | some o =>
      rw [e] at h'
      cases o with
      | lst ys =>
        cases h'
        obtain ⟨_, ho, h2, h3⟩ := R.ob a _ e
        cases ho with
        | lst vs => exact ⟨a, vs, rfl, h2, h3⟩
        | _ => exact (h3 : False).elim
      | _ => cases h'
  | _ => cases h
/-- a sequence that is read -/
def asQ (S : Sto) : D → Option (List D)
  | .tup xs => some xs
  | .key xs => some xs
  | .scr xs => some xs
  | d => asL S d
theorem asQ_tup {S : Sto} {xs : List D} : asQ S (.tup xs) = some xs := rfl
theorem asQ_scr {S : Sto} {xs : List D} : asQ S (.scr xs) = some xs := rfl
theorem asQ_lst {S : Sto} {xs : List D} : asQ S (.lst xs) = some xs := rfl
theorem asQ_ref {S : Sto} {a : Addr} {xs : List D} (h : S a = some (.lst xs)) : asQ S (.ref a) = some xs := asL_ref h
theorem asQ_rep {K : PySem.W.Frag} {Hs H : Hp} {S : Sto} {v : V} {x : D} {xs : List D} (R : Rep K Hs H S) (r : Dat K Hs v x) (h : asQ S x = some xs) : ∃ a vs, v = .ref a ∧ DatA K Hs vs xs ∧ (SqL K H a vs ∨ SqT K H a vs) := by
  cases r with
  | tup hr ha => cases h; exact ⟨_, _, rfl, ha, .inr (R.ex.tc hr).sq⟩
  | key hr ha => cases h; exact ⟨_, _, rfl, ha, .inr (.of (R.ex _ _ hr))⟩
  | scr hr ha => cases h; exact ⟨_, _, rfl, ha, .inl (R.ex.sqL hr)⟩
  | lst hr ha => cases h; exact ⟨_, _, rfl, ha, .inl (.of (R.ex _ _ hr))⟩
  | ref a =>
    obtain ⟨b, vs, e, h1, h2⟩ := asL_rep R (.ref a) (show asL S (.ref a) = some xs from h)
    exact ⟨b, vs, e, h2, .inl (.of h1)⟩
  | _ => cases h

/-! ### operators by what they do to plain data -/
abbrev Ph2 := D → D → Sto → Kq → Prop
def r2 (K : PySem.W.Frag) (φ : Ph2) : R2 := fun vx vy H QQ => ∃ Hs S x y q, Rep K Hs H S ∧ Dat K Hs vx x ∧ Dat K Hs vy y ∧ φ x y S q ∧ Cont K Hs q QQ
theorem w2_of {K : PySem.W.Frag} {φ : Ph2} {x y : D} {S : Sto} {Q : Kq} (h : φ x y S Q) : W2 K (r2 K φ) x y S Q := fun Hs H vx vy QQ R r1 r2 k => ⟨Hs, S, x, y, Q, R, r1, r2, h, k⟩
abbrev Ph1 := D → Sto → Kq → Prop
def r1 (K : PySem.W.Frag) (φ : Ph1) : V → Hp → VK → Prop := fun vx H QQ => ∃ Hs S x q, Rep K Hs H S ∧ Dat K Hs vx x ∧ φ x S q ∧ Cont K Hs q QQ
theorem w1_of {K : PySem.W.Frag} {φ : Ph1} {x : D} {S : Sto} {Q : Kq} (h : φ x S Q) : W1 K (r1 K φ) x S Q := fun Hs H vx QQ R r1 k => ⟨Hs, S, x, Q, R, r1, h, k⟩
abbrev PhA := List D → Sto → Kq → Prop
def rA (K : PySem.W.Frag) (φ : PhA) : List V → Hp → VK → Prop := fun vs H QQ => ∃ Hs S ds q, Rep K Hs H S ∧ DatA K Hs vs ds ∧ φ ds S q ∧ Cont K Hs q QQ
theorem wc_of {K : PySem.W.Frag} {φ : PhA} {xs : List D} {S : Sto} {Q : Kq} (h : φ xs S Q) : WC K (rA K φ) xs S Q := fun Hs H vs QQ R r1 k => ⟨Hs, S, xs, Q, R, r1, h, k⟩
abbrev PhM := D → List D → Sto → Kq → Prop
def rM (K : PySem.W.Frag) (φ : PhM) : V → List V → Hp → VK → Prop := fun vx vs H QQ => ∃ Hs S x ds q, Rep K Hs H S ∧ Dat K Hs vx x ∧ DatA K Hs vs ds ∧ φ x ds S q ∧ Cont K Hs q QQ
section
variable {K : KX} {δ : Env} {S : Sto} {ta tb te : TE} {t : TA} {Q : Kq}
theorem we_op2 {φ : Ph2} (h : WE K ta δ S fun x S1 => WE K tb δ S1 fun y S2 => φ x y S2 Q) : WE K (tOp (r2 K φ) ta tb) δ S Q := we_op (h.imp fun _ _ h1 => h1.imp fun _ _ h2 => w2_of h2)
theorem we_un1 {φ : Ph1} (h : WE K ta δ S fun x S1 => φ x S1 Q) : WE K (tUn (r1 K φ) ta) δ S Q := we_un (h.imp fun _ _ h1 => w1_of h1)
theorem we_cbA {φ : PhA} (h : WA K t δ S fun xs S1 => φ xs S1 Q) : WE K (tCB (rA K φ) t) δ S Q := we_cb fun Hs H σ QQ R L k => h Hs H σ QQ R L fun vs ds Hs' H' S' e R' r z => k vs ds Hs' H' S' e R' r (wc_of z)
theorem we_chain2 {φ φ' : Ph2} {tc : TE} (h : WE K ta δ S fun x S1 => WE K tb δ S1 fun y S2 => φ x y S2 fun z S3 => IsB z fun b => Br b (WE K tc δ S3 fun w S4 => φ' y w S4 Q) (Q (.bl false) S3)) : WE K (tChain (r2 K φ) (r2 K φ') ta tb tc) δ S Q :=
  we_chain (h.imp fun x S1 h1 => h1.imp fun y S2 h2 => by
    intro Hs H vx vy QQ R rx ry k
    refine ⟨Hs, S2, x, y, _, R, rx, ry, h2, fun v d Hs' H' S' e R' r ⟨b, hb, k1, k0⟩ => k v d Hs' H' S' e R' r ⟨b, hb, fun z => (k1 z).imp fun _ _ q => w2_of q, k0⟩⟩)
end

def phAdd : Ph2 := fun x y S q => (∃ i j, x = .int i ∧ y = .int j ∧ q (.int (i + j)) S) ∨ (∃ a b, x = .str a ∧ y = .str b ∧ a.length + b.length ≤ sizeLine ∧ q (.str (a ++ b)) S) ∨
  (∃ a b, asT x = some a ∧ asT y = some b ∧ a.length + b.length ≤ sizeLine ∧ (a = [] → ∃ zs, y = .tup zs) ∧ (b = [] → ∃ zs, x = .tup zs) ∧ q (.tup (a ++ b)) S) ∨ ∃ a b, asL S x = some a ∧ asL S y = some b ∧ a.length + b.length ≤ sizeLine ∧ NewL S (a ++ b) q
def phSub : Ph2 := fun x y S q => ∃ i j, x = .int i ∧ y = .int j ∧ q (.int (i - j)) S
def phMul : Ph2 := fun x y S q => (∃ i j, x = .int i ∧ y = .int j ∧ (CMul i j ∨ CMulW i j) ∧ q (.int (i * j)) S) ∨ ∃ a k, asL S x = some a ∧ y = .int k ∧ -(2 ^ 63) ≤ k ∧ k < 2 ^ 63 ∧ a.length * k.toNat ≤ sizeLine ∧ NewL S (List.replicate k.toNat a).flatten q
def phDiv : Ph2 := fun x y S q => ∃ i j, x = .int i ∧ y = .int j ∧ CDivW i j ∧ q (.int (i / j)) S
def phMod : Ph2 := fun x y S q => ∃ i j, x = .int i ∧ y = .int j ∧ 0 < j ∧ q (.int (i % j)) S
def phPow : Ph2 := fun x y S q => ∃ i j, x = .int i ∧ y = .int j ∧ CPow i j ∧ q (.int (i ^ j.toNat)) S
section
variable {S : Sto} {q : Kq} {i j k : Int} {a b : Str} {xs ys : List D}
theorem add_int (h : q (.int (i + j)) S) : phAdd (.int i) (.int j) S q := .inl ⟨i, j, rfl, rfl, h⟩
theorem add_str (hz : a.length + b.length ≤ sizeLine) (h : q (.str (a ++ b)) S) : phAdd (.str a) (.str b) S q := .inr (.inl ⟨a, b, rfl, rfl, hz, h⟩)
theorem add_tup (hz : xs.length + ys.length ≤ sizeLine) (h : q (.tup (xs ++ ys)) S) : phAdd (.tup xs) (.tup ys) S q := .inr (.inr (.inl ⟨xs, ys, rfl, rfl, hz, fun _ => ⟨_, rfl⟩, fun _ => ⟨_, rfl⟩, h⟩))
theorem add_key (h0 : ys ≠ []) (hz : xs.length + ys.length ≤ sizeLine) (h : q (.tup (xs ++ ys)) S) : phAdd (.key xs) (.tup ys) S q := .inr (.inr (.inl ⟨xs, ys, rfl, rfl, hz, fun _ => ⟨_, rfl⟩, fun e => absurd e h0, h⟩))
theorem add_lst {x y : D} (hx : asL S x = some xs) (hy : asL S y = some ys) (hz : xs.length + ys.length ≤ sizeLine) (h : q (.lst (xs ++ ys)) S) : phAdd x y S q := .inr (.inr (.inr ⟨xs, ys, hx, hy, hz, .inl h⟩))
theorem add_lstO {x y : D} (hx : asL S x = some xs) (hy : asL S y = some ys) (hz : xs.length + ys.length ≤ sizeLine) (h : ∀ p, S p = none → q (.ref p) (S.upd p (.lst (xs ++ ys)))) : phAdd x y S q := .inr (.inr (.inr ⟨xs, ys, hx, hy, hz, .inr h⟩))
theorem sub_int (h : q (.int (i - j)) S) : phSub (.int i) (.int j) S q := ⟨i, j, rfl, rfl, h⟩
theorem mul_int (h1 : -18446744073709551616 < i) (h2 : i < 18446744073709551616) (h : q (.int (i * j)) S) : phMul (.int i) (.int j) S q := .inl ⟨i, j, rfl, rfl, .inl (.inl ⟨by omega, by omega⟩), h⟩
theorem mul_intR (h1 : -18446744073709551616 < j) (h2 : j < 18446744073709551616) (h : q (.int (i * j)) S) : phMul (.int i) (.int j) S q := .inl ⟨i, j, rfl, rfl, .inl (.inr ⟨by omega, by omega⟩), h⟩
theorem mul_intW (hc : CMulW i j) (h : q (.int (i * j)) S) : phMul (.int i) (.int j) S q := .inl ⟨i, j, rfl, rfl, .inr hc, h⟩
theorem mul_lst {x : D} (hx : asL S x = some xs) (h1 : -(2 ^ 63) ≤ k) (h2 : k < 2 ^ 63) (hz : xs.length * k.toNat ≤ sizeLine) (h : q (.lst (List.replicate k.toNat xs).flatten) S) : phMul x (.int k) S q := .inr ⟨xs, k, hx, rfl, h1, h2, hz, .inl h⟩
theorem div_int (h1 : 0 < j) (h2 : j < 18446744073709551616) (h : q (.int (i / j)) S) : phDiv (.int i) (.int j) S q := ⟨i, j, rfl, rfl, wide_div h1 (b := 64) (by omega) (by decide) (by decide), h⟩
theorem mod_int (h1 : 0 < j) (h : q (.int (i % j)) S) : phMod (.int i) (.int j) S q := ⟨i, j, rfl, rfl, h1, h⟩
theorem pow_int (hc : CPow i j) (h : q (.int (i ^ j.toNat)) S) : phPow (.int i) (.int j) S q := ⟨i, j, rfl, rfl, hc, h⟩
end
section
variable {X : Cx}
/-- tuples, the new one's object known -/
theorem op_catC : OpR X (binaryOp .Add) (fun x y H Q => ∃ a b xs ys, x = .ref a ∧ y = .ref b ∧ SqT X.K H a xs ∧ SqT X.K H b ys ∧ xs.length + ys.length ≤ sizeLine ∧
    (xs = [] → Q (.ref b) H) ∧ (xs ≠ [] → ys = [] → Q (.ref a) H) ∧ (xs ≠ [] → ys ≠ [] → ∀ p ob, ob.dict = none → H p = none → Q (.ref p) (upd H p (.frz ob (.tup (xs ++ ys)))))) := by
  intro pins s σ H x y v u Q I rx ry h
  obtain ⟨a, b, xs, ys, rfl, rfl, ha, hb, hz, q0, q1, q2⟩ := h
  cases rx
  cases ry
  obtain ⟨its, r1, p1, _⟩ := I.tuple ha
  obtain ⟨its2, r2, p2, _⟩ := I.tuple hb
  by_cases hx : xs = []
  · subst hx
    cases r1
    exact cat_tup0 p1 p2 ⟨.ref b, H, I, rfl, q0 rfl⟩
  refine HT.cat_tup p1 p2 (fun z => hx (r1.nil_iff.mp z)) (fun z => ⟨.ref a, H, I, rfl, q1 hx (r2.nil_iff.mp z)⟩) (fun z => ?_) (by rw [← r1.length, ← r2.length]; exact hz)
  refine ⟨.ref s.heap.objs.size, _, I.laid (t' := s.toks) (o := .frz { cls := .type "tuple", data := .seq (its ++ its2).toArray } (.tup (xs ++ ys))) (fun b ob q => Heap.get?_push_of_some _ q) (Nat.le_refl _) ?_, rfl, q2 hx (fun w => z (r2.nil_iff.mpr w)) _ _ rfl (I.hok.fresh (Nat.le_refl _))⟩
  exact ⟨Heap.get?_push_size _ rfl, by rw [List.length_append]; exact hz, _, r1.append r2, PyProof.Rows.IsTup.new _ _⟩
theorem opAdd : OpR X (binaryOp .Add) (r2 X.K phAdd) := by
  intro pins s σ H vx vy v u Q I rx ry ⟨Hs, S, x, y, q, R, hx, hy, h, k⟩
  rcases h with ⟨i, j, rfl, rfl, h⟩ | ⟨a, b, rfl, rfl, hz, h⟩ | ⟨a, b, ga, gb, hz, h1, h2, h⟩ | ⟨a, b, ha, hb, hz, h⟩
  · cases hx; cases hy
    exact op_add pins s σ H _ _ v u Q I rx ry ⟨i, j, rfl, rfl, k _ _ Hs H S (Ex.refl _) R (.int _) h⟩
  · cases hx; cases hy
    exact op_add_str pins s σ H _ _ v u Q I rx ry ⟨a, b, rfl, rfl, hz, k _ _ Hs H S (Ex.refl _) R (.str _) h⟩
  · obtain ⟨ax, vx', rfl, sx, dx⟩ := asT_rep R hx ga
    obtain ⟨ay, vy', rfl, sy, dy⟩ := asT_rep R hy gb
    refine op_catC pins s σ H _ _ v u Q I rx ry ⟨_, _, _, _, rfl, rfl, sx, sy, by rw [dx.len, dy.len]; exact hz, fun e => ?_, fun _ e => ?_, fun _ _ p ob ho hp => newT_run R (dx.append dy) h k ho hp⟩
    · have e' := dx.nil_iff.mp e
      subst e'
      obtain ⟨zs, rfl⟩ := h1 rfl
      cases gb
      exact k _ _ Hs H S (Ex.refl _) R hy h
    · have e' := dy.nil_iff.mp e
      subst e'
      obtain ⟨zs, rfl⟩ := h2 rfl
      cases ga
      rw [List.append_nil] at h
      exact k _ _ Hs H S (Ex.refl _) R hx h
  · obtain ⟨p1, vs1, rfl, h1, a1⟩ := asL_rep R hx ha
    obtain ⟨p2, vs2, rfl, h2, a2⟩ := asL_rep R hy hb
    exact op_cat pins s σ H _ _ v u Q I rx ry ⟨p1, p2, vs1, vs2, rfl, rfl, h1, h2, by rw [a1.len, a2.len]; exact hz, fun p hp => newL_run R (a1.append a2) h k hp⟩
theorem opSub : OpR X (binaryOp .Sub) (r2 X.K phSub) := by
  intro pins s σ H vx vy v u Q I rx ry ⟨Hs, S, x, y, q, R, hx, hy, ⟨i, j, e1, e2, h⟩, k⟩
  subst e1 e2; cases hx; cases hy
  exact op_sub pins s σ H _ _ v u Q I rx ry ⟨i, j, rfl, rfl, k _ _ Hs H S (Ex.refl _) R (.int _) h⟩
theorem DatA.rep {K : PySem.W.Frag} {H : Hp} {xs : List V} {ds : List D} (h : DatA K H xs ds) : ∀ k : Nat, DatA K H (List.replicate k xs).flatten (List.replicate k ds).flatten
  | 0 => .nil
  | k + 1 => by rw [List.replicate_succ, List.replicate_succ, List.flatten_cons, List.flatten_cons]; exact h.append (h.rep k)
theorem opMul : OpR X (binaryOp .Mult) (r2 X.K phMul) := by
  intro pins s σ H vx vy v u Q I rx ry ⟨Hs, S, x, y, q, R, hx, hy, h, k⟩
  rcases h with ⟨i, j, rfl, rfl, hc, h⟩ | ⟨a, j, h1, rfl, h2, h3, h4, h⟩
  · cases hx; cases hy
    rcases hc with hc | hc
    · exact op_mul pins s σ H _ _ v u Q I rx ry ⟨i, j, rfl, rfl, hc, k _ _ Hs H S (Ex.refl _) R (.int _) h⟩
    · exact op_mulW pins s σ H _ _ v u Q I rx ry ⟨i, j, rfl, rfl, hc, k _ _ Hs H S (Ex.refl _) R (.int _) h⟩
  · cases hy
    obtain ⟨p1, vs1, rfl, g1, a1⟩ := asL_rep R hx h1
    exact op_rep pins s σ H _ _ v u Q I rx ry ⟨p1, j, vs1, rfl, rfl, g1, h2, h3, by rw [a1.len]; exact h4, fun p hp => newL_run R (a1.rep j.toNat) h k hp⟩
theorem opDiv : OpR X (binaryOp .FloorDiv) (r2 X.K phDiv) := by
  intro pins s σ H vx vy v u Q I rx ry ⟨Hs, S, x, y, q, R, hx, hy, ⟨i, j, e1, e2, hc, h⟩, k⟩
  subst e1 e2; cases hx; cases hy
  exact op_fdivW pins s σ H _ _ v u Q I rx ry ⟨i, j, rfl, rfl, hc, k _ _ Hs H S (Ex.refl _) R (.int _) h⟩
theorem opMod : OpR X (binaryOp .Mod) (r2 X.K phMod) := by
  intro pins s σ H vx vy v u Q I rx ry ⟨Hs, S, x, y, q, R, hx, hy, ⟨i, j, e1, e2, hc, h⟩, k⟩
  subst e1 e2; cases hx; cases hy
  exact op_mod pins s σ H _ _ v u Q I rx ry ⟨i, j, rfl, rfl, hc, k _ _ Hs H S (Ex.refl _) R (.int _) h⟩
theorem opPow : OpR X (binaryOp .Pow) (r2 X.K phPow) := by
  intro pins s σ H vx vy v u Q I rx ry ⟨Hs, S, x, y, q, R, hx, hy, ⟨i, j, e1, e2, hc, h⟩, k⟩
  subst e1 e2; cases hx; cases hy
  exact op_pow pins s σ H _ _ v u Q I rx ry ⟨i, j, rfl, rfl, hc, k _ _ Hs H S (Ex.refl _) R (.int _) h⟩
end
def phNeg : Ph1 := fun x S q => ∃ i, x = .int i ∧ q (.int (-i)) S
theorem neg_int {S : Sto} {q : Kq} {i : Int} (h : q (.int (-i)) S) : phNeg (.int i) S q := ⟨i, rfl, h⟩
theorem unNeg {X : Cx} : UnR X (unaryOp .USub) (r1 X.K phNeg) := by
  intro pins s σ H vx v Q I rx ⟨Hs, S, x, q, R, hx, ⟨i, e1, h⟩, k⟩
  subst e1; cases hx
  exact un_neg pins s σ H _ v Q I rx ⟨i, rfl, k _ _ Hs H S (Ex.refl _) R (.int _) h⟩

/-! ### comparisons -/
def phLt : Ph2 := fun x y S q => (∃ i j, x = .int i ∧ y = .int j ∧ q (.bl (decide (i < j))) S) ∨ ∃ a b, x = .str a ∧ y = .str b ∧ q (.bl (decide (a.cps.toList < b.cps.toList))) S
def phLe : Ph2 := fun x y S q => ∃ i j, x = .int i ∧ y = .int j ∧ q (.bl (decide (i ≤ j))) S
def phGt : Ph2 := fun x y S q => ∃ i j, x = .int i ∧ y = .int j ∧ q (.bl (decide (j < i))) S
def phGe : Ph2 := fun x y S q => ∃ i j, x = .int i ∧ y = .int j ∧ q (.bl (decide (j ≤ i))) S
section
variable {S : Sto} {q : Kq} {i j : Int}
theorem lt_int (h : q (.bl (decide (i < j))) S) : phLt (.int i) (.int j) S q := .inl ⟨i, j, rfl, rfl, h⟩
theorem lt_str {a b : Str} (h : q (.bl (decide (a.cps.toList < b.cps.toList))) S) : phLt (.str a) (.str b) S q := .inr ⟨a, b, rfl, rfl, h⟩
theorem le_int (h : q (.bl (decide (i ≤ j))) S) : phLe (.int i) (.int j) S q := ⟨i, j, rfl, rfl, h⟩
theorem gt_int (h : q (.bl (decide (j < i))) S) : phGt (.int i) (.int j) S q := ⟨i, j, rfl, rfl, h⟩
theorem ge_int (h : q (.bl (decide (j ≤ i))) S) : phGe (.int i) (.int j) S q := ⟨i, j, rfl, rfl, h⟩
end
section
variable {X : Cx}
theorem opLt : OpR X (compareOp .Lt) (r2 X.K phLt) := by
  intro pins s σ H vx vy v u Q I rx ry ⟨Hs, S, x, y, q, R, hx, hy, h, k⟩
  rcases h with ⟨i, j, rfl, rfl, h⟩ | ⟨i, j, rfl, rfl, h⟩
  · cases hx; cases hy
    exact op_lt pins s σ H _ _ v u Q I rx ry ⟨i, j, rfl, rfl, k _ _ Hs H S (Ex.refl _) R (.bl _) h⟩
  · cases hx; cases hy
    exact op_lt_str pins s σ H _ _ v u Q I rx ry ⟨i, j, rfl, rfl, k _ _ Hs H S (Ex.refl _) R (.bl _) h⟩
theorem opLe : OpR X (compareOp .LtE) (r2 X.K phLe) := by
  intro pins s σ H vx vy v u Q I rx ry ⟨Hs, S, x, y, q, R, hx, hy, ⟨i, j, e1, e2, h⟩, k⟩
  subst e1 e2; cases hx; cases hy
  exact op_le pins s σ H _ _ v u Q I rx ry ⟨i, j, rfl, rfl, k _ _ Hs H S (Ex.refl _) R (.bl _) h⟩
theorem opGt : OpR X (compareOp .Gt) (r2 X.K phGt) := by
  intro pins s σ H vx vy v u Q I rx ry ⟨Hs, S, x, y, q, R, hx, hy, ⟨i, j, e1, e2, h⟩, k⟩
  subst e1 e2; cases hx; cases hy
  exact op_gt pins s σ H _ _ v u Q I rx ry ⟨i, j, rfl, rfl, k _ _ Hs H S (Ex.refl _) R (.bl _) h⟩
theorem opGe : OpR X (compareOp .GtE) (r2 X.K phGe) := by
  intro pins s σ H vx vy v u Q I rx ry ⟨Hs, S, x, y, q, R, hx, hy, ⟨i, j, e1, e2, h⟩, k⟩
  subst e1 e2; cases hx; cases hy
  exact op_ge pins s σ H _ _ v u Q I rx ry ⟨i, j, rfl, rfl, k _ _ Hs H S (Ex.refl _) R (.bl _) h⟩
end
/-! equality of data -/
mutual
def D.py : D → Option PyData
  | .non => some .none
  | .bl b => some (.bool b)
  | .int i => some (.int i)
  | .str x => some (.str x)
  | .tup xs => match D.pys xs with
    | some ys => some (.tuple ys)
    | none => none
  | .lst xs => match D.pys xs with
    | some ys => some (.list ys)
    | none => none
  | .key xs => match D.pys xs with
    | some ys => some (.tuple ys)
    | none => none
  | .ref _ => none
  | .ty _ => none
  | .scr _ => none
  | .dct _ => none
  | .lam _ _ _ => none
def D.pys : List D → Option (List PyData)
  | [] => some []
  | x :: xs => match D.py x, D.pys xs with
    | some y, some ys => some (y :: ys)
    | _, _ => none
end
/-- where a list of ours stands, what it holds -/
def D.resO (a : Addr) : Option (List D) → D
  | some xs => .lst xs
  | none => .ref a
def D.res (S : Sto) : D → D
  | .ref a => D.resO a (O.items (S a))
  | d => d
theorem res_ref {S : Sto} {a : Addr} {xs : List D} (h : S a = some (.lst xs)) : D.res S (.ref a) = .lst xs := by
  show D.resO a (O.items (S a)) = .lst xs
  rw [h]
  rfl
section
variable {K : PySem.W.Frag} {H : Hp}
mutual
theorem Dat.dp : ∀ {v : V} {d : D} {e : PyData}, Dat K H v d → d.py = some e → Dp K H v e
  | _, _, _, .non, h => by cases h; exact .non
  | _, _, _, .bl b, h => by cases h; exact .bl b
  | _, _, _, .int i, h => by cases h; exact .int i
  | _, _, _, .str x, h => by cases h; exact .str x
  | _, .tup ds, _, .tup hs ha, h => by
    unfold D.py at h
    cases e : D.pys ds with
    | none => rw [e] at h; cases h
    | some ys => rw [e] at h; cases h; exact .tup hs.sq (DatA.dp ha e)
  | _, .key ds, _, .key hs ha, h => by
    unfold D.py at h
    cases e : D.pys ds with
    | none => rw [e] at h; cases h
    | some ys => rw [e] at h; cases h; exact .tup (.of hs) (DatA.dp ha e)
  | _, .lst ds, _, .lst hs ha, h => by
    unfold D.py at h
    cases e : D.pys ds with
    | none => rw [e] at h; cases h
    | some ys => rw [e] at h; cases h; exact .lst (.of hs) (DatA.dp ha e)
  | _, _, _, .ref _, h => by cases h
  | _, _, _, .ty _, h => by cases h
  | _, _, _, .scr _ _, h => by cases h
  | _, _, _, .dct _ _, h => by cases h
  | _, _, _, .lam _ _, h => by cases h
theorem DatA.dp : ∀ {vs : List V} {ds : List D} {es : List PyData}, DatA K H vs ds → D.pys ds = some es → DpAll K H vs es
  | _, _, _, .nil, h => by cases h; exact .nil
  | _, d :: ds, _, .cons r t, h => by
    unfold D.pys at h
    cases e : d.py with
    | none => rw [e] at h; cases h
    | some y =>
      cases e2 : D.pys ds with
      | none => rw [e, e2] at h; cases h
      | some ys => rw [e, e2] at h; cases h; exact .cons (Dat.dp r e) (DatA.dp t e2)
end
end
theorem dp_mono {K : PySem.W.Frag} {H H' : Hp} (e : Ex H H') : (∀ {v d}, Dp K H v d → Dp K H' v d) ∧ ∀ {vs ds}, DpAll K H vs ds → DpAll K H' vs ds := by
  have main : ∀ (n : Nat), (∀ {v : V} {d : PyData}, sizeOf d < n → Dp K H v d → Dp K H' v d) ∧ ∀ {vs : List V} {ds : List PyData}, sizeOf ds < n → DpAll K H vs ds → DpAll K H' vs ds := by
    intro n
    induction n with
    | zero => exact ⟨fun h => absurd h (Nat.not_lt_zero _), fun h => absurd h (Nat.not_lt_zero _)⟩
    | succ n ih =>
      refine ⟨fun {v d} hs h => ?_, fun {vs ds} hs h => ?_⟩
      · cases h with
        | non => exact .non
        | bl b => exact .bl b
        | int i => exact .int i
        | str x => exact .str x
        | lst h1 h2 => exact .lst (e.sqL h1) (ih.2 (by simp at hs; omega) h2)
        | tup h1 h2 => exact .tup (e.sqT h1) (ih.2 (by simp at hs; omega) h2)
      · cases h with
        | nil => exact .nil
        | cons h1 h2 => exact .cons (ih.1 (by simp at hs; omega) h1) (ih.2 (by simp at hs; omega) h2)
  exact ⟨fun {v d} h => (main (sizeOf d + 1)).1 (Nat.lt_succ_self _) h, fun {vs ds} h => (main (sizeOf ds + 1)).2 (Nat.lt_succ_self _) h⟩
theorem res_dp {K : PySem.W.Frag} {Hs H : Hp} {S : Sto} {v : V} {x : D} {e : PyData} (R : Rep K Hs H S) (r : Dat K Hs v x) (h : (x.res S).py = some e) : Dp K H v e := by
  cases r with
  | ref a =>
    have h' : (D.resO a (O.items (S a))).py = some e := h
    cases z : S a with
    | none => rw [z] at h'; cases h'
    | some o =>
      cases o with
      | lst ys =>
        rw [res_ref z] at h
        obtain ⟨_, ho, h2, h3⟩ := R.ob a _ z
        cases ho with
        | lst vs =>
          unfold D.py at h
          cases e2 : D.pys ys with
          | none => rw [e2] at h; cases h
          | some es => rw [e2] at h; cases h; exact .lst (.of h2) ((dp_mono R.ex).2 (DatA.dp h3 e2))
        | _ => exact (h3 : False).elim
      | _ => rw [z] at h'; cases h'
  | non => exact (dp_mono R.ex).1 (Dat.dp .non h)
  | bl b => exact (dp_mono R.ex).1 (Dat.dp (.bl b) h)
  | int b => exact (dp_mono R.ex).1 (Dat.dp (.int b) h)
  | str b => exact (dp_mono R.ex).1 (Dat.dp (.str b) h)
  | tup h1 h2 => exact (dp_mono R.ex).1 (Dat.dp (.tup h1 h2) h)
  | key h1 h2 => exact (dp_mono R.ex).1 (Dat.dp (.key h1 h2) h)
  | lst h1 h2 => exact (dp_mono R.ex).1 (Dat.dp (.lst h1 h2) h)
  | ty b => cases h
  | scr _ _ => cases h
  | dct _ _ => cases h
  | lam _ _ => cases h
def phEq : Ph2 := fun x y S q => ∃ a b, (x.res S).py = some a ∧ (y.res S).py = some b ∧ SeqAt.shaped a = true ∧ SeqAt.shaped b = true ∧ q (.bl (PyData.eqv a b)) S
def phNe : Ph2 := fun x y S q => ∃ a b, (x.res S).py = some a ∧ (y.res S).py = some b ∧ SeqAt.shaped a = true ∧ SeqAt.shaped b = true ∧ q (.bl (!PyData.eqv a b)) S
theorem opEq {X : Cx} (hu : X.A.units + 64 < cLine) : OpR X (compareOp .Eq) (r2 X.K phEq) := by
  intro pins s σ H vx vy v u Q I rx ry ⟨Hs, S, x, y, q, R, hx, hy, ⟨a, b, ha, hb, sa, sb, h⟩, k⟩
  exact op_eqD hu pins s σ H _ _ v u Q I rx ry ⟨a, b, res_dp R hx ha, res_dp R hy hb, sa, sb, k _ _ Hs H S (Ex.refl _) R (.bl _) h⟩
theorem opNe {X : Cx} (hu : X.A.units + 64 < cLine) : OpR X (compareOp .NotEq) (r2 X.K phNe) := by
  intro pins s σ H vx vy v u Q I rx ry ⟨Hs, S, x, y, q, R, hx, hy, ⟨a, b, ha, hb, sa, sb, h⟩, k⟩
  exact op_neD hu pins s σ H _ _ v u Q I rx ry ⟨a, b, res_dp R hx ha, res_dp R hy hb, sa, sb, k _ _ Hs H S (Ex.refl _) R (.bl _) h⟩
end PL

set_option Elab.async false
set_option linter.all false
set_option maxRecDepth 100000
set_option maxHeartbeats 4000000
/-! PL3: in, is, items, slices, built-ins, methods over plain data. -/
namespace PL
open PySem L2

/-! ### in -/
/-- flat data: its value -/
def D.flat : D → Option V
  | .non => some .non
  | .bl b => some (.bl b)
  | .int i => some (.int i)
  | .str x => some (.str x)
  | _ => none
def D.flats : List D → Option (List V)
  | [] => some []
  | d :: ds => match d.flat, D.flats ds with
    | some v, some vs => some (v :: vs)
    | _, _ => none
theorem Dat.flat {K : PySem.W.Frag} {H : Hp} {v u : V} {d : D} (h : Dat K H v d) (e : d.flat = some u) : v = u ∧ flatV u = true := by
  cases h <;> first
    | (cases e; exact ⟨rfl, rfl⟩)
    | cases e
theorem DatA.flats {K : PySem.W.Frag} {H : Hp} : ∀ {vs us : List V} {ds : List D}, DatA K H vs ds → D.flats ds = some us → vs = us ∧ us.all flatV = true
  | _, _, _, .nil, h => by cases h; exact ⟨rfl, rfl⟩
  | _, _, d :: ds, .cons r t, h => by
    unfold D.flats at h
    cases e : d.flat with
    | none => rw [e] at h; cases h
    | some y =>
      cases e2 : D.flats ds with
      | none => rw [e, e2] at h; cases h
      | some ys =>
        rw [e, e2] at h; cases h
        obtain ⟨h1, h2⟩ := r.flat e
        obtain ⟨h3, h4⟩ := DatA.flats t e2
        subst h1 h3
        exact ⟨rfl, by rw [List.all_cons, h2, h4]; rfl⟩
def phIn (neg : Bool) : Ph2 := fun x y S q => (∃ c z, x = .str ⟨#[c]⟩ ∧ y = .str z ∧ q (.bl (if neg then !decide (c ∈ z.cps.toList) else decide (c ∈ z.cps.toList))) S) ∨
  ∃ xs v vs, asQ S y = some xs ∧ x.flat = some v ∧ D.flats xs = some vs ∧ q (.bl (if neg then !inV v vs else inV v vs)) S
theorem opIn {X : Cx} : OpR X (compareOp .In) (r2 X.K (phIn false)) := by
  intro pins s σ H vx vy v u Q I rx ry ⟨Hs, S, x, y, q, R, hx, hy, h, k⟩
  rcases h with ⟨c, z, rfl, rfl, h⟩ | ⟨xs, w, ws, h1, h2, h3, h⟩
  · cases hx; cases hy
    exact op_in_sign pins s σ H _ _ v u Q I rx ry ⟨c, z, rfl, rfl, k _ _ Hs H S (Ex.refl _) R (.bl _) h⟩
  · obtain ⟨a, vs, rfl, ha, hq⟩ := asQ_rep R hy h1
    obtain ⟨e1, f1⟩ := hx.flat h2
    obtain ⟨e2, f2⟩ := ha.flats h3
    subst e1 e2
    exact op_in_seq pins s σ H _ _ v u Q I rx ry ⟨a, _, rfl, hq, f1, f2, k _ _ Hs H S (Ex.refl _) R (.bl _) h⟩
theorem opNotIn {X : Cx} : OpR X (compareOp .NotIn) (r2 X.K (phIn true)) := by
  intro pins s σ H vx vy v u Q I rx ry ⟨Hs, S, x, y, q, R, hx, hy, h, k⟩
  rcases h with ⟨c, z, rfl, rfl, h⟩ | ⟨xs, w, ws, h1, h2, h3, h⟩
  · cases hx; cases hy
    exact op_notIn_sign pins s σ H _ _ v u Q I rx ry ⟨c, z, rfl, rfl, k _ _ Hs H S (Ex.refl _) R (.bl _) h⟩
  · obtain ⟨a, vs, rfl, ha, hq⟩ := asQ_rep R hy h1
    obtain ⟨e1, f1⟩ := hx.flat h2
    obtain ⟨e2, f2⟩ := ha.flats h3
    subst e1 e2
    exact op_notIn_seq pins s σ H _ _ v u Q I rx ry ⟨a, _, rfl, hq, f1, f2, k _ _ Hs H S (Ex.refl _) R (.bl _) h⟩
/-- texts among texts -/
theorem flats_strs : ∀ xs : List Str, D.flats (xs.map D.str) = some (xs.map V.str)
  | [] => rfl
  | x :: xs => by
    show (match D.flat (.str x), D.flats (xs.map D.str) with | some v, some vs => some (v :: vs) | _, _ => none) = _
    rw [flats_strs xs]
    rfl
theorem inV_strs (x : Str) : ∀ xs : List Str, inV (.str x) (xs.map V.str) = decide (x ∈ xs)
  | [] => by simp [inV]
  | y :: ys => by
    have ih := inV_strs x ys
    unfold inV at ih ⊢
    rw [List.map_cons, List.any_cons, ih]
    have e : eqV (.str y) (.str x) = decide (x = y) := by
      by_cases z : x = y
      · subst z; simp [eqV]
      · have z' : ¬ y = x := fun q => z q.symm
        simp [eqV, z, z']
    rw [e]
    by_cases z : x = y <;> by_cases z2 : x ∈ ys <;> simp [z, z2]
theorem in_strs {S : Sto} {q : Kq} {neg : Bool} {x : Str} {y : D} {xs : List Str} (h : asQ S y = some (xs.map D.str)) (k : q (.bl (if neg then !decide (x ∈ xs) else decide (x ∈ xs))) S) : phIn neg (.str x) y S q :=
  .inr ⟨_, _, _, h, rfl, flats_strs xs, by rw [inV_strs]; exact k⟩
theorem in_sign {S : Sto} {q : Kq} {neg : Bool} {c : Nat} {z : Str} (k : q (.bl (if neg then !decide (c ∈ z.cps.toList) else decide (c ∈ z.cps.toList))) S) : phIn neg (.str ⟨#[c]⟩) (.str z) S q := .inl ⟨c, z, rfl, rfl, k⟩
/-! ### is None -/
def D.isNon : D → Bool
  | .non => true
  | _ => false
theorem Dat.isNon {K : PySem.W.Frag} {H : Hp} {v : V} {d : D} (h : Dat K H v d) : decide (v = .non) = d.isNon := by
  cases h <;> simp [D.isNon]
def phIs (neg : Bool) : Ph2 := fun x y S q => y = .non ∧ q (.bl (if neg then !x.isNon else x.isNon)) S
theorem opIsN {X : Cx} : OpR X (compareOp .Is) (r2 X.K (phIs false)) := by
  intro pins s σ H vx vy v u Q I rx ry ⟨Hs, S, x, y, q, R, hx, hy, ⟨e, h⟩, k⟩
  subst e; cases hy
  refine op_isN pins s σ H _ _ v u Q I rx ry ⟨rfl, ?_⟩
  rw [hx.isNon]
  exact k _ _ Hs H S (Ex.refl _) R (.bl _) h
theorem opNotN {X : Cx} : OpR X (compareOp .IsNot) (r2 X.K (phIs true)) := by
  intro pins s σ H vx vy v u Q I rx ry ⟨Hs, S, x, y, q, R, hx, hy, ⟨e, h⟩, k⟩
  subst e; cases hy
  refine op_notN pins s σ H _ _ v u Q I rx ry ⟨rfl, ?_⟩
  rw [hx.isNon]
  exact k _ _ Hs H S (Ex.refl _) R (.bl _) h
theorem is_non {S : Sto} {q : Kq} {neg : Bool} {x : D} (h : q (.bl (if neg then !x.isNon else x.isNon)) S) : phIs neg x .non S q := ⟨rfl, h⟩

/-! ### items, slices -/
def phIx : Ph2 := fun x y S q => (∃ xs i d, asQ S x = some xs ∧ y = .int i ∧ atI xs i = some d ∧ q d S) ∨ ∃ z i c, x = .str z ∧ y = .int i ∧ z.length ≤ sizeLine ∧ atI z.cps.toList i = some c ∧ q (.str ⟨#[c]⟩) S
theorem DatA.atI {K : PySem.W.Frag} {H : Hp} {vs : List V} {ds : List D} {i : Int} {d : D} (h : DatA K H vs ds) (e : L2.atI ds i = some d) : ∃ v, L2.atI vs i = some v ∧ Dat K H v d := by
  unfold L2.atI at e ⊢
  rw [h.len]
  cases z : ixN ds.length i with
  | none => rw [z] at e; cases e
  | some j =>
    rw [z] at e
    obtain ⟨v, h1, h2⟩ := h.get (show ds[j]? = some d from e)
    exact ⟨v, h1, h2⟩
theorem ixR {X : Cx} : IxR X (r2 X.K phIx) := by
  intro ve se pins s σ H vx vy v u Q I rx ry ⟨Hs, S, x, y, q, R, hx, hy, h, k⟩ hsub
  rcases h with ⟨xs, i, d, h1, rfl, h2, h⟩ | ⟨z, i, c, rfl, rfl, h1, h2, h⟩
  · cases hy
    obtain ⟨a, vs, rfl, ha, hq⟩ := asQ_rep R hx h1
    obtain ⟨w, e, r⟩ := ha.atI h2
    refine ix_seq ve se pins s σ H _ _ v u Q I rx ry ?_ hsub
    rcases hq with hq | hq
    · exact .inl ⟨a, vs, i, w, rfl, rfl, hq, e, k _ _ Hs H S (Ex.refl _) R r h⟩
    · exact .inr (.inl ⟨a, vs, i, w, rfl, rfl, hq, e, k _ _ Hs H S (Ex.refl _) R r h⟩)
  · cases hx; cases hy
    exact ix_seq ve se pins s σ H _ _ v u Q I rx ry (.inr (.inr ⟨z, i, c, rfl, rfl, h1, h2, k _ _ Hs H S (Ex.refl _) R (.str _) h⟩)) hsub
theorem ix_q {S : Sto} {q : Kq} {x d : D} {xs : List D} {i : Int} (h : asQ S x = some xs) (e : atI xs i = some d) (k : q d S) : phIx x (.int i) S q := .inl ⟨xs, i, d, h, rfl, e, k⟩
theorem ix_qn {S : Sto} {q : Kq} {x d : D} {xs : List D} {i : Nat} (h : asQ S x = some xs) (e : xs[i]? = some d) (k : q d S) : phIx x (.int (i : Int)) S q := .inl ⟨xs, _, d, h, rfl, atI_nat e, k⟩

def cutD (xs : List D) (lo hi : Option Int) : List D := (xs.drop (HT.sIx xs.length 0 lo)).take (HT.sIx xs.length xs.length hi - HT.sIx xs.length 0 lo)
theorem DatA.cut {K : PySem.W.Frag} {H : Hp} {vs : List V} {ds : List D} (h : DatA K H vs ds) (lo hi : Option Int) : DatA K H (cutV vs lo hi) (cutD ds lo hi) := by
  unfold cutV cutD
  rw [h.len]
  exact (h.drop _).take _
abbrev PhS := D → Option Int → Option Int → Sto → Kq → Prop
def phSl : PhS := fun x lo hi S q => (∃ xs, x = .tup xs ∧ q (.tup (cutD xs lo hi)) S) ∨ ∃ xs, asL S x = some xs ∧ NewL S (cutD xs lo hi) q
def rS (K : PySem.W.Frag) (φ : PhS) : V → Option Int → Option Int → Hp → VK → Prop := fun vx lo hi H QQ => ∃ Hs S x q, Rep K Hs H S ∧ Dat K Hs vx x ∧ φ x lo hi S q ∧ Cont K Hs q QQ
theorem slC {X : Cx} : SlR X (fun x lo hi H Q => ∃ a xs, x = .ref a ∧ SqT X.K H a xs ∧
    (HT.sIx xs.length 0 lo = 0 ∧ HT.sIx xs.length xs.length hi = xs.length → Q (.ref a) H) ∧ (¬ (HT.sIx xs.length 0 lo = 0 ∧ HT.sIx xs.length xs.length hi = xs.length) → ∀ p ob, ob.dict = none → H p = none → Q (.ref p) (upd H p (.frz ob (.tup (cutV xs lo hi)))))) := by
  intro pins s σ H x v vl vu lo hi sl Q I rx hs pl pu h
  obtain ⟨a, xs, rfl, hx, q1, q2⟩ := h
  cases rx
  obtain ⟨its, r, ht, hz⟩ := I.tuple hx
  have hlen : its.toArray.size = xs.length := by rw [List.size_toArray]; exact r.length.symm
  refine ⟨"tuple", _, PyProof.Rows.slot_tuple_getitem.lookup, ht.typeIs, ?_⟩
  by_cases hw : HT.sIx xs.length 0 lo = 0 ∧ HT.sIx xs.length xs.length hi = xs.length
  · exact getItem_tuple_whole ht hs pl pu (by rw [hlen]; exact hw) ⟨.ref a, H, I, rfl, q1 hw⟩
  · refine HT.getItem_tuple_cut ht hs pl pu (by rw [hlen]; exact hw) ?_ (by rw [hlen]; exact hz)
    rw [hlen]
    refine ⟨.ref s.heap.objs.size, _, I.laid (t' := s.toks) (o := .frz { cls := .type "tuple", data := .seq ((its.drop (HT.sIx xs.length 0 lo)).take (HT.sIx xs.length xs.length hi - HT.sIx xs.length 0 lo)).toArray } (.tup (cutV xs lo hi))) (fun b ob q => Heap.get?_push_of_some _ q) (Nat.le_refl _) ?_, rfl, q2 hw _ _ rfl (I.hok.fresh (Nat.le_refl _))⟩
    exact ⟨Heap.get?_push_size _ rfl, Nat.le_trans (cutV_length xs lo hi) hz, _, (r.drop (HT.sIx xs.length 0 lo)).take (HT.sIx xs.length xs.length hi - HT.sIx xs.length 0 lo), PyProof.Rows.IsTup.new _ _⟩
theorem slR {X : Cx} : L2.SlR X (rS X.K phSl) := by
  intro pins s σ H x v vl vu lo hi sl Q I rx hs pl pu ⟨Hs, S, x, q, R, hx, h, k⟩
  rcases h with ⟨xs, rfl, h⟩ | ⟨xs, h1, h⟩
  · cases hx with
    | tup hq ha =>
      refine slC pins s σ H _ v vl vu lo hi sl Q I rx hs pl pu ⟨_, _, rfl, (R.ex.tc hq).sq, fun hw => ?_, fun _ p ob ho hp => newT_run R (ha.cut lo hi) h k ho hp⟩
      have e : cutD xs lo hi = xs := by
        rw [ha.len] at hw
        unfold cutD
        rw [hw.1, hw.2, List.drop_zero, Nat.sub_zero, List.take_length]
      rw [e] at h
      exact k _ _ Hs H S (Ex.refl _) R (.tup hq ha) h
  · obtain ⟨a, vs, rfl, hr, ha⟩ := asL_rep R hx h1
    exact sl_list pins s σ H _ v vl vu lo hi sl Q I rx hs pl pu ⟨a, vs, rfl, .of hr, fun p hp => newL_run R (ha.cut lo hi) h k hp⟩
/-- the parts of a slice -/
def WO (K : KX) (t : TO) (δ : Env) (S : Sto) (Q : Option Int → Sto → Prop) : Prop :=
  ∀ (Hs H : Hp) (σ : St) (QQ : Option Int → Hp → Prop), Rep K Hs H S → Slt K Hs σ δ → (∀ o Hs' H' S', Ex Hs Hs' → Rep K Hs' H' S' → Q o S' → QQ o H') → t σ H QQ
section
variable {K : KX} {δ : Env} {S : Sto} {te : TE} {tl th : TO} {Q : Kq}
theorem wo_none {P : Option Int → Sto → Prop} (h : P none S) : WO K tNoPart δ S P := fun Hs H σ QQ R L k => k none Hs H S (Ex.refl _) R h
theorem wo_some {P : Option Int → Sto → Prop} (h : WE K te δ S fun d S1 => IsI d fun i => P (some i) S1) : WO K (tPart te) δ S P := fun Hs H σ QQ R L k => h Hs H σ _ R L fun v d Hs1 H1 S1 e1 R1 r1 ⟨i, hd, q⟩ => by
  subst hd; cases r1; exact ⟨i, rfl, k _ Hs1 H1 S1 e1 R1 q⟩
theorem we_sl {φ : PhS} (h : WE K te δ S fun x S1 => WO K tl δ S1 fun lo S2 => WO K th δ S2 fun hi S3 => φ x lo hi S3 Q) : WE K (tSl (rS K φ) te tl th) δ S Q := fun Hs H σ QQ R L k =>
  h Hs H σ _ R L fun v d Hs1 H1 S1 e1 R1 r1 h2 => h2 Hs1 H1 σ _ R1 (L.mono e1) fun lo Hs2 H2 S2 e2 R2 h3 => h3 Hs2 H2 σ _ R2 (L.mono (e1.trans e2)) fun hi Hs3 H3 S3 e3 R3 h4 =>
    ⟨Hs3, S3, d, Q, R3, r1.mono (e2.trans e3), h4, fun v' d' Hs' H' S' e R' => k v' d' Hs' H' S' (((e1.trans e2).trans e3).trans e) R'⟩
end
theorem sl_t {S : Sto} {q : Kq} {xs : List D} {lo hi : Option Int} (h : q (.tup (cutD xs lo hi)) S) : phSl (.tup xs) lo hi S q := .inl ⟨xs, rfl, h⟩
theorem sl_l {S : Sto} {q : Kq} {x : D} {xs : List D} {lo hi : Option Int} (e : asL S x = some xs) (h : q (.lst (cutD xs lo hi)) S) : phSl x lo hi S q := .inr ⟨xs, e, .inl h⟩
theorem sl_lO {S : Sto} {q : Kq} {x : D} {xs : List D} {lo hi : Option Int} (e : asL S x = some xs) (h : ∀ p, S p = none → q (.ref p) (S.upd p (.lst (cutD xs lo hi)))) : phSl x lo hi S q := .inr ⟨xs, e, .inr h⟩
theorem cut_to {xs : List D} {k : Nat} : cutD xs none (some (k : Int)) = xs.take k := by
  unfold cutD
  rw [HT.sIx_nat, HT.sIx_none, List.drop_zero, Nat.sub_zero]
  rw [Nat.min_def]
  split
  · rfl
  · rw [List.take_of_length_le (Nat.le_refl _), List.take_of_length_le (by omega)]
theorem cut_from {xs : List D} {k : Nat} : cutD xs (some (k : Int)) none = xs.drop k := by
  unfold cutD
  rw [HT.sIx_nat, HT.sIx_none, Nat.min_def]
  split
  · rw [List.take_of_length_le (by rw [List.length_drop]; exact Nat.le_refl _)]
  · rw [List.drop_of_length_le (Nat.le_refl _), List.drop_of_length_le (by omega), List.take_nil]
theorem cut_toI {xs : List D} {i : Int} (h : 0 ≤ i) : cutD xs none (some i) = xs.take i.toNat := by
  obtain ⟨k, rfl⟩ : ∃ k : Nat, i = k := ⟨i.toNat, by omega⟩
  rw [cut_to, Int.toNat_natCast]
theorem cut_fromI {xs : List D} {i : Int} (h : 0 ≤ i) : cutD xs (some i) none = xs.drop i.toNat := by
  obtain ⟨k, rfl⟩ : ∃ k : Nat, i = k := ⟨i.toNat, by omega⟩
  rw [cut_from, Int.toNat_natCast]

/-! ### built-ins -/
def phLen : PhA := fun ds S q => (∃ x xs, ds = [x] ∧ asQ S x = some xs ∧ q (.int (xs.length : Nat)) S) ∨ ∃ z, ds = [.str z] ∧ z.length ≤ sizeLine ∧ q (.int (z.length : Nat)) S
section
variable {X : Cx}
theorem cLen : CallR X (.builtin "len") (rA X.K phLen) := by
  intro pins s σ H vs us Q I rv ⟨Hs, S, ds, q, R, hd, h, k⟩
  rcases h with ⟨x, xs, rfl, h1, h⟩ | ⟨z, rfl, h1, h⟩
  · cases hd with
    | cons r1 r2 =>
      cases r2
      obtain ⟨a, vs, rfl, ha, hq⟩ := asQ_rep R r1 h1
      refine call_len_seq pins s σ H _ us Q I rv ⟨a, vs, rfl, hq, ?_⟩
      rw [ha.len]
      exact k _ _ Hs H S (Ex.refl _) R (.int _) h
  · cases hd with
    | cons r1 r2 =>
      cases r2; cases r1
      exact call_len_str pins s σ H _ us Q I rv ⟨z, rfl, h1, k _ _ Hs H S (Ex.refl _) R (.int _) h⟩
def phMax : PhA := fun ds S q => (∃ i j, ds = [.int i, .int j] ∧ q (.int (if j > i then j else i)) S) ∨ ∃ (x : D) (ns : List Int), ds = [x] ∧ asQ S x = some (ns.map D.int) ∧ asL S x ≠ none ∧ 0 < ns.length ∧ ∀ m, m ∈ ns → (∀ y, y ∈ ns → y ≤ m) → q (.int m) S
def phMin : PhA := fun ds S q => (∃ i j, ds = [.int i, .int j] ∧ q (.int (if j < i then j else i)) S) ∨ ∃ (x : D) (ns : List Int), ds = [x] ∧ asQ S x = some (ns.map D.int) ∧ asL S x ≠ none ∧ 0 < ns.length ∧ ∀ m, m ∈ ns → (∀ y, y ∈ ns → m ≤ y) → q (.int m) S
theorem asL_of {S : Sto} {x : D} {xs : List D} (h : asQ S x = some xs) (n : asL S x ≠ none) : asL S x = some xs := by
  cases x <;> first
    | exact h
    | exact absurd rfl n
theorem sq_ints {K : PySem.W.Frag} {Hs H : Hp} {S : Sto} {v : V} {x : D} {ns : List Int} (R : Rep K Hs H S) (r : Dat K Hs v x) (h : asL S x = some (ns.map D.int)) : ∃ a, v = .ref a ∧ SqL K H a (ns.map V.int) := by
  obtain ⟨a, vs, e, h1, h2⟩ := asL_rep R r h
  rw [h2.ints] at h1
  exact ⟨a, e, .of h1⟩
theorem cMax (hc : X.calm = true) : CallR X (.builtin "max") (rA X.K phMax) := by
  intro pins s σ H vs us Q I rv ⟨Hs, S, ds, q, R, hd, h, k⟩
  rcases h with ⟨i, j, rfl, h⟩ | ⟨x, ns, rfl, h1, h2, h3, h⟩
  · cases hd with
    | cons r1 r2 => cases r2 with
      | cons r2 r3 =>
        cases r3; cases r1; cases r2
        exact call_max2 hc pins s σ H _ us Q I rv ⟨i, j, rfl, k _ _ Hs H S (Ex.refl _) R (.int _) h⟩
  · cases hd with
    | cons r1 r2 =>
      cases r2
      obtain ⟨a, rfl, hq⟩ := sq_ints R r1 (asL_of h1 h2)
      exact cr_max hc pins s σ H _ us Q I rv ⟨a, ns, rfl, hq, h3, fun m hm hl => k _ _ Hs H S (Ex.refl _) R (.int _) (h m hm hl)⟩
theorem cMin (hc : X.calm = true) : CallR X (.builtin "min") (rA X.K phMin) := by
  intro pins s σ H vs us Q I rv ⟨Hs, S, ds, q, R, hd, h, k⟩
  rcases h with ⟨i, j, rfl, h⟩ | ⟨x, ns, rfl, h1, h2, h3, h⟩
  · cases hd with
    | cons r1 r2 => cases r2 with
      | cons r2 r3 =>
        cases r3; cases r1; cases r2
        exact call_min2 hc pins s σ H _ us Q I rv ⟨i, j, rfl, k _ _ Hs H S (Ex.refl _) R (.int _) h⟩
  · cases hd with
    | cons r1 r2 =>
      cases r2
      obtain ⟨a, rfl, hq⟩ := sq_ints R r1 (asL_of h1 h2)
      exact cr_min hc pins s σ H _ us Q I rv ⟨a, ns, rfl, hq, h3, fun m hm hl => k _ _ Hs H S (Ex.refl _) R (.int _) (h m hm hl)⟩
def phSum : PhA := fun ds S q => ∃ (x : D) (ns : List Int), ds = [x] ∧ asL S x = some (ns.map D.int) ∧ q (.int ns.sum) S
theorem cSum (hc : X.calm = true) : CallR X (.builtin "sum") (rA X.K phSum) := by
  intro pins s σ H vs us Q I rv ⟨Hs, S, ds, q, R, hd, ⟨x, ns, e, h1, h⟩, k⟩
  subst e
  cases hd with
  | cons r1 r2 =>
    cases r2
    obtain ⟨a, rfl, hq⟩ := sq_ints R r1 h1
    exact cr_sum hc pins s σ H _ us Q I rv ⟨a, ns, rfl, hq, k _ _ Hs H S (Ex.refl _) R (.int _) h⟩
def phAll : PhA := fun ds S q => ∃ (x : D) (ns : List Bool), ds = [x] ∧ asL S x = some (ns.map D.bl) ∧ q (.bl (ns.all id)) S
theorem cAll (hc : X.calm = true) : CallR X (.builtin "all") (rA X.K phAll) := by
  intro pins s σ H vs us Q I rv ⟨Hs, S, ds, q, R, hd, ⟨x, ns, e, h1, h⟩, k⟩
  subst e
  cases hd with
  | cons r1 r2 =>
    cases r2
    obtain ⟨a, ws, rfl, hq, ha⟩ := asL_rep R r1 h1
    rw [ha.bls] at hq
    exact cr_all hc pins s σ H _ us Q I rv ⟨a, ns, rfl, .of hq, k _ _ Hs H S (Ex.refl _) R (.bl _) h⟩
/-- list(x), tuple(x), int(x) -/
def phList : PhA := fun ds S q => ∃ x xs, ds = [x] ∧ asQ S x = some xs ∧ NewL S xs q
theorem cList : CallR X (.type "list") (rA X.K phList) := by
  intro pins s σ H vs us Q I rv ⟨Hs, S, ds, q, R, hd, ⟨x, xs, e, h1, h⟩, k⟩
  subst e
  cases hd with
  | cons r1 r2 =>
    cases r2
    obtain ⟨a, ws, rfl, ha, hq⟩ := asQ_rep R r1 h1
    exact call_list_of pins s σ H _ us Q I rv ⟨a, ws, rfl, hq, fun p hp => newL_run R ha h k hp⟩
def phTuple : PhA := fun ds S q => ∃ x xs, ds = [x] ∧ asQ S x = some xs ∧ (x = .tup xs ∨ asL S x ≠ none) ∧ q (.tup xs) S
theorem call_tupleC : CallR X (.type "tuple") (fun xs H Q => ∃ p ys, xs = [.ref p] ∧ ((SqL X.K H p ys ∧ ∀ l ob, ob.dict = none → H l = none → Q (.ref l) (upd H l (.frz ob (.tup ys)))) ∨ (SqT X.K H p ys ∧ Q (.ref p) H))) := by
  intro pins s σ H xs us Q I r h
  obtain ⟨p, ys, rfl, h⟩ := h
  obtain ⟨u, rfl, rx⟩ := vals1 r
  cases rx
  rcases h with ⟨hq, q⟩ | ⟨hq, q⟩
  · obtain ⟨its, r', pl, hz⟩ := I.list hq
    have hlen := r'.length
    refine call_tuple_list pl.isList (fun h' kp => ?_) (by simp only [List.size_toArray] <;> omega)
    have I1 : Inv X pins σ H { s with heap := h' } := I.kept (t' := s.toks) kp
    have I2 : Inv X pins σ (upd H h'.objs.size (.frz { cls := .type "tuple", data := .seq its.toArray } (.tup ys))) { s with heap := h'.push { cls := .type "tuple", data := .seq its.toArray } } :=
      I1.laid (t' := s.toks) (fun b o e => Heap.get?_push_of_some _ e) (Nat.le_refl _) (show ObjOk X.prog X.w _ _ _ (.frz _ (.tup ys)) from ⟨Heap.get?_push_size _ rfl, hz, its, r', PyProof.Rows.IsTup.new _ _⟩)
    exact ⟨.ref h'.objs.size, _, I2, rfl, q _ _ rfl (I1.hok.fresh (Nat.le_refl _))⟩
  · exact call_tuple_of pins s σ H _ _ Q I (.cons (show RelV (.ref p) (.ref p) from rfl) .nil) ⟨p, ys, rfl, .inr ⟨hq, q⟩⟩
theorem cTuple : CallR X (.type "tuple") (rA X.K phTuple) := by
  intro pins s σ H vs us Q I rv ⟨Hs, S, ds, q, R, hd, ⟨x, xs, e, h1, h2, h⟩, k⟩
  subst e
  cases hd with
  | cons r1 r2 =>
    cases r2
    rcases h2 with h2 | h2
    · subst h2
      cases r1 with
      | tup hq ha => exact call_tupleC pins s σ H _ us Q I rv ⟨_, _, rfl, .inr ⟨(R.ex.tc hq).sq, k _ _ Hs H S (Ex.refl _) R (.tup hq ha) h⟩⟩
    · obtain ⟨a, ws, rfl, hq, ha⟩ := asL_rep R r1 (asL_of h1 h2)
      exact call_tupleC pins s σ H _ us Q I rv ⟨a, ws, rfl, .inl ⟨.of hq, fun p ob ho hp => newT_run R ha h k ho hp⟩⟩
def phInt : PhA := fun ds S q => (∃ i, ds = [.int i] ∧ q (.int i) S) ∨ ∃ b, ds = [.bl b] ∧ q (.int (if b then 1 else 0)) S
theorem cInt : CallR X (.type "int") (rA X.K phInt) := by
  intro pins s σ H vs us Q I rv ⟨Hs, S, ds, q, R, hd, h, k⟩
  rcases h with ⟨i, rfl, h⟩ | ⟨b, rfl, h⟩
  · cases hd with
    | cons r1 r2 =>
      cases r2; cases r1
      exact call_int1 pins s σ H _ us Q I rv (.inl ⟨i, rfl, k _ _ Hs H S (Ex.refl _) R (.int _) h⟩)
  · cases hd with
    | cons r1 r2 =>
      cases r2; cases r1
      exact call_int1 pins s σ H _ us Q I rv (.inr ⟨b, rfl, k _ _ Hs H S (Ex.refl _) R (.int _) h⟩)
/-- isinstance by built-in classes -/
def D.tyN (S : Sto) : D → Option String
  | .non => some "NoneType"
  | .bl _ => some "bool"
  | .int _ => some "int"
  | .str _ => some "str"
  | .tup _ => some "tuple"
  | .key _ => some "tuple"
  | .lst _ => some "list"
  | .ref a => (O.items (S a)).map fun _ => "list"
  | _ => none
theorem tyN_rep {K : PySem.W.Frag} {Hs H : Hp} {S : Sto} {v : V} {x : D} {T : String} (R : Rep K Hs H S) (r : Dat K Hs v x) (h : x.tyN S = some T) : TyX K H v (.type T) := by
  cases r with
  | non => cases h; exact .base .non
  | bl b => cases h; exact .base (.bl b)
  | int b => cases h; exact .base (.int b)
  | str b => cases h; exact .base (.str b)
  | tup hq ha =>
    cases h
    obtain ⟨o, _, hq⟩ := hq
    exact .fTuple (R.ex _ _ hq)
  | key hq ha =>
    cases h
    exact .base (.tup (R.ex _ _ hq))
  | lst hq ha =>
    cases h
    exact .base (.lst (R.ex _ _ hq))
  | ref a =>
    have h' : (O.items (S a)).map (fun _ => "list") = some T := h
    cases e : O.items (S a) with
    | none => rw [e] at h'; cases h'
    | some xs =>
      rw [e] at h'
      cases h'
      obtain ⟨b, vs, e2, h3, _⟩ := asL_rep R (.ref a) (show asL S (.ref a) = some xs from e)
      cases e2
      exact .base (.lst h3)
  | ty _ => cases h
  | scr _ _ => cases h
  | dct _ _ => cases h
  | lam _ _ => cases h
def phIsi : PhA := fun ds S q => (∃ x T U b, ds = [x, .ty U] ∧ x.tyN S = some T ∧ kitB T U = some b ∧ q (.bl b) S) ∨ ∃ x T U U' b b', ds = [x, .tup [.ty U, .ty U']] ∧ x.tyN S = some T ∧ kitB T U = some b ∧ kitB T U' = some b' ∧ q (.bl (b || b')) S
theorem cIsi : CallR X (.builtin "isinstance") (rA X.K phIsi) := by
  intro pins s σ H vs us Q I rv ⟨Hs, S, ds, q, R, hd, h, k⟩
  rcases h with ⟨x, T, U, b, rfl, h1, h2, h⟩ | ⟨x, T, U, U', b, b', rfl, h1, h2, h3, h⟩
  · cases hd with
    | cons r1 r2 => cases r2 with
      | cons r2 r3 =>
        cases r3; cases r2
        exact call_isi pins s σ H _ us Q I rv ⟨_, _, _, _, b, rfl, .ty U, tyN_rep R r1 h1, kit_ty h2, k _ _ Hs H S (Ex.refl _) R (.bl _) h⟩
  · cases hd with
    | cons r1 r2 => cases r2 with
      | cons r2 r3 =>
        cases r3
        cases r2 with
        | @tup a ws _ hq ha =>
          cases ha with
          | cons q1 q2 => cases q2 with
            | cons q2 q3 =>
              cases q1; cases q2; cases q3
              have hk : PySem.W.kitAny X.K (.type T) [.type U, .type U'] = some (b || b') := by
                refine kitAny_cons (kit_ty h2) (fun e => ?_) fun e => by rw [e]; rfl
                rw [e, Bool.false_or]
                exact kitAny_cons (kit_ty h3) (fun e => by rw [e]; exact kitAny_nil) fun e => e
              obtain ⟨o, _, hq⟩ := hq
              obtain ⟨u1, u2, rfl, ru1, ru2⟩ := vals2 rv
              cases (show u2 = Value.ref a from ru2)
              obtain ⟨P, Z, p, hx⟩ := kit_of I ru1 (tyN_rep R r1 h1)
              obtain ⟨_, _, its, rvi, oo, g1, g2, n, g3⟩ := (show ObjOk X.prog X.w H s.heap a (.frz o (.tup [.ty U, .ty U'])) from I.hok a _ (R.ex _ _ hq))
              have e3 := ClsV.all (.cons (.ty U) (.cons (.ty U') .nil)) rvi
              subst e3
              obtain ⟨oc, od, dt, sl⟩ := oo
              simp only at g2 g3
              subst g2 g3
              exact PySem.W.kia_tup Z I.kIn p g1 hk hx fun tk => ⟨.bl _, H, I.tok tk, rfl, k _ _ Hs H S (Ex.refl _) R (.bl _) h⟩
end
/-! ### methods of what is ours -/
section
variable {X : Cx}
def phAppend : PhM := fun x ds S q => ∃ a xs d, x = .ref a ∧ ds = [d] ∧ S a = some (.lst xs) ∧ xs.length < sizeLine ∧ q .non (S.upd a (.lst (xs ++ [d])))
theorem mAppend : MtM X "list.append" (rM X.K phAppend) := by
  intro pins s σ H vx vs v us Q I rx rv ⟨Hs, S, x, ds, q, R, hx, hd, ⟨a, xs, d, e1, e2, h1, h2, h⟩, k⟩
  subst e1 e2
  cases hx
  cases hd with
  | cons r1 r2 =>
    cases r2
    obtain ⟨_, ho, h3, h4⟩ := R.ob a _ h1
    cases ho with
    | lst ws =>
      have h4' : DatA X.K Hs ws xs := h4
      exact mt_append pins s σ H _ _ v us Q I rx rv ⟨a, ws, _, rfl, rfl, h3, by rw [h4'.len]; exact h2, k _ _ Hs _ _ (Ex.refl _) (R.write h1 (ho := .lst _) (o := .lst _) (h4'.append (.cons r1 .nil))) .non h⟩
    | _ => exact (h4 : False).elim
def phInsert : PhM := fun x ds S q => ∃ a xs i d, x = .ref a ∧ ds = [.int i, d] ∧ S a = some (.lst xs) ∧ xs.length < sizeLine ∧ 0 ≤ i ∧ i < 2 ^ 63 ∧ q .non (S.upd a (.lst (xs.take i.toNat ++ [d] ++ xs.drop i.toNat)))
theorem mInsert : MtM X "list.insert" (rM X.K phInsert) := by
  intro pins s σ H vx vs v us Q I rx rv ⟨Hs, S, x, ds, q, R, hx, hd, ⟨a, xs, i, d, e1, e2, h1, h2, h3, h4, h⟩, k⟩
  subst e1 e2
  cases hx
  cases hd with
  | cons r1 r2 => cases r2 with
    | cons r2 r3 =>
      cases r3; cases r1
      obtain ⟨_, ho, g3, g4⟩ := R.ob a _ h1
      cases ho with
      | lst ws =>
        have g5 : DatA X.K Hs ws xs := g4
        exact mt_insert pins s σ H _ _ v us Q I rx rv ⟨a, ws, i, _, rfl, rfl, g3, by rw [g5.len]; exact h2, h3, h4, k _ _ Hs _ _ (Ex.refl _) (R.write h1 (ho := .lst _) (o := .lst _) (((g5.take _).append (.cons r2 .nil)).append (g5.drop _))) .non h⟩
      | _ => exact (g4 : False).elim
def phPop : PhM := fun x ds S q => ∃ a xs d, x = .ref a ∧ ds = [] ∧ S a = some (.lst xs) ∧ xs[xs.length - 1]? = some d ∧ q d (S.upd a (.lst xs.dropLast))
theorem DatA.dropLast {K : PySem.W.Frag} {H : Hp} {vs : List V} {ds : List D} (h : DatA K H vs ds) : DatA K H vs.dropLast ds.dropLast := by
  rw [List.dropLast_eq_take, List.dropLast_eq_take, h.len]
  exact h.take _
theorem mPop : MtM X "list.pop" (rM X.K phPop) := by
  intro pins s σ H vx vs v us Q I rx rv ⟨Hs, S, x, ds, q, R, hx, hd, ⟨a, xs, d, e1, e2, h1, h2, h⟩, k⟩
  subst e1 e2
  cases hx; cases hd
  obtain ⟨_, ho, g3, g4⟩ := R.ob a _ h1
  cases ho with
  | lst ws =>
    have g5 : DatA X.K Hs ws xs := g4
    obtain ⟨y, hy, ry⟩ := g5.get h2
    exact mt_pop pins s σ H _ _ v us Q I rx rv ⟨a, ws, y, rfl, rfl, g3, by rw [g5.len]; exact hy, k _ _ Hs _ _ (Ex.refl _) (R.write h1 (ho := .lst _) (o := .lst _) g5.dropLast) ry h⟩
  | _ => exact (g4 : False).elim
/-- the place of a text in a tuple of texts -/
def phTIndex : PhM := fun x ds S q => ∃ (ys : List Str) (z : Str) (j : Nat), x = .tup (ys.map D.str) ∧ ds = [.str z] ∧ ys[j]? = some z ∧ (∀ m, m < j → ys[m]? ≠ some z) ∧ q (.int (j : Nat)) S
theorem mTIndex : MtR X "tuple.index" (rM X.K phTIndex) := by
  intro pins s σ H vx vs v us Q I rx rv ⟨Hs, S, x, ds, q, R, hx, hd, ⟨ys, z, j, e1, e2, h1, h2, h⟩, k⟩
  subst e1 e2
  cases hd with
  | cons r1 r2 =>
    cases r2; cases r1
    cases hx with
    | tup hq ha =>
      rw [ha.strs] at hq
      exact mt_tup_index pins s σ H _ _ v us Q I rx rv ⟨_, ys, z, j, rfl, rfl, (R.ex.tc hq).sq, h1, h2, k _ _ Hs H S (Ex.refl _) R (.int _) h⟩
end
/-! readings of methods -/
section
variable {K : KX} {δ : Env} {S : Sto} {to : TE} {t : TA} {Q : Kq}
/-- of what type a thing is, for a method -/
def D.meth (T : String) (S : Sto) (x : D) : Prop := (T = "list" ∧ asL S x ≠ none) ∨ (T = "str" ∧ ∃ z, x = .str z)
theorem meth_rep {Hs H : Hp} {T : String} {v : V} {x : D} (R : Rep K Hs H S) (r : Dat K Hs v x) (h : x.meth T S) : tyV K T v H := by
  rcases h with ⟨rfl, h⟩ | ⟨rfl, z, rfl⟩
  · cases e : asL S x with
    | none => exact absurd e h
    | some xs =>
      obtain ⟨a, vs, rfl, h1, _⟩ := asL_rep R r e
      exact .inl ⟨rfl, _, .of h1⟩
  · cases r
    rfl
theorem we_bm {T : String} {φ : PhM} (h : WE K to δ S fun x S1 => x.meth T S1 ∧ WA K t δ S1 fun ds S2 => φ x ds S2 Q) : WE K (tBM K T (rM K φ) to t) δ S Q := fun Hs H σ QQ R L k =>
  h Hs H σ _ R L fun v d Hs1 H1 S1 e1 R1 r1 ⟨h1, h2⟩ => ⟨meth_rep R1 r1 h1, h2 Hs1 H1 σ _ R1 (L.mono e1) fun vs ds Hs2 H2 S2 e2 R2 r2 h3 => ⟨Hs2, S2, d, ds, Q, R2, r1.mono e2, r2, h3, fun v' d' Hs' H' S' e R' => k v' d' Hs' H' S' ((e1.trans e2).trans e) R'⟩⟩
theorem we_bm0 {T : String} {φ : PhM} (h : WE K to δ S fun x S1 => x.meth T S1 ∧ φ x [] S1 Q) : WE K (tBM0 K T (rM K φ) to) δ S Q := fun Hs H σ QQ R L k =>
  h Hs H σ _ R L fun v d Hs1 H1 S1 e1 R1 r1 ⟨h1, h2⟩ => ⟨meth_rep R1 r1 h1, Hs1, S1, d, [], Q, R1, r1, .nil, h2, fun v' d' Hs' H' S' e R' => k v' d' Hs' H' S' (e1.trans e) R'⟩
end
/-! a method of a tuple whose object is known -/
def tBMT (r : V → List V → Hp → VK → Prop) (to : TE) (t : TA) : TE := fun σ H Q => to σ H fun x H1 => (∃ p xs, x = .ref p ∧ TupC H1 p xs) ∧ t σ H1 fun xs H2 => r x xs H2 Q
section
variable {X : Cx} {o e : Expr} {es : List Expr} {to : TE} {t : TA} {name : Str} {apos cpos : Pos} {id : String} {r : V → List V → Hp → VK → Prop}
theorem pe_bmT (slot : PySem.Slot "tuple" name id) (hty : typeOf (.builtin id) = pure (.type "method_descriptor")) (hm : MtR X id r) (ho : PE X o to) (ha : PA X (e :: es) t)
    (hbase : attributeBase o name X.env (eval o X.env) = eval o X.env := by rfl)
    (hfew : ((backTo cpos (starEach (e :: es) X.env)).all (fun x => !x.1) && (backToKw cpos (keywordEach [] X.env)).all (fun x => x.1.isSome)
      && decide ((e :: es).length + ([] : List Keyword).length + (if ([] : List Keyword).isEmpty then 0 else 1) < 30)) = true := by rfl)
    (hline : (apos.endLine == cpos.line) = true := by rfl) (hs : starEach (e :: es) X.env = (false, eval e X.env) :: starEach es X.env := by rfl) (hplain : (backTo cpos (starEach es X.env)).any (·.1) = false := by rfl) :
    PE X (.Call (.Attribute o name apos) (e :: es) [] cpos) (tBMT r to t) := by
  refine ⟨fun pins s σ H Q I h => ?_⟩
  refine wpAny_Call_method_late hbase hfew hline rfl (thn (ho.run pins s σ H _ I h) fun v s1 ⟨x, H1, I1, r1, ty, q1⟩ => ?_)
  obtain ⟨p, xs, rfl, ob, hd, hp⟩ := ty
  cases r1
  obtain ⟨g0, _, its, rv, o', g1, g2, n, g3⟩ := (show ObjOk X.prog X.w H1 s1.heap p (.frz ob (.tup xs)) from I1.hok p _ hp)
  have e1 : ob = o' := by
    have z := g0.symm.trans g1
    cases z
    rfl
  refine ⟨"tuple", id, PySem.F.plainAttrs_tuple, slot, hty, ⟨o', g1, g2⟩, fun a z => by cases z; exact ⟨ob, g0, hd⟩, ?_⟩
  have hA := ha.run cpos pins s1 σ H1 _ I1 q1
  rw [hs] at hA ⊢
  refine Calls.callWith_builtin (by show (false || (backTo cpos (starEach es X.env)).any (·.1)) = false; rw [hplain] <;> rfl) (Calls.evalArgs_plain ?_)
  exact thn hA fun us s2 ⟨vs, H2, I2, r2, q2⟩ => hm pins s2 σ H2 (.ref p) vs _ us Q I2 rfl r2 q2
end
section
variable {K : KX} {δ : Env} {S : Sto} {to : TE} {t : TA} {Q : Kq}
theorem we_bmT {φ : PhM} (h : WE K to δ S fun x S1 => (∃ xs, x = .tup xs) ∧ WA K t δ S1 fun ds S2 => φ x ds S2 Q) : WE K (tBMT (rM K φ) to t) δ S Q := fun Hs H σ QQ R L k =>
  h Hs H σ _ R L fun v d Hs1 H1 S1 e1 R1 r1 ⟨⟨xs, hx⟩, h2⟩ => ⟨by
    subst hx
    cases r1 with
    | tup hq ha => exact ⟨_, _, rfl, R1.ex.tc hq⟩, h2 Hs1 H1 σ _ R1 (L.mono e1) fun vs ds Hs2 H2 S2 e2 R2 r2 h3 => ⟨Hs2, S2, d, ds, Q, R2, r1.mono e2, r2, h3, fun v' d' Hs' H' S' e R' => k v' d' Hs' H' S' ((e1.trans e2).trans e) R'⟩⟩
end
/-! a tuple display, the object known -/
theorem pe_tupC {X : Cx} {es : List Expr} {t : TA} {x1 : Nat} {pos : Pos} (h : PA X es t) : PE X (.Tuple es x1 pos) (tTupC t) := by
  refine ⟨fun pins s σ H Q I hq => ?_⟩
  refine wpAny_Tuple_spliced (thn (h.run pos pins s σ H _ I hq) fun us s1 ⟨xs, H1, I1, r, z, q⟩ => ⟨by rw [← r.length]; exact z, ?_⟩)
  have hf : H1 s1.heap.objs.size = none := I1.hok.fresh (Nat.le_refl _)
  refine ⟨.ref s1.heap.objs.size, upd H1 s1.heap.objs.size (.frz { cls := .type "tuple", data := .seq us.toArray } (.tup xs)), I1.laid (t' := s1.toks) (fun b u e => Heap.get?_push_of_some _ e) (Nat.le_refl _) ?_, rfl, q _ _ rfl hf⟩
  exact ⟨Heap.get?_push_size _ rfl, z, us, r, ⟨_, Heap.get?_push_size _ rfl, rfl, _, rfl⟩⟩
/-! xs[i] = v -/
section
variable {K : KX} {δ : Env} {S : Sto} {to ti : TE} {T : Env → Sto → Prop}
theorem wg_sub {d : D} (h : WE K to δ S fun o S1 => WE K ti δ S1 fun i S2 => ∃ (a : Addr) (xs : List D) (n : Int) (j : Nat), o = .ref a ∧ i = .int n ∧ S2 a = some (.lst xs) ∧ ixN xs.length n = some j ∧ T δ (S2.upd a (.lst (xs.set j d)))) : WG K (gSub to ti rSetL) d δ S T := fun Hs H v σ QQ R L r k =>
  h Hs H σ _ R L fun vo o Hs1 H1 S1 e1 R1 r1 h2 => h2 Hs1 H1 σ _ R1 (L.mono e1) fun vi i Hs2 H2 S2 e2 R2 r2 ⟨a, xs, n, j, eo, ei, g1, g2, q⟩ => by
    subst eo ei
    cases r1; cases r2
    obtain ⟨_, ho, g3, g4⟩ := R2.ob a _ g1
    cases ho with
    | lst ws =>
      have g5 : DatA K Hs2 ws xs := g4
      exact ⟨a, ws, n, j, rfl, rfl, g3, by rw [g5.len]; exact g2, k Hs2 _ σ δ _ (e1.trans e2) (R2.write g1 (ho := .lst _) (o := .lst _) (DatA.set (r.mono (e1.trans e2)) j g5)) (L.mono (e1.trans e2)) q⟩
    | _ => exact (g4 : False).elim
end

/-! written numbers -/
theorem pe_powc {X : Cx} {i j k : Int} {a b : Nat} {p1 p2 pos : Pos} (hc : CPow i j) (e : i ^ j.toNat = k) : PE X (.BinOp (.Constant (.int i) a p1) .Pow (.Constant (.int j) b p2) pos) (tC (.int k)) := by
  have h := pe_op (pos := pos) (op_pow (X := X)) (pe_int (i := i) (j := a) (pos := p1)) (pe_int (i := j) (j := b) (pos := p2))
  exact ⟨fun pins s σ H Q I q => h.run pins s σ H Q I ⟨i, j, rfl, rfl, hc, by subst e; exact q⟩⟩
theorem pe_negc {X : Cx} {i k : Int} {a : Nat} {p1 pos : Pos} (e : -i = k) : PE X (.UnaryOp .USub (.Constant (.int i) a p1) pos) (tC (.int k)) := by
  have h := pe_un (pos := pos) (un_neg (X := X)) (pe_int (i := i) (j := a) (pos := p1))
  exact ⟨fun pins s σ H Q I q => h.run pins s σ H Q I ⟨i, rfl, by subst e; exact q⟩⟩
end PL

set_option Elab.async false
set_option linter.all false
set_option maxRecDepth 100000
set_option maxHeartbeats 4000000
/-! PLE: enumerate of a tuple. -/
namespace PySem
theorem pl_enum_newB {v : Value} {o : Obj} {H : Heap → Prop} (B : Begins v o H) :
    Meets (Builtin.«enumerate.__new__» ⟨[.type "enumerate", v], []⟩) (fun _ R s => H s.heap ∧
      R (.ok (.ret (.ref (s.heap.push o).objs.size))) { s with heap := (s.heap.push o).push { cls := .type "enumerate", data := .fields #[.none, .bool false, .ref s.heap.objs.size, rawInt 0, .none, .none] } }) :=
  .of_wp fun prog w A R s h => by
    obtain ⟨hp, g, d, tk, os⟩ := s; obtain ⟨h1, h⟩ := h
    have hsub := sub_enumerate
    have q1 : ∀ {A' : Around} {E : Value → Shared → Prop} {Q : Value → Shared → Prop}, Q (.ref hp.objs.size) ⟨hp.push o, g, d, tk, os⟩ → wpAny (model prog w) A' (pyIter v) Q E ⟨hp, g, d, tk, os⟩ :=
      fun q => B.iter prog w _ _ ⟨hp, g, d, tk, os⟩ _ h1 q
    wp_walk using q1
    refine wpAny_stack_any fun st => wpAny_pure ?_
    split
    · rename_i c _ _ _ _ _
      cases (c == Value.type "enumerate")
      · wp_walk using q1
        exact ⟨_, rfl, h⟩
      · wp_walk using q1
        exact ⟨_, rfl, h⟩
    · wp_walk using q1
      exact ⟨_, rfl, h⟩
section
variable {prog : Program} {w : World} {A : Around} {E : Value → Shared → Prop} {s : Shared}
theorem pl_enum_begins {v : Value} {o : Obj} {H : Heap → Prop} {Q : Value → Shared → Prop} (B : Begins v o H) (h1 : H s.heap)
    (h : ∀ h', IsEnum h' (s.heap.objs.size + 1) s.heap.objs.size 0 .none → h'.get? s.heap.objs.size = some o → h'.objs.size = s.heap.objs.size + 2 →
      (∀ b o, s.heap.get? b = some o → h'.get? b = some o) → Q (.ref (s.heap.objs.size + 1)) { s with heap := h' }) :
    wpAny (model prog w) A (call (.type "enumerate") [v]) Q E s := by
  refine callType_new F.called_enumerate (by decide) (F.typeCall_enumerate_1 _) (F.newCall_enumerate_1 _) (fun obj => F.args_object_init_2 obj _) F.entry_enumerate_new
    (pl_enum_newB B) ⟨h1, ?_⟩
  have hz : (s.heap.push o).objs.size = s.heap.objs.size + 1 := Heap.size_push ..
  show _ ∧ _
  rw [hz]
  have he : IsEnum ((s.heap.push o).push { cls := .type "enumerate", data := .fields #[.none, .bool false, .ref s.heap.objs.size, rawInt 0, .none, .none] }) (s.heap.objs.size + 1) s.heap.objs.size 0 .none := by
    have := Heap.get?_push_size (s.heap.push o) (o := { cls := .type "enumerate", data := .fields #[.none, .bool false, .ref s.heap.objs.size, rawInt 0, .none, .none] }) rfl
    rw [hz] at this; exact this
  refine ⟨⟨_, he, rfl⟩, h _ he (Heap.get?_push_of_some _ (Heap.get?_push_size _ B.free)) (by rw [Heap.size_push, hz]) fun b o x => Heap.get?_push_of_some _ (Heap.get?_push_of_some _ x)⟩
end
end PySem
namespace PL
open PySem L2
/-- the tuple at a as it stands at each turn, each item in a new pair -/
def IteT (K : PySem.W.Frag) (a : Addr) : It :=
  ⟨fun i H => ∃ (xs : List V) (x : V), SqT K H a xs ∧ xs[i]? = some x, fun i H v H' => ∃ T x, v = .ref T ∧ H T = none ∧ H' = upd H T (.tup [.int (i : Nat), x]) ∧ ∀ xs, SqT K H a xs → xs[i]? = some x, fun i H => ∃ xs : List V, SqT K H a xs ∧ xs.length ≤ i⟩
theorem turn_enumT {P : Program} {w : World} {K : PySem.W.Frag} {elts : List Expr} {kk : Nat} {tpos : Pos} (a e it : Addr) (hea : a ≠ e) (hia : a ≠ it) :
    Turn P w K (.Tuple elts kk tpos) (IteT K a) [e, it] e (fun i h => (∃ old, IsEnum h e it ((i : Nat) : Int) old) ∧ h.IsTupleIter it a i ∧ e ≠ it) where
  mem := by simp
  obj := fun i h st b hb => by
    obtain ⟨⟨old, he⟩, ⟨o, ho, hc, hd⟩, _⟩ := st
    have e' : b = e ∨ b = it := by simpa using hb
    rcases e' with z | z
    · rw [z]; exact ⟨_, he, fun v q => nomatch q⟩
    · rw [z]; exact ⟨o, ho, fun v q => by rw [hd] at q; cases q⟩
  keep := fun i h h' st k => let ⟨⟨old, he⟩, hi, hne⟩ := st; ⟨⟨old, k e (by simp) _ he⟩, hi.at fun o q => k it (by simp) o q, hne⟩
  item := by
    intro X hP hw hK hc i pins s σ H E I hf st hg
    subst hP hw hK
    obtain ⟨⟨old, he⟩, hit, hne⟩ := st
    obtain ⟨xs, x, hq, hx⟩ := hg
    obtain ⟨its, rv, p, hz⟩ := I.tuple hq
    obtain ⟨u, hu, ru⟩ := rv.get hx
    have hel : e < s.heap.objs.size := Heap.lt_size he
    have hil : it < s.heap.objs.size := by obtain ⟨_, q, _⟩ := hit; exact Heap.lt_size q
    have hlt : i < its.toArray.size := by
      have q := (List.getElem?_eq_some_iff.mp hu).1
      simpa using q
    refine wpAny_pyNext_enum_itemD (Draws.tuple (A := X.A.in1) (I.ok.hd hc) it a hia its.toArray) he ⟨hit, p⟩ hlt hne (fun q => ?_) fun y h' tk hy ho hst hT hsz hk => ?_
    · rcases List.mem_cons.mp q with z | z
      · exact hne z
      · exact hea (List.mem_singleton.mp z).symm
    have ey : y = u := by
      have hy' : its.toArray[i]? = some y := hy
      have hy2 : its[i]? = some y := by simpa using hy'
      rw [hu] at hy2
      exact (Option.some.inj hy2).symm
    subst ey
    obtain ⟨hit', _⟩ := hst
    refine ⟨_, rfl, wpAny_letOwnedTupleGo_enum (s := { s with heap := h', toks := tk + 1 }) ho fun h'' he' sb => ?_⟩
    have hT2 : h''.get? s.heap.objs.size = some { cls := .type "tuple", data := .seq #[.int i tk, y] } := (sb.2 _ (Nat.ne_of_gt hel)).trans hT
    have new : ObjOk X.prog X.w (upd H s.heap.objs.size (.tup [.int (i : Nat), x])) h'' s.heap.objs.size (.tup [.int (i : Nat), x]) :=
      ⟨by show 2 ≤ sizeLine; decide, [.int i tk, y], .cons ⟨_, rfl⟩ (.cons ru .nil), ⟨_, hT2, rfl, _, rfl⟩⟩
    have I1 : Inv X pins σ (upd H s.heap.objs.size (.tup [.int (i : Nat), x])) { s with heap := h'', toks := tk + 1 } :=
      I.turnedNew (ch := [e, it]) (fun b ob hb q => (sb.2 b (fun z => hb (by simp [z]))).trans (hk b ob (fun z => hb (by simp [z])) (fun z => hb (by simp [z])) q)) hf (Nat.le_refl _) new
    refine ⟨.ref s.heap.objs.size, _, I1, rfl, ⟨_, x, rfl, I.hok.fresh (Nat.le_refl _), rfl, fun ys hy => by rw [I.tuple_inj hy hq]; exact hx⟩, ⟨⟨y, ?_⟩, hit'.at fun o q => (sb.2 it (Ne.symm hne)).trans q, hne⟩, fun b hb => ?_⟩
    · have e1 : ((i + 1 : Nat) : Int) = (i : Int) + 1 := by omega
      rw [e1]; exact he'
    · have hb' : b < s.heap.objs.size := by
        have e' : b = e ∨ b = it := by simpa using hb
        rcases e' with z | z
        · rw [z]; exact hel
        · rw [z]; exact hil
      rw [upd_ne (Nat.ne_of_lt hb')]
      exact (hf b hb).1
  done := by
    intro X hP hw hK hc i pins s σ H E I hf st hg
    subst hP hw hK
    obtain ⟨⟨old, he⟩, hit, hne⟩ := st
    obtain ⟨xs, hq, hx⟩ := hg
    obtain ⟨its, rv, p, hz⟩ := I.tuple hq
    obtain ⟨f0, f1, f2, f3, f4, f5⟩ := hf it (by simp)
    have hl := rv.length
    unfold pyNext
    have hT : s.TypeIs (.ref e) "enumerate" := ⟨_, he, rfl⟩
    refine wpAny_bind (wpAny_attempt (wpAny_callSpecial?_slot (name := Str.ofString "__next__") hT F.slot_enumerate_next
      (wpAny_call_entry F.slot_enumerate_next hT F.entry_enumerate_next ?_ (F.args_enumerate_next_1 _))))
    show wpAny _ _ (field (.ref e) 2 >>= _) _ _ _
    refine wpAny_bind (wpAny_field he rfl (x := .ref it) rfl ?_)
    refine wpAny_bind (wpAny_nextOf_tuple_end (I.ok.hd hc) hit p (by simp; omega) fun h' x he' hx' => ?_)
    obtain ⟨o, ho, hc⟩ := hx'
    refine wpAny_bind (wpAny_isInstance (T := "StopIteration") (b := true) ⟨o, ho, hc⟩ isSubtype_stop ?_)
    exact wpAny_pure ⟨rfl, I.turned (t' := s.toks) (fun b o hb q => he' b o hb q) f0 f1 f3 f4 f5⟩
  self := fun A i s Q E st h => let ⟨⟨_, he⟩, _⟩ := st; wpAny_pyIter_enum he h
/-- enumerate of a list or of a tuple -/
def iEnumA (K : PySem.W.Frag) (ta : TA) : TI := fun σ H R => ta σ H fun vs H1 => ∃ a xs, vs = [.ref a] ∧ ((SqL K H1 a xs ∧ R (Ite K a) H1) ∨ (SqT K H1 a xs ∧ R (IteT K a) H1))
theorem pi_enumA {X : Cx} {e : Expr} {ta : TA} {p pos tpos : Pos} {elts : List Expr} {kk : Nat} (hg : Gl X "enumerate") (hm : X.mg "enumerate" = none) (ha : PA X [e] ta) (hs : starEach [e] X.env = [(false, eval e X.env)] := by rfl) :
    PI X (.Tuple elts kk tpos) (.Call (.Name "enumerate" p) [e] [] pos) (iEnumA X.K ta) := by
  refine ⟨fun pins s σ H R I h => ?_⟩
  refine PyProof.Rows.Call_ (ld_blt I hg hm PyProof.Rows.boot_enumerate (PyProof.Rows.callWith_type1 (thn (ha.run pos pins s σ H _ I h) fun us s1 ⟨vs, H1, I1, r1, q1⟩ => ?_) hs rfl))
  obtain ⟨a, xs, ex, q1⟩ := q1
  subst ex
  cases r1 with
  | cons r rr =>
    cases rr
    cases r
    have fin : ∀ (b : Addr), b ∈ [s1.heap.objs.size + 1, s1.heap.objs.size] → FpOk X pins H1 b := fun b hb => by
      have e' : b = s1.heap.objs.size + 1 ∨ b = s1.heap.objs.size := by simpa using hb
      have hle : s1.heap.objs.size ≤ b := by
        rcases e' with z | z
        · rw [z]; exact Nat.le_add_right _ _
        · rw [z]; exact Nat.le_refl _
      exact I1.fpOk hle (I1.hok.fresh hle)
    rcases q1 with ⟨hq, q⟩ | ⟨hq, q⟩
    · obtain ⟨its, rv, p', hz⟩ := I1.list hq
      refine call_enumerate_list p'.isList fun h' he hit hsz hk => wpAny_pyIter_enum he ?_
      have I2 : Inv X pins σ H1 { s1 with heap := h' } := I1.kept (t' := s1.toks) hk
      exact ⟨s1.heap.objs.size + 1, [s1.heap.objs.size + 1, s1.heap.objs.size], _, _, H1, rfl, I2, turn_enum a (s1.heap.objs.size + 1) s1.heap.objs.size, ⟨⟨.none, he⟩, hit, Nat.succ_ne_self _⟩, fin, q⟩
    · obtain ⟨its, rv, p', hz⟩ := I1.tuple hq
      have hal : a < s1.heap.objs.size := p'.lt
      refine pl_enum_begins (begins_tuple a its.toArray) p' fun h' he hit hsz hk => wpAny_pyIter_enum he ?_
      have I2 : Inv X pins σ H1 { s1 with heap := h' } := I1.kept (t' := s1.toks) hk
      exact ⟨s1.heap.objs.size + 1, [s1.heap.objs.size + 1, s1.heap.objs.size], _, _, H1, rfl, I2, turn_enumT a (s1.heap.objs.size + 1) s1.heap.objs.size (Nat.ne_of_lt (Nat.lt_succ_of_lt hal)) (Nat.ne_of_lt hal), ⟨⟨.none, he⟩, ⟨_, hit, rfl, rfl⟩, Nat.succ_ne_self _⟩, fin, q⟩
theorem walk_enumT {K : PySem.W.Frag} {a : Addr} {xs : List V} : Walk (IteT K a) xs.length (fun H => SqT K H a xs) (YPair (fun i => some (.int (i : Nat))) (fun i => xs[i]?)) := by
  refine ⟨fun i _ hi q => ⟨xs, xs[i], q, by simp [hi]⟩, fun _ q => ⟨xs, q, Nat.le_refl _⟩, fun i H v H' _ q y => ?_⟩
  obtain ⟨T, x, h1, h2, h3, h4⟩ := y
  exact ⟨T, .int (i : Nat), x, h1, h2, h3, rfl, h4 xs q⟩
end PL

set_option Elab.async false
set_option linter.all false
set_option maxRecDepth 100000
set_option maxHeartbeats 4000000
/-! PL4: walks, loops, comprehensions, calls and bodies of defs over plain data. -/
namespace PL
open PySem L2 RZ

/-- a walk that yields ds, in whatever way the rest moves on -/
structure DWalk (K : PySem.W.Frag) (Hs : Hp) (J : It) (ds : List D) : Prop where
  go : ∀ i H, i < ds.length → Ex Hs H → J.go i H
  stop : ∀ H, Ex Hs H → J.stop ds.length H
  yld : ∀ i Hs1 H S x H', i < ds.length → Ex Hs Hs1 → Rep K Hs1 H S → J.yld i H x H' → ∃ Hs2 d, Ex Hs1 Hs2 ∧ Rep K Hs2 H' S ∧ ds[i]? = some d ∧ Dat K Hs2 x d
theorem DWalk.mono {K : PySem.W.Frag} {Hs Hs' : Hp} {J : It} {ds : List D} (w : DWalk K Hs J ds) (e : Ex Hs Hs') : DWalk K Hs' J ds :=
  ⟨fun i H hi x => w.go i H hi (e.trans x), fun H x => w.stop H (e.trans x), fun i Hs1 H S x H' hi x1 => w.yld i Hs1 H S x H' hi (e.trans x1)⟩
def WI (K : KX) (wi : TI) (δ : Env) (S : Sto) (R : List D → Sto → Prop) : Prop :=
  ∀ (Hs H : Hp) (σ : St) (RR : It → Hp → Prop), Rep K Hs H S → Slt K Hs σ δ → (∀ J ds Hs' H' S', Ex Hs Hs' → Rep K Hs' H' S' → DWalk K Hs' J ds → R ds S' → RR J H') → wi σ H RR

section
variable {K : PySem.W.Frag} {Hs : Hp} {a b : Addr} {vs ws : List V} {ds es : List D}
theorem dw_list (h : SqL K Hs a vs) (r : DatA K Hs vs ds) : DWalk K Hs (Itl K a) ds := by
  refine ⟨fun i H hi e => ?_, fun H e => ⟨vs, e.sqL h, by rw [r.len]; exact Nat.le_refl _⟩, fun i Hs1 H S x H' hi e R y => ?_⟩
  · obtain ⟨v, hv, _⟩ := r.get (List.getElem?_eq_getElem hi)
    exact ⟨vs, v, e.sqL h, hv⟩
  · obtain ⟨rfl, y⟩ := y
    have hx := y vs ((e.trans R.ex).sqL h)
    obtain ⟨d, hd, q⟩ := r.at hx
    exact ⟨Hs1, d, Ex.refl _, R, hd, q.mono e⟩
theorem dw_tup (h : SqT K Hs a vs) (r : DatA K Hs vs ds) : DWalk K Hs (Itt K a) ds := by
  refine ⟨fun i H hi e => ?_, fun H e => ⟨vs, e.sqT h, by rw [r.len]; exact Nat.le_refl _⟩, fun i Hs1 H S x H' hi e R y => ?_⟩
  · obtain ⟨v, hv, _⟩ := r.get (List.getElem?_eq_getElem hi)
    exact ⟨vs, v, e.sqT h, hv⟩
  · obtain ⟨rfl, y⟩ := y
    have hx := y vs ((e.trans R.ex).sqT h)
    obtain ⟨d, hd, q⟩ := r.at hx
    exact ⟨Hs1, d, Ex.refl _, R, hd, q.mono e⟩
theorem dw_range {lo : Int} {n : Nat} : DWalk K Hs (Itr lo n) ((List.range n).map fun i => .int (lo + (i : Nat))) := by
  refine ⟨fun i H hi e => ?_, fun H e => ?_, fun i Hs1 H S x H' hi e R y => ?_⟩
  · show i < n
    simpa using hi
  · show n ≤ _
    simp
  · obtain ⟨rfl, rfl⟩ := y
    have hi' : i < n := by simpa using hi
    exact ⟨Hs1, .int (lo + (i : Nat)), Ex.refl _, R, by simp [hi'], .int _⟩
theorem dw_str {z : Str} : DWalk K Hs (Its z) (z.cps.toList.map fun c => .str ⟨#[c]⟩) := by
  refine ⟨fun i H hi e => ?_, fun H e => ?_, fun i Hs1 H S x H' hi e R y => ?_⟩
  · exact walk_str.goes i H (by simpa using hi) trivial
  · have e1 : (z.cps.toList.map fun c => D.str ⟨#[c]⟩).length = z.cps.size := by simp
    rw [e1]
    exact walk_str.stops H trivial
  · obtain ⟨rfl, c, hc, rfl⟩ := walk_str.yields i H x H' (by simpa using hi) trivial y
    refine ⟨Hs1, .str ⟨#[c]⟩, Ex.refl _, R, ?_, .str _⟩
    rw [List.getElem?_map, Array.getElem?_toList, hc]
    rfl
/-- new pairs -/
theorem dw_pair {J : It} {n : Nat} {G : Hp → Prop} {f g : Nat → Option V} (w : Walk J n G (YPair f g)) (hG : ∀ H, Ex Hs H → G H) (hn : ds.length = n)
    (hp : ∀ i, i < n → ∃ d e, ds[i]? = some (.key [d, e]) ∧ (∀ x, f i = some x → Dat K Hs x d) ∧ ∀ x, g i = some x → Dat K Hs x e) : DWalk K Hs J ds := by
  subst hn
  refine ⟨fun i H hi e => w.goes i H hi (hG H e), fun H e => w.stops H (hG H e), fun i Hs1 H S x H' hi e R y => ?_⟩
  obtain ⟨T, u, v, rfl, hT, rfl, hu, hv⟩ := w.yields i H x H' hi (hG H (e.trans R.ex)) y
  obtain ⟨d, d', hd, h1, h2⟩ := hp i hi
  have e2 : Ex Hs1 (upd Hs1 T (.tup [u, v])) := Ex.new (R.free hT).1
  exact ⟨upd Hs1 T (.tup [u, v]), .key [d, d'], e2, R.newS hT _, hd, .key upd_same (.cons ((h1 u hu).mono (e.trans e2)) (.cons ((h2 v hv).mono (e.trans e2)) .nil))⟩
def enumD (ds : List D) : List D := (List.range ds.length).filterMap fun i => ds[i]?.map fun d => .key [.int (i : Nat), d]
theorem enumD_eq (ds : List D) : enumD ds = ds.zipIdx.map fun p => .key [.int (p.2 : Nat), p.1] := by
  apply List.ext_getElem?
  intro i
  unfold enumD
  have h : ∀ l : List Nat, (∀ j ∈ l, j < ds.length) → (l.filterMap fun i => ds[i]?.map fun d => D.key [.int (i : Nat), d]) = l.map fun i => D.key [.int (i : Nat), ds[i]?.getD .non] := by
    intro l hl
    induction l with
    | nil => rfl
    | cons x r ih =>
      rw [List.filterMap_cons, List.getElem?_eq_getElem (hl x (List.mem_cons_self ..)), List.map_cons, ← ih fun j hj => hl j (List.mem_cons_of_mem _ hj)]
      simp [hl x (List.mem_cons_self ..)]
  rw [h _ fun j hj => List.mem_range.mp hj]
  by_cases hi : i < ds.length
  · simp [hi, List.getElem?_range hi]
  · have h1 : ds[i]? = none := List.getElem?_eq_none (by omega)
    simp [h1]
    omega
theorem enumD_len (ds : List D) : (enumD ds).length = ds.length := by rw [enumD_eq]; simp
theorem enumD_get {ds : List D} {i : Nat} {d : D} (h : ds[i]? = some d) : (enumD ds)[i]? = some (.key [.int (i : Nat), d]) := by
  rw [enumD_eq]
  simp [h]
theorem dw_enumL (h : SqL K Hs a vs) (r : DatA K Hs vs ds) : DWalk K Hs (Ite K a) (enumD ds) := by
  refine dw_pair (walk_enum (xs := vs)) (fun H e => e.sqL h) (by rw [enumD_len, r.len]) fun i hi => ?_
  obtain ⟨d, hd, q⟩ := r.at (List.getElem?_eq_getElem hi)
  refine ⟨_, d, enumD_get hd, fun x hx => ?_, fun x hx => ?_⟩
  · cases hx; exact .int _
  · rw [List.getElem?_eq_getElem hi] at hx; cases hx; exact q
theorem dw_enumT (h : SqT K Hs a vs) (r : DatA K Hs vs ds) : DWalk K Hs (IteT K a) (enumD ds) := by
  refine dw_pair (walk_enumT (xs := vs)) (fun H e => e.sqT h) (by rw [enumD_len, r.len]) fun i hi => ?_
  obtain ⟨d, hd, q⟩ := r.at (List.getElem?_eq_getElem hi)
  refine ⟨_, d, enumD_get hd, fun x hx => ?_, fun x hx => ?_⟩
  · cases hx; exact .int _
  · rw [List.getElem?_eq_getElem hi] at hx; cases hx; exact q
def zipD (ds es : List D) : List D := (ds.zip es).map fun p => .key [p.1, p.2]
theorem dw_zipL (h : SqL K Hs a vs) (r : DatA K Hs vs ds) (h' : SqL K Hs b ws) (r' : DatA K Hs ws es) : DWalk K Hs (Itz K a b) (zipD ds es) := by
  refine dw_pair (walk_zip (xs := vs) (ys := ws) (n := min vs.length ws.length) rfl) (fun H e => ⟨e.sqL h, e.sqL h'⟩) (by unfold zipD; rw [List.length_map, List.length_zip, r.len, r'.len]) fun i hi => ?_
  have h1 : i < vs.length := by omega
  have h2 : i < ws.length := by omega
  obtain ⟨d, hd, q⟩ := r.at (List.getElem?_eq_getElem h1)
  obtain ⟨e, he, q'⟩ := r'.at (List.getElem?_eq_getElem h2)
  refine ⟨d, e, ?_, fun x hx => ?_, fun x hx => ?_⟩
  · unfold zipD
    rw [List.getElem?_map, (List.getElem?_zip_eq_some (z := (d, e))).mpr ⟨hd, he⟩]
    rfl
  · rw [List.getElem?_eq_getElem h1] at hx; cases hx; exact q
  · rw [List.getElem?_eq_getElem h2] at hx; cases hx; exact q'
theorem walk_zipT {xs ys : List V} {n : Nat} (hn : n = min xs.length ys.length) : Walk (ItzT K a b) n (fun H => SqT K H a xs ∧ SqT K H b ys) (YPair (fun i => xs[i]?) (fun i => ys[i]?)) := by
  subst hn
  refine ⟨fun i _ hi q => ?_, fun _ q => ⟨xs, ys, q.1, q.2, by omega⟩, fun i H v H' _ q y => ?_⟩
  · have h1 : i < xs.length := by omega
    have h2 : i < ys.length := by omega
    exact ⟨xs, ys, xs[i], ys[i], q.1, q.2, by simp [h1], by simp [h2]⟩
  · obtain ⟨T, x, z, h1, h2, h3, h4, h5⟩ := y
    exact ⟨T, x, z, h1, h2, h3, h4 xs q.1, h5 ys q.2⟩
theorem dw_zipT (h : SqT K Hs a vs) (r : DatA K Hs vs ds) (h' : SqT K Hs b ws) (r' : DatA K Hs ws es) : DWalk K Hs (ItzT K a b) (zipD ds es) := by
  refine dw_pair (walk_zipT (xs := vs) (ys := ws) (n := min vs.length ws.length) rfl) (fun H e => ⟨e.sqT h, e.sqT h'⟩) (by unfold zipD; rw [List.length_map, List.length_zip, r.len, r'.len]) fun i hi => ?_
  have h1 : i < vs.length := by omega
  have h2 : i < ws.length := by omega
  obtain ⟨d, hd, q⟩ := r.at (List.getElem?_eq_getElem h1)
  obtain ⟨e, he, q'⟩ := r'.at (List.getElem?_eq_getElem h2)
  refine ⟨d, e, ?_, fun x hx => ?_, fun x hx => ?_⟩
  · unfold zipD
    rw [List.getElem?_map, (List.getElem?_zip_eq_some (z := (d, e))).mpr ⟨hd, he⟩]
    rfl
  · rw [List.getElem?_eq_getElem h1] at hx; cases hx; exact q
  · rw [List.getElem?_eq_getElem h2] at hx; cases hx; exact q'
end

/-! ### what is walked -/
section
variable {K : KX} {δ : Env} {S : Sto} {te : TE} {t : TA} {R : List D → Sto → Prop}
/-- a list (shared, or the script) -/
theorem wi_list (h : WE K te δ S fun d S1 => ∃ ds, (d = .lst ds ∨ d = .scr ds) ∧ R ds S1) : WI K (iList K te) δ S R := fun Hs H σ RR R0 L k => h Hs H σ _ R0 L fun v d Hs1 H1 S1 e1 R1 r1 ⟨ds, hd, q⟩ => by
  rcases hd with hd | hd
  · subst hd
    cases r1 with
    | lst hq ha => exact ⟨_, rfl, ⟨_, .of (R1.ex _ _ hq)⟩, k _ ds Hs1 H1 S1 e1 R1 (dw_list (.of hq) ha) q⟩
  · subst hd
    cases r1 with
    | scr hq ha => exact ⟨_, rfl, ⟨_, R1.ex.sqL hq⟩, k _ ds Hs1 H1 S1 e1 R1 (dw_list hq ha) q⟩
theorem wi_tup (h : WE K te δ S fun d S1 => ∃ ds, asT d = some ds ∧ R ds S1) : WI K (iTup K te) δ S R := fun Hs H σ RR R0 L k => h Hs H σ _ R0 L fun v d Hs1 H1 S1 e1 R1 r1 ⟨ds, hd, q⟩ => by
  cases r1 with
  | tup hq ha => cases hd; exact ⟨_, rfl, ⟨_, (R1.ex.tc hq).sq⟩, k _ ds Hs1 H1 S1 e1 R1 (dw_tup hq.sq ha) q⟩
  | key hq ha => cases hd; exact ⟨_, rfl, ⟨_, .of (R1.ex _ _ hq)⟩, k _ ds Hs1 H1 S1 e1 R1 (dw_tup (.of hq) ha) q⟩
  | _ => cases hd
/-- a list of ours that is shared from here on -/
theorem WE.freeze1 {te : TE} {P : D → Sto → Prop} (h : WE K te δ S fun d S1 => (∃ a ds, d = .ref a ∧ S1 a = some (.lst ds) ∧ P (.lst ds) (S1.del a)) ∨ P d S1) : WE K te δ S P := fun Hs H σ QQ R L k => h Hs H σ QQ R L fun v d Hs' H' S' e R' r q => by
  rcases q with ⟨a, ds, rfl, ha, q⟩ | q
  · cases r
    obtain ⟨Hs2, e2, R2, r2⟩ := R'.freeze ha
    exact k _ _ Hs2 H' _ (e.trans e2) R2 r2 q
  · exact k _ _ Hs' H' S' e R' r q
theorem wi_range1 (h : WA K t δ S fun ds S1 => ∃ j : Int, ds = [.int j] ∧ -(2 ^ 62) ≤ j ∧ j < 2 ^ 62 ∧ R ((List.range j.toNat).map fun i => .int (0 + (i : Nat))) S1) : WI K (iRng1 t) δ S R := fun Hs H σ RR R0 L k => h Hs H σ _ R0 L fun vs ds Hs1 H1 S1 e1 R1 r1 ⟨j, hd, h1, h2, q⟩ => by
  subst hd
  cases r1 with
  | cons ra rb =>
    cases rb; cases ra
    exact ⟨j, rfl, h1, h2, k _ _ Hs1 H1 S1 e1 R1 dw_range q⟩
theorem wi_range2 (h : WA K t δ S fun ds S1 => ∃ i j : Int, ds = [.int i, .int j] ∧ (-(2 ^ 62) ≤ i ∧ i < 2 ^ 62 ∧ -(2 ^ 62) ≤ j ∧ j < 2 ^ 62) ∧ R ((List.range (j - i).toNat).map fun n => .int (i + (n : Nat))) S1) : WI K (iRng2 t) δ S R := fun Hs H σ RR R0 L k => h Hs H σ _ R0 L fun vs ds Hs1 H1 S1 e1 R1 r1 ⟨i, j, hd, h1, q⟩ => by
  subst hd
  cases r1 with
  | cons ra rb => cases rb with
    | cons rb rc =>
      cases rc; cases ra; cases rb
      exact ⟨i, j, rfl, h1, k _ _ Hs1 H1 S1 e1 R1 dw_range q⟩
theorem wi_str (h : WE K te δ S fun d S1 => ∃ z, d = .str z ∧ R (z.cps.toList.map fun c => .str ⟨#[c]⟩) S1) : WI K (iStr te) δ S R := fun Hs H σ RR R0 L k => h Hs H σ _ R0 L fun v d Hs1 H1 S1 e1 R1 r1 ⟨z, hd, q⟩ => by
  subst hd; cases r1
  exact ⟨z, rfl, k _ _ Hs1 H1 S1 e1 R1 dw_str q⟩
theorem wi_enum (h : WA K t δ S fun ds S1 => ∃ x xs, ds = [x] ∧ (x = .lst xs ∨ x = .tup xs) ∧ R (enumD xs) S1) : WI K (iEnumA K t) δ S R := fun Hs H σ RR R0 L k => h Hs H σ _ R0 L fun vs ds Hs1 H1 S1 e1 R1 r1 ⟨x, xs, hd, hx, q⟩ => by
  subst hd
  cases r1 with
  | cons ra rb =>
    cases rb
    rcases hx with hx | hx
    · subst hx
      cases ra with
      | lst hq ha => exact ⟨_, _, rfl, .inl ⟨.of (R1.ex _ _ hq), k _ _ Hs1 H1 S1 e1 R1 (dw_enumL (.of hq) ha) q⟩⟩
    · subst hx
      cases ra with
      | tup hq ha => exact ⟨_, _, rfl, .inr ⟨(R1.ex.tc hq).sq, k _ _ Hs1 H1 S1 e1 R1 (dw_enumT hq.sq ha) q⟩⟩
theorem wi_zip (h : WA K t δ S fun ds S1 => ∃ xs ys, (ds = [.lst xs, .lst ys] ∨ ds = [.tup xs, .tup ys]) ∧ R (zipD xs ys) S1) : WI K (iZipA K t) δ S R := fun Hs H σ RR R0 L k => h Hs H σ _ R0 L fun vs ds Hs1 H1 S1 e1 R1 r1 ⟨xs, ys, hd, q⟩ => by
  rcases hd with hd | hd
  · subst hd
    cases r1 with
    | cons ra rb => cases rb with
      | cons rb rc =>
        cases rc
        cases ra with
        | lst hq ha => cases rb with
          | lst hq' ha' => exact ⟨_, _, _, _, rfl, .inl ⟨.of (R1.ex _ _ hq), .of (R1.ex _ _ hq'), k _ _ Hs1 H1 S1 e1 R1 (dw_zipL (.of hq) ha (.of hq') ha') q⟩⟩
  · subst hd
    cases r1 with
    | cons ra rb => cases rb with
      | cons rb rc =>
        cases rc
        cases ra with
        | tup hq ha => cases rb with
          | tup hq' ha' => exact ⟨_, _, _, _, rfl, .inr ⟨(R1.ex.tc hq).sq, (R1.ex.tc hq').sq, k _ _ Hs1 H1 S1 e1 R1 (dw_zipT hq.sq ha hq'.sq ha') q⟩⟩
end

/-! ### for -/
section
variable {K : KX} {δ : Env} {S : Sto} {wi : TI} {g : TG} {tb : TS} {E : AE}
theorem ws_for (h : WI K wi δ S fun ds S1 => ∃ I : Nat → Env → Sto → Prop, I 0 δ S1 ∧ (∀ i d δ' S', ds[i]? = some d → I i δ' S' → WG K g d δ' S' fun δ2 S2 => WS K tb δ2 S2 { E with nx := I (i + 1), ct := I (i + 1), bk := E.nx }) ∧ ∀ δ' S', I ds.length δ' S' → E.nx δ' S') : WS K (tFor wi g tb) δ S E := fun Hs H σ D R L k =>
  h Hs H σ _ R L fun J ds Hs1 H1 S1 e1 R1 W ⟨I, h0, hs, hd⟩ => by
    refine ⟨fun i m σ' H' => m = ds.length - i ∧ i ≤ ds.length ∧ ∃ Hs' δ' S', Ex Hs1 Hs' ∧ Rep K Hs' H' S' ∧ Slt K Hs' σ' δ' ∧ I i δ' S', ⟨_, rfl, Nat.zero_le _, Hs1, δ, S1, Ex.refl _, R1, L.mono e1, h0⟩, ?_⟩
    rintro i m σ' H' ⟨rfl, hi, Hs', δ', S', e', R', L', p⟩
    by_cases hlt : i < ds.length
    · refine .inr ⟨W.go i H' hlt (e'.trans R'.ex), fun σ2 H2 => ∃ Hs2 δ2 S2, Ex Hs1 Hs2 ∧ Rep K Hs2 H2 S2 ∧ Slt K Hs2 σ2 δ2 ∧ I (i + 1) δ2 S2, fun σ2 H2 ⟨Hs2, δ2, S2, a, b, c, d⟩ => ⟨ds.length - (i + 1), by omega, rfl, hlt, Hs2, δ2, S2, a, b, c, d⟩, fun x H2 y => ?_⟩
      obtain ⟨Hs2, d, e2, R2, hdd, q⟩ := W.yld i Hs' H' S' x H2 hlt e' R' y
      refine hs i d δ' S' hdd p Hs2 H2 x σ' _ R2 (L'.mono e2) q fun Hs3 H3 σ3 δ3 S3 e3 R3 L3 w => ?_
      have eA : Ex Hs1 Hs3 := (e'.trans e2).trans e3
      have eB : Ex Hs Hs3 := e1.trans eA
      refine w Hs3 H3 σ3 _ R3 L3 ⟨fun Hs4 H4 σ4 δ4 S4 e4 R4 L4 z => ?_, fun v d Hs4 H4 S4 e4 R4 r z => k.rt v d Hs4 H4 S4 (eB.trans e4) R4 r z, fun Hs4 H4 σ4 δ4 S4 e4 R4 L4 z => k.nx Hs4 H4 σ4 δ4 S4 (eB.trans e4) R4 L4 z, fun Hs4 H4 σ4 δ4 S4 e4 R4 L4 z => ?_⟩
      · exact ⟨Hs4, δ4, S4, eA.trans e4, R4, L4, z⟩
      · exact ⟨Hs4, δ4, S4, eA.trans e4, R4, L4, z⟩
    · have e : i = ds.length := by omega
      subst e
      exact .inl ⟨W.stop H' (e'.trans R'.ex), k.nx Hs' H' σ' δ' S' (e1.trans e') R' L' (hd δ' S' p)⟩
/-- while: an invariant by a measure -/
theorem ws_while {c : TT} (I : Nat → Env → Sto → Prop) (m0 : Nat) (h0 : I m0 δ S)
    (hs : ∀ m δ' S', I m δ' S' → WT K c δ' S' fun b S1 => Br b (WS K tb δ' S1 { E with nx := fun δ2 S2 => ∃ m', m' < m ∧ I m' δ2 S2, ct := fun δ2 S2 => ∃ m', m' < m ∧ I m' δ2 S2, bk := E.nx }) (E.nx δ' S1)) : WS K (tWhile c tb) δ S E := fun Hs H σ D R L k => by
  refine ⟨fun m σ' H' => ∃ Hs' δ' S', Ex Hs Hs' ∧ Rep K Hs' H' S' ∧ Slt K Hs' σ' δ' ∧ I m δ' S', ⟨m0, Hs, δ, S, Ex.refl _, R, L, h0⟩, ?_⟩
  rintro m σ' H' ⟨Hs', δ', S', e', R', L', p⟩
  refine hs m δ' S' p Hs' H' σ' _ R' L' fun b Hs1 H1 S1 e1 R1 ⟨h1, h2⟩ => ?_
  have eB : Ex Hs Hs1 := e'.trans e1
  cases b with
  | true =>
    refine iteT ⟨fun σ2 H2 => ∃ Hs2 δ2 S2, Ex Hs Hs2 ∧ Rep K Hs2 H2 S2 ∧ Slt K Hs2 σ2 δ2 ∧ ∃ m', m' < m ∧ I m' δ2 S2, fun σ2 H2 ⟨Hs2, δ2, S2, a, b, c, m', hm, d⟩ => ⟨m', hm, Hs2, δ2, S2, a, b, c, d⟩, ?_⟩
    exact h1 rfl Hs1 H1 σ' _ R1 (L'.mono e1) ⟨fun Hs4 H4 σ4 δ4 S4 e4 R4 L4 z => ⟨Hs4, δ4, S4, eB.trans e4, R4, L4, z⟩, fun v d Hs4 H4 S4 e4 R4 r z => k.rt v d Hs4 H4 S4 (eB.trans e4) R4 r z, fun Hs4 H4 σ4 δ4 S4 e4 R4 L4 z => k.nx Hs4 H4 σ4 δ4 S4 (eB.trans e4) R4 L4 z, fun Hs4 H4 σ4 δ4 S4 e4 R4 L4 z => ⟨Hs4, δ4, S4, eB.trans e4, R4, L4, z⟩⟩
  | false => exact iteF (k.nx Hs1 H1 σ' δ' S1 eB R1 (L'.mono e1) (h2 rfl))
end

/-! ### comprehensions -/
/-- a target stores at a comprehension's own places alone -/
def Keeps (vs : List Nat) (g : TG) : Prop := ∀ (σ0 : St) v σ H (Q : St → Hp → Prop), wipe σ vs = σ0 → g v σ H Q → g v σ H fun σ' H' => wipe σ' vs = σ0 ∧ Q σ' H'
def KeepsL (vs : List Nat) (g : TGs) : Prop := ∀ (σ0 : St) v σ H (Q : St → Hp → Prop), wipe σ vs = σ0 → g v σ H Q → g v σ H fun σ' H' => wipe σ' vs = σ0 ∧ Q σ' H'
theorem wipe_set {i : Nat} {x : Option V} : ∀ {vs : List Nat} {σ : St}, i ∈ vs → wipe (σ.set i x) vs = wipe σ vs
  | [], _, h => absurd h (by simp)
  | v :: vs, σ, h => by
    show (wipe (σ.set i x) vs).set v none = (wipe σ vs).set v none
    by_cases hv : i ∈ vs
    · rw [wipe_set hv]
    · have e : i = v := by
        rcases List.mem_cons.mp h with e | e
        · exact e
        · exact absurd e hv
      subst e
      apply List.ext_getElem?
      intro j
      by_cases z : i = j
      · subst z
        by_cases hl : i < σ.length
        · rw [List.getElem?_set_self (by rw [wipe_length, List.length_set]; exact hl), List.getElem?_set_self (by rw [wipe_length]; exact hl)]
        · rw [List.getElem?_eq_none (by rw [List.length_set, wipe_length, List.length_set]; omega), List.getElem?_eq_none (by rw [List.length_set, wipe_length]; omega)]
      · rw [List.getElem?_set_ne z, List.getElem?_set_ne z]
        have : ∀ (ws : List Nat), (wipe (σ.set i x) ws)[j]? = (wipe σ ws)[j]? := by
          intro ws
          induction ws with
          | nil => show (σ.set i x)[j]? = σ[j]?; rw [List.getElem?_set_ne z]
          | cons w ws ih =>
            show ((wipe (σ.set i x) ws).set w none)[j]? = ((wipe σ ws).set w none)[j]?
            by_cases hw : w = j
            · subst hw
              by_cases hl : w < σ.length
              · rw [List.getElem?_set_self (by rw [wipe_length, List.length_set]; exact hl), List.getElem?_set_self (by rw [wipe_length]; exact hl)]
              · rw [List.getElem?_eq_none (by rw [List.length_set, wipe_length, List.length_set]; omega), List.getElem?_eq_none (by rw [List.length_set, wipe_length]; omega)]
            · rw [List.getElem?_set_ne hw, List.getElem?_set_ne hw, ih]
        exact this vs
theorem wipe_idem : ∀ (vs : List Nat) (σ : St), wipe (wipe σ vs) vs = wipe σ vs := by
  intro vs σ
  have : ∀ (ws : List Nat), (∀ w ∈ ws, w ∈ vs) → wipe (wipe σ ws) vs = wipe σ vs := by
    intro ws
    induction ws with
    | nil => intro _; rfl
    | cons w ws ih =>
      intro h
      show wipe ((wipe σ ws).set w none) vs = _
      rw [wipe_set (h w (List.mem_cons_self ..)), ih fun x hx => h x (List.mem_cons_of_mem _ hx)]
  exact this vs fun _ h => h
theorem keeps_name {vs : List Nat} {i : Nat} (h : i ∈ vs) : Keeps vs (gName i) := fun σ0 v σ H Q e q => ⟨by rw [wipe_set h]; exact e, q⟩
theorem keeps_nil {vs : List Nat} : KeepsL vs gNil := fun σ0 v σ H Q e ⟨h, q⟩ => ⟨h, e, q⟩
theorem keeps_cons {vs : List Nat} {g : TG} {gs : TGs} (h : Keeps vs g) (h' : KeepsL vs gs) (mono : ∀ v σ H (Q Q' : St → Hp → Prop), (∀ σ' H', Q σ' H' → Q' σ' H') → g v σ H Q → g v σ H Q') : KeepsL vs (gCons g gs) := fun σ0 v σ H Q e ⟨x, r, e1, q⟩ =>
  ⟨x, r, e1, mono _ _ _ _ _ (fun σ' H' ⟨e2, q2⟩ => h' σ0 r σ' H' Q e2 q2) (h σ0 x σ H _ e q)⟩
theorem keeps_tup {K : PySem.W.Frag} {vs : List Nat} {n : Nat} {gs : TGs} (h : KeepsL vs gs) : Keeps vs (gTup K n gs) := fun σ0 v σ H Q e ⟨a, xs, e1, e2, e3, q⟩ => ⟨a, xs, e1, e2, e3, h σ0 xs σ H Q e q⟩
theorem mono_name {i : Nat} : ∀ v σ H (Q Q' : St → Hp → Prop), (∀ σ' H', Q σ' H' → Q' σ' H') → gName i v σ H Q → gName i v σ H Q' := fun _ _ _ _ _ h q => h _ _ q
theorem mono_nil : ∀ v σ H (Q Q' : St → Hp → Prop), (∀ σ' H', Q σ' H' → Q' σ' H') → gNil v σ H Q → gNil v σ H Q' := fun _ _ _ _ _ h q => ⟨q.1, h _ _ q.2⟩
theorem mono_cons {g : TG} {gs : TGs} (m : ∀ v σ H (Q Q' : St → Hp → Prop), (∀ σ' H', Q σ' H' → Q' σ' H') → g v σ H Q → g v σ H Q') (m' : ∀ v σ H (Q Q' : St → Hp → Prop), (∀ σ' H', Q σ' H' → Q' σ' H') → gs v σ H Q → gs v σ H Q') :
    ∀ v σ H (Q Q' : St → Hp → Prop), (∀ σ' H', Q σ' H' → Q' σ' H') → gCons g gs v σ H Q → gCons g gs v σ H Q' := fun _ _ _ _ _ h ⟨x, r, e, q⟩ => ⟨x, r, e, m _ _ _ _ _ (fun σ' H' q2 => m' _ _ _ _ _ h q2) q⟩
theorem mono_tup {K : PySem.W.Frag} {n : Nat} {gs : TGs} (m' : ∀ v σ H (Q Q' : St → Hp → Prop), (∀ σ' H', Q σ' H' → Q' σ' H') → gs v σ H Q → gs v σ H Q') : ∀ v σ H (Q Q' : St → Hp → Prop), (∀ σ' H', Q σ' H' → Q' σ' H') → gTup K n gs v σ H Q → gTup K n gs v σ H Q' :=
  fun _ _ _ _ _ h ⟨a, xs, e1, e2, e3, q⟩ => ⟨a, xs, e1, e2, e3, m' _ _ _ _ _ h q⟩
section
variable {K : KX} {δ : Env} {S : Sto} {wi : TI} {g : TG} {tt : TT} {te : TE} {vs : List Nat} {Q : Kq}
theorem we_lc (hk : Keeps vs g) (h : WI K wi δ S fun ds S1 => ds.length ≤ sizeLine ∧ ∃ I : Nat → List D → Sto → Prop, I 0 [] S1 ∧
    (∀ i d acc S' p, ds[i]? = some d → I i acc S' → S' p = none → WG K g d (wipeE δ vs) (S'.upd p (.lst acc)) fun δ' S2 => WT K tt δ' S2 fun b S3 =>
      Br b (WE K te δ' S3 fun y S4 => ∃ S5, S4 = S5.upd p (.lst acc) ∧ S5 p = none ∧ I (i + 1) (acc ++ [y]) S5) (∃ S5, S3 = S5.upd p (.lst acc) ∧ S5 p = none ∧ I (i + 1) acc S5)) ∧
    ∀ acc S' p, I ds.length acc S' → S' p = none → Q (.ref p) (S'.upd p (.lst acc))) : WE K (tLc wi g tt te vs) δ S Q := fun Hs H σ QQ R L k =>
  h Hs H σ _ R L fun J ds Hs1 H1 S1 e1 R1 W ⟨hz, I, h0, hs, hd⟩ => by
    intro p hp
    obtain ⟨_, hp2⟩ := R1.free hp
    refine ⟨fun i m H' => m = ds.length - i ∧ i ≤ ds.length ∧ ∃ Hs' S' acc, Ex Hs1 Hs' ∧ S' p = none ∧ Rep K Hs' H' (S'.upd p (.lst acc)) ∧ acc.length ≤ i ∧ I i acc S', ⟨_, rfl, Nat.zero_le _, Hs1, S1, [], Ex.refl _, hp2, R1.newO hp (ho := .lst []) (o := .lst []) .nil, Nat.le_refl _, h0⟩, ?_⟩
    rintro i m H' ⟨rfl, hi, Hs', S', acc, e', hp', R', hl, w⟩
    by_cases hlt : i < ds.length
    · refine .inr ⟨W.go i H' hlt (e'.trans R'.ex), fun H2 => ∃ Hs2 S2 acc2, Ex Hs1 Hs2 ∧ S2 p = none ∧ Rep K Hs2 H2 (S2.upd p (.lst acc2)) ∧ acc2.length ≤ i + 1 ∧ I (i + 1) acc2 S2, fun H2 ⟨Hs2, S2, acc2, a, b, c, d, f⟩ => ⟨ds.length - (i + 1), by omega, rfl, hlt, Hs2, S2, acc2, a, b, c, d, f⟩, fun x H2 y => ?_⟩
      obtain ⟨Hs2, d, e2, R2, hdd, q⟩ := W.yld i Hs' H' _ x H2 hlt e' R' y
      have L2 : Slt K Hs2 (wipe σ vs) (wipeE δ vs) := (L.mono (e1.trans (e'.trans e2))).wipe vs
      refine hk (wipe σ vs) x (wipe σ vs) H2 _ (wipe_idem vs σ) (hs i d acc S' p hdd w hp' Hs2 H2 x (wipe σ vs) _ R2 L2 q fun Hs3 H3 σ3 δ3 S3 e3 R3 L3 z => ?_)
      refine z Hs3 H3 σ3 _ R3 L3 fun b Hs4 H4 S4 e4 R4 ⟨z1, z0⟩ => ?_
      have eA : Ex Hs1 Hs4 := ((e'.trans e2).trans e3).trans e4
      cases b with
      | true =>
        refine iteT (z1 rfl Hs4 H4 σ3 _ R4 (L3.mono e4) fun v y Hs5 H5 S5 e5 R5 r5 ⟨S6, hS, hp6, q6⟩ => ?_)
        subst hS
        obtain ⟨_, ho, g1, g2⟩ := R5.ob p _ upd_at
        cases ho with
        | lst ws =>
          have g3 : DatA K Hs5 ws acc := g2
          refine ⟨ws, g1, by rw [g3.len]; omega, Hs5, S6, acc ++ [y], eA.trans e5, hp6, ?_, by rw [List.length_append, List.length_singleton]; omega, q6⟩
          have := R5.write upd_at (ho := .lst (ws ++ [v])) (o := .lst (acc ++ [y])) (g3.append (.cons r5 .nil))
          rw [upd_twice] at this
          exact this
        | _ => exact (g2 : False).elim
      | false =>
        obtain ⟨S6, hS, hp6, q6⟩ := z0 rfl
        subst hS
        exact iteF ⟨Hs4, S6, acc, eA, hp6, R4, by omega, q6⟩
    · have e : i = ds.length := by omega
      subst e
      exact .inl ⟨W.stop H' (e'.trans R'.ex), k _ _ Hs' H' _ (e1.trans e') R' (.ref p) (hd acc S' p w hp')⟩
/-- nothing of ours changes on the way: the i-th kept or not by f -/
theorem we_lcp {α : Type} (hk : Keeps vs g) (h : WI K wi δ S fun ds S1 => ∃ (xs : List α) (enc : α → D) (f : α → Option D), ds = xs.map enc ∧ xs.length ≤ sizeLine ∧
    (∀ x ∈ xs, ∀ S', Sub S1 S' → WG K g (enc x) (wipeE δ vs) S' fun δ' S2 => WT K tt δ' S2 fun b S3 => Br b (WE K te δ' S3 fun y S4 => S4 = S' ∧ f x = some y) (S3 = S' ∧ f x = none)) ∧
    NewL S1 (xs.filterMap f) Q) : WE K (tLc wi g tt te vs) δ S Q := by
  have main : ∀ P : Kq, WI K wi δ S (fun ds S1 => ∃ (xs : List α) (enc : α → D) (f : α → Option D), ds = xs.map enc ∧ xs.length ≤ sizeLine ∧
    (∀ x ∈ xs, ∀ S', Sub S1 S' → WG K g (enc x) (wipeE δ vs) S' fun δ' S2 => WT K tt δ' S2 fun b S3 => Br b (WE K te δ' S3 fun y S4 => S4 = S' ∧ f x = some y) (S3 = S' ∧ f x = none)) ∧
    ∀ p, S1 p = none → P (.ref p) (S1.upd p (.lst (xs.filterMap f)))) → WE K (tLc wi g tt te vs) δ S P := by
    intro P h
    refine we_lc hk fun Hs H σ RR R L k => h Hs H σ RR R L fun J ds Hs' H' S' e R' W ⟨xs, enc, f, hd, hz, hs, hq⟩ => k J ds Hs' H' S' e R' W ?_
    subst hd
    refine ⟨by rw [List.length_map]; exact hz, fun i acc S2 => S2 = S' ∧ acc = (xs.take i).filterMap f, ⟨rfl, rfl⟩, fun i d acc S2 p hi ⟨e1, e2⟩ hp => ?_, fun acc S2 p ⟨e1, e2⟩ hp => ?_⟩
    · subst e1 e2
      rw [List.getElem?_map] at hi
      cases hx : xs[i]? with
      | none => rw [hx] at hi; cases hi
      | some x =>
        rw [hx] at hi
        cases hi
        have ht : xs.take (i + 1) = xs.take i ++ [x] := by rw [List.take_add_one, hx]; rfl
        have := hs x (List.mem_of_getElem? hx) (S2.upd p (.lst ((xs.take i).filterMap f))) (Sub.new hp)
        refine fun Hs H v σ QQ R L r k => this Hs H v σ QQ R L r fun Hs' H' σ' δ' S' e R' L' q => k Hs' H' σ' δ' S' e R' L' (q.imp fun b S3 ⟨q1, q0⟩ => ⟨fun hb => (q1 hb).imp fun y S4 ⟨e1, e2⟩ => ⟨S2, e1, hp, rfl, ?_⟩, fun hb => ⟨S2, (q0 hb).1, hp, rfl, ?_⟩⟩)
        · rw [ht, List.filterMap_append]
          simp [e2]
        · rw [ht, List.filterMap_append]
          simp [(q0 hb).2]
    · subst e1 e2
      rw [List.length_map, List.take_length]
      exact hq p hp
  intro Hs H σ QQ R L k
  -- shared or ours: told at the end
  refine (main (fun d S' => ∃ S2 p ds, d = .ref p ∧ S2 p = none ∧ S' = S2.upd p (.lst ds) ∧ NewL S2 ds Q) fun Hs H σ RR R L k => h Hs H σ RR R L fun J ds Hs' H' S' e R' W ⟨xs, enc, f, hd, hz, hs, hq⟩ => k J ds Hs' H' S' e R' W ⟨xs, enc, f, hd, hz, hs, fun p hp => ⟨S', p, _, rfl, hp, rfl, hq⟩⟩) Hs H σ QQ R L fun v d Hs' H' S' e R' r ⟨S2, p, ds, e1, hp, e2, hq⟩ => ?_
  subst e1 e2
  rcases hq with hq | hq
  · cases r
    obtain ⟨Hs2, e3, R3, r3⟩ := R'.freeze upd_at
    rw [del_upd hp] at R3
    exact k _ _ Hs2 H' S2 (e.trans e3) R3 r3 hq
  · exact k _ _ Hs' H' _ e R' r (hq p hp)
theorem wt_yes {B : Bool → Sto → Prop} (h : B true S) : WT K tYes δ S B := fun Hs H σ QQ R L k => k true Hs H S (Ex.refl _) R h
end

/-! ### calls, bodies -/
/-- a def by what it does to plain data -/
def spF (K : PySem.W.Frag) (n : Nat) (φ : PhA) : Sp := fun vs H QQ _ => vs.length = n ∧ ∃ Hs S ds q, Rep K Hs H S ∧ DatA K Hs vs ds ∧ φ ds S q ∧ Cont K Hs q QQ
section
variable {K : KX} {δ : Env} {S : Sto} {t : TA} {Q : Kq}
theorem we_call {n : Nat} {φ : PhA} {E : XK} (h : WA K t δ S fun ds S1 => ds.length = n ∧ φ ds S1 Q) : WE K (tCall (spF K n φ) [] E t) δ S Q := fun Hs H σ QQ R L k =>
  h Hs H σ _ R L fun vs ds Hs1 H1 S1 e1 R1 r1 ⟨hl, q⟩ => by
    show spF K n φ (vs ++ []) H1 QQ E
    rw [List.append_nil]
    exact ⟨by rw [r1.len]; exact hl, Hs1, S1, ds, Q, R1, r1, q, fun v' d' Hs' H' S' e R' => k v' d' Hs' H' S' (e1.trans e) R'⟩
end
def startE (N : List Str) (ds : List D) : Env := ds.map some ++ List.replicate (N.length - ds.length) none
theorem slt_start {K : KX} {H : Hp} {N : List Str} {vs : List V} {ds : List D} (eb : Ex K.b H) (r : DatA K H vs ds) : Slt K H (L2.start N vs) (startE N ds) := by
  refine ⟨⟨by unfold L2.start startE; simp [r.len], fun i d h => ?_⟩, eb⟩
  unfold startE at h
  unfold L2.start
  by_cases hi : i < ds.length
  · rw [List.getElem?_append_left (by simpa using hi), List.getElem?_map] at h
    cases e : ds[i]? with
    | none => rw [e] at h; cases h
    | some d' =>
      rw [e] at h
      cases h
      obtain ⟨v, hv, q⟩ := r.get e
      exact ⟨v, by rw [List.getElem?_append_left (by simpa [r.len] using hi), List.getElem?_map, hv]; rfl, q⟩
  · rw [List.getElem?_append_right (by simpa using hi)] at h
    rw [List.getElem?_replicate] at h
    split at h <;> cases h
section
variable {P : Program} {w : World} {K : PySem.W.Frag} {mg : Str → Option Value} {base : Heap}
theorem okF {x qual : Str} {st : Stmt} {f : Addr} {fd : FuncData} {N ps : List Str} {k : Nat} {φ : PhA} (F : Fun K x qual st f fd) (Sc : FnScope N ps (defScope st))
    (hbody : ∀ (cdv : Value) (A : Around) (outer : List PySem.Env) (s : Shared) (H : Hp) (E : XK), Room k (A.deeper (PyProof.Rows.envOfC qual (defScope st) s.heap.objs.size f cdv)) →
      ∃ t, PSs (cxOf CX0 P w K mg base N qual (defScope st) f cdv A outer s H E).nox (defBody st) t ∧
        ∀ ds S q, ds.length = ps.length → φ ds S q → WS ⟨K, fun _ => none⟩ t (startE N ds) S { nx := fun _ S' => q .non S', rt := q }) : FnOk P w K mg base CX0 (k + 1) f fd ps (spF K ps.length φ) := by
  refine F.ok Sc (fun vs H Q E h => h.1) fun cdv A outer s H vs Q E hr h => ?_
  obtain ⟨hl, Hs, S, ds, q, R, r, hφ, k0⟩ := h
  obtain ⟨t, ht, hw⟩ := hbody cdv A outer s H E hr
  refine ⟨t, ht, hw ds S q (by rw [← r.len]; exact hl) hφ Hs H (L2.start N vs) _ R (slt_start (K := ⟨K, fun _ => none⟩) (fun _ _ z => nomatch z) r) ⟨fun Hs' H' σ' δ' S' e R' L' z => k0 _ _ Hs' H' S' e R' .non z, fun v d Hs' H' S' e R' r z => k0 v d Hs' H' S' e R' r z, fun _ _ _ _ _ _ _ _ z => z.elim, fun _ _ _ _ _ _ _ _ z => z.elim⟩⟩
end

/-! ### a list, a tuple, a text: whatever is walked -/
def iAny (K : PySem.W.Frag) (tl : TE) : TI := fun σ H R => tl σ H fun x H1 => (∃ a, x = .ref a ∧ (∃ xs, SqL K H1 a xs) ∧ R (Itl K a) H1) ∨ (∃ a, x = .ref a ∧ (∃ xs, SqT K H1 a xs) ∧ R (Itt K a) H1) ∨ ∃ z, x = .str z ∧ R (Its z) H1
theorem pi_any {X : Cx} {tg l : Expr} {tl : TE} (hl : PE X l tl) : PI X tg l (iAny X.K tl) := by
  refine ⟨fun pins s σ H R I h => ?_⟩
  refine thn (hl.run pins s σ H _ I h) fun v s1 ⟨x, H1, I1, r1, q1⟩ => ?_
  rcases q1 with q1 | q1 | q1
  · obtain ⟨a, e, ⟨xs, hq⟩, q⟩ := q1
    subst e
    cases r1
    obtain ⟨its, rv, p, hz⟩ := I1.list hq
    refine wpAny_pyIter_list p.isList ?_
    refine ⟨s1.heap.objs.size, [s1.heap.objs.size], _, _, H1, rfl, I1.kept (t' := s1.toks) fun b o e => Heap.get?_push_of_some _ e, turn_list a _, ⟨_, Heap.get?_push_size _ rfl, rfl, rfl⟩, fun b hb => ?_, q⟩
    have e : b = s1.heap.objs.size := by simpa using hb
    subst e
    exact I1.fpOk (Nat.le_refl _) (I1.hok.fresh (Nat.le_refl _))
  · obtain ⟨a, e, ⟨xs, hq⟩, q⟩ := q1
    subst e
    cases r1
    obtain ⟨its, rv, p, hz⟩ := I1.tuple hq
    refine wpAny_pyIter_tuple (show s1.heap.IsTuple a its.toArray from p) ?_
    refine ⟨s1.heap.objs.size, [s1.heap.objs.size], _, _, H1, rfl, I1.kept (t' := s1.toks) fun b o e => Heap.get?_push_of_some _ e, turn_tuple a _, ⟨_, Heap.get?_push_size _ rfl, rfl, rfl⟩, fun b hb => ?_, q⟩
    have e : b = s1.heap.objs.size := by simpa using hb
    subst e
    exact I1.fpOk (Nat.le_refl _) (I1.hok.fresh (Nat.le_refl _))
  · obtain ⟨z, e, q⟩ := q1
    subst e
    obtain ⟨t, rfl⟩ := r1
    cases ha : z.cps.all (· < 128)
    · exact wpAny_pyIter_wide ha (pi_one (tk := s1.toks) I1 _ (turn_str _ z t "str_iterator" (.inr rfl)) ⟨_, Heap.get?_push_size _ rfl, rfl, rfl⟩ q)
    · exact wpAny_pyIter_ascii ha (pi_one (tk := s1.toks) I1 _ (turn_str _ z t "str_ascii_iterator" (.inl rfl)) ⟨_, Heap.get?_push_size _ rfl, rfl, rfl⟩ q)
/-- what a walk over d yields -/
def iterOf (S : Sto) : D → Option (List D)
  | .str z => some (z.cps.toList.map fun c => .str ⟨#[c]⟩)
  | .lst xs => some xs
  | .scr xs => some xs
  | .tup xs => some xs
  | .key xs => some xs
  | _ => none
theorem wi_any {K : KX} {δ : Env} {S : Sto} {te : TE} {R : List D → Sto → Prop} (h : WE K te δ S fun d S1 => ∃ ds, iterOf S1 d = some ds ∧ R ds S1) : WI K (iAny K te) δ S R := fun Hs H σ RR R0 L k => h Hs H σ _ R0 L fun v d Hs1 H1 S1 e1 R1 r1 ⟨ds, hd, q⟩ => by
  cases r1 with
  | lst hq ha => cases hd; exact .inl ⟨_, rfl, ⟨_, .of (R1.ex _ _ hq)⟩, k _ _ Hs1 H1 S1 e1 R1 (dw_list (.of hq) ha) q⟩
  | scr hq ha => cases hd; exact .inl ⟨_, rfl, ⟨_, R1.ex.sqL hq⟩, k _ _ Hs1 H1 S1 e1 R1 (dw_list hq ha) q⟩
  | tup hq ha => cases hd; exact .inr (.inl ⟨_, rfl, ⟨_, (R1.ex.tc hq).sq⟩, k _ _ Hs1 H1 S1 e1 R1 (dw_tup hq.sq ha) q⟩)
  | key hq ha => cases hd; exact .inr (.inl ⟨_, rfl, ⟨_, .of (R1.ex _ _ hq)⟩, k _ _ Hs1 H1 S1 e1 R1 (dw_tup (.of hq) ha) q⟩)
  | str z => cases hd; exact .inr (.inr ⟨z, rfl, k _ _ Hs1 H1 S1 e1 R1 dw_str q⟩)
  | _ => cases hd
end PL

set_option Elab.async false
set_option linter.all false
set_option maxRecDepth 100000
set_option maxHeartbeats 4000000
/-! PL5: dicts, sorted, reversed slices, three at once over plain data. -/
namespace PL
open PySem L2

/-! ### tables -/
section
variable {κ : Type} [DecidableEq κ]
def valD (kvs : List (κ × D)) (k : κ) : Option D := (kvs.find? fun kv => decide (kv.1 = k)).map (·.2)
def putD (kvs : List (κ × D)) (k : κ) (v : D) : List (κ × D) :=
  if (kvs.any fun kv => decide (kv.1 = k)) = true then kvs.map (fun kv => if kv.1 = k then (kv.1, v) else kv) else kvs ++ [(k, v)]
abbrev PairD (K : PySem.W.Frag) (H : Hp) (p : κ × V) (q : κ × D) : Prop := p.1 = q.1 ∧ Dat K H p.2 q.2
variable {K : PySem.W.Frag} {H : Hp}
theorem pairD_val {k : κ} : ∀ {kvs : List (κ × V)} {kds : List (κ × D)}, Paired (PairD K H) kvs kds → (valD kds k = none → valV kvs k = none) ∧ ∀ d, valD kds k = some d → ∃ v, valV kvs k = some v ∧ Dat K H v d
  | _, _, .nil => ⟨fun _ => rfl, fun d h => by cases h⟩
  | _, _, @Paired.cons _ _ _ p q r t h rest => by
    have ih := pairD_val (k := k) rest
    by_cases e : p.1 = k
    · have e' : q.1 = k := h.1.symm.trans e
      have e1 : valD (q :: t) k = some q.2 := by simp [valD, List.find?_cons, e']
      rw [e1, valV_pos e]
      exact ⟨(fun z => nomatch z), fun d z => by cases z; exact ⟨_, rfl, h.2⟩⟩
    · have e' : ¬ q.1 = k := fun z => e (h.1.trans z)
      have e1 : valD (q :: t) k = valD t k := by simp [valD, List.find?_cons, e']
      rw [e1, valV_neg e]
      exact ih
theorem pairD_any {k : κ} : ∀ {kvs : List (κ × V)} {kds : List (κ × D)}, Paired (PairD K H) kvs kds → (kvs.any fun kv => decide (kv.1 = k)) = (kds.any fun kv => decide (kv.1 = k))
  | _, _, .nil => rfl
  | _, _, .cons h rest => by rw [List.any_cons, List.any_cons, h.1, pairD_any rest]
theorem pairD_map {k : κ} {v : V} {d : D} (q : Dat K H v d) : ∀ {kvs : List (κ × V)} {kds : List (κ × D)}, Paired (PairD K H) kvs kds → Paired (PairD K H) (kvs.map fun kv => if kv.1 = k then (kv.1, v) else kv) (kds.map fun kv => if kv.1 = k then (kv.1, d) else kv)
  | _, _, .nil => .nil
  | _, _, @Paired.cons _ _ _ p p' _ _ h rest => by
    refine .cons ?_ (pairD_map q rest)
    show PairD K H (if p.1 = k then (p.1, v) else p) (if p'.1 = k then (p'.1, d) else p')
    by_cases e : p.1 = k
    · rw [if_pos e, if_pos (h.1.symm.trans e)]
      exact ⟨h.1, q⟩
    · rw [if_neg e, if_neg (fun z => e (h.1.trans z))]
      exact h
theorem paired_append {α β : Type} {F : α → β → Prop} : ∀ {a b : List α} {c d : List β}, Paired F a c → Paired F b d → Paired F (a ++ b) (c ++ d)
  | _, _, _, _, .nil, s => s
  | _, _, _, _, .cons r t, s => .cons r (paired_append t s)
theorem pairD_put {k : κ} {v : V} {d : D} {kvs : List (κ × V)} {kds : List (κ × D)} (h : Paired (PairD K H) kvs kds) (q : Dat K H v d) : Paired (PairD K H) (putK kvs k v) (putD kds k d) := by
  unfold putK putD
  rw [pairD_any h]
  split
  · exact pairD_map q h
  · exact paired_append h (.cons ⟨rfl, q⟩ .nil)
end
def kD : Key → D
  | .inl i => .int i
  | .inr x => .str x
theorem dat_kD {K : PySem.W.Frag} {H : Hp} {v : V} {k : Key} (h : Dat K H v (kD k)) : v = kV k := by
  cases k <;> (cases h; rfl)
theorem datA_kD {K : PySem.W.Frag} {H : Hp} : ∀ {vs : List V} {ks : List Key}, DatA K H vs (ks.map kD) → vs = ks.map kV
  | _, [], .nil => rfl
  | _, k :: ks, .cons q r => by rw [dat_kD q, datA_kD r]; rfl
def mergeD (kvs more : List (Key × D)) : List (Key × D) := more.foldl (fun acc kv => putD acc kv.1 kv.2) kvs
theorem pairD_merge {K : PySem.W.Frag} {H : Hp} : ∀ {more : List (Key × V)} {mds : List (Key × D)} {kvs : List (Key × V)} {kds : List (Key × D)}, Paired (PairD K H) more mds → Paired (PairD K H) kvs kds → Paired (PairD K H) (mergeK kvs more) (mergeD kds mds)
  | _, _, _, _, .nil, s => s
  | _, _, _, _, @Paired.cons _ _ _ p q _ _ h rest, s => by
    have := pairD_put (k := p.1) s h.2
    unfold mergeK mergeD
    rw [List.foldl_cons, List.foldl_cons, ← h.1]
    exact pairD_merge rest this
theorem mergeD_nodup : ∀ (more kvs : List (Key × D)), ((kvs ++ more).map (·.1)).Nodup → mergeD kvs more = kvs ++ more
  | [], kvs, _ => by simp [mergeD]
  | p :: r, kvs, h => by
    have hp : (kvs.any fun kv => decide (kv.1 = p.1)) = false := by
      rw [List.any_eq_false]
      intro x hx e
      rw [List.map_append, List.map_cons] at h
      have := (List.nodup_append.mp h).2.2 x.1 (List.mem_map.mpr ⟨x, hx, rfl⟩) p.1 (List.mem_cons_self ..)
      exact this (of_decide_eq_true e)
    have e : mergeD kvs (p :: r) = mergeD (kvs ++ [p]) r := by
      unfold mergeD
      rw [List.foldl_cons]
      unfold putD
      rw [hp]
      rfl
    rw [e, mergeD_nodup r (kvs ++ [p]) (by rw [List.append_assoc]; exact h), List.append_assoc]
    rfl
/-- what a dict of ours holds -/
inductive HasD (S : Sto) (a : Addr) : D → Option D → Prop
  | k {kvs : List (Key × D)} (k : Key) : S a = some (.dK kvs) → HasD S a (kD k) (valD kvs k)
  | t {kvs : List (List Key × D)} (k : List Key) : S a = some (.dT kvs) → HasD S a (.key (k.map kD)) (valD kvs k)
theorem hasD_rep {K : PySem.W.Frag} {Hs H : Hp} {S : Sto} {a : Addr} {v : V} {y : D} {o : Option D} (R : Rep K Hs H S) (r : Dat K Hs v y) (h : HasD S a y o) : ∃ u, DGet H a v u ∧ (o = none → u = none) ∧ ∀ d, o = some d → ∃ w, u = some w ∧ Dat K Hs w d := by
  cases h with
  | k k hS =>
    obtain ⟨_, ho, h2, h3⟩ := R.ob a _ hS
    cases ho with
    | dK kvs =>
      rw [dat_kD r]
      exact ⟨_, .k h2, (pairD_val h3).1, fun d e => (pairD_val h3).2 d e⟩
    | _ => exact (h3 : False).elim
  | t k hS =>
    obtain ⟨_, ho, h2, h3⟩ := R.ob a _ hS
    cases ho with
    | dT kvs =>
      cases r with
      | key hq ha =>
        rw [datA_kD ha] at hq
        exact ⟨_, .t h2 (R.ex _ _ hq), (pairD_val h3).1, fun d e => (pairD_val h3).2 d e⟩
    | _ => exact (h3 : False).elim
/-- a dict of ours behind a store -/
inductive PutsD (S : Sto) (a : Addr) : D → D → Sto → Prop
  | k {kvs : List (Key × D)} (k : Key) (d : D) : S a = some (.dK kvs) → kvs.length < sizeLine → PutsD S a (kD k) d (S.upd a (.dK (putD kvs k d)))
  | t {kvs : List (List Key × D)} (k : List Key) (d : D) : S a = some (.dT kvs) → kvs.length < sizeLine → PutsD S a (.key (k.map kD)) d (S.upd a (.dT (putD kvs k d)))
theorem paired_len {α β : Type} {F : α → β → Prop} : ∀ {a : List α} {c : List β}, Paired F a c → a.length = c.length
  | _, _, .nil => rfl
  | _, _, .cons _ t => by rw [List.length_cons, List.length_cons, paired_len t]
theorem putsD_rep {K : PySem.W.Frag} {Hs H : Hp} {S S' : Sto} {a : Addr} {v w : V} {y d : D} (R : Rep K Hs H S) (r : Dat K Hs v y) (r2 : Dat K Hs w d) (h : PutsD S a y d S') : ∃ H', DPut H a v w H' ∧ Rep K Hs H' S' := by
  cases h with
  | k k d hS hz =>
    obtain ⟨_, ho, h2, h3⟩ := R.ob a _ hS
    cases ho with
    | dK kvs =>
      have h4 : Paired (PairD K Hs) kvs _ := h3
      rw [dat_kD r]
      exact ⟨_, .k h2 (by rw [paired_len h4]; exact hz), R.write hS (ho := .dK _) (o := .dK _) (pairD_put h4 r2)⟩
    | _ => exact (h3 : False).elim
  | t k d hS hz =>
    obtain ⟨_, ho, h2, h3⟩ := R.ob a _ hS
    cases ho with
    | dT kvs =>
      have h4 : Paired (PairD K Hs) kvs _ := h3
      cases r with
      | key hq ha =>
        rw [datA_kD ha] at hq
        exact ⟨_, .t h2 (R.ex _ _ hq) (by rw [paired_len h4]; exact hz), R.write hS (ho := .dT _) (o := .dT _) (pairD_put h4 r2)⟩
    | _ => exact (h3 : False).elim
section
variable {K : KX} {δ : Env} {S : Sto} {td ty tv tx : TE} {Q : Kq} {E : AE}
theorem we_dget (h : WE K td δ S fun x S1 => WE K ty δ S1 fun y S2 => ∃ a d, x = .ref a ∧ HasD S2 a y (some d) ∧ Q d S2) : WE K (tDGet td ty) δ S Q := fun Hs H σ QQ R L k =>
  h Hs H σ _ R L fun v x Hs1 H1 S1 e1 R1 r1 h2 => h2 Hs1 H1 σ _ R1 (L.mono e1) fun w y Hs2 H2 S2 e2 R2 r2 ⟨a, d, hx, hd, q⟩ => by
    subst hx; cases r1
    obtain ⟨u, g1, _, g2⟩ := hasD_rep R2 r2 hd
    obtain ⟨z, rfl, rz⟩ := g2 d rfl
    exact ⟨a, z, rfl, g1, k z d Hs2 H2 S2 (e1.trans e2) R2 rz q⟩
theorem we_din (h : WE K ty δ S fun y S1 => WE K td δ S1 fun x S2 => ∃ a o, x = .ref a ∧ HasD S2 a y o ∧ Q (.bl o.isSome) S2) : WE K (tDIn ty td) δ S Q := fun Hs H σ QQ R L k =>
  h Hs H σ _ R L fun v y Hs1 H1 S1 e1 R1 r1 h2 => h2 Hs1 H1 σ _ R1 (L.mono e1) fun w x Hs2 H2 S2 e2 R2 r2 ⟨a, o, hx, hd, q⟩ => by
    subst hx; cases r2
    obtain ⟨u, g1, g0, g2⟩ := hasD_rep R2 (r1.mono e2) hd
    refine ⟨a, u, rfl, g1, ?_⟩
    cases o with
    | none => rw [g0 rfl]; exact k _ _ Hs2 H2 S2 (e1.trans e2) R2 (.bl _) q
    | some d =>
      obtain ⟨z, rfl, _⟩ := g2 d rfl
      exact k _ _ Hs2 H2 S2 (e1.trans e2) R2 (.bl _) q
theorem we_dnotin (h : WE K ty δ S fun y S1 => WE K td δ S1 fun x S2 => ∃ a o, x = .ref a ∧ HasD S2 a y o ∧ Q (.bl (!o.isSome)) S2) : WE K (tDNotIn ty td) δ S Q := fun Hs H σ QQ R L k =>
  h Hs H σ _ R L fun v y Hs1 H1 S1 e1 R1 r1 h2 => h2 Hs1 H1 σ _ R1 (L.mono e1) fun w x Hs2 H2 S2 e2 R2 r2 ⟨a, o, hx, hd, q⟩ => by
    subst hx; cases r2
    obtain ⟨u, g1, g0, g2⟩ := hasD_rep R2 (r1.mono e2) hd
    refine ⟨a, u, rfl, g1, ?_⟩
    cases o with
    | none => rw [g0 rfl]; exact k _ _ Hs2 H2 S2 (e1.trans e2) R2 (.bl _) q
    | some d =>
      obtain ⟨z, rfl, _⟩ := g2 d rfl
      exact k _ _ Hs2 H2 S2 (e1.trans e2) R2 (.bl _) q
/-- d.get(k, x) -/
theorem we_dget2 (h : WE K td δ S fun x S1 => ∃ a, x = .ref a ∧ ((∃ kvs, S1 a = some (.dK kvs)) ∨ ∃ kvs, S1 a = some (.dT kvs)) ∧ WE K ty δ S1 fun y S2 => WE K tx δ S2 fun z S3 => ∃ o, HasD S3 a y o ∧ Q (o.getD z) S3) : WE K (tDGet2 td ty tx) δ S Q := fun Hs H σ QQ R L k =>
  h Hs H σ _ R L fun v x Hs1 H1 S1 e1 R1 r1 ⟨a, hx, hD, h2⟩ => by
    subst hx; cases r1
    refine ⟨a, rfl, ?_, h2 Hs1 H1 σ _ R1 (L.mono e1) fun w y Hs2 H2 S2 e2 R2 r2 h3 => h3 Hs2 H2 σ _ R2 (L.mono (e1.trans e2)) fun zv z Hs3 H3 S3 e3 R3 r3 ⟨o, hd, q⟩ => ?_⟩
    · rcases hD with ⟨kvs, hS⟩ | ⟨kvs, hS⟩
      · obtain ⟨_, ho, g2, g3⟩ := R1.ob a _ hS
        cases ho with
        | dK kvs => exact .inl ⟨_, .of g2⟩
        | _ => exact (g3 : False).elim
      · obtain ⟨_, ho, g2, g3⟩ := R1.ob a _ hS
        cases ho with
        | dT kvs => exact .inr ⟨_, .of g2⟩
        | _ => exact (g3 : False).elim
    · obtain ⟨u, g1, g0, g2⟩ := hasD_rep R3 (r2.mono e3) hd
      refine ⟨u, g1, ?_⟩
      cases o with
      | none => rw [g0 rfl]; exact k _ _ Hs3 H3 S3 ((e1.trans e2).trans e3) R3 r3 q
      | some d =>
        obtain ⟨z, rfl, rz⟩ := g2 d rfl
        exact k _ _ Hs3 H3 S3 ((e1.trans e2).trans e3) R3 rz q
theorem ws_dput (h : WE K tv δ S fun d S1 => WE K td δ S1 fun x S2 => WE K ty δ S2 fun y S3 => ∃ a S4, x = .ref a ∧ PutsD S3 a y d S4 ∧ E.nx δ S4) : WS K (sDPut td ty tv) δ S E := fun Hs H σ D R L k =>
  h Hs H σ _ R L fun v d Hs1 H1 S1 e1 R1 r1 h2 => h2 Hs1 H1 σ _ R1 (L.mono e1) fun w x Hs2 H2 S2 e2 R2 r2 h3 => h3 Hs2 H2 σ _ R2 (L.mono (e1.trans e2)) fun u y Hs3 H3 S3 e3 R3 r3 ⟨a, S4, hx, hp, q⟩ => by
    subst hx; cases r2
    obtain ⟨H4, g1, R4⟩ := putsD_rep R3 r3 (r1.mono (e2.trans e3)) hp
    exact ⟨a, H4, rfl, g1, k.nx Hs3 H4 σ δ S4 ((e1.trans e2).trans e3) R4 (L.mono ((e1.trans e2).trans e3)) q⟩
theorem we_dnewK (h : ∀ p, S p = none → Q (.ref p) (S.upd p (.dK []))) : WE K tDNewK δ S Q := fun Hs H σ QQ R L k p hp => k _ _ Hs _ _ (Ex.refl _) (R.newO hp (ho := .dK []) (o := .dK []) .nil) (.ref p) (h p (R.free hp).2)
theorem we_dnewT (h : ∀ p, S p = none → Q (.ref p) (S.upd p (.dT []))) : WE K tDNewT δ S Q := fun Hs H σ QQ R L k p hp => k _ _ Hs _ _ (Ex.refl _) (R.newO hp (ho := .dT []) (o := .dT []) .nil) (.ref p) (h p (R.free hp).2)
end
/-- dict(x), x a list of pairs -/
def phDictP : PhA := fun ds S q => ∃ (x : D) (ps : List (Key × D)), ds = [x] ∧ asL S x = some (ps.map fun p => .tup [kD p.1, p.2]) ∧ ∀ p, S p = none → q (.ref p) (S.upd p (.dK (mergeD [] ps)))
theorem cDict {X : Cx} (hc : X.calm = true) : CallR X (.type "dict") (rA X.K phDictP) := by
  intro pins s σ H vs us Q I rv ⟨Hs, S, ds, q, R, hd, ⟨x, ps, e, h1, h⟩, k⟩
  subst e
  cases hd with
  | cons r1 r2 =>
    cases r2
    obtain ⟨a, ws, rfl, hl, ha⟩ := asL_rep R r1 h1
    have main : ∀ (ps : List (Key × D)) (ws : List V), DatA X.K Hs ws (ps.map fun p => D.tup [kD p.1, p.2]) → ∃ (ts : List Addr) (kvs : List (Key × V)), ws = ts.map V.ref ∧ Paired (fun p kv => SqT X.K H p [kV kv.1, kv.2]) ts kvs ∧ Paired (PairD X.K Hs) kvs ps := by
      intro ps
      induction ps with
      | nil => intro ws h; cases h; exact ⟨[], [], rfl, .nil, .nil⟩
      | cons p ps ih =>
        intro ws h
        cases h with
        | cons q1 q2 =>
          obtain ⟨ts, kvs, e1, e2, e3⟩ := ih _ q2
          cases q1 with
          | tup hq ha =>
            cases ha with
            | cons k1 k2 => cases k2 with
              | cons k2 k3 =>
                cases k3
                have := dat_kD k1
                subst this
                exact ⟨_ :: ts, (p.1, _) :: kvs, by rw [e1]; rfl, .cons (R.ex.tc hq).sq e2, .cons ⟨rfl, k2⟩ e3⟩
    obtain ⟨ts, kvs, e1, e2, e3⟩ := main ps ws ha
    subst e1
    exact call_dictP hc pins s σ H _ us Q I rv ⟨a, ts, kvs, rfl, .of hl, e2, fun p hp => k _ _ Hs _ _ (Ex.refl _) (R.newO hp (ho := .dK _) (o := .dK _) (pairD_merge e3 .nil)) (.ref p) (h p (R.free hp).2)⟩

/-! ### sorted -/
open PySem.W in
def phSorted : PhA := fun ds S q => ∃ (x : D) (β : Type) (bs : List β) (enc : β → D) (ep : β → PyData), ds = [x] ∧ asQ S x = some (bs.map enc) ∧ (∀ b, (enc b).py = some (ep b)) ∧ AllAlike (bs.map ep) ∧ Sortable (bs.map ep) ∧
  asL S x ≠ none ∧ (∀ b, (ep b).depth ≤ 60) ∧ NewL S ((bs.mergeSort (dataLe false ep)).map enc) q
theorem each_of {β : Type} {K : PySem.W.Frag} {Hs : Hp} {enc : β → D} : ∀ {bs : List β} {ws : List V} {its : List Value}, DatA K Hs ws (bs.map enc) → Vals ws its → PySem.W.EachIs (fun v b => ∃ u, RelV u v ∧ Dat K Hs u (enc b)) its bs
  | [], _, _, .nil, .nil => .nil
  | b :: bs, _, _, .cons h t, .cons r rr => .cons ⟨_, r, h⟩ (each_of t rr)
theorem of_each {β : Type} {K : PySem.W.Frag} {Hs : Hp} {enc : β → D} : ∀ {bs : List β} {its : List Value}, PySem.W.EachIs (fun v b => ∃ u, RelV u v ∧ Dat K Hs u (enc b)) its bs → ∃ ws, Vals ws its ∧ DatA K Hs ws (bs.map enc)
  | _, _, .nil => ⟨[], .nil, .nil⟩
  | _, _, .cons ⟨u, r, h⟩ t => let ⟨ws, a, b⟩ := of_each t; ⟨u :: ws, .cons r a, .cons h b⟩
theorem cSorted {X : Cx} (hu : X.A.units + 64 < cLine) : CallR X (.builtin "sorted") (rA X.K phSorted) := by
  intro pins s σ H vs us Q I rv ⟨Hs, S, ds, q, R, hd, ⟨x, β, bs, enc, ep, e, h1, h2, h3, h4, h5, h6, h⟩, k⟩
  subst e
  cases hd with
  | cons r1 r2 =>
    cases r2
    obtain ⟨a, ws, rfl, hl, ha⟩ := asL_rep R r1 (asL_of h1 h5)
    obtain ⟨u, rfl, ru⟩ := vals1 rv
    obtain rfl : u = Value.ref a := ru
    obtain ⟨its, rv2, pl, hz⟩ := I.list (SqL.of (K := X.K) hl)
    have hb : ws.length = bs.length := by rw [ha.len, List.length_map]
    have er : PySem.W.EachIs (fun v b => ∃ as, Reads s.heap v (ep b) as) its bs := (each_of ha rv2).mono fun v b ⟨w, rw', hw⟩ => Dp.reads I _ _ _ ((dp_mono R.ex).1 (hw.dp (h2 b))) rw'
    refine PySem.W.sorted_data pl.isList (each_of ha rv2) er h3 h4 (by rw [← hb]; exact hz) (fun b _ => by have := h6 b; omega) fun out ho eo => ?_
    obtain ⟨ws2, rv3, hd3⟩ := of_each eo
    obtain ⟨n, hn⟩ := PyProof.Rows.sortedAll_at s.heap its out.toArray
    have hf : H (s.heap.objs.size + 1) = none := I.hok.fresh (Nat.le_succ _)
    refine ⟨.ref _, _, I.laid (t' := s.toks) (o := .lst ws2) (fun b o e => PyProof.Rows.sortedAll_old e) (Nat.le_succ _) ⟨?_, out, n, rv3, hn⟩, rfl, newL_run R hd3 h k hf⟩
    rw [rv3.length, ho, ← hb]
    exact hz
/-! ### xs[::-1] -/
theorem we_revL {K : KX} {δ : Env} {S : Sto} {te : TE} {Q : Kq} (h : WE K te δ S fun x S1 => ∃ xs, asL S1 x = some xs ∧ NewL S1 xs.reverse Q) : WE K (tRevL K te) δ S Q := fun Hs H σ QQ R L k =>
  h Hs H σ _ R L fun v x Hs1 H1 S1 e1 R1 r1 ⟨xs, hx, q⟩ => by
    obtain ⟨a, vs, rfl, hl, ha⟩ := asL_rep R1 r1 hx
    exact ⟨a, vs, rfl, .of hl, fun p hp => newL_run R1 ha.rev q (fun v' d' Hs' H' S' e R' => k v' d' Hs' H' S' (e1.trans e) R') hp⟩
/-! ### three names at once -/
theorem ws_par3 {K : KX} {δ : Env} {S : Sto} {E : AE} {i j l : Nat} {t : TA} (h : WA K t δ S fun ds S1 => ∃ a b c, ds = [a, b, c] ∧ E.nx (((δ.set i (some a)).set j (some b)).set l (some c)) S1) : WS K (tPar3 i j l t) δ S E := fun Hs H σ D R L k => h Hs H σ _ R L fun vs ds Hs1 H1 S1 e1 R1 r1 ⟨a, b, c, hd, q⟩ => by
  subst hd
  cases r1 with
  | cons ra r2 => cases r2 with
    | cons rb r3 => cases r3 with
      | cons rc r4 =>
        cases r4
        exact ⟨_, _, _, rfl, k.nx Hs1 H1 _ _ S1 e1 R1 ((((L.mono e1).set i ra).set j rb).set l rc) q⟩
/-! ### is, of bools -/
def phIsB : Ph2 := fun x y S q => ∃ a b : Bool, x = .bl a ∧ y = .bl b ∧ q (.bl (decide (a = b))) S
theorem opIsB {X : Cx} : OpR X (compareOp .Is) (r2 X.K phIsB) := by
  intro pins s σ H vx vy v u Q I rx ry ⟨Hs, S, x, y, q, R, hx, hy, ⟨a, b, e1, e2, h⟩, k⟩
  subst e1 e2; cases hx; cases hy
  exact op_isBl pins s σ H _ _ v u Q I rx ry ⟨a, b, rfl, rfl, k _ _ Hs H S (Ex.refl _) R (.bl _) h⟩
end PL

set_option Elab.async false
set_option linter.all false
set_option maxRecDepth 100000
set_option maxHeartbeats 4000000
/-! PL6: how many unlike texts a tuple holds. -/
namespace PL
open PySem L2 PySem.Spec PyProof.Rows
/-! ### a set that is filled by a walk: T i: what is in behind i steps, c i: how many -/
section
variable {prog : Program} {w : World} {κ : Type} [DecidableEq κ] {knd : KeyKind prog w κ} {A : Around} {I p : Addr} {fp wr : List Addr} {G : Array GenState → Array GenState → Prop} {n : Nat} {Pv : Nat → Value → Prop} {St : Nat → Shared → Prop}
theorem carried {T : κ → Bool} {m : Nat} {h h' : Heap} (hS : h.SetOf knd p T m) (k : ∀ o, h.get? p = some o → h'.get? p = some o) : h'.SetOf knd p T m := by
  obtain ⟨o, es, ep, t, ho, more⟩ := hS
  exact ⟨o, es, ep, t, k o ho, more⟩
theorem fill {R : Result → Shared → Prop} (W : WalksS prog w A.in1 I fp wr G n Pv St) (hp : p ∉ fp) (key : Nat → κ) (T : Nat → κ → Bool) (c : Nat → Nat)
    (hk : ∀ i v, Pv i v → knd.is (key i) v = true ∧ v.scannable = true) (hT : ∀ i k, i < n → T (i + 1) k = (T i k || decide (k = key i))) (hc : ∀ i, i < n → c (i + 1) = if T i (key i) = true then c i else c i + 1) (hz : ∀ i, i < n → c i + 1 < scanBound)
    (i : Nat) (s : Shared) (hi : i ≤ n) (st : St i s) (hS : s.heap.SetOf knd p (T i) (c i))
    (fin : ∀ s', Moved (p :: wr) G s s' → s'.heap.SetOf knd p (T n) (c n) → R (.ok (.ret .none)) s') :
    codeAny (model prog w) A (.builtin "set.update.loop" ⟨[.ref p, .ref I], []⟩) R s := by
  have hq := plainId_quiet PyProof.Rows.F.plain_set_update_loop
  have hw : p ∉ wr := fun z => hp (W.sub _ z)
  have wide : ∀ {a b : Shared}, Moved wr G a b → Moved (p :: wr) G a b := fun m => m.mono fun x hx => .tail _ hx
  refine codeAny_builtin PyProof.Rows.F.entry_set_update_loop ?_
  rw [Around.under_plainId PyProof.Rows.F.plain_set_update_loop _]
  show wpAny _ A.in1 (pyNext (.ref I) >>= _) _ _ s
  by_cases e : i = n
  · subst e
    exact wpAny_bind (W.done s _ _ st fun s1 m => wpAny_pure (fin s1 (wide m) (carried hS fun o => m.heap p o hw)))
  have lt : i < n := Nat.lt_of_le_of_ne hi e
  refine wpAny_bind (W.item i s _ _ lt st fun v s1 pv st1 m => ?_)
  obtain ⟨hv, sc⟩ := hk i v pv
  show wpAny _ A.in1 (holding [v] (setAdd p v) >>= _) _ _ s1
  unfold setAdd
  refine wpAny_bind (wpAny_holding (wpAny_holding (wpAny_bind (knd.pyHash hv (wpAny_setAddHashed_of (s := { s1 with toks := s1.toks + 1 }) hv sc (carried hS fun o => m.heap p o hw) (hz i lt) fun h2 same hS2 => ?_)))))
  have off : ∀ b, b ≠ p → h2.get? b = s1.heap.get? b := same.2
  have hS3 : h2.SetOf knd p (T (i + 1)) (c (i + 1)) := by
    have e1 : T (i + 1) = fun k => T i k || decide (k = key i) := funext fun k => hT i k lt
    rw [e1, hc i lt]; exact hS2
  refine wpAny_pure ⟨hq _, fill W hp key T c hk hT hc hz (i + 1) _ lt (W.frame _ s1 _ _ st1 (Nat.le_succ _) fun b hb o g => ?_) hS3 fun s2 m2 hE => fin s2 (Moved.trans W.gtrans ((wide m).then_heap (Nat.le_succ _) fun b o hb g => ?_) m2) hE⟩
  · rw [off b fun z => hp (z ▸ hb)]; exact g
  · rw [off b fun z => hb (z ▸ .head _)]; exact g
termination_by n - i
end
/-! ### set(t) -/
def metS (xs : List Str) (i : Nat) : List Str := (xs.take i).foldl step_dedup []
theorem fold_len : ∀ (l σ : List Str), (l.foldl step_dedup σ).length ≤ σ.length + l.length
  | [], σ => by simp
  | x :: l, σ => by
    have := fold_len l (step_dedup σ x)
    rw [List.foldl_cons, List.length_cons]
    unfold step_dedup at this ⊢
    split at this
    · rename_i h; rw [if_pos h]; omega
    · rename_i h; rw [if_neg h]; rw [List.length_append, List.length_singleton] at this; omega
theorem metS_succ {xs : List Str} {i : Nat} (h : i < xs.length) : metS xs (i + 1) = step_dedup (metS xs i) (xs.getD i Str.empty) := by
  unfold metS
  rw [List.take_add_one, List.getElem?_eq_getElem h, List.foldl_append]
  simp [h]
theorem dedup_any (σ : List Str) (v k : Str) : (step_dedup σ v).any (· == k) = (σ.any (· == k) || decide (k = v)) := by
  unfold step_dedup
  split
  · rename_i h
    by_cases e : k = v
    · subst e; simp [h]
    · simp [e]
  · by_cases e : k = v
    · subst e; simp
    · have e' : ¬ v = k := fun q => e q.symm
      simp [e, e']
theorem dedup_len (σ : List Str) (v : Str) : (step_dedup σ v).length = if σ.any (· == v) = true then σ.length else σ.length + 1 := by
  unfold step_dedup; split <;> simp
theorem metS_len (xs : List Str) (i : Nat) : (metS xs i).length ≤ xs.length := by
  have := fold_len (xs.take i) []
  rw [List.length_take, List.length_nil] at this
  unfold metS
  omega
theorem set_of_tuple {prog : Program} {w : World} {A : Around} {E : Value → Shared → Prop} {s : Shared} {l : Addr} {items : Array Value} {xs : List Str} {Q : Value → Shared → Prop}
    (hh : A.handled = none) (hl : s.heap.IsTuple l items) (hi : StrsAre items.toList xs) (hz : xs.length + 1 < scanBound)
    (h : ∀ (h' : Heap) (tk : Nat), h'.SetOf (strKind prog w) s.heap.objs.size (fun k => (metS xs items.size).any (· == k)) (metS xs items.size).length →
      (∀ b o, b < s.heap.objs.size → s.heap.get? b = some o → h'.get? b = some o) → Q (.ref s.heap.objs.size) { s with heap := h', toks := tk }) :
    wpAny (model prog w) A (call (.type "set") [.ref l]) Q E s := by
  have hn : xs.length = items.size := by rw [← StrsAre.len_eq hi, Array.length_toList]
  have ft := PySem.F.called_set
  obtain ⟨_, _, hmro⟩ := ft.mro
  have h1 := ft.made
  have h2 := ft.sub
  have h3 := ft.notType
  have h4 := ft.canCreate
  have h5 := PySem.F.typeCall_set_1 (.ref l)
  have h6 := ft.init.lookup
  have hbind := ft.init.bind (.ref s.heap.objs.size)
  refine wpAny_call (codeAny_of_tree ?_)
  show wpAny _ _ (callAny (.type "set") _) _ _ _
  refine wpAny_pure ⟨Code.quiet_builtin _ (by decide +kernel), codeAny_builtin PySem.F.entry_type_call ?_⟩
  rw [Around.under_plain (weight_type_call_type "set" [.ref l] []) rfl]
  repeat (any_goals (first | assumption | wp_step))
  refine codeAny_mono (code_set_new_1 (.ref l) (E := E) (Q₁ := fun obj s1 => ∃ led : Bool, obj = .ref s.heap.objs.size ∧ s1 = { s with heap := s.heap.push { cls := .type "set", dict := none, data := .set #[] 0 (.fresh 0 0 led) } }) fun led => ⟨led, rfl, rfl⟩) ?_
  intro r s1 hr
  match r, hr with
  | .error e, hr => exact hr
  | .ok (.ret obj), hr =>
    obtain ⟨led, rfl, rfl⟩ := hr
    have hnew : ∀ o2 : Obj, ((s.heap.push { cls := .type "set", dict := none, data := .set #[] 0 (.fresh 0 0 led) }).push o2).get? s.heap.objs.size = some { cls := .type "set", dict := none, data := .set #[] 0 (.fresh 0 0 led) } := fun o2 => Heap.get?_push_of_some _ (Heap.get?_push_size _ rfl)
    have hT : Shared.TypeIs { s with heap := s.heap.push { cls := .type "set", dict := none, data := .set #[] 0 (.fresh 0 0 led) } } (.ref s.heap.objs.size) "set" := ⟨_, Heap.get?_push_size _ rfl, rfl⟩
    repeat (any_goals (first | assumption | wp_step))
    refine codeAny_mono (codeAny_call_builtin (R := wants (fun r s2 => r = .none ∧ Q (.ref s.heap.objs.size) s2) E) ft.init.plain PySem.F.entry_set_init (check_set_init_1 hT ?_)) ?_
    · obtain ⟨⟨_, dd, _, sl⟩, hol, hcl, nl, hdl⟩ := hl
      simp only at hcl hdl
      subst hcl hdl
      have hl1 := Heap.get?_push_of_some ({ cls := .type "set", dict := none, data := .set #[] 0 (.fresh 0 0 led) } : Obj) hol
      have g1 := PySem.F.sub_tuple_set
      have g2 := PySem.F.sub_tuple_frozenset
      have g3 : (Value.type "tuple" == Value.type "dict") = false := by decide
      have lt : l < s.heap.objs.size := Heap.lt_size hol
      unfold Builtin.«set.__init__» noKeywords Builtin.Frozenset.updateFrom
      generalize hPI : pyIter = PI
      wp_walk
      subst hPI
      refine wpAny_pyIter_tuple (items := items) ⟨_, hl1, rfl, nl, rfl⟩ (wpAny_bind (wpAny_runValue ?_))
      have hsz : (s.heap.push ({ cls := .type "set", dict := none, data := .set #[] 0 (.fresh 0 0 led) } : Obj)).objs.size = s.heap.objs.size + 1 := Heap.size_push ..
      refine fill (Walks.tuple (by simp [hh]) _ l (by rw [hsz]; exact Nat.ne_of_lt (Nat.lt_succ_of_lt lt)) items).toS (knd := strKind prog w) (fun z => by
        rcases List.mem_cons.mp z with z | z
        · rw [hsz] at z; exact Nat.ne_of_lt (Nat.lt_succ_self _) z
        · rw [List.mem_singleton] at z; exact Nat.ne_of_gt lt z) (fun i => xs.getD i Str.empty) (fun i k => (metS xs i).any (· == k)) (fun i => (metS xs i).length)
        (fun i v hv => ?_) (fun i k hi => by rw [metS_succ (by omega)]; exact dedup_any _ _ _) (fun i hi => by rw [metS_succ (by omega)]; exact dedup_len _ _) (fun i _ => by have := metS_len xs i; omega) 0 _ (Nat.zero_le _) ⟨⟨_, Heap.get?_push_size _ rfl, rfl, rfl⟩, ⟨_, Heap.get?_push_of_some _ hl1, rfl, nl, rfl⟩⟩
        (SetOf_congr ((setObjOf_fresh (knd := strKind prog w) led).setOf (hnew _) (by decide)) (fun _ => rfl) rfl) fun s2 m hS => ?_
      · obtain ⟨t, rfl⟩ := SS.strs_at hi i v (by rw [Array.getElem?_toList]; exact hv)
        exact ⟨strKind_is _ _ _ _, rfl⟩
      · obtain ⟨h', gens, drawn, tk, os⟩ := s2
        obtain rfl : gens = s.gens := m.gens
        obtain rfl : drawn = s.drawn := m.drawn
        obtain rfl : os = s.os := m.os
        refine wpAny_pure ?_
        show wpAny _ _ (ret Value.none) _ _ _
        refine wpAny_pure ⟨rfl, h h' tk hS fun b o hb e => m.heap b o (fun z => ?_) (Heap.get?_push_of_some _ (Heap.get?_push_of_some _ e))⟩
        rcases List.mem_cons.mp z with z | z
        · exact Nat.ne_of_lt hb z
        · rw [List.mem_singleton, hsz] at z; exact Nat.ne_of_lt (Nat.lt_succ_of_lt hb) z
    · intro r2 s2 hr2
      match r2, hr2 with
      | .error e, hr2 => exact hr2
      | .ok (.ret r), hr2 =>
        obtain ⟨rfl, hQ⟩ := hr2
        repeat (any_goals (first | assumption | wp_step))
  
/-- len(set(xs)), xs a tuple of texts -/
def tLenSetD (K : PySem.W.Frag) (ta : TE) : TE := fun σ H Q => ta σ H fun x H1 => ∃ l, ∃ xs : List Str, x = .ref l ∧ SqT K H1 l (xs.map V.str) ∧ xs.length + 1 < scanBound ∧ Q (.int (xs.foldl step_dedup []).length) H1
theorem pe_lenSetD {X : Cx} {a : Expr} {ta : TE} {p p2 q pos : Pos} (hc : X.calm = true) (hg : Gl X "len") (hm : X.mg "len" = none) (hg2 : Gl X "set") (hm2 : X.mg "set" = none) (ha : PE X a ta)
    (na : starEach [a] X.env = (false, eval a X.env) :: starEach [] X.env := by rfl) : PE X (.Call (.Name "len" p) [.Call (.Name "set" p2) [a] [] q] [] pos) (tLenSetD X.K ta) := by
  refine ⟨fun pins s σ H Q I h => ?_⟩
  refine Call_ (ld_blt I hg hm boot_len ?_)
  refine PyProof.Rows.callWith_builtin1 (PyProof.Rows.args_cons ?_ rfl) rfl rfl
  refine Call_ (ld_blt I hg2 hm2 boot_set ?_)
  refine PyProof.Rows.callWith_type1 (PyProof.Rows.args_cons (thn (ha.run pins s σ H _ I h) fun v s1 ⟨x, H1, I1, r1, q1⟩ => PyProof.Rows.args_nil ?_) na) na rfl
  obtain ⟨l, xs, rfl, hq, h1, q1⟩ := q1
  cases r1
  obtain ⟨its, r, pl, hz⟩ := I1.tuple hq
  refine set_of_tuple (I1.ok.hd hc) pl (by simpa using strsAre_of r) h1 fun h' tk hS hk => ?_
  refine PyProof.Rows.args_nil ?_
  have hl : its.toArray.size = xs.length := by rw [List.size_toArray, ← r.length, List.length_map]
  have hm : metS xs its.toArray.size = xs.foldl step_dedup [] := by rw [hl]; unfold metS; rw [List.take_length]
  rw [hm] at hS
  have hb : (xs.foldl step_dedup []).length ≤ xs.length := by have := fold_len xs []; simpa using this
  obtain ⟨o, es, ep, t, ho, hex, hd, _, _, _, hf, hn⟩ := hS
  have I2 : Inv X pins σ H1 { s1 with heap := h', toks := tk } := I1.kept fun b o e => hk b o (Heap.lt_size e) e
  refine call_len_set ho hex hd hf (by rw [hn]; have hx := h1; unfold scanBound at hx; omega) ⟨.int (xs.foldl step_dedup []).length, H1, I2.tok _, ⟨_, by rw [hn]⟩, q1⟩
theorem fold_nodup : ∀ (l σ : List Str), σ.Nodup → ((l.foldl step_dedup σ).length = σ.length + l.length ↔ (σ ++ l).Nodup)
  | [], σ, h => by simp [h]
  | x :: l, σ, h => by
    rw [List.foldl_cons]
    by_cases hx : x ∈ σ
    · have e : step_dedup σ x = σ := by unfold step_dedup; rw [if_pos (by simpa using hx)]
      rw [e]
      constructor
      · intro z
        have := fold_len l σ
        rw [List.length_cons] at z
        omega
      · intro z
        rw [List.nodup_append] at z
        exact absurd rfl (z.2.2 x hx x (List.mem_cons_self ..))
    · have e : step_dedup σ x = σ ++ [x] := by unfold step_dedup; rw [if_neg (by simpa using hx)]
      rw [e]
      have h2 : (σ ++ [x]).Nodup := by
        rw [List.nodup_append]
        exact ⟨h, by simp, fun a ha b hb e => by rw [List.mem_singleton] at hb; exact hx (by rw [← hb, ← e]; exact ha)⟩
      have ih := fold_nodup l (σ ++ [x]) h2
      rw [List.append_assoc, List.length_append, List.length_singleton] at ih
      rw [List.length_cons, ← Nat.add_assoc, Nat.add_right_comm]
      exact ih
theorem set_len_nodup (l : List Str) : (l.foldl step_dedup []).length = l.length ↔ l.Nodup := by
  have := fold_nodup l [] List.nodup_nil
  simpa using this
theorem we_lenSetD {K : KX} {δ : Env} {S : Sto} {te : TE} {Q : Kq} (h : WE K te δ S fun x S1 => ∃ xs : List Str, x = .tup (xs.map D.str) ∧ xs.length ≤ 1000 ∧ ∀ n : Nat, (n = xs.length ↔ xs.Nodup) → Q (.int n) S1) : WE K (tLenSetD K te) δ S Q := fun Hs H σ QQ R L k =>
  h Hs H σ _ R L fun v x Hs1 H1 S1 e1 R1 r1 ⟨xs, hx, hz, q⟩ => by
    subst hx
    cases r1 with
    | tup hq ha =>
      rw [ha.strs] at hq
      exact ⟨_, xs, rfl, (R1.ex.tc hq).sq, by unfold scanBound; omega, k _ _ Hs1 H1 S1 e1 R1 (.int _) (q _ (set_len_nodup xs))⟩
end PL

set_option Elab.async false
set_option linter.all false
set_option maxRecDepth 100000
set_option maxHeartbeats 4000000
/-! PL7: the same readings with the fragment named, so that they may stand inside a comprehension. -/
namespace PL
open PySem L2 RZ PySem.Spec PyProof.Rows
section
variable {X : Cx} (K : PySem.W.Frag)
theorem opK {o : Value → Value → Sem Value} {φ : Ph2} (e : X.K = K) (h : OpR X o (r2 X.K φ)) : OpR X o (r2 K φ) := by subst e; exact h
theorem unK {o : Value → Sem Value} {φ : Ph1} (e : X.K = K) (h : UnR X o (r1 X.K φ)) : UnR X o (r1 K φ) := by subst e; exact h
theorem ixK {φ : Ph2} (e : X.K = K) (h : IxR X (r2 X.K φ)) : IxR X (r2 K φ) := by subst e; exact h
theorem slK {φ : PhS} (e : X.K = K) (h : L2.SlR X (rS X.K φ)) : L2.SlR X (rS K φ) := by subst e; exact h
theorem crK {f : Value} {φ : PhA} (e : X.K = K) (h : CallR X f (rA X.K φ)) : CallR X f (rA K φ) := by subst e; exact h
theorem mmK {f : String} {φ : PhM} (e : X.K = K) (h : MtM X f (rM X.K φ)) : MtM X f (rM K φ) := by subst e; exact h
theorem mrK {f : String} {φ : PhM} (e : X.K = K) (h : MtR X f (rM X.K φ)) : MtR X f (rM K φ) := by subst e; exact h
theorem pg_tupK {pos : Pos} {es : List Expr} {k : Nat} {t : TGs} {n : Nat} (e : X.K = K) (hc : X.calm = true) (h : PGs X es t)
    (hn : (assignEach es X.env).length = n := by rfl) (hst : (assignEach es X.env).findIdx? (·.1) = none := by rfl) : PG X (.Tuple es k pos) (gTup K n t) := by
  subst e; exact pg_tup hc h hn hst
theorem pi_anyK {tg l : Expr} {tl : TE} (e : X.K = K) (hl : PE X l tl) : PI X tg l (iAny K tl) := by subst e; exact pi_any hl
theorem pi_enumK {e : Expr} {ta : TA} {p pos tpos : Pos} {elts : List Expr} {kk : Nat} (hk : X.K = K) (hg : Gl X "enumerate") (hm : X.mg "enumerate" = none) (ha : PA X [e] ta) (hs : starEach [e] X.env = [(false, eval e X.env)] := by rfl) :
    PI X (.Tuple elts kk tpos) (.Call (.Name "enumerate" p) [e] [] pos) (iEnumA K ta) := by subst hk; exact pi_enumA hg hm ha hs
theorem pi_zipK {e e2 : Expr} {ta : TA} {p pos tpos : Pos} {elts : List Expr} {kk : Nat} (hk : X.K = K) (hg : Gl X "zip") (hm : X.mg "zip" = none) (ha : PA X [e, e2] ta)
    (hs : starEach [e, e2] X.env = (false, eval e X.env) :: starEach [e2] X.env := by rfl) (hpl : (backTo pos (starEach [e2] X.env)).any (·.1) = false := by rfl) :
    PI X (.Tuple elts kk tpos) (.Call (.Name "zip" p) [e, e2] [] pos) (iZipA K ta) := by subst hk; exact pi_zipA hg hm ha hs hpl
theorem pe_revK {e : Expr} {te : TE} {k : Nat} {p1 p2 p3 pos : Pos} (hk : X.K = K) (he : PE X e te) : PE X (.Subscript e (.Slice none none (some (.UnaryOp .USub (.Constant (.int 1) k p1) p2)) p3) pos) (tRevL K te) := by subst hk; exact pe_revL he
theorem pe_lenSetK {a : Expr} {ta : TE} {p p2 q pos : Pos} (hk : X.K = K) (hc : X.calm = true) (hg : Gl X "len") (hm : X.mg "len" = none) (hg2 : Gl X "set") (hm2 : X.mg "set" = none) (ha : PE X a ta)
    (na : starEach [a] X.env = (false, eval a X.env) :: starEach [] X.env := by rfl) : PE X (.Call (.Name "len" p) [.Call (.Name "set" p2) [a] [] q] [] pos) (tLenSetD K ta) := by subst hk; exact pe_lenSetD hc hg hm hg2 hm2 ha na
end
section
variable {K : KX} {δ : Env} {S : Sto} {wi : TI} {g : TG} {tt : TT} {te : TE} {vs : List Nat} {Q : Kq}
theorem fm_map {α β : Type} (f : α → β) : ∀ xs : List α, xs.filterMap (fun x => some (f x)) = xs.map f
  | [] => rfl
  | x :: xs => by rw [List.filterMap_cons, fm_map f xs]; rfl
theorem fm_if {α β : Type} (p : α → Bool) (f : α → β) : ∀ xs : List α, xs.filterMap (fun x => if p x = true then some (f x) else none) = (xs.filter p).map f
  | [] => rfl
  | x :: xs => by
    rw [List.filterMap_cons, fm_if p f xs, List.filter_cons]
    cases p x <;> rfl
/-- a list of all, each by f -/
theorem we_lcm {α : Type} (hk : Keeps vs g) (h : WI K wi δ S fun ds S1 => ∃ (xs : List α) (enc : α → D) (f : α → D), ds = xs.map enc ∧ xs.length ≤ sizeLine ∧
    (∀ x ∈ xs, ∀ S', Sub S1 S' → WG K g (enc x) (wipeE δ vs) S' fun δ' S2 => WE K te δ' S2 fun y S4 => S4 = S' ∧ y = f x) ∧
    NewL S1 (xs.map f) Q) : WE K (tLc wi g tYes te vs) δ S Q :=
  we_lcp hk fun Hs H σ RR R L k => h Hs H σ RR R L fun J ds Hs' H' S' e R' W ⟨xs, enc, f, hd, hz, hs, hq⟩ => k J ds Hs' H' S' e R' W
    ⟨xs, enc, fun x => some (f x), hd, hz, fun x hx S2 hS Hs H v σ QQ R L r k => hs x hx S2 hS Hs H v σ QQ R L r fun Hs' H' σ' δ' S' e R' L' z => k Hs' H' σ' δ' S' e R' L' (wt_yes ⟨fun _ => z.imp fun y S4 ⟨h1, h2⟩ => ⟨h1, by rw [h2]⟩, fun z => nomatch z⟩), by rw [fm_map]; exact hq⟩
/-- a list of those that p keeps -/
theorem we_lcf {α : Type} (hk : Keeps vs g) (h : WI K wi δ S fun ds S1 => ∃ (xs : List α) (enc : α → D) (p : α → Bool) (f : α → D), ds = xs.map enc ∧ xs.length ≤ sizeLine ∧
    (∀ x ∈ xs, ∀ S', Sub S1 S' → WG K g (enc x) (wipeE δ vs) S' fun δ' S2 => WT K tt δ' S2 fun b S3 => Br b (WE K te δ' S3 fun y S4 => S4 = S' ∧ p x = true ∧ y = f x) (S3 = S' ∧ p x = false)) ∧
    NewL S1 ((xs.filter p).map f) Q) : WE K (tLc wi g tt te vs) δ S Q :=
  we_lcp hk fun Hs H σ RR R L k => h Hs H σ RR R L fun J ds Hs' H' S' e R' W ⟨xs, enc, p, f, hd, hz, hs, hq⟩ => k J ds Hs' H' S' e R' W
    ⟨xs, enc, fun x => if p x = true then some (f x) else none, hd, hz, fun x hx S2 hS Hs H v σ QQ R L r k => hs x hx S2 hS Hs H v σ QQ R L r fun Hs' H' σ' δ' S' e R' L' z => k Hs' H' σ' δ' S' e R' L'
      (z.imp fun b S3 ⟨z1, z0⟩ => ⟨fun hb => (z1 hb).imp fun y S4 ⟨h1, h2, h3⟩ => ⟨h1, by show (if p x = true then some (f x) else none) = some y; rw [if_pos h2, h3]⟩, fun hb => ⟨(z0 hb).1, by show (if p x = true then some (f x) else none) = none; rw [if_neg (by rw [(z0 hb).2]; simp)]⟩⟩), by rw [fm_if]; exact hq⟩
end
theorem br_nt {A B : Prop} (h : B) : Br (!true) A B := ⟨(fun z => nomatch z), fun _ => h⟩
theorem br_nf {A B : Prop} (h : A) : Br (!false) A B := ⟨fun _ => h, fun z => nomatch z⟩
/-- for, over a list that is told: an invariant by what was walked -/
theorem ws_forL {K : KX} {δ : Env} {S : Sto} {wi : TI} {g : TG} {tb : TS} {E : AE} {α : Type} (h : WI K wi δ S fun ds S1 => ∃ (xs : List α) (enc : α → D) (I : List α → Env → Sto → Prop), ds = xs.map enc ∧ I [] δ S1 ∧
    (∀ pre x post δ' S', xs = pre ++ x :: post → I pre δ' S' → WG K g (enc x) δ' S' fun δ2 S2 => WS K tb δ2 S2 { E with nx := I (pre ++ [x]), ct := I (pre ++ [x]), bk := E.nx }) ∧ ∀ δ' S', I xs δ' S' → E.nx δ' S') : WS K (tFor wi g tb) δ S E :=
  ws_for fun Hs H σ RR R L k => h Hs H σ RR R L fun J ds Hs' H' S' e R' W ⟨xs, enc, I, hd, h0, hs, hq⟩ => k J ds Hs' H' S' e R' W ⟨fun i δ' S' => I (xs.take i) δ' S', h0, fun i d δ' S' hi hI => by
    subst hd
    rw [List.getElem?_map] at hi
    cases hx : xs[i]? with
    | none => rw [hx] at hi; cases hi
    | some x =>
      rw [hx] at hi
      cases hi
      have ht : xs.take (i + 1) = xs.take i ++ [x] := by rw [List.take_add_one, hx]; rfl
      obtain ⟨hl, e⟩ := List.getElem?_eq_some_iff.mp hx
      have hsp : xs = xs.take i ++ x :: xs.drop (i + 1) := by rw [← e, ← List.drop_eq_getElem_cons hl, List.take_append_drop]
      have := hs (xs.take i) x (xs.drop (i + 1)) δ' S' hsp hI
      dsimp only
      rw [ht]
      exact this, fun δ' S' hI => by
    subst hd
    rw [List.length_map, List.take_length] at hI
    exact hq δ' S' hI⟩
/-- a list of ours, held by a name, is shared from here on -/
theorem WS.freezeV {K : KX} {δ : Env} {S : Sto} {ts : TS} {E : AE} (i : Nat) {p : Addr} {ds : List D} (h : δ[i]? = some (some (.ref p))) (hS : S p = some (.lst ds)) (k : WS K ts (δ.set i (some (.lst ds))) (S.del p) E) : WS K ts δ S E := fun Hs H σ D R L q => by
  obtain ⟨Hs', e, R', r⟩ := R.freeze hS
  obtain ⟨v, hv, hd⟩ := L.at h
  cases hd
  have L' := (L.mono e).set i r
  have e2 : σ.set i (some (.ref p)) = σ := by
    apply List.ext_getElem?
    intro j
    by_cases z : i = j
    · subst z
      obtain ⟨hl, hx⟩ := List.getElem?_eq_some_iff.mp hv
      rw [List.getElem?_set_self hl, hv]
    · rw [List.getElem?_set_ne z]
  rw [e2] at L'
  exact k Hs' H σ D R' L' (q.mono e)
/-- a statement that only goes on -/
theorem ws_mid {K : KX} {δ : Env} {S : Sto} {ts : TS} {E : AE} (P : Env → Sto → Prop) (h : WS K ts δ S { nx := P, rt := fun _ _ => False }) (k : ∀ δ' S', P δ' S' → E.nx δ' S') : WS K ts δ S E :=
  h.imp k (fun _ _ z => z.elim) (fun _ _ z => z.elim) fun _ _ z => z.elim
/-- a test whose answer is known -/
theorem wt_mid {K : KX} {δ : Env} {S : Sto} {tt : TT} {B : Bool → Sto → Prop} (v : Bool) (h : WT K tt δ S fun b S' => b = v ∧ S' = S) (k : B v S) : WT K tt δ S B := h.imp fun b S' ⟨e1, e2⟩ => by subst e1; subst e2; exact k
/-- a list of none -/
theorem we_lcn {K : KX} {δ : Env} {S : Sto} {wi : TI} {g : TG} {tt : TT} {te : TE} {vs : List Nat} {Q : Kq} {α : Type} (hk : Keeps vs g) (h : WI K wi δ S fun ds S1 => ∃ (xs : List α) (enc : α → D), ds = xs.map enc ∧ xs.length ≤ sizeLine ∧
    (∀ x ∈ xs, ∀ S', Sub S1 S' → WG K g (enc x) (wipeE δ vs) S' fun δ' S2 => WT K tt δ' S2 fun b S3 => b = false ∧ S3 = S') ∧ NewL S1 [] Q) : WE K (tLc wi g tt te vs) δ S Q :=
  we_lcp hk fun Hs H σ RR R L k => h Hs H σ RR R L fun J ds Hs' H' S' e R' W ⟨xs, enc, hd, hz, hs, hq⟩ => k J ds Hs' H' S' e R' W
    ⟨xs, enc, fun _ => none, hd, hz, fun x hx S2 hS Hs H v σ QQ R L r k => hs x hx S2 hS Hs H v σ QQ R L r fun Hs' H' σ' δ' S' e R' L' z => k Hs' H' σ' δ' S' e R' L'
      (z.imp fun b S3 ⟨z1, z0⟩ => ⟨fun hb => absurd (hb.symm.trans z1) (by simp), fun hb => ⟨z0, rfl⟩⟩), by
      have e : xs.filterMap (fun _ : α => (none : Option D)) = [] := by induction xs with
        | nil => rfl
        | cons x r ih => simp
      rw [e]; exact hq⟩
/-- repr of a bool -/
def phRepr : PhA := fun ds S q => ∃ b : Bool, ds = [.bl b] ∧ q (.str (if b then "True" else "False")) S
theorem cRepr {X : Cx} : CallR X (.builtin "repr") (rA X.K phRepr) := by
  intro pins s σ H vs us Q I rv ⟨Hs, S, ds, q, R, hd, ⟨b, e, h⟩, k⟩
  subst e
  cases hd with
  | cons r1 r2 =>
    cases r2
    cases r1
    obtain ⟨u, rfl, ru⟩ := vals1 rv
    obtain rfl : u = Value.bool b := ru
    exact PySem.P.repr_of_bool ⟨.str _, H, I.tok _, ⟨_, rfl⟩, k _ _ Hs H S (Ex.refl _) R (.str _) h⟩
/-! ### long chains of comparisons, as a test -/
abbrev TK := V → L2.St → Hp → (Bool → Hp → Prop) → Prop
structure PCh (X : Cx) (ops : List CmpOp) (rs : List Expr) (t : TK) : Prop where
  run : ∀ (pos : Pos) (pins : List (Addr × Obj)) (s : Shared) (σ : L2.St) (H : Hp) (y : V) (u : Value) (Q : Bool → Hp → Prop), Inv X pins σ H s → RelV y u → t y σ H Q →
    wpAny (model X.prog X.w) X.A (testChain pos u ops (evalEach rs X.env)) (TP X pins σ Q) X.xe s
def kLast (r : R2) (te : TE) : TK := fun y σ H Q => te σ H fun z H1 => r y z H1 fun w H2 => ∃ k, w = .bl k ∧ Q k H2
def kCons (r : R2) (te : TE) (t : TK) : TK := fun y σ H Q => te σ H fun z H1 => r y z H1 fun w H2 => ∃ k, w = .bl k ∧ (k = true → t z σ H2 Q) ∧ (k = false → Q false H2)
def tChainN (ta : TE) (t : TK) : TT := fun σ H Q => ta σ H fun x H1 => t x σ H1 Q
section
variable {X : Cx} {a e e2 : Expr} {ta te : TE} {t : TK} {op op2 : CmpOp} {ops : List CmpOp} {rs : List Expr} {r : R2} {pos : Pos}
theorem pch_last (ho : OpR X (compareOp op) r) (he : PE X e te) : PCh X [op] [e] (kLast r te) := by
  refine ⟨fun pos pins s σ H y u Q I ry h => ?_⟩
  refine test_last (thn (he.run pins s σ H _ I h) fun v s1 ⟨z, H1, I1, rz, q1⟩ => thn (ho pins s1 σ H1 y z u v _ I1 ry rz q1) fun c s2 ⟨w, H2, I2, rw', k, ew, q2⟩ => ?_)
  subst ew
  cases rw'
  exact wpAny_truthy_bool ⟨H2, I2, q2⟩
theorem pch_cons (ho : OpR X (compareOp op) r) (he : PE X e te) (hr : PCh X (op2 :: ops) (e2 :: rs) t) : PCh X (op :: op2 :: ops) (e :: e2 :: rs) (kCons r te t) := by
  refine ⟨fun pos pins s σ H y u Q I ry h => ?_⟩
  refine test_link (thn (he.run pins s σ H _ I h) fun v s1 ⟨z, H1, I1, rz, q1⟩ => thn (ho pins s1 σ H1 y z u v _ I1 ry rz q1) fun c s2 ⟨w, H2, I2, rw', k, ew, q2, q3⟩ => ?_)
  subst ew
  cases rw'
  refine wpAny_truthy_bool ?_
  cases k with
  | false => exact ite_ff ⟨H2, I2, q3 rfl⟩
  | true => exact ite_tt (hr.run pos pins s2 σ H2 z v Q I2 rz (q2 rfl))
theorem pt_chainN (ha : PE X a ta) (hr : PCh X (op :: op2 :: ops) (e :: e2 :: rs) t) (hm : lastMarks (op :: op2 :: ops) (e :: e2 :: rs) = false := by with_unfolding_all rfl) : PT X (.Compare a (op :: op2 :: ops) (e :: e2 :: rs) pos) (tChainN ta t) := by
  refine ⟨fun pins s σ H Q I h => ?_⟩
  exact isTrue_chain (thn (ha.run pins s σ H _ I h) fun v s1 ⟨x, H1, I1, rx, q1⟩ => hr.run _ pins s1 σ H1 x v Q I1 rx q1) hm
end
def WK (K : KX) (t : TK) (y : D) (δ : Env) (S : Sto) (B : Bool → Sto → Prop) : Prop :=
  ∀ (Hs H : Hp) (σ : L2.St) (vy : V) (QQ : Bool → Hp → Prop), Rep K Hs H S → Slt K Hs σ δ → Dat K Hs vy y → (∀ b Hs' H' S', Ex Hs Hs' → Rep K Hs' H' S' → B b S' → QQ b H') → t vy σ H QQ
section
variable {K : KX} {δ : Env} {S : Sto} {ta te : TE} {t : TK} {φ : Ph2} {y : D} {B : Bool → Sto → Prop}
theorem wt_chainN (h : WE K ta δ S fun x S1 => WK K t x δ S1 B) : WT K (tChainN ta t) δ S B := fun Hs H σ QQ R L k =>
  h Hs H σ _ R L fun v d Hs1 H1 S1 e1 R1 r1 q => q Hs1 H1 σ v QQ R1 (L.mono e1) r1 fun b Hs' H' S' e => k b Hs' H' S' (e1.trans e)
theorem wk_last (h : WE K te δ S fun z S1 => φ y z S1 fun w S2 => IsB w fun b => B b S2) : WK K (kLast (r2 K φ) te) y δ S B := fun Hs H σ vy QQ R L ry k =>
  h Hs H σ _ R L fun v d Hs1 H1 S1 e1 R1 r1 q => ⟨Hs1, S1, y, d, _, R1, ry.mono e1, r1, q, fun v' d' Hs' H' S' e R' r ⟨b, hb, q2⟩ => by
    subst hb; cases r; exact ⟨b, rfl, k b Hs' H' S' (e1.trans e) R' q2⟩⟩
theorem wk_cons (h : WE K te δ S fun z S1 => φ y z S1 fun w S2 => IsB w fun b => Br b (WK K t z δ S2 B) (B false S2)) : WK K (kCons (r2 K φ) te t) y δ S B := fun Hs H σ vy QQ R L ry k =>
  h Hs H σ _ R L fun v d Hs1 H1 S1 e1 R1 r1 q => ⟨Hs1, S1, y, d, _, R1, ry.mono e1, r1, q, fun v' d' Hs' H' S' e R' r ⟨b, hb, z1, z0⟩ => by
    subst hb; cases r
    exact ⟨b, rfl, fun hb => z1 hb Hs' H' σ v QQ R' (L.mono (e1.trans e)) (r1.mono e) fun b2 Hs2 H2 S2 e2 => k b2 Hs2 H2 S2 ((e1.trans e).trans e2), fun hb => k false Hs' H' S' (e1.trans e) R' (z0 hb)⟩⟩
end
/-- what is ours may be forgotten at each return -/
theorem WS.lessR {K : KX} {δ : Env} {S : Sto} {ts : TS} {E : AE} (h : WS K ts δ S { E with rt := fun d S' => ∃ S'', Sub S'' S' ∧ E.rt d S'' }) : WS K ts δ S E := fun Hs H σ D R L k =>
  h Hs H σ D R L ⟨k.nx, fun v d Hs' H' S' e R' r ⟨S'', hs, z⟩ => k.rt v d Hs' H' S'' e (R'.sub hs) r z, k.bk, k.ct⟩
end PL

set_option Elab.async false
set_option linter.all false
set_option maxRecDepth 100000
set_option maxHeartbeats 4000000
/-! PL8: dicts by tuples that stay as they are: walked by keys, by items; asked. -/
namespace PL
open PySem L2 RZ PySem.Spec PyProof.Rows
/-! ### what a locked dict by tuples holds, in the machine -/
theorem frzT2 {X : Cx} {pins : List (Addr × Obj)} {τ : L2.St} {G : Hp} {t : Shared} {d : Addr} {o : Obj} {kvs : List (List Key × V)} (I : Inv X pins τ G t) (h : G d = some (.frz o (.dT kvs))) :
    (d == sysModules) = false ∧ ∃ (es : Array DictEntry) (ep : Nat), t.heap.get? d = some o ∧ o.ExactDict ∧ o.data = .dict es ep ∧ es.size = kvs.length ∧
      ∀ (i : Nat) (k : List Key) (v : V), kvs[i]? = some (k, v) → ∃ (en : DictEntry) (q : Addr), es[i]? = some en ∧ en.key = .ref q ∧ G q = some (.tup (k.map kV)) ∧ RelV v en.val := by
  obtain ⟨hd, _, hs, xs, pr, o', es, ep, ho, hx, hdt, he, _⟩ := I.hok d _ h
  rw [hd] at ho
  cases ho
  refine ⟨hs, es, ep, hd, hx, hdt, (size_of_entries he).trans (Paired.length pr).symm, fun i k v e => ?_⟩
  obtain ⟨b, hb, e1, e2, e3⟩ := paired_get pr e
  have q := entry_at he i
  rw [hb] at q
  exact ⟨_, b.2.1, q, rfl, e2, e3⟩
/-- the pairs of a locked dict by tuples: each a new tuple of the key's own tuple and the value -/
def ItiT (d : Addr) (o : Obj) (kvs : List (List Key × V)) : It where
  go i H := H d = some (.frz o (.dT kvs)) ∧ i < kvs.length
  yld i H x H' := ∃ (T q : Addr) (k : List Key) (v : V), kvs[i]? = some (k, v) ∧ H q = some (.tup (k.map kV)) ∧ x = .ref T ∧ H T = none ∧ H' = upd H T (.tup [.ref q, v])
  stop i H := H d = some (.frz o (.dT kvs)) ∧ kvs.length ≤ i
theorem turn_itemsT {P : Program} {w : World} {K : PySem.W.Frag} {d : Addr} {o : Obj} {es : Array DictEntry} {ep : Nat} {kvs : List (List Key × V)} {elts : List Expr} {kk : Nat} {tpos : Pos} (it : Addr) (hod : o.data = .dict es ep) :
    Turn P w K (.Tuple elts kk tpos) (ItiT d o kvs) [it] it (fun i h => ∃ ok ov, IsItemIter h it d i kvs.length ep ok ov) where
  mem := List.mem_singleton.mpr rfl
  obj := fun i h st b hb => by obtain ⟨ok, ov, e⟩ := st; rw [List.mem_singleton] at hb; rw [hb]; exact ⟨_, e, fun v z => nomatch z⟩
  keep := fun i h h' st k => let ⟨ok, ov, e⟩ := st; ⟨ok, ov, k it (List.mem_singleton.mpr rfl) _ e⟩
  item := by
    intro X eP ew eK hc i pins t τ G E I hf st hg; subst eP ew eK
    obtain ⟨hd, hi⟩ := hg
    obtain ⟨_, es2, ep2, o1, o2, o3, o4, ent⟩ := frzT2 I hd
    obtain ⟨e1, e2⟩ := dict_ep hod o3; subst e1 e2
    obtain ⟨⟨k, v⟩, hkv⟩ : ∃ p, kvs[i]? = some p := ⟨_, List.getElem?_eq_getElem hi⟩
    obtain ⟨en, q, g1, g2, g3, g4⟩ := ent i k v hkv
    obtain ⟨ok, ov, he⟩ := st
    have hz : i < es2.size := by rw [o4]; exact hi
    have ge : es2[i] = en := by rw [Array.getElem?_eq_getElem hz] at g1; exact Option.some.inj g1
    rw [← o4] at he
    have below : it < t.heap.objs.size := Heap.lt_size he
    refine DT.nextI he ⟨o, o1, o2, hod⟩ hz fun h1 out hT _ keep => ?_
    rw [ge] at out hT
    refine ⟨_, rfl, wpAny_letOwnedTupleGo_items (s := { t with heap := h1 }) out fun h2 back same => ?_⟩
    have hT2 : h2.get? t.heap.objs.size = some { cls := .type "tuple", data := .seq #[en.key, en.val] } := (same.2 _ (Nat.ne_of_gt below)).trans hT
    have fr : G t.heap.objs.size = none := I.hok.fresh (Nat.le_refl _)
    have new : ObjOk X.prog X.w (upd G t.heap.objs.size (.tup [.ref q, v])) h2 t.heap.objs.size (.tup [.ref q, v]) := by
      refine ⟨by show 2 ≤ sizeLine; decide, [en.key, en.val], .cons (show en.key = Value.ref q from g2) (.cons g4 .nil), ⟨_, hT2, rfl, _, rfl⟩⟩
    have J := I.turnedNew (t' := t.toks) (ch := [it]) (h' := h2) (fun b ob hb e => (same.2 b (by simpa using hb)).trans (keep b ob (by simpa using hb) e)) hf (Nat.le_refl _) new
    refine ⟨.ref t.heap.objs.size, _, J, rfl, ⟨_, q, k, v, hkv, g3, rfl, fr, rfl⟩, ⟨_, _, by rw [← o4]; exact back⟩, fun b hb => ?_⟩
    rw [List.mem_singleton] at hb
    rw [hb, upd_ne (Nat.ne_of_lt below)]; exact (hf it (List.mem_singleton.mpr rfl)).1
  done := by
    intro X eP ew eK hc i pins t τ G E I hf st hg; subst eP ew eK
    obtain ⟨hd, hi⟩ := hg
    obtain ⟨_, es2, ep2, o1, o2, o3, o4, _⟩ := frzT2 I hd
    obtain ⟨e1, e2⟩ := dict_ep hod o3; subst e1 e2
    obtain ⟨ok, ov, he⟩ := st
    rw [← o4] at he
    obtain ⟨f0, f1, f2, f3, f4, f5⟩ := hf it (List.mem_singleton.mpr rfl)
    exact DT.endI (I.ok.hd hc) he ⟨o, o1, o2, hod⟩ (by rw [o4]; exact hi) fun h1 eb => ⟨rfl, I.turned (t' := t.toks) (fun b ob hb e => eb b ob hb e) f0 f1 f3 f4 f5⟩
  self := fun A i s Q E st h => let ⟨_, _, e⟩ := st; PySem.W.kcp_self e h
/-- .. in e.items(), the dict locked -/
def iItemsT (td : TE) : TI := fun σ H R => td σ H fun x H1 => ∃ d o kvs, x = .ref d ∧ H1 d = some (.frz o (.dT kvs)) ∧ R (ItiT d o kvs) H1
theorem pi_itemsT {X : Cx} {e : Expr} {td : TE} {apos cpos : Pos} {elts : List Expr} {kk : Nat} {tpos : Pos} (he : PE X e td) (hbase : attributeBase e "items" X.env (eval e X.env) = eval e X.env := by rfl) (hline : (apos.endLine == cpos.line) = true := by rfl) :
    PI X (.Tuple elts kk tpos) (.Call (.Attribute e "items" apos) [] [] cpos) (iItemsT td) := ⟨fun pins t τ G R I h => by
  refine wpAny_Call_method (T := "dict") (id := "dict.items") hbase rfl hline F.plainAttrs_dict F.slot_dict_items F.type_dict_items (thn (he.run pins t τ G _ I h) fun u s1 w => ?_)
  obtain ⟨x, G1, I1, rx, d, o, kvs, ex, hd, q⟩ := w; subst ex
  obtain rfl : u = Value.ref d := rx
  obtain ⟨hs, es, ep, o1, o2, o3, o4, _⟩ := frzT2 I1 hd
  have raw : DT.Raw s1.heap d es ep := ⟨o, o1, o2, o3⟩
  refine ⟨raw.typeIs, fun b eb => ?_, ?_⟩
  · cases eb; exact ⟨o, o1, o2.2.1⟩
  have I2 : Inv X pins τ G1 { s1 with heap := s1.heap.push { cls := .type "dict_items", data := .fields #[.ref d] } } := I1.kept (t' := s1.toks) fun b ob z => Heap.get?_push_of_some _ z
  have fin : wpAny (model X.prog X.w) X.A (pyIter (.ref s1.heap.objs.size)) (PIE X pins τ (.Tuple elts kk tpos) R) X.xe { s1 with heap := s1.heap.push { cls := .type "dict_items", data := .fields #[.ref d] } } :=
    DT.iterI (d := d) (es := es) (ep := ep) ⟨_, Heap.get?_push_size _ rfl, rfl, rfl⟩ (raw.push _) (pi_one (tk := s1.toks) I2 _ (turn_itemsT _ o3) ⟨.none, .none, by rw [← o4]; exact Heap.get?_push_size _ rfl⟩ q)
  show wpAny _ _ (callWith cpos (.builtin "dict.items") [.ref d] [] []) _ X.xe s1
  exact method_meetsIn F.slot_dict_items F.entry_dict_items rfl (PySem.evalArgs_none ⟨rfl, raw.typeIs, F.args_dict_items_1 _, _, DT.meetsItems (es := es) (ep := ep) hs, raw, fin⟩)⟩

/-! ### locked for good -/
/-- the statement runs, if wished with the thing at d locked for good -/
def tLockP (t : TS) : TS := fun D σ H => t D σ H ∨ ∃ d u, H d = some u ∧ Mut (some u) ∧ ∀ od, t D σ (upd H d (.frz od u))
theorem ps_lockP {X : Cx} {st : Stmt} {t : TS} (h : PS X st t) : PS X st (tLockP t) := ⟨fun pins s σ H D I hw => by
  rcases hw with hw | ⟨d, u, hd, mu, hw⟩
  · exact h.run pins s σ H D I hw
  · obtain ⟨od, I1⟩ := I.lock hd mu
    exact h.run pins s σ _ D I1 (hw od)⟩

/-! ### over plain data -/
theorem datT_of {K : PySem.W.Frag} {H : Hp} : ∀ {kvs : List (List Key × V)} {kds : List (List Key × D)}, Paired (PairD K H) kvs kds → DatT K H kvs kds
  | _, _, .nil => .nil
  | (k, v) :: _, (k', d) :: _, .cons h r => by
    have e : k = k' := h.1
    subst e
    exact .cons h.2 (datT_of r)
theorem datT_pair {K : PySem.W.Frag} {H : Hp} : ∀ {kvs : List (List Key × V)} {kds : List (List Key × D)}, DatT K H kvs kds → Paired (PairD K H) kvs kds
  | _, _, .nil => .nil
  | _, _, .cons h r => .cons ⟨rfl, h⟩ (datT_pair r)
/-- a dict of ours becomes shared -/
theorem Rep.freezeT {K : PySem.W.Frag} {Hs H : Hp} {S : Sto} (R : Rep K Hs H S) {p : Addr} {kds : List (List Key × D)} (h : S p = some (.dT kds)) :
    ∃ kvs, H p = some (.dT kvs) ∧ ∀ od, ∃ Hs', Ex Hs Hs' ∧ Rep K Hs' (upd H p (.frz od (.dT kvs))) (S.del p) ∧ Dat K Hs' (.ref p) (.dct kds) := by
  obtain ⟨h1, ho, h2, h3⟩ := R.ob p _ h
  cases ho with
  | dT kvs =>
    refine ⟨kvs, h2, fun od => ?_⟩
    have e1 : Ex Hs (upd Hs p (.frz od (.dT kvs))) := Ex.new h1
    refine ⟨upd Hs p (.frz od (.dT kvs)), e1, ⟨fun a u e => ?_, fun q u e => ?_⟩, .dct upd_same (datT_of (pairedM (fun _ _ r => ⟨r.1, r.2.mono e1⟩) h3))⟩
    · by_cases z : a = p
      · subst z; rw [upd_same] at e ⊢; exact e
      · rw [upd_ne z] at e ⊢; exact R.ex a u e
    · unfold Sto.del at e
      by_cases z : q = p
      · rw [if_pos z] at e; cases e
      · rw [if_neg z] at e
        obtain ⟨q1, ho, q2, q3⟩ := R.ob q u e
        exact ⟨by rw [upd_ne z]; exact q1, ho, by rw [upd_ne z]; exact q2, q3.mono e1⟩
  | _ => exact (h3 : False).elim
theorem set_same {σ : L2.St} {i : Nat} {v : V} (h : σ[i]? = some (some v)) : σ.set i (some v) = σ := by
  apply List.ext_getElem?
  intro j
  by_cases z : i = j
  · subst z
    obtain ⟨hl, hx⟩ := List.getElem?_eq_some_iff.mp h
    rw [List.getElem?_set_self hl, h]
  · rw [List.getElem?_set_ne z]
/-- as it stands -/
theorem ws_lock0 {K : KX} {δ : Env} {S : Sto} {ts : TS} {E : AE} (h : WS K ts δ S E) : WS K (tLockP ts) δ S E := fun Hs H σ D R L q => .inl (h Hs H σ D R L q)
/-- a dict of ours, held by a name, is shared from here on -/
theorem ws_lockT {K : KX} {δ : Env} {S : Sto} {ts : TS} {E : AE} (i : Nat) {p : Addr} {kds : List (List Key × D)} (h : δ[i]? = some (some (.ref p))) (hS : S p = some (.dT kds)) (k : WS K ts (δ.set i (some (.dct kds))) (S.del p) E) : WS K (tLockP ts) δ S E := fun Hs H σ D R L q => by
  obtain ⟨kvs, h1, h2⟩ := R.freezeT hS
  refine .inr ⟨p, _, h1, trivial, fun od => ?_⟩
  obtain ⟨Hs', e, R', r⟩ := h2 od
  obtain ⟨v, hv, hd⟩ := L.at h
  cases hd
  have L' := (L.mono e).set i r
  rw [set_same hv] at L'
  exact k Hs' _ σ D R' L' (q.mono e)
/-! ### is None, of what is told -/
section
variable {S : Sto} {q : Kq} {xs : List D} {i : Int} {a : Addr}
theorem isn_y (h : q (.bl true) S) : phIs false .non .non S q := is_non h
theorem isn_tup (h : q (.bl false) S) : phIs false (.tup xs) .non S q := is_non h
theorem isn_lst (h : q (.bl false) S) : phIs false (.lst xs) .non S q := is_non h
theorem isn_int (h : q (.bl false) S) : phIs false (.int i) .non S q := is_non h
theorem isn_ref (h : q (.bl false) S) : phIs false (.ref a) .non S q := is_non h
theorem nn_y (h : q (.bl false) S) : phIs true .non .non S q := is_non h
theorem nn_tup (h : q (.bl true) S) : phIs true (.tup xs) .non S q := is_non h
theorem nn_lst (h : q (.bl true) S) : phIs true (.lst xs) .non S q := is_non h
theorem nn_int (h : q (.bl true) S) : phIs true (.int i) .non S q := is_non h
theorem nn_ref (h : q (.bl true) S) : phIs true (.ref a) .non S q := is_non h
end
/-! ### walks, asking -/
theorem Rep.learn {K : PySem.W.Frag} {Hs H : Hp} {S : Sto} (R : Rep K Hs H S) {p : Addr} {xs : List V} (h : H p = some (.tup xs)) : ∃ Hs', Ex Hs Hs' ∧ Rep K Hs' H S ∧ Hs' p = some (.tup xs) := by
  cases e : Hs p with
  | some o =>
    have := R.ex p o e
    rw [h] at this; cases this
    exact ⟨Hs, Ex.refl _, R, e⟩
  | none =>
    have e1 : Ex Hs (upd Hs p (.tup xs)) := Ex.new e
    refine ⟨upd Hs p (.tup xs), e1, ⟨fun a u q => ?_, fun q u w => ?_⟩, upd_same⟩
    · by_cases z : a = p
      · subst z; rw [upd_same] at q; cases q; exact h
      · rw [upd_ne z] at q; exact R.ex a u q
    · obtain ⟨q1, ho, q2, q3⟩ := R.ob q u w
      have z : q ≠ p := fun z => by
        subst z
        rw [h] at q2; cases q2
        cases u <;> exact (q3 : False)
      exact ⟨by rw [upd_ne z]; exact q1, ho, q2, q3.mono e1⟩
theorem datT_at {K : PySem.W.Frag} {H : Hp} : ∀ {kvs : List (List Key × V)} {kds : List (List Key × D)} {i : Nat} {k : List Key} {v : V}, DatT K H kvs kds → kvs[i]? = some (k, v) → ∃ d, kds[i]? = some (k, d) ∧ Dat K H v d
  | _, _, _, _, _, .nil, h => by simp at h
  | _, _, 0, _, _, .cons q r, h => by simp at h; obtain ⟨rfl, rfl⟩ := h; exact ⟨_, rfl, q⟩
  | _, _, i + 1, k, v, .cons _ r, h => by
    obtain ⟨d, h1, h2⟩ := datT_at (i := i) (k := k) (v := v) r (by simpa using h)
    exact ⟨d, by simpa using h1, h2⟩
theorem datT_len {K : PySem.W.Frag} {H : Hp} {kvs : List (List Key × V)} {kds : List (List Key × D)} (h : DatT K H kvs kds) : kvs.length = kds.length := paired_len (datT_pair h)
theorem datA_keys {K : PySem.W.Frag} {H : Hp} : ∀ ks : List Key, DatA K H (ks.map kV) (ks.map kD)
  | [] => .nil
  | .inl i :: ks => .cons (.int i) (datA_keys ks)
  | .inr x :: ks => .cons (.str x) (datA_keys ks)
def keysD (kds : List (List Key × D)) : List D := kds.map fun p => .key (p.1.map kD)
def itemsD (kds : List (List Key × D)) : List D := kds.map fun p => .key [.key (p.1.map kD), p.2]
section
variable {K : PySem.W.Frag} {Hs : Hp} {a : Addr} {o : Obj} {kvs : List (List Key × V)} {kds : List (List Key × D)}
theorem dw_keysT (h : Hs a = some (.frz o (.dT kvs))) (r : DatT K Hs kvs kds) : DWalk K Hs (Itkt a o kvs) (keysD kds) := by
  have hl : (keysD kds).length = kvs.length := by unfold keysD; rw [List.length_map, datT_len r]
  refine ⟨fun i H hi e => ⟨e _ _ h, by rw [← hl]; exact hi⟩, fun H e => ⟨e _ _ h, by rw [hl]; exact Nat.le_refl _⟩, fun i Hs1 H S x H' hi e R y => ?_⟩
  obtain ⟨rfl, k, v, q, hk, rfl, hq⟩ := y
  obtain ⟨d, hd, _⟩ := datT_at r hk
  obtain ⟨Hs2, e2, R2, hq2⟩ := R.learn hq
  exact ⟨Hs2, .key (k.map kD), e2, R2, by unfold keysD; rw [List.getElem?_map, hd]; rfl, .key hq2 (datA_keys k)⟩
theorem dw_itemsT (h : Hs a = some (.frz o (.dT kvs))) (r : DatT K Hs kvs kds) : DWalk K Hs (ItiT a o kvs) (itemsD kds) := by
  have hl : (itemsD kds).length = kvs.length := by unfold itemsD; rw [List.length_map, datT_len r]
  refine ⟨fun i H hi e => ⟨e _ _ h, by rw [← hl]; exact hi⟩, fun H e => ⟨e _ _ h, by rw [hl]; exact Nat.le_refl _⟩, fun i Hs1 H S x H' hi e R y => ?_⟩
  obtain ⟨T, q, k, v, hk, hq, rfl, hT, rfl⟩ := y
  obtain ⟨d, hd, hv⟩ := datT_at r hk
  obtain ⟨Hs2, e2, R2, hq2⟩ := R.learn hq
  have e3 : Ex Hs2 (upd Hs2 T (.tup [.ref q, v])) := Ex.new (R2.free hT).1
  exact ⟨upd Hs2 T (.tup [.ref q, v]), .key [.key (k.map kD), d], e2.trans e3, R2.newS hT _, by unfold itemsD; rw [List.getElem?_map, hd]; rfl,
    .key upd_same (.cons (.key (e3 _ _ hq2) (datA_keys k)) (.cons (hv.mono (e.trans (e2.trans e3))) .nil))⟩
end
section
variable {K : KX} {δ : Env} {S : Sto} {te td ty : TE} {R : List D → Sto → Prop} {Q : Kq}
theorem wi_keysT (h : WE K te δ S fun d S1 => ∃ kds, d = .dct kds ∧ R (keysD kds) S1) : WI K (iKeys te) δ S R := fun Hs H σ RR R0 L k => h Hs H σ _ R0 L fun v d Hs1 H1 S1 e1 R1 r1 ⟨kds, hd, q⟩ => by
  subst hd
  cases r1 with
  | dct hq ht => exact ⟨_, _, rfl, .inr ⟨_, R1.ex _ _ hq, k _ _ Hs1 H1 S1 e1 R1 (dw_keysT hq ht) q⟩⟩
theorem wi_itemsT (h : WE K te δ S fun d S1 => ∃ kds, d = .dct kds ∧ R (itemsD kds) S1) : WI K (iItemsT te) δ S R := fun Hs H σ RR R0 L k => h Hs H σ _ R0 L fun v d Hs1 H1 S1 e1 R1 r1 ⟨kds, hd, q⟩ => by
  subst hd
  cases r1 with
  | dct hq ht => exact ⟨_, _, _, rfl, R1.ex _ _ hq, k _ _ Hs1 H1 S1 e1 R1 (dw_itemsT hq ht) q⟩
theorem we_dgetF (h : WE K td δ S fun x S1 => WE K ty δ S1 fun y S2 => ∃ kds k d, x = .dct kds ∧ y = .key (List.map kD k) ∧ valD kds k = some d ∧ Q d S2) : WE K (tDGet td ty) δ S Q := fun Hs H σ QQ R L k =>
  h Hs H σ _ R L fun v x Hs1 H1 S1 e1 R1 r1 h2 => h2 Hs1 H1 σ _ R1 (L.mono e1) fun w y Hs2 H2 S2 e2 R2 r2 ⟨kds, ks, d, hx, hy, hd, q⟩ => by
    subst hx hy
    cases r1 with
    | @dct a o kvs _ hq ht =>
      cases r2 with
      | @key b _ _ hk ha =>
        rw [datA_kD ha] at hk
        obtain ⟨z, hz, rz⟩ := (pairD_val (datT_pair ht)).2 d hd
        refine ⟨a, z, rfl, .inr ⟨kvs, ks, b, .inr ⟨o, R2.ex _ _ (e2 _ _ hq)⟩, rfl, R2.ex _ _ hk, hz.symm⟩, k z d Hs2 H2 S2 (e1.trans e2) R2 (rz.mono e2) q⟩
end
end PL

set_option Elab.async false
set_option linter.all false
set_option maxRecDepth 100000
set_option maxHeartbeats 1000000
/-! PL9: dict(zip(a, b)) of a tuple or list and a list; sorted(d.items()) of a table text -> number. -/
namespace PL
open PySem PySem.Spec PyProof.Rows PySem.W
section
variable {prog : Program} {w : World} {A : Around} {E : Value → Shared → Prop} {s : Shared} {z TI TO i1 i2 : Addr} {fp1 fp2 : List Addr} {n1 n2 i : Nat} {P1 P2 : Nat → Value → Prop} {St1 St2 : Nat → Heap → Prop}
/-- a further pair: the one ahead is still out -/
theorem zipOut_item {T : Addr} {f : Bool} {oT : Obj} {Q : Option Value → Shared → Prop} (S : ZipSep2 z TI TO i1 i2 fp1 fp2) (D1 : Draws prog w A.in1 i1 fp1 n1 P1 St1) (D2 : Draws prog w A.in1 i2 fp2 n2 P2 St2) (hz : IsZipHeld s.heap z TI TO T f) (hT : s.heap.get? T = some oT)
    (hTI : IsPair s.heap TI (.ref i1) (.ref i2)) (st1 : St1 i s.heap) (st2 : St2 i s.heap) (l1 : i < n1) (l2 : i < n2)
    (hQ : ∀ x y h' tk, P1 i x → P2 i y → IsZipHeld h' z TI TO T true → St1 (i + 1) h' → St2 (i + 1) h' → IsPair h' s.heap.objs.size x y → (∀ c o, c ≠ z → c ≠ i1 → c ≠ i2 → s.heap.get? c = some o → h'.get? c = some o) → Q (some (.ref s.heap.objs.size)) { s with heap := h', toks := tk }) :
    wpAny (model prog w) A (pyNext (.ref z)) Q E s := by
  have ty : s.TypeIs (.ref z) "zip" := ⟨_, hz, rfl⟩
  unfold pyNext
  refine wpAny_bind (wpAny_attempt (wpAny_callSpecial?_slot (name := Str.ofString "__next__") ty F.slot_zip_next (wpAny_call_entry F.slot_zip_next ty F.entry_zip_next ?_ (F.args_zip_next_1 _))))
  obtain ⟨hp, g, dr, tk0, os⟩ := s
  show wpAny _ _ (field (.ref z) 2 >>= _) _ _ _
  refine wpAny_bind (wpAny_field hz rfl (x := .bool false) rfl ?_)
  show wpAny _ _ (field (.ref z) 3 >>= _) _ _ _
  refine wpAny_bind (wpAny_field hz rfl (x := .ref TI) rfl (wpAny_bind (wpAny_seqItems hTI rfl ?_)))
  show wpAny _ _ (Builtin.SmallTypes.ownedTupleIsFree (.ref z) >>= _) _ _ _
  refine wpAny_bind (wpAny_tupleHeld_zip hz hT fun g0 z0 b0 => ?_)
  replace b0 : Heap.SameBut z hp g0 := b0
  simp only [Bool.false_eq_true, if_false]
  refine wpAny_bind ?_
  rw [← Array.forIn_toList]; simp only [List.forIn_cons, List.forIn_nil]
  refine wpAny_bind (wpAny_bind (wpAny_holding ?_))
  show wpAny _ _ (Builtin.SmallTypes.nextOf (.ref i1) >>= _) _ _ ⟨g0, g, dr, tk0, os⟩
  refine wpAny_bind (D1.item i _ _ _ l1 (D1.over st1 b0 S.zf1) fun x g1 t1 p1 n1' b1 => wpAny_pure (wpAny_pure ?_))
  replace b1 : Heap.SameBut i1 g0 g1 := b1
  refine wpAny_bind (wpAny_bind (wpAny_holding ?_))
  show wpAny _ _ (Builtin.SmallTypes.nextOf (.ref i2) >>= _) _ _ ⟨g1, g, dr, t1, os⟩
  refine wpAny_bind (D2.item i _ _ _ l2 (D2.over (D2.over st2 b0 S.zf2) b1 S.sep1_2) fun y g2 t2 p2 n2' b2 => wpAny_pure (wpAny_pure (wpAny_pure ?_)))
  replace b2 : Heap.SameBut i2 g1 g2 := b2
  show wpAny _ _ (newTuple [x, y] >>= _) _ _ _
  refine wpAny_bind (wpAny_newTuple (wpAny_pure ⟨_, rfl, wpAny_pure ?_⟩))
  have sz : g2.objs.size = hp.objs.size := by rw [b2.1, b1.1, b0.1]
  have pr : IsPair (g2.push { cls := .type "tuple", data := .seq #[x, y] }) g2.objs.size x y := Heap.get?_push_size _ rfl
  show Q (some (.ref g2.objs.size)) ⟨g2.push { cls := .type "tuple", data := .seq #[x, y] }, g, dr, t2, os⟩
  rw [sz] at pr ⊢
  refine hQ x y _ t2 p1 p2 (Heap.get?_push_of_some _ (b2.extBut _ _ S.zi2 (b1.extBut _ _ S.zi1 z0))) ?_ ?_ pr fun c o c1 c2 c3 e => Heap.get?_push_of_some _ (b2.extBut _ _ c3 (b1.extBut _ _ c2 (b0.extBut _ _ c1 e)))
  · exact D1.frame _ _ _ (D1.over n1' b2 S.sep2_1) fun b hb o e => Heap.get?_push_of_some _ e
  · exact D2.frame _ _ _ n2' fun b hb o e => Heap.get?_push_of_some _ e
/-- the end, an earlier pair still out -/
theorem zipOut_end {T : Addr} {f : Bool} {oT : Obj} {Q : Option Value → Shared → Prop} (S : ZipSep2 z TI TO i1 i2 fp1 fp2) (D1 : Draws prog w A.in1 i1 fp1 n1 P1 St1) (D2 : Draws prog w A.in1 i2 fp2 n2 P2 St2) (hz : IsZipHeld s.heap z TI TO T f) (hT : s.heap.get? T = some oT)
    (hTI : IsPair s.heap TI (.ref i1) (.ref i2)) (hi : i = min n1 n2) (st1 : St1 i s.heap) (st2 : St2 i s.heap)
    (hQ : ∀ h' tk, (∀ c o, c ≠ z → c ≠ i1 → c ≠ i2 → s.heap.get? c = some o → h'.get? c = some o) → Q none { s with heap := h', toks := tk }) :
    wpAny (model prog w) A (pyNext (.ref z)) Q E s := by
  have ty : s.TypeIs (.ref z) "zip" := ⟨_, hz, rfl⟩
  unfold pyNext
  refine wpAny_bind (wpAny_attempt (wpAny_callSpecial?_slot (name := Str.ofString "__next__") ty F.slot_zip_next (wpAny_call_entry F.slot_zip_next ty F.entry_zip_next ?_ (F.args_zip_next_1 _))))
  obtain ⟨hp, g, dr, tk0, os⟩ := s
  show wpAny _ _ (field (.ref z) 2 >>= _) _ _ _
  refine wpAny_bind (wpAny_field hz rfl (x := .bool false) rfl ?_)
  show wpAny _ _ (field (.ref z) 3 >>= _) _ _ _
  refine wpAny_bind (wpAny_field hz rfl (x := .ref TI) rfl (wpAny_bind (wpAny_seqItems hTI rfl ?_)))
  show wpAny _ _ (Builtin.SmallTypes.ownedTupleIsFree (.ref z) >>= _) _ _ _
  refine wpAny_bind (wpAny_tupleHeld_zip hz hT fun g0 z0 b0 => ?_)
  replace b0 : Heap.SameBut z hp g0 := b0
  simp only [Bool.false_eq_true, if_false]
  refine wpAny_bind ?_
  rw [← Array.forIn_toList]; simp only [List.forIn_cons, List.forIn_nil]
  refine wpAny_bind (wpAny_bind (wpAny_holding ?_))
  show wpAny _ _ (Builtin.SmallTypes.nextOf (.ref i1) >>= _) _ _ ⟨g0, g, dr, tk0, os⟩
  by_cases hl : i < n1
  · refine wpAny_bind (D1.item i _ _ _ hl (D1.over st1 b0 S.zf1) fun x g1 t1 p1 n1' b1 => wpAny_pure (wpAny_pure ?_))
    replace b1 : Heap.SameBut i1 g0 g1 := b1
    refine wpAny_bind (wpAny_bind (wpAny_holding ?_))
    show wpAny _ _ (Builtin.SmallTypes.nextOf (.ref i2) >>= _) _ _ ⟨g1, g, dr, t1, os⟩
    have e2 : i = n2 := by omega
    subst e2
    refine wpAny_bind (D2.done _ _ _ (D2.over (D2.over st2 b0 S.zf2) b1 S.sep1_2) fun g2 e b2 he => ?_)
    obtain ⟨o, ho, hc⟩ := he
    refine wpAny_bind (wpAny_isInstance (T := "StopIteration") (b := true) ⟨o, ho, hc⟩ isSubtype_stop ?_)
    exact wpAny_pure (hQ g2 t1 fun c o c1 c2 c3 x => b2 _ _ c3 (b1.extBut _ _ c2 (b0.extBut _ _ c1 x)))
  · have e1 : i = n1 := by omega
    subst e1
    refine wpAny_bind (D1.done _ _ _ (D1.over st1 b0 S.zf1) fun g1 e b1 he => ?_)
    obtain ⟨o, ho, hc⟩ := he
    refine wpAny_bind (wpAny_isInstance (T := "StopIteration") (b := true) ⟨o, ho, hc⟩ isSubtype_stop ?_)
    exact wpAny_pure (hQ g1 tk0 fun c o c1 c2 _ x => b1 _ _ c2 (b0.extBut _ _ c1 x))
/-- what dict() takes: a fresh zip of two walks -/
theorem pairZip (S : ZipSep2 z TI TO i1 i2 fp1 fp2) (D1 : ∀ A : Around, A.handled = none → Draws prog w A i1 fp1 n1 P1 St1) (D2 : ∀ A : Around, A.handled = none → Draws prog w A i2 fp2 n2 P2 St2) :
    PairArg prog w "zip" z (z :: TI :: TO :: (fp1 ++ fp2)) [z, TO, i1, i2] (min n1 n2) (fun i k v => P1 i k ∧ P2 i v)
      (fun h => IsZip h z TI TO .none ∧ IsPair h TI (.ref i1) (.ref i2) ∧ (∃ a b, IsPair h TO a b) ∧ St1 0 h ∧ St2 0 h ∧ ∀ b ∈ fp1 ++ fp2, ∃ o, h.get? b = some o) where
  type := fun s ok => ⟨_, ok.1, rfl⟩
  notDict := by decide
  keep := fun h h' ok k => by
    obtain ⟨a1, a2, ⟨x, y, a3⟩, a4, a5, a6⟩ := ok
    exact ⟨k _ _ a1, k _ _ a2, ⟨x, y, k _ _ a3⟩, (D1 callerA rfl).frame _ _ _ a4 fun b _ o e => k b o e, (D2 callerA rfl).frame _ _ _ a5 fun b _ o e => k b o e, fun b hb => let ⟨o, e⟩ := a6 b hb; ⟨o, k b o e⟩⟩
  there := fun h ok b hb => by
    obtain ⟨a1, a2, ⟨x, y, a3⟩, a4, a5, a6⟩ := ok
    rcases List.mem_cons.mp hb with e | hb
    · rw [e]; exact ⟨_, a1⟩
    · rcases List.mem_cons.mp hb with e | hb
      · rw [e]; exact ⟨_, a2⟩
      · rcases List.mem_cons.mp hb with e | hb
        · rw [e]; exact ⟨_, a3⟩
        · exact a6 b hb
  sub := fun b hb => by
    have e : b = z ∨ b = TO ∨ b = i1 ∨ b = i2 := by simpa using hb
    rcases e with e | e | e | e <;> subst e
    · simp
    · simp
    · simp [S.mem1]
    · simp [S.mem2]
  noKeys := fun A s Q E hA ok h => getAttrOr_miss_zip ok.1 rfl rfl rfl zip_no_keys (by decide +kernel) hA h
  iter := fun A s d Q E hA ok hd hdf h => by
    obtain ⟨a1, a2, ⟨x0, y0, a3⟩, a4, a5, a6⟩ := ok
    have dz : d ≠ z := fun e => hdf (by simp [e])
    have dI : d ≠ TI := fun e => hdf (by simp [e])
    have dO : d ≠ TO := fun e => hdf (by simp [e])
    have d1 : d ∉ fp1 := fun e => hdf (by simp [e])
    have d2 : d ∉ fp2 := fun e => hdf (by simp [e])
    have di1 : d ≠ i1 := fun e => d1 (by rw [e]; exact S.mem1)
    have di2 : d ≠ i2 := fun e => d2 (by rw [e]; exact S.mem2)
    have off : ∀ {c : Addr}, c ∉ [z, TO, i1, i2] → c ≠ z ∧ c ≠ TO ∧ c ≠ i1 ∧ c ≠ i2 := fun {c} hc => by simpa using hc
    refine wpAny_pyIter_zip a1 (h z [z, TO, i1, i2] (fun i h => IsPair h TI (.ref i1) (.ref i2) ∧ St1 i h ∧ St2 i h ∧ ((IsZip h z TI TO .none ∧ ∃ a b, IsPair h TO a b) ∨ ∃ T f oT, IsZipHeld h z TI TO T f ∧ h.get? T = some oT ∧ T ≠ z ∧ T ≠ i1 ∧ T ≠ i2 ∧ T ≠ d)) s.heap s.toks ?_
      ⟨a2, a4, a5, .inl ⟨a1, x0, y0, a3⟩⟩ (fun _ _ e => e) fun b hb => .inl hb)
    exact {
      off := fun hm => by
        have e : d = z ∨ d = TO ∨ d = i1 ∨ d = i2 := by simpa using hm
        rcases e with e | e | e | e
        · exact dz e
        · exact dO e
        · exact di1 e
        · exact di2 e
      frame := fun i h₁ h₂ st k => by
        obtain ⟨b1, b2, b3, b4⟩ := st
        refine ⟨k _ _ dI.symm b1, (D1 A hA).frame _ _ _ b2 fun b hb o e => k b o (fun q => d1 (q ▸ hb)) e, (D2 A hA).frame _ _ _ b3 fun b hb o e => k b o (fun q => d2 (q ▸ hb)) e, ?_⟩
        rcases b4 with ⟨c1, a, b, c2⟩ | ⟨T, f, oT, c1, c2, c3, c4, c5, c6⟩
        · exact .inl ⟨k _ _ dz.symm c1, a, b, k _ _ dO.symm c2⟩
        · exact .inr ⟨T, f, oT, k _ _ dz.symm c1, k _ _ c6 c2, c3, c4, c5, c6⟩
      item := fun i s₁ Q₁ E₁ hi st hds hQ => by
        obtain ⟨b1, b2, b3, b4⟩ := st
        have l1 : i < n1 := by omega
        have l2 : i < n2 := by omega
        have lt : ∀ {c o}, s₁.heap.get? c = some o → s₁.heap.objs.size ≠ c := fun e => Nat.ne_of_gt (Heap.lt_size e)
        have m1 : s₁.heap.objs.size ≠ i1 := let ⟨_, e⟩ := (D1 A hA).live _ _ b2; lt e
        have m2 : s₁.heap.objs.size ≠ i2 := let ⟨_, e⟩ := (D2 A hA).live _ _ b3; lt e
        rcases b4 with ⟨c1, a, b, c2⟩ | ⟨T, f, oT, c1, c2, c3, c4, c5, c6⟩
        · refine wpAny_pyNext_zipD2_item S (D1 A.in1 hA) (D2 A.in1 hA) c1 b1 c2 b2 b3 l1 l2 fun x y h' tk p1 p2 e1 e2 e3 e4 e5 e6 k => ?_
          refine hQ s₁.heap.objs.size x y h' tk ⟨p1, p2⟩ (.inl ⟨_, e5, rfl, _, rfl⟩) ⟨k _ _ S.TIz S.TITO S.TIi1 S.TIi2 b1, e3, e4, .inr ⟨s₁.heap.objs.size, false, _, e1, e5, lt c1, m1, m2, Nat.ne_of_gt hds⟩⟩ fun c o hc e => ?_
          obtain ⟨q1, q2, q3, q4⟩ := off hc
          exact k c o q1 q2 q3 q4 e
        · refine zipOut_item S (D1 A.in1 hA) (D2 A.in1 hA) c1 c2 b1 b2 b3 l1 l2 fun x y h' tk p1 p2 e1 e3 e4 e5 k => ?_
          refine hQ s₁.heap.objs.size x y h' tk ⟨p1, p2⟩ (.inl ⟨_, e5, rfl, _, rfl⟩) ⟨k _ _ S.TIz S.TIi1 S.TIi2 b1, e3, e4, .inr ⟨T, true, oT, e1, k _ _ c3 c4 c5 c2, c3, c4, c5, c6⟩⟩ fun c o hc e => ?_
          obtain ⟨q1, q2, q3, q4⟩ := off hc
          exact k c o q1 q3 q4 e
      done := fun s₁ Q₁ E₁ st hQ => by
        obtain ⟨b1, b2, b3, b4⟩ := st
        rcases b4 with ⟨c1, a, b, c2⟩ | ⟨T, f, oT, c1, c2, c3, c4, c5, c6⟩
        · refine wpAny_pyNext_zipD2_end S (D1 A.in1 hA) (D2 A.in1 hA) c1 b1 c2 b2 b3 (by omega) (by omega) (by omega) fun h' tk k => ?_
          exact hQ h' tk fun c o hc e => by
            obtain ⟨q1, q2, q3, q4⟩ := off hc
            exact k c o q1 q2 q3 q4 e
        · exact zipOut_end S (D1 A.in1 hA) (D2 A.in1 hA) c1 c2 b1 rfl b2 b3 fun h' tk k => hQ h' tk fun c o hc e => by
            obtain ⟨q1, q2, q3, q4⟩ := off hc
            exact k c o q1 q3 q4 e }
end
/-- a list or a tuple, ready to be walked -/
theorem src_of {prog : Program} {w : World} {s : Shared} {a : Addr} {its : Array Value} (h : s.heap.IsList a its ∨ s.heap.IsTuple a its) : ∃ (o : Obj) (P : Heap → Prop), Begins (.ref a) o P ∧ P s.heap ∧
    ∀ it, a ≠ it → ∃ St : Nat → Heap → Prop, (∀ A : Around, A.handled = none → Draws prog w A it [it, a] its.size (fun i v => its[i]? = some v) St) ∧ ∀ h', h'.get? it = some o → (∀ ob, s.heap.get? a = some ob → h'.get? a = some ob) → St 0 h' := by
  rcases h with h | h
  · refine ⟨_, _, begins_list a its, h, fun it hne => ⟨_, fun A hA => Draws.list hA it a hne its, fun h' g k => ⟨⟨_, g, rfl, rfl⟩, h.at fun o e => k o e⟩⟩⟩
  · refine ⟨_, _, begins_tuple a its, h, fun it hne => ⟨_, fun A hA => Draws.tuple hA it a hne its, fun h' g k => ⟨⟨_, g, rfl, rfl⟩, h.at fun o e => k o e⟩⟩⟩
def SqA (K : PySem.W.Frag) (H : L2.Hp) (a : Addr) (xs : List L2.V) : Prop := L2.SqL K H a xs ∨ L2.SqT K H a xs
theorem sqA_of {X : L2.Cx} {pins : List (Addr × Obj)} {τ : L2.St} {H : L2.Hp} {s : Shared} {a : Addr} {xs : List L2.V} (I : L2.Inv X pins τ H s) (h : SqA X.K H a xs) : ∃ its : List Value, L2.Vals xs its ∧ (s.heap.IsList a its.toArray ∨ s.heap.IsTuple a its.toArray) ∧ its.length ≤ sizeLine := by
  rcases h with h | h
  · obtain ⟨its, r, p, z⟩ := I.list h
    exact ⟨its, r, .inl p.isList, by rw [← r.length]; exact z⟩
  · obtain ⟨its, r, p, z⟩ := I.tuple h
    exact ⟨its, r, .inr p, by rw [← r.length]; exact z⟩
theorem kv_zip {prog : Program} {w : World} : ∀ {ks : List L2.Key} {ys : List L2.V} {us vs : List Value}, L2.Vals (ks.map L2.kV) us → L2.Vals ys vs → L2.KV (ks.zip ys) (ks.zip vs) ∧ ∀ (i : Nat) (u v : Value), us[i]? = some u → vs[i]? = some v → ∃ k, (ks.zip vs)[i]? = some (k, v) ∧ (L2.mixKind prog w).is k u = true
  | [], _, _, _, .nil, _ => ⟨.nil, fun i u v h _ => by simp at h⟩
  | _ :: _, [], _, _, .cons _ _, .nil => ⟨.nil, fun i u v _ h => by simp at h⟩
  | k :: ks, y :: ys, _, _, .cons r1 r2, .cons q1 q2 => by
    obtain ⟨a, b⟩ := kv_zip (prog := prog) (w := w) r2 q2
    refine ⟨.cons ⟨rfl, q1⟩ a, fun i u v h1 h2 => ?_⟩
    cases i with
    | zero => cases h1; cases h2; exact ⟨k, rfl, L2.kV_is r1⟩
    | succ i =>
      obtain ⟨k', c, d⟩ := b i u v (by simpa using h1) (by simpa using h2)
      exact ⟨k', by simpa using c, d⟩
/-- dict(zip(a, b)) -/
def tDictZip (K : PySem.W.Frag) (t : L2.TA) : L2.TE := fun σ H Q => t σ H fun xs H2 => ∃ (a b : Addr) (ks : List L2.Key) (ys : List L2.V), xs = [.ref a, .ref b] ∧ SqA K H2 a (ks.map L2.kV) ∧ SqA K H2 b ys ∧ ks.length = ys.length ∧
  ∀ p, H2 p = none → Q (.ref p) (L2.upd H2 p (.dK (L2.mergeK [] (ks.zip ys))))
theorem pe_dictZip {X : L2.Cx} {a b : Expr} {t : L2.TA} {p p2 q pos : Pos} (hc : X.calm = true) (hg : L2.Gl X "dict") (hm : X.mg "dict" = none) (hg2 : L2.Gl X "zip") (hm2 : X.mg "zip" = none) (ha : L2.PA X [a, b] t)
    (hs : starEach [a, b] X.env = (false, eval a X.env) :: starEach [b] X.env := by rfl) (hpl : (backTo q (starEach [b] X.env)).any (·.1) = false := by rfl) : L2.PE X (.Call (.Name "dict" p) [.Call (.Name "zip" p2) [a, b] [] q] [] pos) (tDictZip X.K t) := by
  refine ⟨fun pins s σ H Q I h => ?_⟩
  refine Call_ (L2.ld_blt I hg hm boot_dict ?_)
  refine PyProof.Rows.callWith_type1 (PyProof.Rows.args_cons ?_ rfl) rfl rfl
  refine Call_ (L2.ld_blt I hg2 hm2 boot_zip (PyProof.Rows.callWith_type1 (L2.thn (ha.run q pins s σ H _ I h) fun args s2 w2 => ?_) hs hpl))
  obtain ⟨args', H2, I2, r2, aa, ab, ks, ys, ex, ka, kb, hl, q2⟩ := w2
  subst ex
  obtain ⟨v, v2, rfl, r1, r2'⟩ := L2.vals2 r2
  obtain rfl : v = Value.ref aa := r1
  obtain rfl : v2 = Value.ref ab := r2'
  obtain ⟨us, ru, pa, za⟩ := sqA_of I2 ka
  obtain ⟨vs, rv, pb, zb⟩ := sqA_of I2 kb
  have la : aa < s2.heap.objs.size := by
    rcases pa with h | h
    · obtain ⟨_, e, _⟩ := h; exact Heap.lt_size e
    · obtain ⟨_, e, _⟩ := h; exact Heap.lt_size e
  have lb : ab < s2.heap.objs.size := by
    rcases pb with h | h
    · obtain ⟨_, e, _⟩ := h; exact Heap.lt_size e
    · obtain ⟨_, e, _⟩ := h; exact Heap.lt_size e
  obtain ⟨o1, P1, B1, m1, d1⟩ := src_of (prog := X.prog) (w := X.w) pa
  obtain ⟨o2, P2, B2, m2, d2⟩ := src_of (prog := X.prog) (w := X.w) pb
  refine zip_begins2 B1 B2 m1 m2 fun h' hz hTI hTO g1 g2 sz k => PyProof.Rows.args_nil ?_
  obtain ⟨St1, D1, st1⟩ := d1 s2.heap.objs.size (Nat.ne_of_lt la)
  obtain ⟨St2, D2, st2⟩ := d2 (s2.heap.objs.size + 1) (Nat.ne_of_lt (Nat.lt_succ_of_lt lb))
  have S : ZipSep2 (s2.heap.objs.size + 4) (s2.heap.objs.size + 2) (s2.heap.objs.size + 3) s2.heap.objs.size (s2.heap.objs.size + 1) [s2.heap.objs.size, aa] [s2.heap.objs.size + 1, ab] :=
    zip_sep2 (fp1 := [aa]) (fp2 := [ab]) (fun c hc => by rw [List.mem_singleton] at hc; rw [hc]; exact la) fun c hc => by rw [List.mem_singleton] at hc; rw [hc]; exact lb
  have PA := pairZip S D1 D2
  obtain ⟨kv, pk⟩ := kv_zip (prog := X.prog) (w := X.w) ru rv
  have e1 : us.length = ks.length := by rw [← ru.length, List.length_map]
  have e2 : vs.length = ks.length := by rw [← rv.length, hl]
  have mn : min us.toArray.size vs.toArray.size = ks.length := by rw [List.size_toArray, List.size_toArray]; omega
  have big : ks.length ≤ sizeLine := by omega
  refine PySem.call_dict_pairs (knd := L2.mixKind X.prog X.w) (kvs := ks.zip vs) PA (I2.ok.hd hc) ⟨hz, hTI, ⟨_, _, hTO⟩, st1 h' g1 fun ob e => k _ _ e, st2 h' g2 fun ob e => k _ _ e, fun c hcm => ?_⟩ ⟨by rw [List.length_zip, mn]; omega, fun i u v hp => ?_⟩ (by rw [mn]; exact big) fun h2 tk hd hk => ?_
  · have e : c = s2.heap.objs.size ∨ c = aa ∨ c = s2.heap.objs.size + 1 ∨ c = ab := by simpa using hcm
    rcases e with e | e | e | e <;> rw [e]
    · exact ⟨_, g1⟩
    · rcases pa with h | h
      · obtain ⟨o, e, _⟩ := h; exact ⟨_, k _ _ e⟩
      · obtain ⟨o, e, _⟩ := h; exact ⟨_, k _ _ e⟩
    · exact ⟨_, g2⟩
    · rcases pb with h | h
      · obtain ⟨o, e, _⟩ := h; exact ⟨_, k _ _ e⟩
      · obtain ⟨o, e, _⟩ := h; exact ⟨_, k _ _ e⟩
  · exact pk i u v (by simpa using hp.1) (by simpa using hp.2)
  · have old : ∀ c o, s2.heap.get? c = some o → h2.get? c = some o := fun c o e => hk c o (fun m => by
      have lt := Heap.lt_size e
      have e' : c = s2.heap.objs.size + 4 ∨ c = s2.heap.objs.size + 3 ∨ c = s2.heap.objs.size ∨ c = s2.heap.objs.size + 1 := by simpa using m
      rcases e' with e' | e' | e' | e' <;> (rw [e'] at lt; first | exact absurd lt (Nat.lt_irrefl _) | exact absurd (Nat.lt_trans lt (Nat.lt_succ_self _)) (by omega) | omega)) (k _ _ e)
    have up : s2.heap.objs.size ≤ h'.objs.size := by omega
    have sysne : (h'.objs.size == sysModules) = false := beq_eq_false_iff_ne.mpr (Nat.ne_of_gt (Nat.lt_of_lt_of_le I2.big up))
    have len : (L2.mergeK [] (ks.zip ys)).length ≤ sizeLine := by
      refine Nat.le_trans (L2.length_mergeK _ []) ?_
      rw [List.length_nil, Nat.zero_add, List.length_zip]
      omega
    exact ⟨.ref h'.objs.size, _, I2.laid (t' := tk) old up (show L2.ObjOk X.prog X.w _ _ _ (.dK (L2.mergeK [] (ks.zip ys))) from ⟨len, sysne, merged [] (ks.zip vs), L2.KV.merge kv .nil, hd⟩), rfl, q2 _ (I2.hok.fresh up)⟩
theorem pe_dictZipK {X : L2.Cx} {K : PySem.W.Frag} (hk : X.K = K) {a b : Expr} {t : L2.TA} {p p2 q pos : Pos} (hc : X.calm = true) (hg : L2.Gl X "dict") (hm : X.mg "dict" = none) (hg2 : L2.Gl X "zip") (hm2 : X.mg "zip" = none) (ha : L2.PA X [a, b] t)
    (hs : starEach [a, b] X.env = (false, eval a X.env) :: starEach [b] X.env := by rfl) (hpl : (backTo q (starEach [b] X.env)).any (·.1) = false := by rfl) : L2.PE X (.Call (.Name "dict" p) [.Call (.Name "zip" p2) [a, b] [] q] [] pos) (tDictZip K t) := by
  subst hk; exact pe_dictZip hc hg hm hg2 hm2 ha hs hpl
/-! ### sorted(d.items()), d a table text -> number -/
def pE (p : Str × Int) : PyData := .tuple [.str p.1, .int p.2]
def tabK (ps : List (Str × Int)) : List (L2.Key × L2.V) := ps.map fun p => (.inr p.1, .int p.2)
def rowAt (lo : Nat) (h : Heap) (v : Value) (p : Str × Int) : Prop := ∃ (a : Addr) (t t' : Tok), v = .ref a ∧ h.get? a = some { cls := .type "tuple", data := .seq #[.str p.1 t, .int p.2 t'] } ∧ lo ≤ a
theorem pairs_get {κ : Type} [DecidableEq κ] {prog : Program} {w : World} {knd : KeyKind prog w κ} : ∀ {es : List DictEntry} {vs : List (κ × Value)} {j : Nat} {e : DictEntry} {v : κ × Value}, PySem.Pairs knd es vs → es[j]? = some e → vs[j]? = some v → knd.is v.1 e.key = true ∧ e.val = v.2
  | _, _, _, _, _, .nil, h, _ => by simp at h
  | _, _, 0, _, _, .cons h1 h2 _, a, b => by cases a; cases b; exact ⟨h1, h2⟩
  | _, _, j + 1, _, _, .cons _ _ t, a, b => pairs_get (j := j) t (by simpa using a) (by simpa using b)
theorem each_made {lo : Nat} {h : Heap} : ∀ (as : List Addr) (ps : List (Str × Int)), as.length = ps.length → (∀ (j : Nat) (a : Addr), as[j]? = some a → ∃ p, ps[j]? = some p ∧ rowAt lo h (.ref a) p) → PySem.W.EachIs (rowAt lo h) (as.map Value.ref) ps
  | [], [], _, _ => .nil
  | [], _ :: _, h, _ => by simp at h
  | _ :: _, [], h, _ => by simp at h
  | a :: as, p :: ps, hl, hm => by
    obtain ⟨p', e, r⟩ := hm 0 a rfl
    cases e
    exact .cons r (each_made as ps (by simpa using hl) fun j b hj => by
      obtain ⟨p', e, r⟩ := hm (j + 1) b (by simpa using hj)
      exact ⟨p', by simpa using e, r⟩)
theorem each_refs {lo : Nat} {h : Heap} : ∀ {out : List Value} {ps : List (Str × Int)}, PySem.W.EachIs (rowAt lo h) out ps → ∃ bs : List Addr, L2.Vals (bs.map L2.V.ref) out ∧ Paired (fun b p => rowAt lo h (.ref b) p) bs ps
  | _, _, .nil => ⟨[], .nil, .nil⟩
  | _, _, .cons ⟨a, t, t', e1, e2⟩ r => by
    obtain ⟨bs, g2, g3⟩ := each_refs r
    subst e1
    exact ⟨a :: bs, .cons rfl g2, .cons ⟨a, t, t', rfl, e2⟩ g3⟩
theorem paired_mem {α β : Type} {F : α → β → Prop} {xs : List α} {ys : List β} (h : Paired F xs ys) : ∀ x ∈ xs, ∃ y, F x y := by
  induction h with
  | nil => intro x hx; exact absurd hx (by simp)
  | cons r _ ih =>
    intro x hx
    rcases List.mem_cons.mp hx with e | e
    · rw [e]; exact ⟨_, r⟩
    · exact ih x e
theorem row_one {lo : Nat} {h : Heap} {b : Addr} {p p' : Str × Int} (r : rowAt lo h (.ref b) p) (r' : rowAt lo h (.ref b) p') : p = p' := by
  obtain ⟨a, t, t', e, g, _⟩ := r
  obtain ⟨a', u, u', e', g', _⟩ := r'
  cases e; cases e'
  rw [g] at g'
  obtain ⟨x, y⟩ := p
  obtain ⟨x', y'⟩ := p'
  simp only [Option.some.injEq, Obj.mk.injEq, true_and, Data.seq.injEq, Array.mk.injEq, List.cons.injEq, Value.str.injEq, Value.int.injEq, and_true] at g'
  rw [g'.1.1, g'.2.1]
def rowO (p : Str × Int) : L2.HO := .tup [.str p.1, .int p.2]
theorem row_ok {P : Program} {w : World} {lo : Nat} {h : Heap} {b : Addr} {p : Str × Int} (r : rowAt lo h (.ref b) p) (H : L2.Hp) : L2.ObjOk P w H h b (rowO p) := by
  obtain ⟨a, t, t', e, g, _⟩ := r
  cases e
  exact ⟨by show 2 ≤ sizeLine; decide, [.str p.1 t, .int p.2 t'], .cons ⟨_, rfl⟩ (.cons ⟨_, rfl⟩ .nil), ⟨_, g, rfl, _, rfl⟩⟩
/-- tuples already laid are tracked too -/
theorem track {X : L2.Cx} {pins : List (Addr × Obj)} {τ : L2.St} {H0 : L2.Hp} {s : Shared} {h' : Heap} {tk : Nat} (I0 : L2.Inv X pins τ H0 s) {bs : List Addr} {ps : List (Str × Int)} (r : Paired (fun b p => rowAt s.heap.objs.size h' (.ref b) p) bs ps) :
    ∀ H1 : L2.Hp, L2.Inv X pins τ H1 { s with heap := h', toks := tk } → (∀ b ∈ bs, H1 b = none ∨ ∃ p, H1 b = some (rowO p) ∧ rowAt s.heap.objs.size h' (.ref b) p) →
    ∃ H2 : L2.Hp, L2.Inv X pins τ H2 { s with heap := h', toks := tk } ∧ (∀ b o, H1 b = some o → H2 b = some o) ∧ Paired (fun a p => H2 a = some (rowO p)) bs ps := by
  induction r with
  | nil => intro H1 I1 _; exact ⟨H1, I1, fun _ _ e => e, .nil⟩
  | @cons b p bs ps r rr ih =>
    intro H1 I1 hb
    rcases hb b (List.mem_cons_self ..) with hn | ⟨p', hp', r'⟩
    · have lo : s.heap.objs.size ≤ b := by obtain ⟨a, _, _, e, _, z⟩ := r; cases e; exact z
      have I2 : L2.Inv X pins τ (L2.upd H1 b (rowO p)) { s with heap := h', toks := tk } := I1.take (h' := h') (t' := tk) (fun c ob _ e => e) (I0.fpOk lo hn) (row_ok r _)
      obtain ⟨H2, J, g, q⟩ := ih _ I2 fun c hc => by
        by_cases z : c = b
        · subst z; exact .inr ⟨p, L2.upd_same, r⟩
        · rw [L2.upd_ne z]; exact hb c (List.mem_cons_of_mem _ hc)
      exact ⟨H2, J, fun c o e => g c o (by rw [L2.upd_ne (L2.ne_of_none e hn)]; exact e), .cons (g _ _ L2.upd_same) q⟩
    · obtain ⟨H2, J, g, q⟩ := ih _ I1 fun c hc => hb c (List.mem_cons_of_mem _ hc)
      have e := row_one r r'
      subst e
      exact ⟨H2, J, g, .cons (g _ _ hp') q⟩
def tSortIt (te : L2.TE) : L2.TE := fun σ H Q => te σ H fun x H1 => ∃ (d : Addr) (ps : List (Str × Int)), x = .ref d ∧ L2.Rd H1 d (.dK (tabK ps)) ∧
  ∀ (H2 : L2.Hp) (as : List Addr) (l : Addr), (∀ b o, H1 b = some o → H2 b = some o) → H1 l = none → l ∉ as → (∀ a ∈ as, H1 a = none) → H2 l = some (.lst (as.map L2.V.ref)) → Paired (fun a p => H2 a = some (rowO p)) as (ps.mergeSort (PySem.W.dataLe false pE)) → Q (.ref l) H2
theorem pe_sortIt {X : L2.Cx} {e : Expr} {te : L2.TE} {p apos cpos pos : Pos} (hc : X.calm = true) (hu : X.A.units + 64 < cLine) (hg : L2.Gl X "sorted") (hm : X.mg "sorted" = none) (he : L2.PE X e te)
    (hbase : attributeBase e "items" X.env (eval e X.env) = eval e X.env := by rfl) (hline : (apos.endLine == cpos.line) = true := by rfl) :
    L2.PE X (.Call (.Name "sorted" p) [.Call (.Attribute e "items" apos) [] [] cpos] [] pos) (tSortIt te) := by
  refine ⟨fun pins s σ H Q I h => ?_⟩
  refine Call_ (L2.ld_blt I hg hm boot_sorted ?_)
  refine PyProof.Rows.callWith_builtin1 (PyProof.Rows.args_cons ?_ rfl) rfl rfl
  refine wpAny_Call_method (T := "dict") (id := "dict.items") hbase rfl hline F.plainAttrs_dict F.slot_dict_items F.type_dict_items (L2.thn (he.run pins s σ H _ I h) fun u s1 w => ?_)
  obtain ⟨x, H1, I1, rx, d, ps, ex, hd, q⟩ := w
  subst ex
  obtain rfl : u = Value.ref d := rx
  obtain ⟨z, hs, vs, kv, o, es, ep, ho, hx, hdat, hks, hpr, hnd⟩ := (show L2.ObjOk X.prog X.w H1 s1.heap d (.dK (tabK ps)) from hd.ok I1.hok)
  have raw : DT.Raw s1.heap d es ep := ⟨o, ho, hx, hdat⟩
  refine ⟨raw.typeIs, fun b eb => (by cases eb; exact ⟨o, ho, hx.2.1⟩), ?_⟩
  have I2 : L2.Inv X pins σ H1 { s1 with heap := s1.heap.push { cls := .type "dict_items", data := .fields #[.ref d] } } := I1.kept (t' := s1.toks) fun b ob e => Heap.get?_push_of_some _ e
  have view : (s1.heap.push { cls := .type "dict_items", data := .fields #[.ref d] }).IsItemsView s1.heap.objs.size d := ⟨_, Heap.get?_push_size _ rfl, rfl, rfl⟩
  have raw2 := raw.push { cls := .type "dict_items", data := .fields #[.ref d] }
  show wpAny _ _ (callWith cpos (.builtin "dict.items") [.ref d] [] []) _ X.xe s1
  refine method_meetsIn F.slot_dict_items F.entry_dict_items rfl (PySem.evalArgs_none ⟨rfl, raw.typeIs, F.args_dict_items_1 _, _, DT.meetsItems (es := es) (ep := ep) hs, raw, ?_⟩)
  refine PyProof.Rows.args_nil ?_
  revert I2 view raw2
  generalize s1.heap.push { cls := .type "dict_items", data := .fields #[.ref d] } = g
  intro I2 view raw2
  have lv : vs.length = ps.length := by have := Paired.length kv; rw [← this]; unfold tabK; rw [List.length_map]
  have le : es.size = ps.length := by rw [← lv, ← hpr.length, Array.length_toList]
  have zl : ps.length ≤ sizeLine := by have := z; unfold tabK at this; rw [List.length_map] at this; exact this
  refine DT.sortedI (s := { s1 with heap := g }) (es := es) (ep := ep) (I2.ok.hd hc) view raw2 (by rw [le]; exact zl) fun h' tk as hk hlt hl hG => ?_
  -- each pair that was made
  have made : ∀ (j : Nat) (a : Addr), as[j]? = some a → ∃ p, ps[j]? = some p ∧ rowAt g.objs.size h' (.ref a) p := fun j a hj => by
    obtain ⟨en, hen, hga⟩ := hG.pairs j a hj
    have hjl : j < ps.length := by have := (List.getElem?_eq_some_iff.mp hj).1; omega
    have hp : ps[j]? = some ps[j] := List.getElem?_eq_getElem hjl
    refine ⟨ps[j], hp, a, ?_⟩
    have hkv : (tabK ps)[j]? = some (.inr ps[j].1, .int ps[j].2) := by unfold tabK; rw [List.getElem?_map, hp]; rfl
    obtain ⟨v, hv, ev, rv⟩ := L2.paired_get kv hkv
    have get := pairs_get hpr (by simpa using hen) hv
    obtain ⟨t, et⟩ : ∃ t, en.key = .str ps[j].1 t := by
      have := get.1
      rw [← ev] at this
      rcases L2.keyIs_shape (show L2.keyIs (.inr ps[j].1) en.key = true from this) with ⟨i, t, e1, e2⟩ | ⟨x, t, e1, e2⟩
      · cases e1
      · cases e1; exact ⟨t, e2⟩
    obtain ⟨t', et'⟩ : ∃ t', en.val = .int ps[j].2 t' := by
      rw [get.2]
      exact rv
    exact ⟨t, t', rfl, by rw [← et, ← et']; exact hga, Nat.le_of_lt (hG.above a (List.mem_of_getElem? hj))⟩
  have each : PySem.W.EachIs (rowAt g.objs.size h') (as.map Value.ref) ps := each_made as ps (by omega) made
  have obl : (h'.push { cls := .type "list", data := .seq (as.map Value.ref).toArray }).get? h'.objs.size = some (seqObj "list" (as.map Value.ref).toArray 0) := Heap.get?_push_size _ rfl
  have up : ∀ {v : Value} {p : Str × Int}, rowAt g.objs.size h' v p → rowAt g.objs.size (h'.push { cls := .type "list", data := .seq (as.map Value.ref).toArray }) v p := fun {v p} ⟨a, t, t', e1, e2, e3⟩ => ⟨a, t, t', e1, Heap.get?_push_of_some _ e2, e3⟩
  refine PySem.W.list_sort_data (R := rowAt g.objs.size h') (bs := ps) (enc := pE) (s := { s1 with heap := h'.push { cls := .type "list", data := .seq (as.map Value.ref).toArray }, toks := tk }) obl each (each.mono fun v p hr => ?_) (PySem.W.AllAlike.of fun a b => by simp [pE, PySem.W.alike, PySem.W.alikeAll]) (PySem.W.Sortable.tuples fun b => ⟨_, _, rfl⟩) zl (fun b _ => ?_) fun out hout eo => ?_
  · obtain ⟨a, t, t', e1, e2, _⟩ := up hr
    subst e1
    exact ⟨_, Reads.tuple e2 rfl rfl (.cons (.str _ _) (.cons (.int _ _) .nil)), by simp⟩
  · have : (pE b).depth ≤ 1 := by simp [pE, PyData.depth, PyData.depthAll]
    show X.A.units + 1 + 1 + (pE b).depth < cLine
    omega
  -- the end
  obtain ⟨n, hn⟩ := sortedHeap_at (out := out.toArray) obl
  have old : ∀ b o, h'.get? b = some o → (sortedHeap (h'.push { cls := .type "list", data := .seq (as.map Value.ref).toArray }) h'.objs.size (as.map Value.ref) out.toArray).get? b = some o := fun b o e =>
    (sortedHeap_old (Nat.ne_of_lt (Heap.lt_size e)) (by rw [Heap.size_push]; exact Nat.lt_succ_of_lt (Heap.lt_size e))).trans (Heap.get?_push_of_some _ e)
  revert hn old
  generalize sortedHeap (h'.push { cls := .type "list", data := .seq (as.map Value.ref).toArray }) h'.objs.size (as.map Value.ref) out.toArray = hF
  intro hn old
  obtain ⟨bs, eb2, eb3⟩ := each_refs eo
  have bl : bs.length = out.length := by have := eb2.length; rw [List.length_map] at this; exact this
  have I3 : L2.Inv X pins σ (L2.upd H1 h'.objs.size (.lst (bs.map L2.V.ref))) { s1 with heap := hF, toks := tk } :=
    I2.laid (a := h'.objs.size) (h' := hF) (t' := tk) (o := .lst (bs.map L2.V.ref)) (fun b o e => old b o (hk b o e)) (Nat.le_of_lt hlt) ⟨by rw [List.length_map, bl, hout]; exact zl, out, n, eb2, hn⟩
  have eb4 : Paired (fun b p => rowAt g.objs.size hF (.ref b) p) bs (ps.mergeSort (PySem.W.dataLe false pE)) := PL.pairedM (fun b p ⟨a, t, t', e1, e2, e3⟩ => ⟨a, t, t', e1, old _ _ e2, e3⟩) eb3
  have fresh : ∀ b ∈ bs, H1 b = none ∧ b ≠ h'.objs.size := fun b hb => by
    obtain ⟨p, a, t, t', e, e2, e3⟩ := paired_mem eb3 b hb
    cases e
    exact ⟨I2.hok.fresh e3, Nat.ne_of_lt (Heap.lt_size e2)⟩
  obtain ⟨H2, J, up2, pr⟩ := track (s := { s1 with heap := g }) (h' := hF) (tk := tk) I2 eb4 _ I3 fun b hb => .inl (by rw [L2.upd_ne (fresh b hb).2]; exact (fresh b hb).1)
  have nl : H1 h'.objs.size = none := I2.hok.fresh (Nat.le_of_lt hlt)
  exact ⟨.ref h'.objs.size, H2, J, rfl, q H2 bs h'.objs.size (fun b o e => up2 b o (by rw [L2.upd_ne (L2.ne_of_none e nl)]; exact e)) nl (fun hm => (fresh _ hm).2 rfl) (fun b hb => (fresh b hb).1) (up2 _ _ L2.upd_same) pr⟩
/-! ### over plain data -/
open L2
theorem tabK_of {K : PySem.W.Frag} {H : Hp} : ∀ {kvs : List (Key × V)} {ps : List (Str × Int)}, Paired (PairD K H) kvs (ps.map fun p => ((.inr p.1 : Key), D.int p.2)) → kvs = tabK ps
  | _, [], .nil => rfl
  | (k, v) :: _, p :: ps, .cons h t => by
    have e : k = .inr p.1 := h.1
    have q : Dat K H v (.int p.2) := h.2
    cases q
    subst e
    rw [tabK_of t]
    rfl
theorem pair_zip {K : PySem.W.Frag} {H : Hp} : ∀ (ks : List Key) {vs : List V} {ds : List D}, DatA K H vs ds → Paired (PairD K H) (ks.zip vs) (ks.zip ds)
  | [], _, _, _ => .nil
  | _ :: _, _, _, .nil => .nil
  | k :: ks, _, _, .cons r t => .cons ⟨rfl, r⟩ (pair_zip ks t)
theorem we_dictZip {K : KX} {δ : Env} {S : Sto} {t : TA} {Q : Kq} (h : WA K t δ S fun ds S1 => ∃ x y ks ys, ds = [x, y] ∧ asQ S1 x = some (List.map kD ks) ∧ asQ S1 y = some ys ∧ ks.length = ys.length ∧ ∀ p, S1 p = none → Q (.ref p) (S1.upd p (.dK (mergeD [] (ks.zip ys))))) : WE K (tDictZip K t) δ S Q := fun Hs H σ QQ R L k =>
  h Hs H σ _ R L fun vs ds Hs1 H1 S1 e1 R1 r1 ⟨x, y, ks, ys, hd, hx, hy, hl, q⟩ => by
    subst hd
    cases r1 with
    | cons ra rb => cases rb with
      | cons rb rc =>
        cases rc
        obtain ⟨a, us, rfl, ua, sa⟩ := asQ_rep R1 ra hx
        obtain ⟨b, ws, rfl, wb, sb⟩ := asQ_rep R1 rb hy
        rw [datA_kD ua] at sa
        refine ⟨a, b, ks, ws, rfl, sa, sb, by rw [wb.len]; exact hl, fun p hp => ?_⟩
        exact k _ _ Hs1 _ _ e1 (R1.newO hp (ho := .dK _) (o := .dK _) (pairD_merge (pair_zip ks wb) .nil)) (.ref p) (q p (R1.free hp).2)
/-- things new and shared -/
theorem Rep.grow {K : PySem.W.Frag} {Hs H H2 : Hp} {S : Sto} (R : Rep K Hs H S) (as : List Addr) (up : ∀ b o, H b = some o → H2 b = some o) (hn : ∀ a ∈ as, H a = none) : ∃ Hs2, Ex Hs Hs2 ∧ Rep K Hs2 H2 S ∧ (∀ a ∈ as, Hs2 a = H2 a) ∧ ∀ b, b ∉ as → Hs2 b = Hs b := by
  have ne : ∀ {b : Addr} {o : HO}, H b = some o → b ∉ as := fun {b o} e hm => by rw [hn b hm] at e; cases e
  refine ⟨fun b => if b ∈ as then H2 b else Hs b, fun b o e => ?_, ⟨fun b o e => ?_, fun p o e => ?_⟩, fun a ha => if_pos ha, fun b hb => if_neg hb⟩
  · show (if b ∈ as then H2 b else Hs b) = some o
    rw [if_neg (ne (R.ex b o e))]; exact e
  · by_cases hb : b ∈ as
    · have e' : (if b ∈ as then H2 b else Hs b) = some o := e
      rw [if_pos hb] at e'; exact e'
    · have e' : (if b ∈ as then H2 b else Hs b) = some o := e
      rw [if_neg hb] at e'
      exact up b o (R.ex b o e')
  · obtain ⟨q1, ho, q2, q3⟩ := R.ob p o e
    refine ⟨?_, ho, up p ho q2, q3.mono fun b u eb => ?_⟩
    · show (if p ∈ as then H2 p else Hs p) = none
      rw [if_neg (ne q2)]; exact q1
    · show (if b ∈ as then H2 b else Hs b) = some u
      rw [if_neg (ne (R.ex b u eb))]; exact eb
def keyP (p : Str × Int) : D := .key [.str p.1, .int p.2]
theorem datA_rows {K : PySem.W.Frag} {H2 Hs2 : Hp} : ∀ {as : List Addr} {ps : List (Str × Int)}, Paired (fun a p => H2 a = some (rowO p)) as ps → (∀ a ∈ as, Hs2 a = H2 a) → DatA K Hs2 (as.map V.ref) (ps.map keyP)
  | _, _, .nil, _ => .nil
  | a :: as, p :: ps, .cons r t, h => .cons (.key (by rw [h a (List.mem_cons_self ..)]; exact r) (.cons (.str _) (.cons (.int _) .nil))) (datA_rows t fun b hb => h b (List.mem_cons_of_mem _ hb))
theorem we_sortIt {K : KX} {δ : Env} {S : Sto} {te : TE} {Q : Kq} (h : WE K te δ S fun x S1 => ∃ (p : Addr) (ps : List (Str × Int)), x = .ref p ∧ S1 p = some (.dK (ps.map fun p => ((.inr p.1 : Key), D.int p.2))) ∧ NewL S1 ((ps.mergeSort (PySem.W.dataLe false pE)).map keyP) Q) : WE K (tSortIt te) δ S Q := fun Hs H σ QQ R L k =>
  h Hs H σ _ R L fun v d Hs1 H1 S1 e1 R1 r1 ⟨p, ps, hd, hp, q⟩ => by
    subst hd
    cases r1
    obtain ⟨_, ho, g2, g3⟩ := R1.ob p _ hp
    cases ho with
    | dK kvs =>
      have e := tabK_of g3
      subst e
      refine ⟨p, ps, rfl, .inl g2, fun H2 as l up nl la na gl pr => ?_⟩
      obtain ⟨Hs2, e2, R2, s1, s2⟩ := R1.grow as up na
      have hl : Hs2 l = none := by rw [s2 l la]; exact (R1.free nl).1
      have rows := datA_rows (K := K.f) pr s1
      rcases q with q | q
      · have e3 : Ex Hs2 (L2.upd Hs2 l (.lst (as.map V.ref))) := Ex.new hl
        have eH : L2.upd H2 l (.lst (as.map V.ref)) = H2 := by
          funext b
          by_cases z : b = l
          · subst z; rw [upd_same, gl]
          · rw [upd_ne z]
        refine k _ _ (L2.upd Hs2 l (.lst (as.map V.ref))) H2 S1 (e1.trans (e2.trans e3)) ⟨fun a u e => ?_, fun a o e => ?_⟩ (.lst upd_same (rows.mono e3)) q
        · by_cases z : a = l
          · subst z; rw [upd_same] at e; cases e; exact gl
          · rw [upd_ne z] at e; exact R2.ex a u e
        · obtain ⟨q1, ho, q2, q3⟩ := R2.ob a o e
          have z : a ≠ l := fun z => by
            subst z
            have := (R1.free nl).2
            rw [e] at this; cases this
          exact ⟨by rw [upd_ne z]; exact q1, ho, q2, q3.mono e3⟩
      · refine k _ _ Hs2 H2 (S1.upd l (.lst ((ps.mergeSort (PySem.W.dataLe false pE)).map keyP))) (e1.trans e2) ⟨R2.ex, fun a o e => ?_⟩ (.ref l) (q l (R1.free nl).2)
        by_cases z : a = l
        · subst z
          rw [upd_at] at e; cases e
          exact ⟨hl, _, gl, rows⟩
        · rw [upd_off z] at e
          exact R2.ob a o e
    | _ => exact (g3 : False).elim
end PL

set_option Elab.async false
set_option linter.all false
set_option maxRecDepth 100000
set_option maxHeartbeats 4000000
/-! PL10: set(a) == set(b), a < b of tuples of texts. -/
namespace PL
open PySem L2 PySem.Spec PyProof.Rows
section
variable {prog : Program} {w : World} {A : Around} {E : Value → Shared → Prop} {s : Shared} {κ : Type} [DecidableEq κ] {knd : KeyKind prog w κ}
theorem entry_set_eq : entryFor table "set.__eq__" = some Builtin.«frozenset.__eq__» := entryFor_alias (id' := "frozenset.__eq__") (by kernel_rfl) rfl (by decide +kernel) (by kernel_rfl)
/-- values that are no objects: walked as they lie -/
theorem unseen_flat {a b : Addr} {oa ob : Obj} {es fs : Array (Int × Value)} {e f : Nat} {t u : SetTable} {Q : List (Int × Value) → Shared → Prop}
    (ha : s.heap.get? a = some oa) (da : oa.data = .set es e t) (ta : t.fits es.size = true) (hb : s.heap.get? b = some ob) (db : ob.data = .set fs f u) (tb : u.fits fs.size = true)
    (flat : ∀ p ∈ es.toList ++ fs.toList, p.2.scannable = true) (h : Q es.toList s) : wpAny (model prog w) A (Builtin.Frozenset.walkUnseen a b) Q E s := by
  unfold Builtin.Frozenset.walkUnseen
  refine wpAny_bind ?_
  unfold setEntries
  refine wpAny_bind (wpAny_setState_of ha da ta (wpAny_pure ?_))
  refine wpAny_bind (wpAny_bind (wpAny_setState_of hb db tb (wpAny_pure ?_)))
  dsimp only
  refine wpAny_bind (wpAny_forIn_list _ (fun rest r s' => s' = s ∧ r.1 = none ∧ ∀ p ∈ rest, p.2.scannable = true) _ ?_ ?_ _ _ ⟨rfl, rfl, flat⟩)
  · rintro ⟨k, x⟩ rest r s' ⟨rfl, hr, hp⟩
    have hx := hp _ (List.mem_cons_self ..)
    have hq : Builtin.Frozenset.quietEq x = pure true := by
      cases x <;> first | rfl | cases hx
    dsimp only
    rw [hq]
    refine wpAny_bind (wpAny_pure ?_)
    exact wpAny_pure ⟨rfl, rfl, fun p h => hp p (List.mem_cons_of_mem _ h)⟩
  · rintro ⟨r, u⟩ s' ⟨rfl, hr, _⟩
    cases hr
    exact wpAny_pure h
/-- all that the one set has is in the other -/
theorem within_flat {a b : Addr} {S T : κ → Bool} {n m : Nat} {nm : String} {Q : Bool → Shared → Prop} (ha : s.heap.SetOf knd a S n) (hb : s.heap.SetOf knd b T m) (hnm : n ≤ m)
    (h : ∀ r : Bool, (r = true ↔ ∀ k, S k = true → T k = true) → Q r s) : wpAny (model prog w) A (Builtin.Frozenset.subsetOf nm a b) Q E s := by
  obtain ⟨oa, es, e, t, go, _, gd, gel, gmem, _, gf, gn⟩ := id ha
  obtain ⟨ob, fs, f, u, ho, _, hd, hel, hmem, _, hf, hn⟩ := id hb
  unfold Builtin.Frozenset.subsetOf Builtin.Frozenset.sizeOf setEntries
  refine wpAny_bind (wpAny_bind (wpAny_bind (wpAny_setState_of go gd gf (wpAny_pure (wpAny_pure ?_)))))
  refine wpAny_bind (wpAny_bind (wpAny_bind (wpAny_setState_of ho hd hf (wpAny_pure (wpAny_pure ?_)))))
  dsimp only
  rw [if_neg (by omega)]
  refine wpAny_bind (wpAny_setEpoch_of go gd gf ?_)
  refine wpAny_bind (unseen_flat go gd gf ho hd hf (fun p hp => ?_) ?_)
  · rcases List.mem_append.mp hp with hp | hp
    · exact (gel p hp).2
    · exact (hel p hp).2
  have hS : ∀ k, S k = true ↔ ∃ p ∈ es.toList, knd.is k p.2 = true := gmem
  refine wpAny_bind (wpAny_forIn_list _ (fun rest r s' => s' = s ∧ r.1 = none ∧ (∀ p ∈ rest, p ∈ es.toList) ∧ ∀ p ∈ es.toList, p ∈ rest ∨ ∃ k, knd.is k p.2 = true ∧ T k = true) _ ?_ ?_ _ _ ⟨rfl, rfl, fun p hp => hp, fun p hp => .inl hp⟩)
  · rintro ⟨hx, x⟩ rest r s' ⟨rfl, hr, hin, hT⟩
    have hm := hin _ (List.mem_cons_self ..)
    obtain ⟨⟨k, hk, hh⟩, hsc⟩ := gel _ hm
    dsimp only at hk hh hsc ⊢
    subst hh
    refine wpAny_bind (wpAny_holding (wpAny_setFind_of hk hsc hb fun o ho => ?_))
    cases o with
    | none =>
      refine wpAny_pure ?_
      refine wpAny_pure (h false ⟨fun z => (by cases z), fun z => ?_⟩)
      have := z k ((hS k).mpr ⟨_, hm, hk⟩)
      rw [this] at ho; cases ho
    | some j =>
      refine wpAny_bind ?_
      unfold Builtin.Frozenset.unchanged
      refine wpAny_bind (wpAny_setEpoch_of go gd gf ?_)
      simp only [bne_self_eq_false, Bool.false_eq_true, ↓reduceIte]
      refine wpAny_pure (wpAny_pure ⟨rfl, rfl, fun p hp => hin p (List.mem_cons_of_mem _ hp), fun p hp => ?_⟩)
      rcases hT p hp with z | z
      · rcases List.mem_cons.mp z with rfl | z
        · exact .inr ⟨k, hk, ho.symm⟩
        · exact .inl z
      · exact .inr z
  · rintro ⟨r, uu⟩ s' ⟨rfl, hr, _, hT⟩
    cases hr
    refine wpAny_pure (h true ⟨fun _ k hk => ?_, fun _ => rfl⟩)
    obtain ⟨p, hp, hpk⟩ := (hS k).mp hk
    rcases hT p hp with z | ⟨k', hk', ht⟩
    · cases z
    · rw [knd.inj _ _ _ hpk hk']; exact ht
theorem set_is {a : Addr} {S : κ → Bool} {n : Nat} (ha : s.heap.SetOf knd a S n) : s.TypeIs (.ref a) "set" := by
  obtain ⟨oa, es, e, t, go, hx, _⟩ := ha
  exact ⟨oa, go, hx.1⟩
theorem sets_alike {a b : Addr} {S T : κ → Bool} {n m : Nat} {Q : Value → Shared → Prop} (hu : A.units < cLine) (ha : s.heap.SetOf knd a S n) (hb : s.heap.SetOf knd b T m)
    (h : ∀ r : Bool, (r = true ↔ n = m ∧ ∀ k, S k = true → T k = true) → Q (.bool r) s) : wpAny (model prog w) A (richCompare .Eq (.ref a) (.ref b)) Q E s := by
  refine wpAny_richCompare_same_room (set_is ha) (set_is hb) PySem.F.slot_set_eq (wpAny_call_entry PySem.F.slot_set_eq (set_is ha) entry_set_eq ?_ (PySem.F.args_set_eq_2 _ _)) hu
  obtain ⟨oa, es, e, t, go, _, gd, gel, gmem, _, gf, gn⟩ := id ha
  obtain ⟨ob, fs, f, u, ho, _, hd, hel, hmem, _, hf, hn⟩ := id hb
  have hsame : PySem.isSubtype (.type "set") (.type "set") = (pure true : Sem Bool) := by rw [isSubtype_type]; kernel_rfl
  have hfro : PySem.isSubtype (.type "set") (.type "frozenset") = (pure false : Sem Bool) := by rw [isSubtype_type]; kernel_rfl
  refine wpAny_bind (wpAny_of_eq (a := (Value.ref a, Value.ref b)) (by rfl) ?_)
  dsimp only
  refine wpAny_bind (wpAny_bind (wpAny_isInstance (set_is hb) hsame ?_))
  refine wpAny_pure ?_
  refine wpAny_bind (wpAny_pure ?_)
  refine wpAny_bind (wpAny_pure ?_)
  unfold Builtin.Frozenset.sizeOf setEntries
  refine wpAny_bind (wpAny_bind (wpAny_bind (wpAny_setState_of go gd gf (wpAny_pure (wpAny_pure ?_)))))
  refine wpAny_bind (wpAny_bind (wpAny_bind (wpAny_setState_of ho hd hf (wpAny_pure (wpAny_pure ?_)))))
  have fin : ∀ r : Bool, (r = true ↔ n = m ∧ ∀ k, S k = true → T k = true) → ∃ v, Fin.done (Flow.ret (Value.bool r)) = Fin.done (Flow.ret v) ∧ v ≠ Value.notImplemented ∧ Q v s :=
    fun r hr => ⟨_, rfl, (fun z => nomatch z), h r hr⟩
  by_cases hnm : n = m
  · have e0 : ((es, e, t).fst.size != (fs, f, u).fst.size) = false := by show (es.size != fs.size) = false; rw [gn, hn, hnm]; simp
    rw [e0, if_neg Bool.false_ne_true]
    refine wpAny_bind (wpAny_bind ?_)
    refine wpAny_bind (wpAny_isInstance (set_is ha) hfro ?_)
    refine wpAny_pure ?_
    rw [if_neg Bool.false_ne_true]
    refine within_flat ha hb (Nat.le_of_eq hnm) fun r hr => wpAny_pure (fin r ⟨fun z => ⟨hnm, hr.mp z⟩, fun z => hr.mpr z.2⟩)
  · have e0 : ((es, e, t).fst.size != (fs, f, u).fst.size) = true := by show (es.size != fs.size) = true; rw [gn, hn]; simpa using hnm
    rw [e0, if_pos rfl]
    exact wpAny_bind (wpAny_pure (wpAny_pure (fin false ⟨fun z => (by cases z), fun z => absurd z.1 hnm⟩)))
end
/-- set(a) == set(b), tuples of texts -/
def tSetEq (K : PySem.W.Frag) (ta tb : TE) : TE := fun σ H Q => ta σ H fun x H1 => ∃ l, ∃ xs : List Str, x = .ref l ∧ SqT K H1 l (xs.map V.str) ∧ xs.length + 1 < scanBound ∧
  tb σ H1 fun y H2 => ∃ k, ∃ ys : List Str, y = .ref k ∧ SqT K H2 k (ys.map V.str) ∧ ys.length + 1 < scanBound ∧ ∀ r : Bool, (r = true ↔ (xs.foldl step_dedup []).length = (ys.foldl step_dedup []).length ∧ ∀ z ∈ xs.foldl step_dedup [], z ∈ ys.foldl step_dedup []) → Q (.bl r) H2
theorem set_there {P : Program} {w : World} {h h' : Heap} {a : Addr} {o : Obj} {S : Str → Bool} {n : Nat} (ho : h.get? a = some o) (R : h.SetOf (strKind P w) a S n) (k : h'.get? a = some o) : h'.SetOf (strKind P w) a S n :=
  carried R fun o' e => by rw [ho] at e; cases e; exact k
theorem pc_setEq {X : Cx} {a b : Expr} {ta tb : TE} {p p2 q q2 : Pos} (hc : X.calm = true) (hu : X.A.units < cLine) (hg : Gl X "set") (hm : X.mg "set" = none) (ha : PE X a ta) (hb : PE X b tb)
    (na : starEach [a] X.env = (false, eval a X.env) :: starEach [] X.env) (nb : starEach [b] X.env = (false, eval b X.env) :: starEach [] X.env) :
    PC X .Eq (.Call (.Name "set" p) [a] [] q) (.Call (.Name "set" p2) [b] [] q2) (tSetEq X.K ta tb) := by
  refine ⟨fun pins s σ H Q I h => ?_⟩
  refine Call_ (ld_blt I hg hm boot_set ?_)
  refine PyProof.Rows.callWith_type1 (PyProof.Rows.args_cons (thn (ha.run pins s σ H _ I h) fun v s1 ⟨x, H1, I1, r1, q1⟩ => PyProof.Rows.args_nil ?_) na) na rfl
  obtain ⟨l, xs, rfl, hq, h1, q1⟩ := q1
  cases r1
  obtain ⟨its, r, pl, hz⟩ := I1.tuple hq
  refine set_of_tuple (I1.ok.hd hc) pl (by simpa using strsAre_of r) h1 fun h' tk hS hk => ?_
  have hl : its.toArray.size = xs.length := by rw [List.size_toArray, ← r.length, List.length_map]
  have hm1 : metS xs its.toArray.size = xs.foldl step_dedup [] := by rw [hl]; unfold metS; rw [List.take_length]
  rw [hm1] at hS
  have I2 : Inv X pins σ H1 { s1 with heap := h', toks := tk } := I1.kept fun b o e => hk b o (Heap.lt_size e) e
  obtain ⟨o, es, ep, t, ho, hex, hd, more⟩ := id hS
  have I3 : Inv X ((s1.heap.objs.size, o) :: pins) σ H1 { s1 with heap := h', toks := tk } := I2.pins_of fun pr hp => by
    rcases List.mem_cons.mp hp with rfl | hp
    · exact ⟨ho, I1.hok.fresh (Nat.le_refl _), fun e => Nat.lt_irrefl s1.heap.objs.size (by have z := I1.lt; rw [← e] at z; exact z), I1.nofs (Nat.le_refl _), fun v e => by rw [hd] at e; cases e⟩
    · exact I2.pin pr (List.mem_append_right _ hp)
  refine Call_ (ld_blt I3 hg hm boot_set ?_)
  refine PyProof.Rows.callWith_type1 (PyProof.Rows.args_cons (thn (hb.run _ _ σ H1 _ I3 q1) fun v2 s3 ⟨y, H2, I4, r2, q2⟩ => PyProof.Rows.args_nil ?_) nb) nb rfl
  obtain ⟨k, ys, rfl, hq2, h2, q2⟩ := q2
  cases r2
  have hp := (I4.pin (s1.heap.objs.size, o) (List.mem_append_right _ (List.mem_cons_self ..))).1
  have I5 : Inv X pins σ H2 s3 := I4.pins_of fun r hr => I4.pin r (List.mem_append_right _ (List.mem_cons_of_mem _ hr))
  obtain ⟨its2, rr, pl2, hz2⟩ := I5.tuple hq2
  refine set_of_tuple (I5.ok.hd hc) pl2 (by simpa using strsAre_of rr) h2 fun h'' tk2 hS2 hk2 => ?_
  have hl2 : its2.toArray.size = ys.length := by rw [List.size_toArray, ← rr.length, List.length_map]
  have hm2 : metS ys its2.toArray.size = ys.foldl step_dedup [] := by rw [hl2]; unfold metS; rw [List.take_length]
  rw [hm2] at hS2
  have I6 : Inv X pins σ H2 { s3 with heap := h'', toks := tk2 } := I5.kept fun b o e => hk2 b o (Heap.lt_size e) e
  refine sets_alike (knd := strKind X.prog X.w) (s := { s3 with heap := h'', toks := tk2 }) hu (set_there ho hS (hk2 _ _ (Heap.lt_size hp) hp)) hS2 fun r hr => ⟨.bl r, H2, I6, rfl, q2 r ?_⟩
  rw [hr]
  simp only [List.any_eq_true, beq_iff_eq, exists_eq_right]
theorem pe_setEqK {K : PySem.W.Frag} {X : Cx} {a b : Expr} {ta tb : TE} {p p2 q q2 pos : Pos} (hk : X.K = K) (hc : X.calm = true) (hu : X.A.units + 64 < cLine) (hg : Gl X "set") (hm : X.mg "set" = none) (ha : PE X a ta) (hb : PE X b tb)
    (na : starEach [a] X.env = (false, eval a X.env) :: starEach [] X.env := by rfl) (nb : starEach [b] X.env = (false, eval b X.env) :: starEach [] X.env := by rfl) :
    PE X (.Compare (.Call (.Name "set" p) [a] [] q) [.Eq] [.Call (.Name "set" p2) [b] [] q2] pos) (tSetEq K ta tb) := by subst hk; exact pe_cmp (pc_setEq hc (Nat.lt_of_le_of_lt (Nat.le_add_right _ _) hu) hg hm ha hb na nb)
theorem mem_dedup : ∀ (l σ : List Str) (z : Str), z ∈ l.foldl step_dedup σ ↔ z ∈ σ ∨ z ∈ l
  | [], σ, z => by simp
  | x :: l, σ, z => by
    rw [List.foldl_cons, mem_dedup l (step_dedup σ x) z]
    have h := dedup_any σ x z
    rw [Bool.eq_iff_iff] at h
    simp only [List.any_eq_true, beq_iff_eq, exists_eq_right, Bool.or_eq_true, decide_eq_true_eq] at h
    rw [h, List.mem_cons, or_assoc]
theorem nodup_dedup : ∀ (l σ : List Str), σ.Nodup → (l.foldl step_dedup σ).Nodup
  | [], σ, h => h
  | x :: l, σ, h => by
    rw [List.foldl_cons]
    refine nodup_dedup l _ ?_
    unfold step_dedup
    split
    · exact h
    · rename_i hx
      rw [List.nodup_append]
      exact ⟨h, by simp, fun a ha b hb e => by
        rw [List.mem_singleton] at hb
        exact hx (by rw [List.any_eq_true]; exact ⟨a, ha, by rw [e, hb]; simp⟩)⟩
theorem nodup_len {α : Type} [DecidableEq α] : ∀ {xs ys : List α}, xs.Nodup → (∀ z ∈ xs, z ∈ ys) → xs.length ≤ ys.length
  | [], ys, _, _ => Nat.zero_le _
  | x :: xs, ys, h, hs => by
    rw [List.nodup_cons] at h
    have hx := hs x (List.mem_cons_self ..)
    have := nodup_len (ys := ys.erase x) h.2 fun z hz => (List.mem_erase_of_ne (fun e => h.1 (by rw [← e]; exact hz))).mpr (hs z (List.mem_cons_of_mem _ hz))
    rw [List.length_erase_of_mem hx] at this
    have := List.length_pos_of_mem hx
    rw [List.length_cons]
    omega
theorem nodup_back {α : Type} [DecidableEq α] {xs ys : List α} (h : xs.Nodup) (hs : ∀ z ∈ xs, z ∈ ys) (hl : ys.length ≤ xs.length) : ∀ z ∈ ys, z ∈ xs := fun z hz => by
  rcases Decidable.em (z ∈ xs) with e | e
  · exact e
  · have := nodup_len (xs := z :: xs) (ys := ys) (List.nodup_cons.mpr ⟨e, h⟩) fun y hy => by
      rcases List.mem_cons.mp hy with rfl | hy
      · exact hz
      · exact hs y hy
    rw [List.length_cons] at this
    omega
theorem sets_iff (xs ys : List Str) : ((xs.foldl step_dedup []).length = (ys.foldl step_dedup []).length ∧ ∀ z ∈ xs.foldl step_dedup [], z ∈ ys.foldl step_dedup []) ↔ ∀ z, z ∈ xs ↔ z ∈ ys := by
  have m := fun (l : List Str) z => (mem_dedup l [] z)
  simp only [List.not_mem_nil, false_or] at m
  have n := fun l : List Str => nodup_dedup l [] List.nodup_nil
  constructor
  · rintro ⟨h1, h2⟩ z
    exact ⟨fun hz => (m ys z).mp (h2 z ((m xs z).mpr hz)), fun hz => (m xs z).mp (nodup_back (n xs) h2 (Nat.le_of_eq h1.symm) z ((m ys z).mpr hz))⟩
  · intro h
    have h1 : ∀ z ∈ xs.foldl step_dedup [], z ∈ ys.foldl step_dedup [] := fun z hz => (m ys z).mpr ((h z).mp ((m xs z).mp hz))
    have h2 : ∀ z ∈ ys.foldl step_dedup [], z ∈ xs.foldl step_dedup [] := fun z hz => (m xs z).mpr ((h z).mpr ((m ys z).mp hz))
    exact ⟨Nat.le_antisymm (nodup_len (n xs) h1) (nodup_len (n ys) h2), h1⟩
theorem we_setEq {K : KX} {δ : Env} {S : Sto} {ta tb : TE} {Q : Kq} (h : WE K ta δ S fun x S1 => ∃ xs : List Str, x = .tup (xs.map D.str) ∧ xs.length ≤ 1000 ∧ WE K tb δ S1 fun y S2 => ∃ ys : List Str, y = .tup (ys.map D.str) ∧ ys.length ≤ 1000 ∧
    ∀ r : Bool, (r = true ↔ ∀ z, z ∈ xs ↔ z ∈ ys) → Q (.bl r) S2) : WE K (tSetEq K ta tb) δ S Q := fun Hs H σ QQ R L k =>
  h Hs H σ _ R L fun v x Hs1 H1 S1 e1 R1 r1 ⟨xs, hx, hz, h2⟩ => by
    subst hx
    cases r1 with
    | tup hq ha =>
      rw [ha.strs] at hq
      refine ⟨_, xs, rfl, (R1.ex.tc hq).sq, by unfold scanBound; omega, h2 Hs1 H1 σ _ R1 (L.mono e1) fun v y Hs2 H2 S2 e2 R2 r2 ⟨ys, hy, hz2, q⟩ => ?_⟩
      subst hy
      cases r2 with
      | tup hq2 ha2 =>
        rw [ha2.strs] at hq2
        exact ⟨_, ys, rfl, (R2.ex.tc hq2).sq, by unfold scanBound; omega, fun r hr => k _ _ Hs2 H2 S2 (e1.trans e2) R2 (.bl _) (q r (hr.trans (sets_iff xs ys)))⟩
/-! ### a < b, tuples of texts -/
def lexS : List Str → List Str → Bool
  | [], [] => false
  | [], _ :: _ => true
  | _ :: _, [] => false
  | x :: xs, y :: ys => if x = y then lexS xs ys else decide (x.cps.toList < y.cps.toList)
def phLtT : Ph2 := fun x y S q => ∃ a b : List Str, x = .tup (a.map D.str) ∧ y = .tup (b.map D.str) ∧ q (.bl (lexS a b)) S
theorem lex_at (xs ys : List Str) (e r : Nat → Bool) (he : ∀ (i : Nat) (x y : Str), xs[i]? = some x → ys[i]? = some y → e i = decide (x = y) ∧ r i = decide (x.cps.toList < y.cps.toList)) :
    ∀ (k i : Nat), k = min xs.length ys.length - i → i ≤ min xs.length ys.length → Ob.lexAt e r (decide (xs.length < ys.length)) i k = lexS (xs.drop i) (ys.drop i)
  | 0, i, hk, hi => by
    rw [Ob.lexAt_zero]
    rcases Nat.lt_or_ge xs.length ys.length with h | h
    · rw [decide_eq_true h, List.drop_of_length_le (by omega)]
      cases e : ys.drop i with
      | nil => rw [List.drop_eq_nil_iff] at e; omega
      | cons a b => rfl
    · rw [decide_eq_false (by omega), List.drop_of_length_le (l := ys) (by omega)]
      cases xs.drop i <;> rfl
  | k + 1, i, hk, hi => by
    rw [Ob.lexAt_succ]
    have h1 : i < xs.length := by omega
    have h2 : i < ys.length := by omega
    obtain ⟨g1, g2⟩ := he i _ _ (List.getElem?_eq_getElem h1) (List.getElem?_eq_getElem h2)
    rw [List.drop_eq_getElem_cons h1, List.drop_eq_getElem_cons h2, g1, g2]
    show _ = if xs[i] = ys[i] then lexS (xs.drop (i + 1)) (ys.drop (i + 1)) else _
    rw [lex_at xs ys e r he k (i + 1) (by omega) (by omega)]
    by_cases h : xs[i] = ys[i] <;> simp [h]
theorem beq_strD (x y : Str) : (x == y) = decide (x = y) := by by_cases h : x = y <;> simp [h]
theorem opLtT {X : Cx} (hu : X.A.units + 64 < cLine) : OpR X (compareOp .Lt) (r2 X.K phLtT) := by
  intro pins s σ H vx vy v u Q I rx ry ⟨Hs, S, x, y, q, R, hx, hy, ⟨a, b, e1, e2, h⟩, k⟩
  subst e1 e2
  cases hx with
  | tup hs ha =>
    cases hy with
    | tup hs2 hb =>
      rw [ha.strs] at hs
      rw [hb.strs] at hs2
      cases rx
      cases ry
      obtain ⟨its, r1, p1, _⟩ := I.tuple (R.ex.tc hs).sq
      obtain ⟨its2, r2, p2, _⟩ := I.tuple (R.ex.tc hs2).sq
      have s1 := strsAre_of r1
      have s2 := strsAre_of r2
      have l1 : a.length = its.toArray.size := by rw [List.size_toArray, ← r1.length, List.length_map]
      have l2 : b.length = its2.toArray.size := by rw [List.size_toArray, ← r2.length, List.length_map]
      have at1 : ∀ i (h : i < its.toArray.size), ∃ t, its.toArray[i] = .str (a.getD i Str.empty) t := fun i h => SS.strs_at s1 i _ (by rw [List.getElem_toArray]; exact List.getElem?_eq_getElem (by simpa using h))
      have at2 : ∀ i (h : i < its2.toArray.size), ∃ t, its2.toArray[i] = .str (b.getD i Str.empty) t := fun i h => SS.strs_at s2 i _ (by rw [List.getElem_toArray]; exact List.getElem?_eq_getElem (by simpa using h))
      refine Ob.RcOp.tuples_lt (e := fun i => decide (a.getD i Str.empty = b.getD i Str.empty)) (r := fun i => decide ((a.getD i Str.empty).cps.toList < (b.getD i Str.empty).cps.toList)) p1 p2 (Nat.lt_of_le_of_lt (Nat.le_add_right _ _) hu) (fun j h1 h2 => ?_) (fun j h1 h2 _ => ?_) _ _ _ _ ?_
      · obtain ⟨t, e1⟩ := at1 j h1
        obtain ⟨t', e2⟩ := at2 j h2
        rw [e1, e2]
        have := PySem.SeqAt.EqAt.str_str (A := X.A.in1) (s := s) (a.getD j Str.empty) t (b.getD j Str.empty) t'
        rw [beq_strD] at this
        exact this
      · obtain ⟨t, e1⟩ := at1 j h1
        obtain ⟨t', e2⟩ := at2 j h2
        rw [e1, e2]
        exact fun _ _ _ _ hq => PyProof.Rows.lt_str hq
      · rw [← l1, ← l2, lex_at a b _ _ (fun i x y hx hy => ?_) (min a.length b.length) 0 rfl (Nat.zero_le _)]
        · exact ⟨.bl (lexS a b), H, I, rfl, k _ _ Hs H S (Ex.refl _) R (.bl _) h⟩
        · simp [List.getD, hx, hy]
/-! ### sorted(t), t a tuple -/
theorem sorted_up {prog : Program} {w : World} {A : Around} {E : Value → Shared → Prop} {s : Shared} {l : Addr} {vs : List Value} {Q : Value → Shared → Prop} (hl : s.heap.IsTuple l vs.toArray) (hz : vs.length ≤ sizeLine)
    (h : ∀ h' : Heap, (∀ b o, s.heap.get? b = some o → h'.get? b = some o) → wpAny (model prog w) A.in1 (call (.builtin "list.sort") [.ref h'.objs.size]) (fun _ s' => Q (.ref h'.objs.size) s') E { s with heap := h'.push { cls := .type "list", data := .seq vs.toArray } }) :
    wpAny (model prog w) A (call (.builtin "sorted") [.ref l]) Q E s := by
  refine Calls.call_function_entry kind_sorted plain_sorted entry_sorted (args_sorted1 _) ?_
  obtain ⟨o, ho, hc, n, hd⟩ := hl
  have hz' : vs.toArray.size ≤ sizeLine := by rw [List.size_toArray]; exact hz
  unfold Builtin.«sorted»
  refine wpAny_bind (m := checkCount "sorted" 1 1 _) (wpAny_pure ?_)
  refine wpAny_bind (wpAny_collect_seq l (.inr rfl) ho hc hd (fun h' hk => ?_) hz')
  refine wpAny_bind (wpAny_newList ?_ hz)
  exact wpAny_bind (wpAny_holding (wpAny_mono (h h' hk) (fun _ s' x => wpAny_pure ⟨_, rfl, x⟩) fun _ _ e => e))
def phSortedT : PhA := fun ds S q => ∃ (β : Type) (bs : List β) (enc : β → D) (ep : β → PyData), ds = [.tup (bs.map enc)] ∧ (∀ b, (enc b).py = some (ep b)) ∧ PySem.W.AllAlike (bs.map ep) ∧ PySem.W.Sortable (bs.map ep) ∧
  (∀ b, (ep b).depth ≤ 60) ∧ NewL S ((bs.mergeSort (PySem.W.dataLe false ep)).map enc) q
theorem cSortedT {X : Cx} (hu : X.A.units + 64 < cLine) : CallR X (.builtin "sorted") (rA X.K phSortedT) := by
  intro pins s σ H vs us Q I rv ⟨Hs, S, ds, q, R, hd, ⟨β, bs, enc, ep, e, h2, h3, h4, h6, h⟩, k⟩
  subst e
  cases hd with
  | cons r1 r2 =>
    cases r2
    cases r1 with
    | tup hs ha =>
      rename_i a ws
      obtain ⟨u, rfl, ru⟩ := vals1 rv
      obtain rfl : u = Value.ref a := ru
      obtain ⟨its, rv2, pl, hz⟩ := I.tuple (R.ex.tc hs).sq
      have hb : ws.length = bs.length := by rw [ha.len, List.length_map]
      have hil : its.length = ws.length := rv2.length.symm
      refine sorted_up pl (by rw [hil]; exact hz) fun h' hk => ?_
      have I2 : Inv X pins σ H { s with heap := h' } := I.kept (t' := s.toks) hk
      have obl : (h'.push { cls := .type "list", data := .seq its.toArray }).get? h'.objs.size = some (seqObj "list" its.toArray 0) := Heap.get?_push_size _ rfl
      have er : PySem.W.EachIs (fun v b => ∃ as, Reads (h'.push { cls := .type "list", data := .seq its.toArray }) v (ep b) as ∧ h'.objs.size ∉ as) its bs := (each_of ha rv2).mono fun v b ⟨w, rw', hw⟩ => by
        obtain ⟨as, r⟩ := Dp.reads I2 _ _ _ ((dp_mono R.ex).1 (hw.dp (h2 b))) rw'
        refine ⟨as, PyProof.Rows.Reads.keeps (fun b o e => Heap.get?_push_of_some _ e) r, fun hm => ?_⟩
        obtain ⟨o, ho⟩ := PyProof.On.reads_mem_get r _ hm
        exact Nat.lt_irrefl _ (Heap.lt_size ho)
      refine PySem.W.list_sort_data (s := { s with heap := h'.push { cls := .type "list", data := .seq its.toArray } }) obl (each_of ha rv2) er h3 h4 (by rw [← hb]; exact hz) (fun b _ => by have := h6 b; show X.A.units + 1 + 1 + _ < _; omega) fun out ho eo => ?_
      obtain ⟨ws2, rv3, hd3⟩ := of_each eo
      obtain ⟨n, hn⟩ := sortedHeap_at (out := out.toArray) obl
      have hf : H h'.objs.size = none := I2.hok.fresh (Nat.le_refl _)
      refine ⟨.ref _, _, I2.laid (t' := s.toks) (o := .lst ws2) (fun b o e => (sortedHeap_old (Nat.ne_of_lt (Heap.lt_size e)) (by rw [Heap.size_push]; exact Nat.lt_succ_of_lt (Heap.lt_size e))).trans (Heap.get?_push_of_some _ e)) (Nat.le_refl _) ⟨?_, out, n, rv3, hn⟩, rfl, newL_run R hd3 h k hf⟩
      rw [rv3.length, ho, ← hb]
      exact hz
theorem sorted_tS {S : Sto} {q : Kq} {xs : List Str} (hq : NewL S ((xs.mergeSort (PySem.W.dataLe false PyData.str)).map D.str) q) : phSortedT [.tup (xs.map D.str)] S q :=
  ⟨_, xs, D.str, PyData.str, rfl, fun b => rfl, PySem.W.AllAlike.of fun a b => by simp [PySem.W.alike], PySem.W.Sortable.others fun b => ⟨(fun z => nomatch z), fun _ z => nomatch z⟩, fun b => by simp [PyData.depth], hq⟩
end PL

set_option Elab.async false
set_option linter.all false
set_option maxRecDepth 100000
set_option maxHeartbeats 4000000
/-! PLH: walks while an exception is handled. -/
namespace PL
open PySem L2 PySem.Spec PyProof.Rows HotX
section
variable {prog : Program} {w : World} {A : Around} {E : Value → Shared → Prop} {s : Shared}
/-- a walk that is over says so, an exception being handled -/
theorem stop_hot {α : Type} {x1 : Addr} {Q : α → Shared → Prop} (hot : HotAt A x1 s.heap)
    (h : ∀ (a : Addr) (g : Heap), (∀ b o, s.heap.get? b = some o → g.get? b = some o) → Shared.TypeIs { s with heap := g } (.ref a) "StopIteration" → E (.ref a) { s with heap := g }) :
    wpAny (model prog w) A (Builtin.SmallTypes.stopIteration : Sem α) Q E s := by
  obtain ⟨hh, o1, vs1, h1, d1, c1⟩ := hot
  unfold Builtin.SmallTypes.stopIteration
  refine wpAny_bind ?_
  simp only [newExc, newTuple]
  refine wpAny_bind (wpAny_newObj_type (wpAny_bind (m := firstArgMember _ _) (wpAny_of_eq (a := Value.none) (by first | rfl | (simp only [firstArgMember]; rfl)) (wpAny_newObj_type ?_ (by size_fits)))) (by size_fits))
  have g1 := Heap.get?_push_of_some ({ cls := .type "tuple", dict := none, data := .seq ([] : List Value).toArray } : Obj) h1
  refine raiseNew_hot ⟨hh, o1, vs1, Heap.get?_push_of_some _ (Heap.get?_push_of_some _ h1), d1, c1⟩ (Nat.ne_of_lt (Heap.lt_size (Heap.get?_push_of_some _ h1))) (Heap.get?_push_size _ rfl) rfl (by first | (simp; done) | (simp; omega)) (h _ _ (fun b o e => ?_) ⟨_, Heap.get?_update_self _ (Heap.get?_push_size _ rfl) rfl, rfl⟩)
  exact (Heap.get?_update_other _ _ (Nat.ne_of_gt (Heap.lt_size (Heap.get?_push_of_some _ e)))).trans (Heap.get?_push_of_some _ (Heap.get?_push_of_some _ e))
theorem list_over {it l x1 : Addr} {i : Nat} {its : Array Value} {Q : Option Value → Shared → Prop} (hot : HotAt A x1 s.heap) (nx : x1 ≠ it)
    (st : s.heap.IsListIter it l i) (hl : s.heap.IsList l its) (hx : its[i]? = none)
    (fin : ∀ h', Heap.ExtBut it s.heap h' → Q none { s with heap := h' }) : wpAny (model prog w) A (pyNext (.ref it)) Q E s := by
  obtain ⟨o, ho, hc, hd⟩ := id st
  obtain ⟨ol, gl, _, nl, dl⟩ := hl
  obtain ⟨hh, o1, vs1, h1, d1, c1⟩ := hot
  unfold pyNext
  refine wpAny_bind (wpAny_attempt (wpAny_callSpecial?_slot (name := Str.ofString "__next__") st.typeIs slot_listiter_next (wpAny_call_entry slot_listiter_next st.typeIs entry_listiter_next ?_ (args_listiter_next _))))
  show wpAny _ _ (field (.ref it) 0 >>= _) _ _ _
  refine wpAny_bind (wpAny_field ho hd (x := .ref l) rfl ?_)
  rw [if_neg (show ¬ (Value.ref l == Value.none) = true from Bool.false_ne_true)]
  show wpAny _ _ (field (.ref it) 1 >>= _) _ _ _
  refine wpAny_bind (wpAny_field ho hd (x := .int i 0) rfl ?_)
  show wpAny _ _ (seqItems? (.ref l) >>= _) _ _ _
  refine wpAny_bind (wpAny_seqItems gl dl ?_)
  simp only [Int.toNat_natCast, hx]
  refine wpAny_bind (wpAny_rule (wpAny_bind (wpAny_setField ho hd (by simp) (stop_hot (x1 := x1) ⟨hh, o1, vs1, (Heap.get?_update_other _ _ (Ne.symm nx)).trans h1, d1, c1⟩ fun a g k ty => ?_))))
  exact wpAny_bind (wpAny_isInstance (b := true) ty isSubtype_stop (wpAny_pure (fin g fun b ob hb e => k b ob ((Heap.get?_update_other _ _ (Ne.symm hb)).trans e))))
theorem tuple_over {it l x1 : Addr} {i : Nat} {its : Array Value} {Q : Option Value → Shared → Prop} (hot : HotAt A x1 s.heap) (nx : x1 ≠ it)
    (st : IsTupIter s.heap it l i) (hl : IsTup s.heap l its) (hx : its[i]? = none)
    (fin : ∀ h', Heap.ExtBut it s.heap h' → Q none { s with heap := h' }) : wpAny (model prog w) A (pyNext (.ref it)) Q E s := by
  obtain ⟨o, ho, hc, hd⟩ := id st
  obtain ⟨ol, gl, _, nl, dl⟩ := hl
  obtain ⟨hh, o1, vs1, h1, d1, c1⟩ := hot
  have ty0 : s.TypeIs (.ref it) "tuple_iterator" := ⟨o, ho, hc⟩
  unfold pyNext
  refine wpAny_bind (wpAny_attempt (wpAny_callSpecial?_slot (name := Str.ofString "__next__") ty0 F.slot_tuple_iterator_next (wpAny_call_entry F.slot_tuple_iterator_next ty0 F.entry_tuple_iterator_next ?_ (F.args_tuple_iterator_next_1 _))))
  show wpAny _ _ (field (.ref it) 0 >>= _) _ _ _
  refine wpAny_bind (wpAny_field ho hd (x := .ref l) rfl ?_)
  rw [if_neg (show ¬ (Value.ref l == Value.none) = true from Bool.false_ne_true)]
  show wpAny _ _ (field (.ref it) 1 >>= _) _ _ _
  refine wpAny_bind (wpAny_field ho hd (x := .int i 0) rfl ?_)
  show wpAny _ _ (seqItems? (.ref l) >>= _) _ _ _
  refine wpAny_bind (wpAny_seqItems gl dl ?_)
  simp only [Int.toNat_natCast, hx]
  refine wpAny_bind (wpAny_rule (wpAny_bind (wpAny_setField ho hd (by simp) (stop_hot (x1 := x1) ⟨hh, o1, vs1, (Heap.get?_update_other _ _ (Ne.symm nx)).trans h1, d1, c1⟩ fun a g k ty => ?_))))
  exact wpAny_bind (wpAny_isInstance (b := true) ty isSubtype_stop (wpAny_pure (fin g fun b ob hb e => k b ob ((Heap.get?_update_other _ _ (Ne.symm hb)).trans e))))
/-- a tuple unpacked -/
theorem unpack_hot {t x1 : Addr} {its : Array Value} {tgs : List (Bool × (Value → Sem Unit))} {Q : Unit → Shared → Prop} (hot : HotAt A x1 s.heap) (ht : IsTup s.heap t its)
    (hn : tgs.length = its.size) (hs : tgs.findIdx? (·.1) = none)
    (h : ∀ h', Heap.ExtBut s.heap.objs.size s.heap h' → wpAny (model prog w) A (assignInOrder (tgs.map (·.2)) its.toList) Q E { s with heap := h' }) : wpAny (model prog w) A (unpack (.ref t) tgs) Q E s := by
  have hlt : t ≠ s.heap.objs.size := by obtain ⟨o, ho, _⟩ := ht; exact Nat.ne_of_lt (Heap.lt_size ho)
  obtain ⟨hh, o1, vs1, h1, d1, c1⟩ := hot
  have nx : x1 ≠ s.heap.objs.size := Nat.ne_of_lt (Heap.lt_size h1)
  unfold unpack
  rw [hn, hs]
  refine wpAny_bind (wpAny_holding ?_)
  unfold unpackItems notIterableAtAll
  refine wpAny_bind (wpAny_bind (wpAny_specialOf ht.typeIs slot_tuple_iter.lookup (wpAny_pure ?_)))
  simp only [Bool.false_eq_true, if_false]
  refine wpAny_bind (wpAny_holding (iter_tuple ht ?_))
  refine wpAny_bind (wpAny_holding (draw_tuple hlt its.size 0 _ _ ⟨_, Heap.get?_push_size _ rfl, rfl, rfl⟩ (ht.push _) (by omega) fun g1 st1 sb1 => ?_))
  rw [show List.take its.size (List.drop 0 its.toList) = its.toList by rw [List.drop_zero]; exact List.take_of_length_le (by simp), if_neg (by simp)]
  have ht1 : IsTup g1 t its := (ht.push _).extBut sb1.extBut hlt
  refine wpAny_bind (wpAny_holding (tuple_over (s := { s with heap := g1 }) ⟨hh, o1, vs1, sb1.extBut x1 _ nx (Heap.get?_push_of_some _ h1), d1, c1⟩ nx st1 ht1 (by simp) fun g2 eb2 => ?_))
  simp only [Option.isSome_none, Bool.false_eq_true, if_false]
  exact wpAny_pure (h g2 fun b o hb e => eb2 b o hb (sb1.extBut b o hb (Heap.get?_push_of_some _ e)))
end
/-! ### contexts of an except suite, and of blocks in it -/
/-- the exception that is handled stood at the entry already, out of all reach -/
def HotB (X : Cx) : Prop := ∃ (x1 : Addr) (o : Obj) (vs : Array Value), X.A.handled = some (.ref x1) ∧ X.s_0.heap.get? x1 = some o ∧ X.H_0 x1 = none ∧ x1 ∉ X.fs ∧ x1 ∉ X.ex ∧ o.data = .fields vs ∧ vs[2]? = some .none
section
variable {X : Cx} {pins : List (Addr × Obj)} {σ : L2.St} {H : Hp} {s : Shared}
theorem HotB.now (h : HotB X) (I : Inv X pins σ H s) : ∃ x1, HotAt X.A x1 s.heap ∧ x1 ∉ X.ex := by
  obtain ⟨x1, o, vs, hh, ho, hn, hf, hx, hd, hc⟩ := h
  exact ⟨x1, ⟨hh, o, vs, I.base.keep x1 o ho hn hf hx, hd, hc⟩, hx⟩
/-- of a pinned exception, at a block's entry -/
theorem HotB.blk (h : L2H.HotC X) (I : Inv X pins σ H s) {scope : Scope} {ce : PySem.Env} {fp : List Addr} (hfp : ∀ b ∈ fp, FpOk X pins H b) : HotB (X.blk s H scope ce fp) := by
  obtain ⟨p, ⟨hh, vs, hd, hc⟩, hp⟩ := h
  obtain ⟨g, n, nl, nf, _⟩ := I.pin p (List.mem_append_left _ hp)
  refine ⟨p.1, p.2, vs, hh, g, n, fun z => ?_, fun z => (hfp _ z).2.2.2.2.2 p (List.mem_append_left _ hp) rfl, hd, hc⟩
  rcases List.mem_cons.mp (I.stkSub _ z) with e | e
  · exact nl e
  · exact nf e
/-- (a, b) = a tuple, there -/
theorem pg_tupH {es : List Expr} {k : Nat} {t : TGs} {n : Nat} {pos : Pos} (hot : HotB X) (h : PGs X es t)
    (hn : (assignEach es X.env).length = n := by rfl) (hst : (assignEach es X.env).findIdx? (·.1) = none := by rfl) : PG X (.Tuple es k pos) (gTup X.K n t) := by
  refine ⟨fun pn s σ H v u Q I r hw => ?_⟩
  obtain ⟨a, xs, e1, hq, hl, hw⟩ := hw
  subst e1
  cases r
  obtain ⟨x1, hx, _⟩ := hot.now I
  obtain ⟨its, rv, ht, hz⟩ := I.tuple hq
  rw [assign_Tuple]
  refine wpAny_bind (wpAny_standAt (unpack_hot hx ht (by simp [hn, ← hl, rv.length]) hst fun h' eb => ?_))
  have I1 : Inv X pn σ H { s with heap := h' } := I.kept (t' := s.toks) fun b o e => eb b o (Nat.ne_of_lt (Heap.lt_size e)) e
  exact h.run pn _ σ H xs _ Q I1 (by simpa using rv) hw
/-- [elt for target in xs if ..], xs a list, while an exception is handled -/
theorem pe_lcHot {elt tg iter : Expr} {ifs : List Expr} {scope : Scope} {own : List (Str × Nat)} {pos : Pos} {tl : TE} {g : TG} {tt : TT} {te : TE} (hot : L2H.HotC X) (hN : X.N.Nodup) (hl : PE X iter tl) (ok : BlkOk X.N X.env.scope scope own)
    (hg : ∀ (s : Shared) (H : Hp) (C : Addr) (cl : List (Str × Addr)) (fp : List Addr), HotB (X.blk s H scope (compEnvC scope cl C X.env) fp) → PG (X.blk s H scope (compEnvC scope cl C X.env) fp) tg g)
    (ht : ∀ (s : Shared) (H : Hp) (C : Addr) (cl : List (Str × Addr)) (fp : List Addr), PTs (X.blk s H scope (compEnvC scope cl C X.env) fp) ifs tt)
    (he : ∀ (s : Shared) (H : Hp) (C : Addr) (cl : List (Str × Addr)) (fp : List Addr), PE (X.blk s H scope (compEnvC scope cl C X.env) fp) elt te) (hs : ∀ x, foldedSetIterable iter X.env x = pure x := by intro _; rfl) :
    PE X (.ListComp elt [⟨tg, iter, ifs, 0⟩] scope pos) (tLc (iList X.K tl) g tt te (own.map (·.2))) := by
  refine ⟨fun pins s σ H Q I w => ?_⟩
  rw [eval_ListComp]
  have caught : ∀ y ∈ scope.names, y.2 = .free → ∃ c, X.env.cells.lookup y.1 = some c := fun y hy e => I.ok.has _ (ok.free y hy e)
  refine wpAny_comprehension_free (use := none) rfl hs (closure_ok caught) ok.kind (fun y hy e => by rw [ok.uniq y hy, e]) (thn (hl.run pins s σ H _ I w) fun xv z1 ⟨x, G1, J1, rx, a, ex, ⟨us, hq⟩, q⟩ => ?_)
  subst ex
  cases rx
  obtain ⟨vals, rv, pl, hz⟩ := J1.list hq
  refine wpAny_pyIter_list pl.isList ?_
  -- the iterator, then the new list
  have stI : (z1.heap.push { cls := .type "list_iterator", data := .fields #[.ref a, .int 0 0] }).IsListIter z1.heap.objs.size a 0 := ⟨_, Heap.get?_push_size _ rfl, rfl, rfl⟩
  have J2 : Inv X pins σ G1 { z1 with heap := z1.heap.push { cls := .type "list_iterator", data := .fields #[.ref a, .int 0 0] } } := J1.kept (t' := z1.toks) fun b o e => Heap.get?_push_of_some _ e
  have fI : FpOk X pins G1 z1.heap.objs.size := J1.fpOk (Nat.le_refl _) (J1.hok.fresh (Nat.le_refl _))
  have iLt : z1.heap.objs.size < (z1.heap.push { cls := .type "list_iterator", data := .fields #[.ref a, .int 0 0] }).objs.size := by rw [Heap.size_push]; exact Nat.lt_succ_self _
  generalize hit : z1.heap.objs.size = it at stI J2 fI iLt ⊢
  generalize hz2 : ({ z1 with heap := z1.heap.push { cls := .type "list_iterator", data := .fields #[.ref a, .int 0 0] } } : Shared) = z2 at J2 ⊢
  have hz2h : z2.heap = z1.heap.push { cls := .type "list_iterator", data := .fields #[.ref a, .int 0 0] } := by rw [← hz2]
  rw [← hz2h] at stI iLt
  refine wpAny_newObj_type (newEnv_comp ?_) (by show 0 ≤ sizeLine; decide)
  generalize hDD : z2.heap.objs.size = DD
  have nDD : G1 DD = none := J2.hok.fresh (Nat.le_of_eq hDD)
  obtain ⟨W, ⟨m0, w0⟩, turn⟩ := q DD nDD
  generalize hz3 : ({ z2 with heap := z2.heap.push { cls := .type "list", data := .seq ([] : List Value).toArray } } : Shared) = z3
  have hz3h : z3.heap = z2.heap.push { cls := .type "list", data := .seq ([] : List Value).toArray } := by rw [← hz3]
  have J3 : Inv X pins σ (upd G1 DD (.lst [])) z3 := by
    rw [← hz3]
    exact J2.laid (t' := z2.toks) (fun b o e => Heap.get?_push_of_some _ e) (Nat.le_of_eq hDD) ⟨Nat.zero_le _, [], 0, .nil, by rw [← hDD]; exact Heap.get?_push_size _ rfl⟩
  have f3 : ∀ b ∈ [it], FpOk X pins (upd G1 DD (.lst [])) b ∧ b < z3.heap.objs.size := fun b hb => by
    rw [List.mem_singleton] at hb
    subst hb
    exact ⟨⟨by rw [upd_ne (by rw [← hDD]; exact Nat.ne_of_lt iLt)]; exact fI.1, fI.2⟩, by rw [hz3h, Heap.size_push]; exact Nat.lt_succ_of_lt iLt⟩
  have st3 : z3.heap.IsListIter it a 0 := stI.at fun o e => by rw [hz3h]; exact Heap.get?_push_of_some _ e
  have J4 := block_start J3 ok hN f3
  have hb0 := HotB.blk (scope := scope) (ce := compEnvC scope (cellsFrom (z3.heap.objs.size + 1) scope.names (cloFrom X.env.cells scope.names [])) z3.heap.objs.size X.env) (fp := [it]) hot J3 fun b hb => (f3 b hb).1
  have pg := hg z3 (upd G1 DD (.lst [])) z3.heap.objs.size (cellsFrom (z3.heap.objs.size + 1) scope.names (cloFrom X.env.cells scope.names [])) [it] hb0
  have pt := ht z3 (upd G1 DD (.lst [])) z3.heap.objs.size (cellsFrom (z3.heap.objs.size + 1) scope.names (cloFrom X.env.cells scope.names [])) [it]
  have pe := he z3 (upd G1 DD (.lst [])) z3.heap.objs.size (cellsFrom (z3.heap.objs.size + 1) scope.names (cloFrom X.env.cells scope.names [])) [it]
  show codeAny _ _ (.compStart (.ListComp elt [⟨tg, iter, ifs, 0⟩] scope pos) 0 (.ref it) (.ref DD) (compEnvC scope (cellsFrom (z3.heap.objs.size + 1) scope.names (cloFrom X.env.cells scope.names [])) z3.heap.objs.size X.env)) (compPost (model X.prog X.w) X.A X.xe none _ (.ref DD) z3.heap.objs.size) { z3 with heap := pushCells (z3.heap.push { cls := .type "dict", data := .dict #[] }) scope.names }
  have nI : (upd G1 DD (.lst [])) it = none := (f3 it (by simp)).1.1
  generalize hce : compEnvC scope (cellsFrom (z3.heap.objs.size + 1) scope.names (cloFrom X.env.cells scope.names [])) z3.heap.objs.size X.env = ce at J4 hb0 pg pt pe ⊢
  have cL : ce.locals = z3.heap.objs.size := by subst hce; rfl
  generalize hG3 : upd G1 DD (.lst []) = G3 at J3 J4 hb0 pg pt pe w0 nI f3
  generalize hz4 : ({ z3 with heap := pushCells (z3.heap.push { cls := .type "dict", data := .dict #[] }) scope.names } : Shared) = z4 at J4 ⊢
  have st4 : z4.heap.IsListIter it a 0 := st3.at fun o e => by rw [← hz4]; exact pushCells_keeps _ _ _ _ (Heap.get?_push_of_some _ e)
  have mine : ∀ {σ' : L2.St} {G' : Hp} {z' : Shared}, Inv (X.blk z3 G3 scope ce [it]) [] σ' G' z' → G' it = none → FpOk (X.blk z3 G3 scope ce [it]) [] G' it := fun {σ' G' z'} J' hn =>
    ⟨hn, (J'.ok.exf it (by simp)).1, J'.ok.exfs it (by simp), .inl (by simp), fun x c e => (J'.ok.exf it (by simp)).2 x c e, fun p hp => absurd (show p ∈ ([] : List (Addr × Obj)) ++ [] from hp) (by simp)⟩
  have back : ∀ {z6 : Shared} {G6 : Hp}, Inv (X.blk z3 G3 scope ce [it]) [] (wipe σ (own.map (·.2))) G6 z6 → Q (.ref DD) G6 → compPost (model X.prog X.w) X.A X.xe none (EP X pins σ Q) (.ref DD) z3.heap.objs.size (.ok .next) z6 := fun {z6 G6} J6 qq => by
    have J7 : Inv X pins σ G6 z6 := J3.call' (ch := [it]) J6.os J6.base J6.hok J6.bare fun b hb => ⟨(f3 b hb).1.2.2.2.1, (f3 b hb).1.2.1, (f3 b hb).1.2.2.2.2.1, (f3 b hb).1.2.2.2.2.2⟩
    have nC : G6 ce.locals = none := J6.free
    obtain ⟨m, hn, _⟩ := J6.loc
    have hn : z6.heap.Ns ce.locals m := hn
    rw [cL] at nC hn
    obtain ⟨e0, e1, e2, e3, e4, e5⟩ := J3.fpOk (Nat.le_refl _) nC
    exact ⟨m, hn, fun h'' sb => ⟨.ref DD, G6, J7.turned (t' := z6.toks) (fun b o hb e => (sb.2 b hb).trans e) e0 e1 e3 e4 e5, rfl, qq⟩⟩
  have loop : codeAny (model X.prog X.w) X.A (.compLoop (.ListComp elt [⟨tg, iter, ifs, 0⟩] scope pos) 0 (.ref it) (.ref DD) ce) (compPost (model X.prog X.w) X.A X.xe none (EP X pins σ Q) (.ref DD) z3.heap.objs.size) z4 := by
    refine compLoop_any (fun n z => ∃ i G, Inv (X.blk z3 G3 scope ce [it]) [] (wipe σ (own.map (·.2))) G z ∧ z.heap.IsListIter it a i ∧ G it = none ∧ W i n G) ?_ m0 ⟨0, G3, J4, st4, nI, w0⟩
    rintro n z5 ⟨i, G5, J5, st5, n5, w5⟩
    obtain ⟨e0, e1, e2, e3, e4, e5⟩ := mine J5 n5
    rcases turn i n G5 w5 with ⟨⟨ys, hy, hle⟩, qq⟩ | ⟨⟨ys, y, hy, hyi⟩, Nx, hNx, step⟩
    · obtain ⟨its, ry, py, _⟩ := J5.list hy
      obtain ⟨x1, hx1, nx⟩ := hb0.now J5
      have ll := ry.length
      refine list_over hx1 (fun e => nx (by rw [e]; exact List.mem_singleton.mpr rfl)) st5 py.isList (by simp; omega) fun h' eb => ?_
      exact back (J5.turned (t' := z5.toks) (fun b o hb e => eb b o hb e) e0 e1 e3 e4 e5) qq
    · obtain ⟨its, ry, py, _⟩ := J5.list hy
      obtain ⟨u, hu, ru⟩ := ry.get hyi
      refine wpAny_pyNext_list_item st5 py.isList (x := u) (by simpa using hu) fun h' st6 sb => ?_
      have J6 : Inv (X.blk z3 G3 scope ce [it]) [] (wipe σ (own.map (·.2))) G5 { z5 with heap := h' } := J5.turned (t' := z5.toks) (fun b o hb e => (sb.2 b hb).trans e) e0 e1 e3 e4 e5
      obtain ⟨oi, gi, ci, di⟩ := id st6
      refine go_of (s := { z5 with heap := h' }) gi ci di (by decide) ?_
      have J6' := J6.pinned (fp := [it]) (fun b hb => by rw [List.mem_singleton] at hb; subst hb; exact mine J6 n5) (fun b hb => by rw [List.mem_singleton] at hb; subst hb; exact ⟨oi, gi, fun v z => by rw [di] at z; cases z⟩)
      have yl : (Itl X.K a).yld i G5 y G5 := ⟨rfl, fun xs hxs => by rw [J6.list_inj hxs hy]; exact hyi⟩
      refine thnF (pg.run _ _ _ G5 y u _ J6' ru (step y G5 yl)) fun _ z7 ⟨σ7, G7, J7, hw7, q7⟩ => ?_
      refine thnF (pt.run _ z7 σ7 G7 _ J7 q7) fun bb z8 ⟨G8, J8, q8⟩ => ?_
      have next : ∀ {z : Shared} {G : Hp}, Inv (X.blk z3 G3 scope ce [it]) ([] ++ pinsAt [it] h') σ7 G z → Nx G → ∃ m, m < n ∧ ∃ i G, Inv (X.blk z3 G3 scope ce [it]) [] (wipe σ (own.map (·.2))) G z ∧ z.heap.IsListIter it a i ∧ G it = none ∧ W i m G := fun {z G} J nxt => by
        obtain ⟨m', hm, wm⟩ := hNx G nxt
        have pin := J.pin (it, oi) (List.mem_append_right _ (List.mem_append_right _ (mem_pinsAt (by simp) gi)))
        refine ⟨m', hm, i + 1, G, (J.unpinned (pins := [])).weak (by rw [← hw7, wipe_length]) (fun j v e => ?_), st6.at fun o e => ?_, pin.2.1, wm⟩
        · rw [← hw7] at e
          exact (wipe_some e).1
        · rw [gi] at e; cases e; exact pin.1
      cases bb with
      | false => exact next J8 (by simpa using q8)
      | true =>
        simp only [if_true] at q8 ⊢
        refine thnF (pe.run _ z8 σ7 G8 _ J8 q8) fun v z9 ⟨yv, G9, J9, r9, acc, hA, hAz, nxt⟩ => ?_
        exact app_ok (X := X.blk z3 G3 scope ce [it]) J9 hA hAz r9 fun z10 J10 => next J10 nxt
  exact codeAny_compStart_list loop (wpAny_pyIter_listiter st4 loop)
end
end PL

set_option Elab.async false
set_option linter.all false
set_option maxRecDepth 100000
set_option maxHeartbeats 4000000
/-! PL12: try with several clauses `except C as n`; own classes raised without arguments. -/
namespace PL
open PySem PySem.Spec PyProof.Rows
open L2 (Inv Cx XK VK TS TE TA TI TG TGs V HO Hp RelV Vals Ends SP EP PE PS PSs PA PG frs WX)
section
variable {X : Cx} {pins : List (Addr × Obj)} {σ : L2.St} {H : Hp} {s sI : Shared} {B : Heap} {a : Addr} {cls : Value} {d : Option Addr}
/-- an exception on the ground of the def that may handle it; sI: the state without it -/
structure Landed (X : Cx) (pins : List (Addr × Obj)) (σ : L2.St) (H : Hp) (a : Addr) (cls : Value) (d : Option Addr) (B : Heap) (sI s : Shared) : Prop where
  inv : Inv X pins σ H sI
  low : ∀ b o, sI.heap.get? b = some o → b ∉ frs X.stack → B.get? b = some o
  up : sI.heap.UpToSlots s.heap
  fly : HandSPX.FlyingZ B (X.env :: X.outer) a (L2N.Zn cls d) s.heap
  new : H a = none
  os : s.os = sI.os
  bare : AllBare s.gens
theorem Landed.here (L : Landed X pins σ H a cls d B sI s) : Inv X pins σ H s := L.inv.landed L.low L.fly.1 L.up L.os L.bare
theorem Landed.away (L : Landed X pins σ H a cls d B sI s) (hs : X.stack = X.env :: X.outer) (hf : X.env.frame = some X.env.locals) : a ≠ X.env.locals ∧ a ∉ X.fs := by
  obtain ⟨oe, vs, he, hz, hd⟩ := L.fly.there
  have out : a ∉ frs (X.env :: X.outer) := fun hm => by
    obtain ⟨_, o, g, hnf⟩ := L.fly.2.2.1.mem hm
    rw [he] at g; cases g
    exact hnf _ hd
  exact ⟨fun z => out (List.mem_filterMap.mpr ⟨X.env, List.mem_cons_self, by rw [hf, z]⟩), fun hm => by
    obtain ⟨e, ge, q⟩ := List.mem_filterMap.mp hm
    exact out (List.mem_filterMap.mpr ⟨e, List.mem_cons_of_mem _ ge, q⟩)⟩
/-- clauses, and what they wish of an exception -/
def Clauses (X : Cx) (hds : List ExceptHandler) (w : Ends → WX) : Prop :=
  ∀ (pins : List (Addr × Obj)) (σ : L2.St) (H : Hp) (a : Addr) (cls : Value) (d : Option Addr) (B : Heap) (sI s : Shared) (D : Ends), Landed X pins σ H a cls d B sI s → w D cls d σ H →
    wpAny (model X.prog X.w) X.A (handleBy (.ref a) X.env hds) (SP X pins D) X.xe s
theorem clauses_nil {W : WX} (hs : X.stack = X.env :: X.outer) (hf : X.env.frame = some X.env.locals) (tk : L2N.Takes X W) : Clauses X [] (fun _ => W) := by
  intro pins σ H a cls d B sI s D L w
  refine wpAny_handleBy_nil ?_
  obtain ⟨k1, k2, k3, oe, vs, T, oT, ts, he, hz, hd, h1, hr⟩ := id L.fly
  unfold PySem.passOn
  refine wpAny_bind (wpAny_field he hd h1 ?_)
  rw [if_neg (show ¬ ((Value.ref T == Value.none) = true) from by simp)]
  have go : wpAny (model X.prog X.w) X.A (setFlight (.ref a) X.env.frame) (fun _ z => wpAny (model X.prog X.w) X.A (throw (.ref a) : Sem Flow) (SP X pins D) X.xe z) X.xe s := by
    rw [hf]
    exact HandSPX.setFlight_upZ L.fly fun g hh up => wpAny_throw (tk _ _ ⟨a, B, sI, pins, σ, H, cls, d, rfl, L.inv, L.low, L.up.trans up, .inr (.inr (by rw [hs]; exact hh)), L.new, L.os, L.bare, w⟩)
  first
    | exact wpAny_bind (wpAny_pure (wpAny_bind go))
    | exact wpAny_bind go
/-- what `except x as n: suite` wishes, n in slot i, further clauses behind it -/
def wClause (K : PySem.W.Frag) (c : Value) (i : Nat) (ts : Addr → Value → Option Addr → TS) (w : Ends → WX) : Ends → WX := fun D cls d σ H =>
  ∃ b, PySem.W.exmOne K cls c = some b ∧ (b = true → ∀ a, H a = none → ts a cls d { nx := fun σ' H' => D.nx (σ'.set i none) H', rt := D.rt, bk := fun σ' H' => D.bk (σ'.set i none) H', ct := fun σ' H' => D.ct (σ'.set i none) H' } (σ.set i (some (.ref a))) H) ∧
    (b = false → w D cls d σ H)
theorem clauses_as {x n : Str} {c : Value} {i : Nat} {b₀ : Stmt} {suite : List Stmt} {np pos : Pos} {hds : List ExceptHandler} {ts : Addr → Value → Option Addr → TS} {w : Ends → WX}
    (hs : X.stack = X.env :: X.outer) (hf : X.env.frame = some X.env.locals) (hN : X.N.Nodup) (hi : X.N[i]? = some n) (hln : X.env.kindOf n = some .local) (hc : L2.Names X x c)
    (hsu : ∀ (a : Addr) (oe : Obj) (cls : Value) (d : Option Addr) (pn : List (Addr × Obj)), L2N.Zn cls d oe → (∃ vs, oe.data = .fields vs) → PSs (X.suite a ((a, oe) :: pn)) (b₀ :: suite) (ts a cls d))
    (rest : Clauses X hds w) : Clauses X (.ExceptHandler (some (.Name x np)) (some n) (b₀ :: suite) pos :: hds) (wClause X.K c i ts w) := by
  intro pins σ H a cls d B sI s D L ⟨b, hb, yes, no⟩
  have ok := L.inv.ok
  have J3 := L.here
  obtain ⟨nL, nF⟩ := L.away hs hf
  obtain ⟨oe3, vs3, he3, hz3, hd3⟩ := L.fly.there
  have S3 := J3.suite he3 hd3 L.new nL nF
  refine wpAny_handleBy_cons (codeAny_handlers_test ?_) (by intro q; cases q)
  have ty : PySem.W.Looks (model X.prog X.w) s.heap (typeOf (.ref a)) cls := fun A Q E z k q => wpAny_typeOf_ref (k _ _ he3) (by rw [hz3.1]; exact q)
  have is := PySem.W.exm_one (M := model X.prog X.w) J3.kIn ty hb
  have name : ∀ {Q : Value → Shared → Prop} {E : Value → Shared → Prop}, Q c s → wpAny (model X.prog X.w) (X.A.mark (some (.ref a))) (eval (.Name x np) X.env) Q E s := fun {Q E} q => by
    obtain ⟨hg, hdb, hm | ⟨hm, hv, hnn⟩⟩ := hc
    · exact L2.ld_glob (X := X.suite a ((a, oe3) :: (X.pn ++ pins))) S3 hg hm q hdb
    · exact L2.ld_blt (X := X.suite a ((a, oe3) :: (X.pn ++ pins))) S3 hg hm hv q hnn hdb
  refine name (is.here ?_)
  cases b with
  | false =>
    show wpAny _ X.A (handleBy (.ref a) X.env hds) _ _ _
    exact rest pins σ H a cls d B sI s D L (no rfl)
  | true =>
    refine codeAny_handlers_suite_as ?_
    refine HandSPX.lands_againZ L.fly fun g4 fl4 up4 => ?_
    have J4 : Inv X pins σ H { s with heap := g4 } := L.inv.landed L.low fl4.1 (L.up.trans up4) L.os L.bare
    obtain ⟨oe4, vs4, he4, hz4, hd4⟩ := fl4.there
    have S4 := J4.suite he4 hd4 L.new nL nF
    refine L2.store_ok (X := X.suite a ((a, oe4) :: (X.pn ++ pins))) (v := .ref a) S4 hN hi (.inl hln) rfl (fun s5 S5 => ?_) (.inr hln)
    refine wpAny_mono ((hsu a oe4 cls d (X.pn ++ pins) hz4 ⟨_, hd4⟩).run [] s5 _ H _ S5 (yes rfl a L.new)) (fun f s6 r => ?_) (fun _ _ z => False.elim z)
    have gone : ∀ {σ6 : L2.St} {H6 : Hp} {Q : Shared → Prop}, Inv (X.suite a ((a, oe4) :: (X.pn ++ pins))) [] σ6 H6 s6 → (∀ s7, Inv X pins (σ6.set i none) H6 s7 → Q s7) →
        wpAny (model X.prog X.w) X.A (do bindName X.env n .none; unbindBehindTheSuite X.env n pos) (fun _ s7 => Q s7) X.xe s6 := fun {σ6 H6 Q} S6 hq => L2.gone_ok (S6.unsuite ok) hN hi hln hq
    cases f with
    | next => obtain ⟨σ6, H6, S6, q6⟩ := r; exact gone S6 fun s7 J7 => ⟨_, _, J7, q6⟩
    | brk => obtain ⟨σ6, H6, S6, q6⟩ := r; exact gone S6 fun s7 J7 => ⟨_, _, J7, q6⟩
    | cont => obtain ⟨σ6, H6, S6, q6⟩ := r; exact gone S6 fun s7 J7 => ⟨_, _, J7, q6⟩
    | ret u => obtain ⟨v6, σ6, H6, S6, r6, q6⟩ := r; exact gone S6 fun s7 J7 => ⟨_, _, _, J7, r6, q6⟩
/-- try: body, the clauses -/
theorem ps_tryC {body : List Stmt} {h₀ : ExceptHandler} {hds : List ExceptHandler} {w : Ends → WX} {pos : Pos} {tb : WX → TS} (hs : X.stack = X.env :: X.outer) (hf : X.env.frame = some X.env.locals)
    (hb : ∀ (W : WX) (pn : List (Addr × Obj)) (xe : Value → Shared → Prop), L2N.Takes (X.tr pn xe) W → PassesOwn (model X.prog X.w) X.A X.env xe → PSs (X.tr pn xe) body (tb W))
    (hh : Clauses X (h₀ :: hds) w) : PS X (.Try body (h₀ :: hds) [] [] pos) (fun D σ H => tb (w D) D σ H) := by
  refine ⟨fun pins s σ H D I h => ?_⟩
  have ok := I.ok
  have hfr : X.A.frames = some (X.env :: X.outer) := by rw [ok.frames, hs]
  refine wpAny_Try_except (wpAny_mono ((hb (w D) (X.pn ++ pins) (fun e z1 => wpAny (model X.prog X.w) X.A (noteFrame e X.env) (fun _ z2 => wpAny (model X.prog X.w) X.A (setFlight e none) (fun _ z3 =>
    wpAny (model X.prog X.w) X.A (handleBy e X.env (h₀ :: hds)) (SP X pins D) X.xe z3) X.xe z2) X.xe z1) (fun u z xx => ?_) PassesOwn.looking).run [] s σ H D (I.toTry _) h) (fun f s1 r => ?_) (fun e s1 he => he))
  · obtain ⟨a, B, sI, pins', σ', H', cls, d, rfl, J', low, up, sky, na, os, ag, wish⟩ := xx
    have J : Inv X pins σ' H' sI := J'.ofTry ok
    have sky' : L2.Sky B (X.env :: X.outer) a (L2N.Zn cls d) X.env.locals z.heap := by rw [← hs]; exact sky
    show wpAny (model X.prog X.w) X.A (noteFrame (.ref a) X.env) _ _ _
    exact L2N.Sky.land L2N.Zn.steady hfr hf sky' fun g fl up2 => hh pins σ' H' a cls d B sI _ D ⟨J, low, up.trans up2, fl, na, os, ag⟩ wish
  · cases f with
    | next => obtain ⟨σ', H', J', q⟩ := r; exact wpAny_execs_nil ⟨σ', H', J'.ofTry ok, q⟩
    | brk => obtain ⟨σ', H', J', q⟩ := r; exact ⟨σ', H', J'.ofTry ok, q⟩
    | cont => obtain ⟨σ', H', J', q⟩ := r; exact ⟨σ', H', J'.ofTry ok, q⟩
    | ret u => obtain ⟨v, σ', H', J', r, q⟩ := r; exact ⟨v, σ', H', J'.ofTry ok, r, q⟩
end
section
variable {X : L2.Cx} {C : Addr} {bmB : List Value} {B newId initId : String}
/-- X() of an own class without own __init__ -/
theorem pmk_none {x : Str} {p pos : Pos} (F : ExcBaseFacts B newId initId bmB) (q : PySem.W.excIn X.K C bmB newId = true) (gC : X.mg x = some (.ref C)) (kC : PySem.W.keepIn X.K (.ref C) = true) (r : L2.Raises X (.ref C)) (hg : L2.Gl X x)
    (hdb : (x == ("__debug__" : Str)) = false := by decide) : L2N.PMk X (.Call (.Name x p) [] [] pos) (fun _ H Q => Q (.ref C) none H) := by
  intro pins s σ H Q I h
  refine wpAny_Call_Name_kw (L2.ld_glob I hg gC ?_ hdb)
  refine PySem.W.callWith_K0 I.kIn kC ?_
  show wpAny _ _ (call (.ref C) []) _ _ _
  obtain ⟨bm, N, nm, qn, bs, hdct, sn, sub, ab, col, dd, k0, k1, k2, k3, k5, mN, hC, hN, hni, T⟩ := L2.exc_obj I.kIn q
  exact wpAny_call_exc_subT F T hC hN hni (fun h' e hm => L2N.mk_of I hm r h (L2.HOk.gone I.hok hm.new)) (Nat.zero_le _)
end
end PL

set_option Elab.async false
set_option linter.all false
set_option maxRecDepth 100000
set_option maxHeartbeats 4000000
/-! PL13: defs that may raise, over plain data. -/
namespace PL
open PySem L2 RZ
/-- what is told of an exception that leaves a def: its class, its field's value (if its class keeps one), what is ours then -/
abbrev Xq := Value → Option D → Sto → Prop
abbrev PhX := List D → Sto → Kq → Xq → Prop
/-- the exception's own dict, by the value of its one field -/
def XRep (K : PySem.W.Frag) (Hs : Hp) (d : Option Addr) : Option D → Prop
  | none => d = none
  | some y => ∃ dx f v, d = some dx ∧ Hs dx = some (.xd [(f, v)]) ∧ Dat K Hs v y
def XCont (K : PySem.W.Frag) (Hs : Hp) (x : Xq) (E : XK) : Prop := ∀ cls d z Hs' H' S', Ex Hs Hs' → Rep K Hs' H' S' → XRep K Hs' d z → x cls z S' → E cls d H'
theorem XCont.mono {K : PySem.W.Frag} {Hs Hs' : Hp} {x : Xq} {E : XK} (h : XCont K Hs x E) (e : Ex Hs Hs') : XCont K Hs' x E := fun cls d z H1 H2 S e1 R r q => h cls d z H1 H2 S (e.trans e1) R r q
/-- nothing is raised -/
def xNo : Xq := fun _ _ _ => False
theorem xNo_cont {K : PySem.W.Frag} {Hs : Hp} {E : XK} : XCont K Hs xNo E := fun _ _ _ _ _ _ _ _ _ h => h.elim
def spX (K : PySem.W.Frag) (n : Nat) (φ : PhX) : Sp := fun vs H QQ E => vs.length = n ∧ ∃ Hs S ds q x, Rep K Hs H S ∧ DatA K Hs vs ds ∧ φ ds S q x ∧ Cont K Hs q QQ ∧ XCont K Hs x E
/-- a promise of exceptions, taken by one that takes none -/
theorem passN {X : Cx} : Passes (L2N.CX X.prog X.w) X E0 := fun _ _ _ _ _ _ _ h => by
  obtain ⟨_, _, _, _, _, _, _, _, _, _, _, _, z⟩ := h
  exact z.elim
def tRaise (C : Value) (E : XK) : TS := fun _ _ H => E C none H
section
variable {K : KX} {δ : Env} {S : Sto} {t : TA} {Q : Kq} {E : XK}
theorem ws_raise {C : Value} {x : Xq} {EE : AE} (hE : XCont K.f K.b x E) (h : x C none S) : WS K (tRaise C E) δ S EE := fun Hs H σ D R L k => hE C none none Hs H S L.2 R rfl h
theorem we_callX {n : Nat} {φ : PhX} {x : Xq} (hE : XCont K.f K.b x E) (h : WA K t δ S fun ds S1 => ds.length = n ∧ φ ds S1 Q x) : WE K (tCallS (spX K n φ) (fun _ => E) t) δ S Q := fun Hs H σ QQ R L k =>
  h Hs H σ _ R L fun vs ds Hs1 H1 S1 e1 R1 r1 ⟨hl, q⟩ => ⟨by rw [r1.len]; exact hl, Hs1, S1, ds, Q, x, R1, r1, q, (fun v' d' Hs' H' S' e R' => k v' d' Hs' H' S' (e1.trans e) R'), hE.mono (L.2.trans e1)⟩
theorem we_callN {n : Nat} {φ : PhX} (h : WA K t δ S fun ds S1 => ds.length = n ∧ φ ds S1 Q xNo) : WE K (tCall (spX K n φ) [] E t) δ S Q := fun Hs H σ QQ R L k =>
  h Hs H σ _ R L fun vs ds Hs1 H1 S1 e1 R1 r1 ⟨hl, q⟩ => by
    show spX K n φ (vs ++ []) H1 QQ E
    rw [List.append_nil]
    exact ⟨by rw [r1.len]; exact hl, Hs1, S1, ds, Q, xNo, R1, r1, q, (fun v' d' Hs' H' S' e R' => k v' d' Hs' H' S' (e1.trans e) R'), xNo_cont⟩
end
section
variable {P : Program} {w : World} {K : PySem.W.Frag} {mg : Str → Option Value} {base : Heap}
/-- the context of a def that may raise -/
abbrev cxX (P : Program) (w : World) (K : PySem.W.Frag) (mg : Str → Option Value) (base : Heap) (N : List Str) (qual : Str) (scope : Scope) (f : Addr) (cdv : Value) (A : Around) (outer : List PySem.Env) (s : Shared) (H : Hp) (E : XK) : Cx :=
  cxOf (L2N.CX P w) P w K mg base N qual scope f cdv A outer s H E
theorem takesX {N : List Str} {qual : Str} {scope : Scope} {f : Addr} {cdv : Value} {A : Around} {outer : List PySem.Env} {s : Shared} {H : Hp} {E : XK} : L2N.Takes (cxX P w K mg base N qual scope f cdv A outer s H E) (fun cls d _ H => E cls d H) :=
  L2N.takes_of (X := cxX P w K mg base N qual scope f cdv A outer s H E) rfl rfl rfl rfl
theorem okX {x qual : Str} {st : Stmt} {f : Addr} {fd : FuncData} {N ps : List Str} {k : Nat} {φ : PhX} (F : Fun K x qual st f fd) (Sc : FnScope N ps (defScope st))
    (hbody : ∀ (cdv : Value) (A : Around) (outer : List PySem.Env) (s : Shared) (H : Hp) (E : XK), Room k (A.deeper (PyProof.Rows.envOfC qual (defScope st) s.heap.objs.size f cdv)) →
      ∃ t, PSs (cxX P w K mg base N qual (defScope st) f cdv A outer s H E) (defBody st) t ∧
        ∀ ds S q x Hs0, ds.length = ps.length → XCont K Hs0 x E → φ ds S q x → WS ⟨K, Hs0⟩ t (startE N ds) S { nx := fun _ S' => q .non S', rt := q }) : FnOk P w K mg base (L2N.CX P w) (k + 1) f fd ps (spX K ps.length φ) := by
  obtain ⟨oc, od, kV, doc, pm, an, cdv, ct, osl, rfl, lk, hcd⟩ := F.ex
  refine fn_of lk hcd Sc (fun vs H Q E h => h.1) fun A outer s H vs Q E hr h => ?_
  obtain ⟨hl, Hs, S, ds, q, x, R, r, hφ, k0, kx⟩ := h
  obtain ⟨t, ht, hw⟩ := hbody cdv A outer s H E hr
  refine ⟨t, ht, hw ds S q x Hs (by rw [← r.len]; exact hl) kx hφ Hs H (L2.start N vs) _ R (slt_start (K := ⟨K, Hs⟩) (Ex.refl _) r) ⟨fun Hs' H' σ' δ' S' e R' L' z => k0 _ _ Hs' H' S' e R' .non z, fun v d Hs' H' S' e R' r z => k0 v d Hs' H' S' e R' r z, fun _ _ _ _ _ _ _ _ z => z.elim, fun _ _ _ _ _ _ _ _ z => z.elim⟩⟩
end
end PL

set_option Elab.async false
set_option linter.all false
set_option maxRecDepth 100000
set_option maxHeartbeats 4000000
/-! PL14: a name called that holds a def or a lambda; lambdas with parameters and no captured name. -/
namespace PL
open PySem L2 RZ
/-- a function object stands at f -/
def FnH (K : PySem.W.Frag) (H : Hp) (f : Addr) : Prop := (∃ oc od fd sl, K.lookup f = some ⟨oc, od, .func fd, sl⟩) ∨ ∃ oc od fd sl, H f = some (FunO f ⟨oc, od, .func fd, sl⟩)
theorem FnH.ex {K : PySem.W.Frag} {H H' : Hp} {f : Addr} (h : FnH K H f) (e : Ex H H') : FnH K H' f := h.imp id fun ⟨oc, od, fd, sl, q⟩ => ⟨oc, od, fd, sl, e _ _ q⟩
theorem FnH.at {X : Cx} {pins : List (Addr × Obj)} {σ : St} {H : Hp} {s : Shared} {f : Addr} (h : FnH X.K H f) (I : Inv X pins σ H s) : PySem.W.FnAt f s.heap := by
  rcases h with ⟨oc, od, fd, sl, q⟩ | ⟨oc, od, fd, sl, q⟩
  · exact ⟨oc, od, fd, sl, I.kIn _ _ q⟩
  · have z := I.hok f _ q
    exact ⟨oc, od, fd, sl, z.1⟩
/-- f called with vs at H comes to Q, or lets out what E takes -/
def Acts (P : Program) (w : World) (K : PySem.W.Frag) (mg : Str → Option Value) (base : Heap) (k : Nat) (f : Addr) (vs : List V) (H : Hp) (Q : VK) (E : XK) : Prop :=
  ∀ (A : Around) (outer : List PySem.Env) (s : Shared) (us : List Value), Room k A → Env0 P w K mg base A outer s H → Vals vs us → codeAny (model P w) A (.call (.ref f) ⟨us, []⟩) (CR (L2N.CX P w) outer P w H s Q E) s
def tCallV (P : Program) (w : World) (K : PySem.W.Frag) (mg : Str → Option Value) (base : Heap) (k i : Nat) (t : TA) (E : St → XK) : TE := fun σ H Q =>
  ∃ f, σ[i]? = some (some (.ref f)) ∧ FnH K H f ∧ t σ H fun vs H1 => FnH K H1 f ∧ Acts P w K mg base k f vs H1 Q (E σ)
theorem pe_callV {X : Cx} {k i : Nat} {a : Str} {e : Expr} {es : List Expr} {t : TA} {E : St → XK} {p1 p2 : Pos} (hr : Room k X.A) (hN : X.N[i]? = some a) (hv : Vis X.env.scope a) (hx : ∀ σ, PassesAt (L2N.CX X.prog X.w) X σ (E σ)) (ha : PA X (e :: es) t)
    (hd : (a == ("__debug__" : Str)) = false := by decide) (hcd : (a == ("__classdict__" : Str)) = false := by decide)
    (he : starEach (e :: es) X.env = (false, eval e X.env) :: starEach es X.env := by rfl) (hpl : (backTo p2 (starEach es X.env)).any (·.1) = false := by rfl) :
    PE X (.Call (.Name a p1) (e :: es) [] p2) (tCallV X.prog X.w X.K X.mg X.base k i t E) := by
  refine ⟨fun pins s σ H Q I ⟨f, hs, hf, h⟩ => ?_⟩
  refine wpAny_Call_Name_kw (thn ((pe_var (pos := p1) (i := i) hN hv hd hcd).run pins s σ H (fun v H1 => v = .ref f ∧ H1 = H) I ⟨.ref f, hs, rfl, rfl⟩) fun u s1 ⟨v, H1, I1, r1, ev, eH⟩ => ?_)
  subst ev eH
  obtain rfl : u = Value.ref f := r1
  refine PySem.W.callWith_F (hf.at I1) (thn (ha.run p2 pins s1 σ _ _ I1 h) fun us s2 ⟨vs, H2, I2, r2, hf2, q⟩ => ⟨hf2.at I2, ?_⟩) he hpl
  refine wpAny_call (codeAny_mono (q X.A X.stack s2 us hr I2.env0 r2) fun r s3 hq => ?_)
  cases r with
  | error e => exact hx σ pins H2 s2 e s3 I2 hq
  | ok fl =>
    cases fl with
    | ret u => exact I2.after hq
    | next => exact False.elim hq
    | brk => exact False.elim hq
    | cont => exact False.elim hq
/-- what a value does when it is called: phi of its data -/
def Does (P : Program) (w : World) (K : PySem.W.Frag) (mg : Str → Option Value) (base : Heap) (k n : Nat) (c : D) (φ : PhX) : Prop :=
  ∀ (Hs H : Hp) (S : Sto) (f : V) (vs : List V) (ds : List D) (q : Kq) (QQ : VK) (x : Xq) (E : XK), Rep K Hs H S → Dat K Hs f c → DatA K Hs vs ds → ds.length = n → φ ds S q x → Cont K Hs q QQ → XCont K Hs x E →
    ∃ a, f = .ref a ∧ Acts P w K mg base k a vs H QQ E
/-- it is a function -/
def IsFn (K : PySem.W.Frag) (c : D) : Prop := ∀ (Hs H : Hp) (S : Sto) (f : V), Rep K Hs H S → Dat K Hs f c → ∃ a, f = .ref a ∧ FnH K H a
section
variable {P : Program} {w : World} {K : PySem.W.Frag} {mg : Str → Option Value} {base : Heap}
theorem does_fn {k : Nat} {f : Addr} {fd : FuncData} {ps : List Str} {φ : PhX} (F : FnOk P w K mg base (L2N.CX P w) k f fd ps (spX K ps.length φ)) (hb : Binds K fd ps []) : Does P w K mg base k ps.length (.ref f) φ := by
  intro Hs H S v vs ds q QQ x E R rf ra hl hφ k0 kx
  cases rf
  refine ⟨f, rfl, fun A outer s us hr e0 rv => ?_⟩
  have hl' : vs.length = ps.length := by rw [ra.len]; exact hl
  have KX : K.In s.heap := e0.mod.kin.keeps fun b o e => (e0.bs b o e).1
  have b := hb s us KX (by rw [List.append_nil, ← rv.length]; exact hl')
  rw [List.append_nil] at b
  exact F.run A outer s H ⟨us, []⟩ us vs QQ E hr e0 b rv ⟨hl', Hs, S, ds, q, x, R, ra, hφ, k0, kx⟩
theorem isFn_def {x qual : Str} {st : Stmt} {f : Addr} {fd : FuncData} (F : Fun K x qual st f fd) : IsFn K (.ref f) := by
  intro Hs H S v R rf
  cases rf
  obtain ⟨oc, od, kV, doc, pm, an, cdv, ct, osl, rfl, lk, hcd⟩ := F.ex
  exact ⟨f, rfl, .inl ⟨oc, od, _, osl, lk⟩⟩
end
section
variable {K : KX} {δ : Env} {S : Sto} {t : TA} {Q : Kq} {P : Program} {w : World} {mg : Str → Option Value} {base : Heap}
theorem we_callV {k i n : Nat} {c : D} {φ : PhX} {x : Xq} {E : St → XK} (hc : δ[i]? = some (some c)) (hF : IsFn K.f c) (hD : Does P w K.f mg base k n c φ)
    (hE : ∀ Hs H σ, Rep K.f Hs H S → Slt K Hs σ δ → XCont K.f Hs x (E σ)) (h : WA K t δ S fun ds S1 => ds.length = n ∧ φ ds S1 Q x) : WE K (tCallV P w K.f mg base k i t E) δ S Q := fun Hs H σ QQ R L kk => by
  obtain ⟨v, hv, r⟩ := L.at hc
  obtain ⟨a, rfl, hf⟩ := hF Hs H S v R r
  refine ⟨a, hv, hf, h Hs H σ _ R L fun vs ds Hs1 H1 S1 e1 R1 r1 ⟨hl, q⟩ => ?_⟩
  obtain ⟨a1, ea, hf1⟩ := hF Hs1 H1 S1 _ R1 (r.mono e1)
  cases ea
  obtain ⟨a2, ea, act⟩ := hD Hs1 H1 S1 _ vs ds Q QQ x (E σ) R1 (r.mono e1) r1 hl q (fun v' d' Hs' H' S' e R' => kk v' d' Hs' H' S' (e1.trans e) R') ((hE Hs H σ R L).mono e1)
  cases ea
  exact ⟨hf1, act⟩
end
end PL

set_option Elab.async false
set_option linter.all false
set_option maxRecDepth 100000
set_option maxHeartbeats 4000000
namespace PL
open PySem L2 RZ
open PySem.Spec PyProof.Rows
section
variable {P : Program} {w : World} {K : PySem.W.Frag} {mg : Str → Option Value} {base : Heap}
/-- a lambda called -/
theorem lam_run {k : Nat} {q : Str} {params : Arguments} {body : Expr} {scope : Scope} {ps : List Str} {f c : Addr} {pm ctv : Value} {A : Around} {outer : List PySem.Env} {s : Shared} {H : Hp} {us : List Value} {vs : List V} {Q : VK} {E : XK}
    (S : FnScope ps ps scope) (ho : s.heap.get? f = some (PySem.W.kla_obj "<lambda>" q params body scope [] pm c ctv)) (hc : ∃ (oc : Obj) (xs : Array Value) (t : Tok), s.heap.get? c = some oc ∧ oc.data = .fields xs ∧ xs[1]? = some (.str q t))
    (hr : Room (k + 1) A) (e0 : Env0 P w K mg base A outer s H) (hb : bindArgs (PySem.W.kla_fn "<lambda>" q params body scope [] pm (.ref c) ctv) ⟨us, []⟩ = pure (ps.zip us)) (r : Vals vs us) (hl : vs.length = ps.length)
    (hbody : Room k (A.deeper (envOfC q scope s.heap.objs.size f (.ref c))) → ∃ t, PE (cxX P w K mg base ps q scope f (.ref c) A outer s H E) body t ∧ t (L2.start ps vs) H Q) :
    codeAny (model P w) A (.call (.ref f) ⟨us, []⟩) (CR (L2N.CX P w) outer P w H s Q E) s := by
  have lim : s.heap.NoLimit := e0.mod.nolimit.keeps fun b o e => (e0.bs b o e).1
  have places : ∀ y ∈ ps.zip us, scope.names.lookup y.1 = some .local ∨ (scope.names.lookup y.1 = some .cell ∧ ((cellsFrom (s.heap.objs.size + 1) scope.names []).lookup y.1).isSome = true) := fun ⟨n, v⟩ hy => by
    rcases S.par n (List.of_mem_zip hy).1 with z | z
    · exact .inl z
    · exact .inr ⟨z, PySem.W.cellsFrom_some _ _ _ (.inl z)⟩
  obtain ⟨oc, xs, t, h1, h2, h3⟩ := hc
  refine PySem.W.kla_callFunE hr.depth ho rfl S.co S.gen rfl ⟨c, oc, xs, t, rfl, h1, h2, h3⟩ ?_
  rw [hb]
  refine wpAny_pure (wpAny_newFunctionEnv_cells S.kind places fun env he s1 x => ?_)
  subst he
  refine ⟨lim.keeps x.toInCall.keep, PySem.W.kla_codeExpr ?_⟩
  obtain ⟨tt, ht, hq⟩ := hbody (hr.deeper _)
  have J : Inv (cxX P w K mg base ps q scope f (.ref c) A outer s H E) [] (L2.start ps vs) H s1 := inv_start S hr.hd e0 hl r x
  refine wpAny_mono (ht.run [] s1 (L2.start ps vs) H Q J hq) (fun v s' hv => ?_) fun e s' hs => hs
  obtain ⟨v', H', J', rv, q'⟩ := hv
  exact ⟨v', H', J'.os, J'.bare, J'.base, J'.hok, rv, q'⟩
/-- a lambda, by its body -/
theorem does_lam {k : Nat} {q : Str} {params : Arguments} {body : Expr} {scope : Scope} {ps : List Str} {φ : PhX} {ob : Obj} {c : Addr} {pm ctv : Value} (S : FnScope ps ps scope) (hob : ob = PySem.W.kla_obj "<lambda>" q params body scope [] pm c ctv)
    (hb : ∀ (us : List Value), us.length = ps.length → bindArgs (PySem.W.kla_fn "<lambda>" q params body scope [] pm (.ref c) ctv) ⟨us, []⟩ = pure (ps.zip us))
    (hbody : ∀ (f : Addr) (A : Around) (outer : List PySem.Env) (s : Shared) (H : Hp) (E : XK), Room k (A.deeper (envOfC q scope s.heap.objs.size f (.ref c))) → ∃ t, PE (cxX P w K mg base ps q scope f (.ref c) A outer s H E) body t ∧
      ∀ ds S q' x Hs0, ds.length = ps.length → XCont K Hs0 x E → φ ds S q' x → WE ⟨K, Hs0⟩ t (startE ps ds) S q') : Does P w K mg base (k + 1) ps.length (.lam ob c q) φ := by
  intro Hs H S' v vs ds q' QQ x E R rf ra hl hφ k0 kx
  cases rf with
  | lam h1 h2 =>
    rename_i f
    refine ⟨f, rfl, fun A outer s us hr e0 rv => ?_⟩
    have g1 := (e0.hok f _ (R.ex _ _ h1)).1
    have g2 := (e0.hok c _ (R.ex _ _ h2)).1
    rw [hob] at g1
    have hl' : vs.length = ps.length := by rw [ra.len]; exact hl
    refine lam_run S g1 g2 hr e0 (hb us (by rw [← rv.length]; exact hl')) rv hl' fun hr' => ?_
    obtain ⟨t, ht, hw⟩ := hbody f A outer s H E hr'
    exact ⟨t, ht, hw ds S' q' x Hs hl kx hφ Hs H (L2.start ps vs) QQ R (slt_start (K := ⟨K, Hs⟩) (Ex.refl _) ra) k0⟩
theorem isFn_lam {q : Str} {params : Arguments} {body : Expr} {scope : Scope} {ob : Obj} {c : Addr} {pm ctv : Value} (hob : ob = PySem.W.kla_obj "<lambda>" q params body scope [] pm c ctv) : IsFn K (.lam ob c q) := by
  intro Hs H S' v R rf
  cases rf with
  | lam h1 h2 => exact ⟨_, rfl, .inr ⟨_, _, _, _, by rw [R.ex _ _ h1, hob]⟩⟩
end
/-! ### a lambda made -/
def tLamT (Pt : Addr) (q : Str) (ob : Value → Addr → Value → Obj) : TE := fun _ H Q => ∃ ps : Array Value, H Pt = some (.tbl ps) ∧ TriplesOk ps.toList ∧ (∀ (pos : Pos) (cv : Value), codeAmong pos ps.toList = some cv → ∃ c, cv = .ref c ∧ H c = some (LamX.CodeO c q)) ∧
  ∀ (f c : Addr) (pm ctv : Value) (H1 : Hp) (ps' : Array Value), H f = none → H1 f = some (FunO f (ob pm c ctv)) → H1 c = some (LamX.CodeO c q) → (H c = none ∨ H c = some (LamX.CodeO c q)) → H1 Pt = some (.tbl ps') → TriplesOk ps'.toList →
    (∀ (pos : Pos) (cv : Value), codeAmong pos ps'.toList = some cv → codeAmong pos ps.toList = some cv ∨ cv = .ref c) → (∀ b, b ≠ f → b ≠ c → b ≠ Pt → H1 b = H b) → f ≠ c → f ≠ Pt → c ≠ Pt → Q (.ref f) H1
theorem funO_ok {P : Program} {w : World} {H : Hp} {h : Heap} {f : Addr} {ob : Obj} (g : h.get? f = some ob) : ObjOk P w H h f (FunO f ob) := ⟨g, ⟨ob, g⟩, fun h1 h2 z st => st _ z⟩
theorem pe_lam {X : Cx} {Cd Pt : Addr} {params : Arguments} {body : Expr} {scope : Scope} {pos : Pos} (TB : LamX.TabB X.base X.mg Cd Pt) (hcode : X.env.code = .ref Cd) (hdef : defaultsOf params X.env = ([], [])) (hfree : ∀ y ∈ scope.names, y.2 ≠ .free) :
    PE X (.Lambda params body scope pos) (tLamT Pt (X.env.qual ++ "<lambda>") fun pm c ctv => PySem.W.kla_obj "<lambda>" (X.env.qual ++ "<lambda>") params body scope (cloFrom X.env.cells scope.names []) pm c ctv) := by
  refine ⟨fun pins s σ H Q I ⟨ps, hP, tri, known, go⟩ => ?_⟩
  refine PySem.W.kla_eval hdef ?_
  have bP : s.heap.BuiltinsAt X.mg Pt := TB.bm.keeps I.bk
  have gP : s.heap.get? Pt = some { cls := .none, data := .fields ps } := I.hok Pt _ hP
  have caught : ∀ y ∈ scope.names, y.2 = .free → ∃ c, X.env.cells.lookup y.1 = some c := fun y hy e => absurd e (hfree y hy)
  cases hc : codeAmong pos ps.toList with
  | some cv =>
    obtain ⟨c, e, hco⟩ := known pos cv hc
    subst e
    refine PySem.W.kla_makeFunctionHit (mg := X.mg) (c := Cd) (P := Pt) (ps := ps) (closure_ok caught) I.ok.glob (I.mod.glob.keeps I.bk) hcode (TB.code.keeps I.bk) gP tri hc bP fun ctv h' tk hx hsz => ?_
    generalize hob : PySem.W.kla_obj "<lambda>" (X.env.qual ++ "<lambda>") params body scope (cloFrom X.env.cells scope.names []) ((X.mg "__name__").getD .none) c ctv = ob
    have nf : H h'.objs.size = none := I.hok.fresh hsz
    have I1 : Inv X pins σ (upd H h'.objs.size (FunO h'.objs.size ob)) { s with heap := h'.push ob, toks := tk } := I.laid (fun b o e => Heap.get?_push_of_some _ (hx b o e)) hsz (funO_ok (Heap.get?_push_size _ (by rw [← hob]; rfl)))
    subst hob
    refine ⟨.ref h'.objs.size, _, I1, rfl, ?_⟩
    refine go h'.objs.size c _ ctv _ ps nf upd_same ?_ (.inr hco) ?_ tri (fun _ _ z => .inl z) (fun b h1 _ _ => upd_ne h1) (ne_of_none hco nf).symm (ne_of_none hP nf).symm ?_
    · rw [upd_ne (ne_of_none hco nf)]; exact hco
    · rw [upd_ne (ne_of_none hP nf)]; exact hP
    · intro z
      rw [z, hP] at hco
      cases hco
  | none =>
    refine PySem.W.kla_makeFunction (mg := X.mg) (c := Cd) (P := Pt) (ps := ps) (closure_ok caught) I.ok.glob (I.mod.glob.keeps I.bk) hcode (TB.code.keeps I.bk) gP tri hc TB.gP bP fun c ctv h' tk hx hge hlt hrec htb => ?_
    obtain ⟨c2, oc, vs, t, e2, hoc, hd, hv⟩ := hrec
    cases e2
    generalize hob : PySem.W.kla_obj "<lambda>" (X.env.qual ++ "<lambda>") params body scope (cloFrom X.env.cells scope.names []) ((X.mg "__name__").getD .none) c ctv = ob
    have hsz : s.heap.objs.size ≤ h'.objs.size := Nat.le_trans hge (Nat.le_of_lt hlt)
    have nc : H c = none := I.hok.fresh hge
    have nf : H h'.objs.size = none := I.hok.fresh hsz
    have nfc : h'.objs.size ≠ c := Nat.ne_of_gt hlt
    have nPc : Pt ≠ c := ne_of_none hP nc
    have nPf : Pt ≠ h'.objs.size := ne_of_none hP nf
    have eL : (ps ++ #[rawInt pos.line, rawInt pos.col, .ref c]).toList = ps.toList ++ [rawInt pos.line, rawInt pos.col, .ref c] := by simp
    have I1 := LamX.inv_table (q := X.env.qual ++ "<lambda>") (t' := tk) (more := #[rawInt pos.line, rawInt pos.col, .ref c]) (h' := h') I hP hx htb hge ⟨oc, vs, t, hoc, hd, hv⟩
    have nf1 : upd (upd H Pt (.tbl (ps ++ #[rawInt pos.line, rawInt pos.col, .ref c]))) c (LamX.CodeO c (X.env.qual ++ "<lambda>")) h'.objs.size = none := by rw [upd_ne nfc, upd_ne nPf.symm]; exact nf
    have I2 : Inv X pins σ (upd (upd (upd H Pt (.tbl (ps ++ #[rawInt pos.line, rawInt pos.col, .ref c]))) c (LamX.CodeO c (X.env.qual ++ "<lambda>"))) h'.objs.size (FunO h'.objs.size ob)) { s with heap := h'.push ob, toks := tk } :=
      I1.laid (t' := tk) (fun b o e => Heap.get?_push_of_some _ e) (Nat.le_refl _) (funO_ok (Heap.get?_push_size _ (by rw [← hob]; rfl)))
    subst hob
    refine ⟨.ref h'.objs.size, _, I2, rfl, ?_⟩
    refine go h'.objs.size c _ ctv _ (ps ++ #[rawInt pos.line, rawInt pos.col, .ref c]) nf upd_same ?_ (.inl nc) ?_ ?_ ?_ (fun b h1 h2 h3 => by rw [upd_ne h1, upd_ne h2, upd_ne h3]) nfc nPf.symm nPc.symm
    · rw [upd_ne nfc.symm, upd_same]
    · rw [upd_ne nPf, upd_ne nPc, upd_same]
    · rw [eL]; exact PySem.TriplesOk_snoc _ _ _ _ tri
    · intro p' cv hcv
      rw [eL] at hcv
      exact LamX.among_app _ tri hcv
theorem we_lam {K : KX} {δ : Env} {S : Sto} {Q : Kq} {Pt : Addr} {q : Str} {ob : Value → Addr → Value → Obj} (hP : S Pt = some (.tab q)) (h : ∀ pm c ctv, Q (.lam (ob pm c ctv) c q) S) : WE K (tLamT Pt q ob) δ S Q := fun Hs H σ QQ R L k => by
  obtain ⟨nP, ho, gP, rep⟩ := R.ob Pt _ hP
  cases ho with
  | tbl ps =>
    obtain ⟨tri, known⟩ := rep
    refine ⟨ps, gP, tri, fun pos cv z => ?_, fun f c pm ctv H1 ps' nf gf gc hc gP' tri' codes same nfc nfP ncP => ?_⟩
    · obtain ⟨c, e, hc⟩ := known pos cv z
      exact ⟨c, e, R.ex _ _ hc⟩
    · have nfs : Hs f = none := fresh_of R.ex nf
      have hsc : Hs c = none ∨ Hs c = some (LamX.CodeO c q) := by
        cases e : Hs c with
        | none => exact .inl rfl
        | some u =>
          rcases hc with z | z
          · rw [fresh_of R.ex z] at e; cases e
          · exact .inr (by rw [← z, R.ex _ _ e])
      have e1 : Ex Hs (upd (upd Hs c (LamX.CodeO c q)) f (FunO f (ob pm c ctv))) := fun b u e => by
        have hb : b ≠ f := fun z => by rw [z, nfs] at e; cases e
        rw [upd_ne hb]
        by_cases hb2 : b = c
        · subst hb2
          rw [upd_same]
          rcases hsc with z | z
          · rw [z] at e; cases e
          · rw [z] at e; exact e
        · rw [upd_ne hb2]; exact e
      have R1 : Rep K.f (upd (upd Hs c (LamX.CodeO c q)) f (FunO f (ob pm c ctv))) H1 S := by
        refine ⟨fun b u e => ?_, fun p o hp => ?_⟩
        · by_cases hb : b = f
          · subst hb; rw [upd_same] at e; cases e; exact gf
          · rw [upd_ne hb] at e
            by_cases hb2 : b = c
            · subst hb2; rw [upd_same] at e; cases e; exact gc
            · rw [upd_ne hb2] at e
              have hb3 : b ≠ Pt := fun z => by rw [z, nP] at e; cases e
              rw [same b hb hb2 hb3]
              exact R.ex _ _ e
        · obtain ⟨np, hh, gp, rp⟩ := R.ob p o hp
          have p1 : p ≠ f := fun z => by rw [z, nf] at gp; cases gp
          have p2 : p ≠ c := fun z => by
            rw [z] at gp
            rcases hc with y | y
            · rw [y] at gp; cases gp
            · rw [y] at gp
              cases gp
              unfold LamX.CodeO at rp
              cases o <;> exact rp
          refine ⟨by rw [upd_ne p1, upd_ne p2]; exact np, ?_⟩
          by_cases p3 : p = Pt
          · subst p3
            rw [hP] at hp
            cases hp
            refine ⟨_, gP', tri', fun pos cv z => ?_⟩
            rcases codes pos cv z with y | y
            · obtain ⟨c0, e, hc0⟩ := known pos cv y
              exact ⟨c0, e, e1 _ _ hc0⟩
            · exact ⟨c, y, by rw [upd_ne nfc.symm, upd_same]⟩
          · exact ⟨hh, by rw [same p p1 p2 p3]; exact gp, RepO.mono e1 rp⟩
      exact k _ _ _ H1 S e1 R1 (.lam (by rw [upd_same]) (by rw [upd_ne nfc.symm, upd_same])) (h pm c ctv)
  | _ => exact rep.elim
end PL

set_option Elab.async false
set_option linter.all false
set_option maxRecDepth 100000
set_option maxHeartbeats 4000000
/-! PL16: try over plain data; what is asked of a caught exception. -/
namespace PL
open PySem L2 RZ
section
variable {K : KX} {δ : Env} {S : Sto} {E : AE}
/-- what the clauses do with an exception of class cls (z: its field's value) -/
def WH (K : KX) (w : Ends → WX) (δ : Env) (cls : Value) (z : Option D) (S : Sto) (E : AE) : Prop :=
  ∀ (Hs H : Hp) (σ : St) (d : Option Addr) (D : Ends), Rep K.f Hs H S → Slt K Hs σ δ → XRep K.f Hs d z → EndsR K Hs E D → w D cls d σ H
theorem wh_no {c : Value} {i : Nat} {ts : Addr → Value → Option Addr → TS} {w : Ends → WX} {cls : Value} {z : Option D} (h : PySem.W.exmOne K.f cls c = some false) (r : WH K w δ cls z S E) : WH K (wClause K.f c i ts w) δ cls z S E :=
  fun Hs H σ d D R L X k => ⟨false, h, (fun e => nomatch e), fun _ => r Hs H σ d D R L X k⟩
theorem wh_yes {c : Value} {i : Nat} {ts : Addr → Value → Option Addr → TS} {w : Ends → WX} {cls : Value} {z : Option D} (h : PySem.W.exmOne K.f cls c = some true)
    (hz : z = none) (r : ∀ a, S a = none → WS K (ts a cls none) (δ.set i (some (.ref a))) S { nx := fun δ' S' => E.nx (δ'.set i none) S', rt := E.rt, bk := fun δ' S' => E.bk (δ'.set i none) S', ct := fun δ' S' => E.ct (δ'.set i none) S' }) : WH K (wClause K.f c i ts w) δ cls z S E :=
  fun Hs H σ d D R L X k => ⟨true, h, fun _ a na => by
    subst hz
    obtain rfl : d = none := X
    refine r a (R.free na).2 Hs H (σ.set i (some (.ref a))) _ R (L.set i (.ref a)) ⟨fun Hs' H' σ' δ' S' e R' L' q => k.nx Hs' H' _ _ S' e R' ⟨L'.1.wipe1 i, L'.2⟩ q, fun v d Hs' H' S' e R' r q => k.rt v d Hs' H' S' e R' r q, fun Hs' H' σ' δ' S' e R' L' q => k.bk Hs' H' _ _ S' e R' ⟨L'.1.wipe1 i, L'.2⟩ q, fun Hs' H' σ' δ' S' e R' L' q => k.ct Hs' H' _ _ S' e R' ⟨L'.1.wipe1 i, L'.2⟩ q⟩, fun e => nomatch e⟩
variable {P : Program} {w0 : World} {mg : Str → Option Value} {base : Heap}
/-- try: f(..), f a name's value -/
def tTryV (P : Program) (w0 : World) (K : PySem.W.Frag) (mg : Str → Option Value) (base : Heap) (k i : Nat) (t : TA) (w : Ends → WX) : TS := fun D σ H => tDrop (tCallV P w0 K mg base k i t fun σ' cls d H' => w D cls d σ' H') D σ H
theorem ws_tryV {k i n : Nat} {c : D} {φ : PhX} {t : TA} {w : Ends → WX} (hc : δ[i]? = some (some c)) (hF : IsFn K.f c) (hD : Does P w0 K.f mg base k n c φ)
    (h : WA K t δ S fun ds S1 => ds.length = n ∧ φ ds S1 (fun _ S2 => E.nx δ S2) (fun cls z S2 => WH K w δ cls z S2 E)) : WS K (tTryV P w0 K.f mg base k i t w) δ S E := fun Hs H σ D R L kk => by
  obtain ⟨v, hv, r⟩ := L.at hc
  obtain ⟨a, rfl, hf⟩ := hF Hs H S v R r
  refine ⟨a, hv, hf, h Hs H σ _ R L fun vs ds Hs1 H1 S1 e1 R1 r1 ⟨hl, q⟩ => ?_⟩
  obtain ⟨a1, ea, hf1⟩ := hF Hs1 H1 S1 _ R1 (r.mono e1)
  cases ea
  obtain ⟨a2, ea, act⟩ := hD Hs1 H1 S1 _ vs ds _ (fun _ => D.nx σ) _ (fun cls d H' => w D cls d σ H') R1 (r.mono e1) r1 hl q
    (fun v' d' Hs' H' S' e R' _ q' => kk.nx Hs' H' σ δ S' (e1.trans e) R' (L.mono (e1.trans e)) q') fun cls d z Hs' H' S' e R' X wh => wh Hs' H' σ d D R' (L.mono (e1.trans e)) X (kk.mono (e1.trans e))
  cases ea
  exact ⟨hf1, act⟩
end
/-! ### isinstance(e, C), e caught -/
/-- a class as a value -/
def clsV : D → Option Value
  | .ref a => some (.ref a)
  | .ty n => some (.type n)
  | _ => none
def phIsX (K : PySem.W.Frag) (cls : Value) (d : Option Addr) (a : Addr) : PhA := fun ds S q => ∃ (Dd : Addr) (cd : D) (cv : Value) (b : Bool), cls = .ref Dd ∧ d = none ∧ ExcC K Dd ∧ ds = [.ref a, cd] ∧ clsV cd = some cv ∧ PySem.W.kitOne K (.ref Dd) cv = some b ∧ q (.bl b) S
theorem call_isX {X : Cx} {a : Addr} {cls : Value} {d : Option Addr} {oe : Obj} {pn : List (Addr × Obj)} (hz : L2N.Zn cls d oe) (hf : ∃ vs, oe.data = .fields vs) : CallR (X.suite a ((a, oe) :: pn)) (.builtin "isinstance") (rA X.K (phIsX X.K cls d a)) := by
  intro pins s σ H vs us Q I rv ⟨Hs, S, ds, q, R, hd, ⟨Dd, cd, cv, b, e1, e2, hx, e3, hcv, hk, h⟩, k⟩
  subst e1 e2 e3
  cases hd with
  | cons r1 r2 =>
    cases r2 with
    | cons r2 r3 =>
      cases r3
      cases r1
      refine call_isE hx hz.zc hf pins s σ H _ us Q I rv ⟨_, cv, b, rfl, fun u ru => ?_, hk, k _ _ Hs H S (Ex.refl _) R (.bl b) h⟩
      cases r2 <;> first
        | (cases hcv; exact ru)
        | cases hcv
theorem is_x {K : PySem.W.Frag} {S : Sto} {q : Kq} {a Dd : Addr} {cd : D} {cv : Value} {b : Bool} (hx : ExcC K Dd) (hc : clsV cd = some cv) (hk : PySem.W.kitOne K (.ref Dd) cv = some b) (h : q (.bl b) S) : phIsX K (.ref Dd) none a [.ref a, cd] S q := ⟨Dd, cd, cv, b, rfl, rfl, hx, rfl, hc, hk, h⟩
/-- a suite that is never run -/
theorem pss_never {X : Cx} {st : List Stmt} : PSs X st (fun _ _ _ => False) := ⟨fun _ _ _ _ _ _ h => h.elim⟩
theorem hot_suite {X : Cx} {a : Addr} {cls : Value} {d : Option Addr} {oe : Obj} {pn : List (Addr × Obj)} (hz : L2N.Zn cls d oe) (hf : ∃ vs, oe.data = .fields vs) : L2H.HotC (X.suite a ((a, oe) :: pn)) := by
  obtain ⟨vs, hv⟩ := hf
  exact ⟨(a, oe), ⟨rfl, vs, hv, hz.2.2 vs hv⟩, List.mem_cons_self ..⟩
/-- a list walked -/
theorem wi_ls {K : KX} {δ : Env} {S : Sto} {te : TE} {R : List D → Sto → Prop} (h : WE K te δ S fun d S1 => ∃ xs, d = .lst xs ∧ R xs S1) : WI K (iList K.f te) δ S R := fun Hs H σ RR R0 L k => h Hs H σ _ R0 L fun v d Hs1 H1 S1 e1 R1 r1 ⟨xs, hd, q⟩ => by
  subst hd
  cases r1 with
  | lst hq ha => exact ⟨_, rfl, ⟨_, .of (R1.ex _ _ hq)⟩, k _ _ Hs1 H1 S1 e1 R1 (dw_list (.of hq) ha) q⟩
/-- body: f(..), f a name; the clauses -/
theorem ps_tryV {X : Cx} {k i : Nat} {a : Str} {e : Expr} {es : List Expr} {t : TA} {w : Ends → WX} {p1 p2 p3 pos : Pos} {h₀ : ExceptHandler} {hds : List ExceptHandler} (hs : X.stack = X.env :: X.outer) (hf : X.env.frame = some X.env.locals) (hr : Room k X.A) (hN : X.N[i]? = some a) (hv : Vis X.env.scope a)
    (ha : ∀ (pn : List (Addr × Obj)) (xe : Value → Shared → Prop), PA (X.tr pn xe) (e :: es) t) (hh : Clauses X (h₀ :: hds) w)
    (hd : (a == ("__debug__" : Str)) = false := by decide) (hcd : (a == ("__classdict__" : Str)) = false := by decide)
    (he : starEach (e :: es) X.env = (false, eval e X.env) :: starEach es X.env := by rfl) (hpl : (backTo p2 (starEach es X.env)).any (·.1) = false := by rfl) (hsw : swapsWith (.Call (.Name a p1) (e :: es) [] p2) none p3.line X.env = pure false := by rfl) :
    PS X (.Try [.Expr (.Call (.Name a p1) (e :: es) [] p2) p3] (h₀ :: hds) [] [] pos) (tTryV X.prog X.w X.K X.mg X.base k i t w) :=
  ps_tryC (tb := fun W => tDrop (tCallV X.prog X.w X.K X.mg X.base k i t fun σ' cls d H' => W cls d σ' H')) hs hf (fun W pn xe tk _ => pss_one (ps_expr (pe_callV (X := X.tr pn xe) hr hN hv (fun σ => L2N.passAt tk σ) (ha pn xe) hd hcd he hpl) hsw)) hh
end PL

set_option Elab.async false
set_option linter.all false
set_option maxRecDepth 100000
set_option maxHeartbeats 4000000
/-! PL17: own classes that are raised without arguments. -/
namespace PL
open PySem L2 RZ
/-- a class over ValueError without own __init__ that the globals name -/
structure ClsT (K : PySem.W.Frag) (mg : Str → Option Value) (x : Str) (C : Addr) : Prop where
  g : mg x = some (.ref C)
  q : PySem.W.excIn K C [.type "ValueError", .type "Exception", .type "BaseException", .type "object"] "ValueError.__new__" = true
  kp : PySem.W.keepIn K (.ref C) = true
  sub : PySem.W.subIn K (.ref C) (.type "BaseException") = some true
  ty : PySem.W.typeIn K (.ref C) = some (.type "type")
theorem ps_raiseN {X : Cx} {x : Str} {C : Addr} {p pos pos' : Pos} {E : XK} (T : ClsT X.K X.mg x C) (hc : X.calm = true) (tk : L2N.Takes X fun cls d _ H => E cls d H) (hg : Gl X x) (hdb : (x == ("__debug__" : Str)) = false := by decide) :
    PS X (.Raise (some (.Call (.Name x p) [] [] pos)) none pos') (tRaise (.ref C) E) :=
  L2N.ps_raise hc tk (pmk_none PySem.F.excBase_ValueError T.q T.g T.kp (raises_own T.sub T.ty) hg hdb)
end PL

set_option Elab.async false
set_option linter.all false
set_option maxRecDepth 100000
set_option maxHeartbeats 4000000
/-! PL18: the words of PL11 to PL16 with the frame's data by name. -/
namespace PL
open PySem L2 RZ
section
variable {X : Cx} {P : Program} {w0 : World} {K : PySem.W.Frag} {mg : Str → Option Value} {base : Heap}
theorem clauses_asK {x n : Str} {c : Value} {i : Nat} {b₀ : Stmt} {suite : List Stmt} {np pos : Pos} {hds : List ExceptHandler} {ts : Addr → Value → Option Addr → TS} {w : Ends → WX} (hk : X.K = K)
    (hs : X.stack = X.env :: X.outer) (hf : X.env.frame = some X.env.locals) (hN : X.N.Nodup) (hi : X.N[i]? = some n) (hln : X.env.kindOf n = some .local) (hc : L2.Names X x c)
    (hsu : ∀ (a : Addr) (oe : Obj) (cls : Value) (d : Option Addr) (pn : List (Addr × Obj)), L2N.Zn cls d oe → (∃ vs, oe.data = .fields vs) → PSs (X.suite a ((a, oe) :: pn)) (b₀ :: suite) (ts a cls d))
    (rest : Clauses X hds w) : Clauses X (.ExceptHandler (some (.Name x np)) (some n) (b₀ :: suite) pos :: hds) (wClause K c i ts w) := by subst hk; exact clauses_as hs hf hN hi hln hc hsu rest
theorem ps_tryVK {k i : Nat} {a : Str} {e : Expr} {es : List Expr} {t : TA} {w : Ends → WX} {p1 p2 p3 pos : Pos} {h₀ : ExceptHandler} {hds : List ExceptHandler} (hP : X.prog = P) (hw : X.w = w0) (hk : X.K = K) (hm : X.mg = mg) (hb : X.base = base)
    (hs : X.stack = X.env :: X.outer) (hf : X.env.frame = some X.env.locals) (hr : Room k X.A) (hN : X.N[i]? = some a) (hv : Vis X.env.scope a)
    (ha : ∀ (pn : List (Addr × Obj)) (xe : Value → Shared → Prop), PA (X.tr pn xe) (e :: es) t) (hh : Clauses X (h₀ :: hds) w)
    (hd : (a == ("__debug__" : Str)) = false := by decide) (hcd : (a == ("__classdict__" : Str)) = false := by decide)
    (he : starEach (e :: es) X.env = (false, eval e X.env) :: starEach es X.env := by rfl) (hpl : (backTo p2 (starEach es X.env)).any (·.1) = false := by rfl) (hsw : swapsWith (.Call (.Name a p1) (e :: es) [] p2) none p3.line X.env = pure false := by rfl) :
    PS X (.Try [.Expr (.Call (.Name a p1) (e :: es) [] p2) p3] (h₀ :: hds) [] [] pos) (tTryV P w0 K mg base k i t w) := by subst hP hw hk hm hb; exact ps_tryV hs hf hr hN hv ha hh hd hcd he hpl hsw
theorem call_isXK {a : Addr} {cls : Value} {d : Option Addr} {oe : Obj} {pn : List (Addr × Obj)} (hk : X.K = K) (hz : L2N.Zn cls d oe) (hf : ∃ vs, oe.data = .fields vs) : CallR (X.suite a ((a, oe) :: pn)) (.builtin "isinstance") (rA K (phIsX K cls d a)) := by subst hk; exact call_isX hz hf
theorem pe_lcHotK {elt tg iter : Expr} {ifs : List Expr} {scope : Scope} {own : List (Str × Nat)} {pos : Pos} {tl : TE} {g : TG} {tt : TT} {te : TE} (hk : X.K = K) (hot : L2H.HotC X) (hN : X.N.Nodup) (hl : PE X iter tl) (ok : BlkOk X.N X.env.scope scope own)
    (hg : ∀ (s : Shared) (H : Hp) (C : Addr) (cl : List (Str × Addr)) (fp : List Addr), HotB (X.blk s H scope (compEnvC scope cl C X.env) fp) → PG (X.blk s H scope (compEnvC scope cl C X.env) fp) tg g)
    (ht : ∀ (s : Shared) (H : Hp) (C : Addr) (cl : List (Str × Addr)) (fp : List Addr), PTs (X.blk s H scope (compEnvC scope cl C X.env) fp) ifs tt)
    (he : ∀ (s : Shared) (H : Hp) (C : Addr) (cl : List (Str × Addr)) (fp : List Addr), PE (X.blk s H scope (compEnvC scope cl C X.env) fp) elt te) (hs : ∀ x, foldedSetIterable iter X.env x = pure x := by intro _; rfl) :
    PE X (.ListComp elt [⟨tg, iter, ifs, 0⟩] scope pos) (tLc (iList K tl) g tt te (own.map (·.2))) := by subst hk; exact pe_lcHot hot hN hl ok hg ht he hs
theorem pg_tupHK (K : PySem.W.Frag) {es : List Expr} {k : Nat} {t : TGs} {n : Nat} {pos : Pos} (hk : X.K = K) (hot : HotB X) (h : PGs X es t)
    (hn : (assignEach es X.env).length = n := by rfl) (hst : (assignEach es X.env).findIdx? (·.1) = none := by rfl) : PG X (.Tuple es k pos) (gTup K n t) := by subst hk; exact pg_tupH hot h hn hst
theorem takesNo : L2N.Takes X fun _ _ _ _ => False := fun _ _ ⟨_, _, _, _, _, _, _, _, _, _, _, _, _, _, _, _, w⟩ => w.elim
end
/-- what a class answers where it is caught: asked by isinstance, by clauses -/
structure Caught (K : PySem.W.Frag) (C : Addr) (asks : List (D × Bool)) (cls : List (Value × Bool)) : Prop where
  ex : ExcC K C
  is : ∀ p ∈ asks, ∃ cv, clsV p.1 = some cv ∧ PySem.W.kitOne K (.ref C) cv = some p.2
  cl : ∀ p ∈ cls, PySem.W.exmOne K (.ref C) p.1 = some p.2
/-- calls of a name in a try: what comes of it -/
def phRefused (P : Program) (w0 : World) (K : PySem.W.Frag) (mg : Str → Option Value) (base : Heap) (k : Nat) (nm : List (Addr × Str)) : PhA := fun ds S q => ∃ (c x y z : D) (φ : PhX), ds = [c, x, y, z] ∧ IsFn K c ∧ Does P w0 K mg base k 3 c φ ∧
  ∀ (q' : Kq) (x' : Xq), (∀ d S', q (.lst []) S' → q' d S') → (∀ cls zz S', (zz = none ∧ ∃ C n, cls = .ref C ∧ (C, n) ∈ nm ∧ q (.lst [.str n, .bl true]) S') → x' cls zz S') → φ [x, y, z] S q' x'
theorem is_xc {K : PySem.W.Frag} {S : Sto} {q : Kq} {a C : Addr} {cd : D} {b : Bool} {asks : List (D × Bool)} {cls : List (Value × Bool)} (h : Caught K C asks cls) (hm : (cd, b) ∈ asks) (k : q (.bl b) S) : phIsX K (.ref C) none a [.ref a, cd] S q := by
  obtain ⟨cv, h1, h2⟩ := h.is _ hm
  exact is_x h.ex h1 h2 k
def encB (p : Str × Bool) : D := .tup [.str p.1, .bl p.2]
end PL

set_option Elab.async false
set_option linter.all false
set_option maxRecDepth 100000
set_option maxHeartbeats 4000000
/-! PL19: defs that make lambdas. -/
namespace PL
open PySem L2 RZ
section
variable {P : Program} {w : World} {K : PySem.W.Frag} {mg : Str → Option Value} {base : Heap}
/-- okF, the def's code object known -/
theorem okFM {x qual : Str} {st : Stmt} {f Cd : Addr} {fd : FuncData} {N ps : List Str} {k : Nat} {φ : PhA} (F : Fun K x qual st f fd) (hcd : fd.code = .ref Cd) (Sc : FnScope N ps (defScope st))
    (hbody : ∀ (A : Around) (outer : List PySem.Env) (s : Shared) (H : Hp) (E : XK), Room k (A.deeper (PyProof.Rows.envOfC qual (defScope st) s.heap.objs.size f (.ref Cd))) →
      ∃ t, PSs (cxOf CX0 P w K mg base N qual (defScope st) f (.ref Cd) A outer s H E).nox (defBody st) t ∧
        ∀ ds S q, ds.length = ps.length → φ ds S q → WS ⟨K, fun _ => none⟩ t (startE N ds) S { nx := fun _ S' => q .non S', rt := q }) : FnOk P w K mg base CX0 (k + 1) f fd ps (spF K ps.length φ) := by
  obtain ⟨oc, od, kV, doc, pm, an, cdv, ct, osl, rfl, lk, hq⟩ := F.ex
  have hcd' : cdv = .ref Cd := hcd
  subst hcd'
  refine fn_of lk hq Sc (fun vs H Q E h => h.1) fun A outer s H vs Q E hr h => ?_
  obtain ⟨hl, Hs, S, ds, q, R, r, hφ, k0⟩ := h
  obtain ⟨t, ht, hw⟩ := hbody A outer s H E hr
  exact ⟨t, ht.nox, hw ds S q (by rw [← r.len]; exact hl) hφ Hs H (L2.start N vs) _ R (slt_start (K := ⟨K, fun _ => none⟩) (fun _ _ z => nomatch z) r) ⟨fun Hs' H' σ' δ' S' e R' L' z => k0 _ _ Hs' H' S' e R' .non z, fun v d Hs' H' S' e R' r z => k0 v d Hs' H' S' e R' r z, fun _ _ _ _ _ _ _ _ z => z.elim, fun _ _ _ _ _ _ _ _ z => z.elim⟩⟩
end
theorem pe_lamK {X : Cx} {Cd Pt : Addr} {q : Str} {params : Arguments} {body : Expr} {scope : Scope} {pos : Pos} (TB : LamX.TabB X.base X.mg Cd Pt) (hcode : X.env.code = .ref Cd) (hdef : defaultsOf params X.env = ([], [])) (hfree : ∀ y ∈ scope.names, y.2 ≠ .free)
    (hq : X.env.qual ++ "<lambda>" = q) (hcl : cloFrom X.env.cells scope.names [] = []) : PE X (.Lambda params body scope pos) (tLamT Pt q fun pm c ctv => PySem.W.kla_obj "<lambda>" q params body scope [] pm c ctv) := by
  have h := pe_lam (pos := pos) (body := body) TB hcode hdef hfree
  rw [hq, hcl] at h
  exact h
end PL

set_option Elab.async false
set_option linter.all false
set_option maxRecDepth 100000
set_option maxHeartbeats 4000000
/-! PL20: calls by a name in lambdas, class facts by one answer, the law's end with tables. -/
namespace PL
open PySem L2 RZ
section
variable {X : Cx} {P : Program} {w : World} {K : PySem.W.Frag} {mg : Str → Option Value} {base : Heap}
theorem pe_callVK (hP : X.prog = P) (hw : X.w = w) (hk : X.K = K) (hm : X.mg = mg) (hb : X.base = base) {k i : Nat} {a : Str} {e : Expr} {es : List Expr} {t : TA} {E : St → XK} {p1 p2 : Pos} (hr : Room k X.A) (hN : X.N[i]? = some a) (hv : Vis X.env.scope a) (hx : ∀ σ, PassesAt (L2N.CX X.prog X.w) X σ (E σ)) (ha : PA X (e :: es) t)
    (hd : (a == ("__debug__" : Str)) = false := by decide) (hcd : (a == ("__classdict__" : Str)) = false := by decide)
    (he : starEach (e :: es) X.env = (false, eval e X.env) :: starEach es X.env := by rfl) (hpl : (backTo p2 (starEach es X.env)).any (·.1) = false := by rfl) :
    PE X (.Call (.Name a p1) (e :: es) [] p2) (tCallV P w K mg base k i t E) := by subst hP hw hk hm hb; exact pe_callV hr hN hv hx ha hd hcd he hpl
end
/-- isinstance(e, C) of an exception of class C0, for many classes -/
def asksB (K : PySem.W.Frag) (C : Addr) (asks : List (D × Bool)) : Bool := asks.all fun p => match clsV p.1 with
  | some cv => (match PySem.W.kitOne K (.ref C) cv with | some b => b == p.2 | none => false)
  | none => false
theorem asks_of {K : PySem.W.Frag} {C : Addr} {asks : List (D × Bool)} (h : asksB K C asks = true) : ∀ p ∈ asks, ∃ cv, clsV p.1 = some cv ∧ PySem.W.kitOne K (.ref C) cv = some p.2 := by
  intro p hp
  have h1 := List.all_eq_true.mp h p hp
  cases e : clsV p.1 with
  | none => rw [e] at h1; cases h1
  | some cv =>
    rw [e] at h1
    dsimp only at h1
    cases e2 : PySem.W.kitOne K (.ref C) cv with
    | none => rw [e2] at h1; cases h1
    | some b => rw [e2] at h1; exact ⟨cv, rfl, by rw [e2]; exact congrArg some (beq_iff_eq.mp h1)⟩
def clsB (K : PySem.W.Frag) (C : Addr) (cls : List (Value × Bool)) : Bool := cls.all fun p => match PySem.W.exmOne K (.ref C) p.1 with | some b => b == p.2 | none => false
theorem cls_of {K : PySem.W.Frag} {C : Addr} {cls : List (Value × Bool)} (h : clsB K C cls = true) : ∀ p ∈ cls, PySem.W.exmOne K (.ref C) p.1 = some p.2 := by
  intro p hp
  have h1 := List.all_eq_true.mp h p hp
  cases e2 : PySem.W.exmOne K (.ref C) p.1 with
  | none => rw [e2] at h1; cases h1
  | some b => rw [e2] at h1; exact congrArg some (beq_iff_eq.mp h1)
/-- the store at the law's entry -/
def tabsS (tabs : List (Addr × Str)) : Sto := fun b => (tabs.find? fun p => p.1 == b).map fun p => O.tab p.2
theorem tabsS_at : ∀ {tabs : List (Addr × Str)}, (tabs.map (·.1)).Nodup → ∀ p ∈ tabs, tabsS tabs p.1 = some (.tab p.2)
  | [], _, p, hp => absurd hp (by simp)
  | t :: ts, hn, p, hp => by
    rw [List.map_cons, List.nodup_cons] at hn
    unfold tabsS
    rcases List.mem_cons.mp hp with e | e
    · subst e
      rw [List.find?_cons_of_pos (by simp)]
      rfl
    · rw [List.find?_cons_of_neg (by
        intro z
        exact hn.1 (by rw [beq_iff_eq.mp z]; exact List.mem_map.mpr ⟨p, e, rfl⟩))]
      exact tabsS_at hn.2 p e
theorem tabsS_in {tabs : List (Addr × Str)} {b : Addr} {o : O} (h : tabsS tabs b = some o) : ∃ p ∈ tabs, p.1 = b ∧ o = .tab p.2 := by
  unfold tabsS at h
  cases e : tabs.find? fun p => p.1 == b with
  | none => rw [e] at h; cases h
  | some p =>
    rw [e] at h
    cases h
    exact ⟨p, List.mem_of_find?_eq_some e, beq_iff_eq.mp (List.find?_some (p := fun p : Addr × Str => p.1 == b) e), rfl⟩
/-- what is shared at the law's entry: all but the tables -/
def hideT (H : Hp) (tabs : List (Addr × Str)) : Hp := fun b => match tabsS tabs b with
  | some _ => none
  | none => H b
theorem rep_tabs {K : PySem.W.Frag} {H : Hp} {tabs : List (Addr × Str)} (hT : ∀ p ∈ tabs, H p.1 = some (.tbl #[])) : Rep K (hideT H tabs) H (tabsS tabs) := by
  refine ⟨fun a o e => ?_, fun p o e => ?_⟩
  · unfold hideT at e
    split at e
    · cases e
    · exact e
  · obtain ⟨t, ht, rfl, rfl⟩ := tabsS_in e
    refine ⟨?_, _, hT t ht, trivial, fun pos cv z => ?_⟩
    · unfold hideT
      rw [e]
    · have z' : codeAmong pos [] = some cv := z
      simp [codeAmong] at z'
theorem sqL_tabs {K : PySem.W.Frag} {H : Hp} {tabs : List (Addr × Str)} {a : Addr} {xs : List V} (hT : ∀ p ∈ tabs, H p.1 = some (.tbl #[])) (h : SqL K H a xs) : SqL K (hideT H tabs) a xs := by
  have key : ∀ u, H a = some u → u ≠ .tbl #[] → hideT H tabs a = some u := fun u e n => by
    unfold hideT
    cases e2 : tabsS tabs a with
    | none => exact e
    | some o =>
      obtain ⟨t, ht, rfl, rfl⟩ := tabsS_in e2
      rw [hT t ht] at e
      exact absurd (Option.some.inj e).symm n
  rcases h with h | h
  · rcases h with h | ⟨o, h⟩
    · exact .inl (.inl (key _ h (fun z => nomatch z)))
    · exact .inl (.inr ⟨o, key _ h (fun z => nomatch z)⟩)
  · exact .inr h
end PL

set_option Elab.async false
set_option linter.all false
set_option maxRecDepth 100000
set_option maxHeartbeats 4000000
/-! PL21: a tuple many times over. -/
namespace PL
open PySem L2 RZ
def phMulT : Ph2 := fun x y S q => ∃ xs k, x = .tup xs ∧ y = .int k ∧ xs ≠ [] ∧ 2 ≤ k ∧ k ≤ 1000 ∧ xs.length ≤ 1000 ∧ q (.key (List.replicate k.toNat xs).flatten) S
theorem opMulT {X : Cx} : OpR X (binaryOp .Mult) (r2 X.K phMulT) := by
  intro pins s σ H vx vy v u Q I rx ry ⟨Hs, S, x, y, q, R, hx, hy, ⟨xs, k, e1, e2, h0, h1, h2, h3, h⟩, kk⟩
  subst e1 e2
  cases hy
  cases hx with
  | tup ht ha =>
    rename_i ad vs
    refine op_repT pins s σ H _ _ v u Q I rx ry ⟨_, k, _, rfl, rfl, (R.ex.tc ht).sq, fun e => h0 (ha.nil_iff.mp e), h1, h2, by rw [ha.len]; exact h3, fun p hp => ?_⟩
    have e2 : Ex Hs (upd Hs p (.tup (List.replicate k.toNat vs).flatten)) := Ex.new (R.free hp).1
    exact kk _ _ _ _ S e2 (R.newS hp _) (.key upd_same ((ha.rep k.toNat).mono e2)) h
end PL

set_option Elab.async false
set_option linter.all false
set_option maxRecDepth 100000
set_option maxHeartbeats 4000000
/-! PL22: zip of a tuple and a list, walked. -/
namespace PL
open PySem PySem.Spec PyProof.Rows RZ
open L2 (Inv Cx TE TA TI V HO Hp VK It SqT SqL Turn FpOk ObjOk RelV Vals PA PI upd upd_same upd_ne thn ld_blt Gl)
/-- the tuple at a, the list at b, item by item -/
def ItzM (K : PySem.W.Frag) (a b : Addr) : It where
  go i H := ∃ (xs ys : List V) (x y : V), (SqT K H a xs ∧ SqL K H b ys) ∧ (xs[i]? = some x ∧ ys[i]? = some y)
  yld i H v H' := ∃ T x y, (v = .ref T ∧ H T = none ∧ H' = upd H T (.tup [x, y])) ∧ (∀ xs, SqT K H a xs → xs[i]? = some x) ∧ (∀ ys, SqL K H b ys → ys[i]? = some y)
  stop i H := ∃ (xs ys : List V), (SqT K H a xs ∧ SqL K H b ys) ∧ (i ≤ xs.length ∧ i ≤ ys.length) ∧ (xs.length ≤ i ∨ ys.length ≤ i)
structure TnM (z TI TO i1 i2 a b : Addr) (i : Nat) (h : Heap) : Prop where
  z : IsZip h z TI TO .none
  ti : IsPair h TI (.ref i1) (.ref i2)
  to : ∃ x y, IsPair h TO x y
  l : h.IsTupleIter i1 a i
  r : h.IsListIter i2 b i
section
variable {P : Program} {w : World} {K : PySem.W.Frag} {elts : List Expr} {kk : Nat} {tpos : Pos} {a b z TI TO i1 i2 : Addr}
theorem five {c : Addr} (h : c ∈ [z, TI, TO, i1, i2]) : c = z ∨ c = TI ∨ c = TO ∨ c = i1 ∨ c = i2 := by simpa using h
theorem turn_zipM (S : ZipSep2 z TI TO i1 i2 [i1, a] [i2, b]) (na : a ≠ i1) (nb : b ≠ i2) : Turn P w K (.Tuple elts kk tpos) (ItzM K a b) [z, TI, TO, i1, i2] z (TnM z TI TO i1 i2 a b) := by
  refine ⟨List.Mem.head _, fun i h st c hc => ?_, fun i h h' st k => ?_, ?_, ?_, fun A i s Q E st h => wpAny_pyIter_zip st.z h⟩
  · obtain ⟨x, y, to⟩ := st.to
    obtain ⟨o1, e1, _, d1⟩ := st.l
    obtain ⟨o2, e2, _, d2⟩ := st.r
    rcases five hc with rfl | rfl | rfl | rfl | rfl
    · exact ⟨_, st.z, fun v e => nomatch e⟩
    · exact ⟨_, st.ti, fun v e => nomatch e⟩
    · exact ⟨_, to, fun v e => nomatch e⟩
    · exact ⟨o1, e1, fun v e => by rw [d1] at e; cases e⟩
    · exact ⟨o2, e2, fun v e => by rw [d2] at e; cases e⟩
  · obtain ⟨x, y, to⟩ := st.to
    exact ⟨k z (by simp) _ st.z, k TI (by simp) _ st.ti, ⟨x, y, k TO (by simp) _ to⟩, st.l.at fun o e => k i1 (by simp) o e, st.r.at fun o e => k i2 (by simp) o e⟩
  · intro X hP hw hK hc i pins s σ H E I hf st hg
    subst hP hw hK
    obtain ⟨xs, ys, x, y, ⟨qx, qy⟩, hx, hy⟩ := hg
    obtain ⟨its, rv, p1, _⟩ := I.tuple qx
    obtain ⟨jts, rw', p2, _⟩ := I.list qy
    obtain ⟨u, hu, ru⟩ := rv.get hx
    obtain ⟨t, ht, rt⟩ := rw'.get hy
    obtain ⟨x0, y0, to⟩ := st.to
    have hd : X.A.in1.handled = none := I.ok.hd hc
    have D1 := Draws.tuple (prog := X.prog) (w := X.w) hd i1 a na its.toArray
    have D2 := Draws.list (prog := X.prog) (w := X.w) hd i2 b nb jts.toArray
    have l1 : i < its.toArray.size := by rw [List.size_toArray]; exact (List.getElem?_eq_some_iff.mp hu).1
    have l2 : i < jts.toArray.size := by rw [List.size_toArray]; exact (List.getElem?_eq_some_iff.mp ht).1
    have zl := Heap.lt_size st.z
    refine wpAny_pyNext_zipD2_item S D1 D2 st.z st.ti to ⟨st.l, p1⟩ ⟨st.r, p2.isList⟩ l1 l2 fun v1 v2 h' tk e1 e2 z' to' s1 s2 hT hsz hk => ?_
    have ev1 : v1 = u := by
      have : its.toArray[i]? = some u := by simpa using hu
      rw [this] at e1; exact (Option.some.inj e1).symm
    have ev2 : v2 = t := by
      have : jts.toArray[i]? = some t := by simpa using ht
      rw [this] at e2; exact (Option.some.inj e2).symm
    subst ev1 ev2
    refine ⟨_, rfl, wpAny_letOwnedTupleGo_zip (s := { s with heap := h', toks := tk }) z' fun h2 z2 sb => ?_⟩
    have keep : ∀ c o, c ∉ [z, TI, TO, i1, i2] → s.heap.get? c = some o → h2.get? c = some o := fun c o hc e => by
      have ne : ∀ d ∈ [z, TI, TO, i1, i2], c ≠ d := fun d hd e => hc (by rw [e]; exact hd)
      exact (sb.2 c (ne z (by simp))).trans (hk c o (ne z (by simp)) (ne TO (by simp)) (ne i1 (by simp)) (ne i2 (by simp)) e)
    have hT2 := (sb.2 _ (Nat.ne_of_gt zl)).trans hT
    have new : ObjOk X.prog X.w (upd H s.heap.objs.size (.tup [x, y])) h2 s.heap.objs.size (.tup [x, y]) :=
      ⟨by show 2 ≤ sizeLine; decide, [v1, v2], .cons ru (.cons rt .nil), ⟨_, hT2, rfl, _, rfl⟩⟩
    have I1 := I.turnedNew (t' := tk) (ch := [z, TI, TO, i1, i2]) (fun c o hc e => keep c o hc e) hf (Nat.le_refl _) new
    refine ⟨.ref s.heap.objs.size, _, I1, rfl, ⟨_, x, y, ⟨rfl, I.hok.fresh (Nat.le_refl _), rfl⟩, fun l hl => by rw [I.tuple_inj hl qx]; exact hx, fun l hl => by rw [I.list_inj hl qy]; exact hy⟩, ⟨z2, ?_, ⟨v1, v2, (sb.2 _ S.TOz).trans to'⟩, s1.1.at fun o e => (sb.2 _ S.zi1.symm).trans e, s2.1.at fun o e => (sb.2 _ S.zi2.symm).trans e⟩, fun c hc => ?_⟩
    · exact (sb.2 _ S.TIz).trans (hk _ _ S.TIz S.TITO S.TIi1 S.TIi2 st.ti)
    · have lt : c < s.heap.objs.size := by
        obtain ⟨o1, g1, _⟩ := st.l
        obtain ⟨o2, g2, _⟩ := st.r
        rcases five hc with rfl | rfl | rfl | rfl | rfl
        · exact zl
        · exact Heap.lt_size st.ti
        · exact Heap.lt_size to
        · exact Heap.lt_size g1
        · exact Heap.lt_size g2
      rw [upd_ne (Nat.ne_of_lt lt)]
      exact (hf c hc).1
  · intro X hP hw hK hc i pins s σ H E I hf st hg
    subst hP hw hK
    obtain ⟨xs, ys, ⟨qx, qy⟩, ⟨m1, m2⟩, hend⟩ := hg
    obtain ⟨its, rv, p1, _⟩ := I.tuple qx
    obtain ⟨jts, rw', p2, _⟩ := I.list qy
    have n1 := rv.length
    have n2 := rw'.length
    obtain ⟨x0, y0, to⟩ := st.to
    have hd : X.A.in1.handled = none := I.ok.hd hc
    have D1 := Draws.tuple (prog := X.prog) (w := X.w) hd i1 a na its.toArray
    have D2 := Draws.list (prog := X.prog) (w := X.w) hd i2 b nb jts.toArray
    refine wpAny_pyNext_zipD2_end S D1 D2 st.z st.ti to ⟨st.l, p1⟩ ⟨st.r, p2.isList⟩ (by rw [List.size_toArray]; omega) (by rw [List.size_toArray]; omega) (by rw [List.size_toArray, List.size_toArray]; omega) fun h' tk hk => ⟨rfl, ?_⟩
    exact I.turnedL (t' := tk) (ch := [z, TI, TO, i1, i2]) (fun c o hc e => hk c o (fun e => hc (by rw [e]; simp)) (fun e => hc (by rw [e]; simp)) (fun e => hc (by rw [e]; simp)) (fun e => hc (by rw [e]; simp)) e) hf
end
end PL

set_option Elab.async false
set_option linter.all false
set_option maxRecDepth 100000
set_option maxHeartbeats 4000000
/-! PL23: zip(tuple, list) as a walk. -/
namespace PL
open PySem PySem.Spec PyProof.Rows PySem.W RZ
open L2 (Inv Cx TE TA TI V HO Hp VK It SqT SqL Turn FpOk ObjOk RelV Vals PA PI upd upd_same upd_ne thn ld_blt Gl Walk YPair)
def iZipM (K : PySem.W.Frag) (ta : TA) : TI := fun σ H R => ta σ H fun vs H1 => ∃ a b xs ys, vs = [.ref a, .ref b] ∧ (SqT K H1 a xs ∧ SqL K H1 b ys) ∧ R (ItzM K a b) H1
theorem pi_zipM {X : Cx} {e e2 : Expr} {ta : TA} {p pos tpos : Pos} {elts : List Expr} {kk : Nat} (hg : Gl X "zip") (hm : X.mg "zip" = none) (ha : PA X [e, e2] ta)
    (hs : starEach [e, e2] X.env = (false, eval e X.env) :: starEach [e2] X.env := by rfl) (hpl : (backTo pos (starEach [e2] X.env)).any (·.1) = false := by rfl) : PI X (.Tuple elts kk tpos) (.Call (.Name "zip" p) [e, e2] [] pos) (iZipM X.K ta) := by
  refine ⟨fun pins s σ H R I h => Call_ (ld_blt I hg hm boot_zip (callWith_type1 (thn (ha.run pos pins s σ H _ I h) fun us s1 got => ?_) hs hpl))⟩
  obtain ⟨vs, H1, I1, r1, a, b, xs, ys, rfl, ⟨qx, qy⟩, q⟩ := got
  obtain ⟨v, v2, rfl, ra, rb⟩ := L2.vals2 r1
  obtain rfl : v = Value.ref a := ra
  obtain rfl : v2 = Value.ref b := rb
  obtain ⟨its, rv, p1, _⟩ := I1.tuple qx
  obtain ⟨jts, rw', p2, _⟩ := I1.list qy
  have la : a < s1.heap.objs.size := by obtain ⟨_, e, _⟩ := id p1; exact Heap.lt_size e
  have lb : b < s1.heap.objs.size := p2.lt
  refine zip_begins2 (begins_tuple a its.toArray) (begins_list b jts.toArray) p1 p2.isList fun h' hz hTI hTO g1 g2 sz k => wpAny_pyIter_zip hz ?_
  have S : ZipSep2 (s1.heap.objs.size + 4) (s1.heap.objs.size + 2) (s1.heap.objs.size + 3) s1.heap.objs.size (s1.heap.objs.size + 1) [s1.heap.objs.size, a] [s1.heap.objs.size + 1, b] :=
    zip_sep2 (fp1 := [a]) (fp2 := [b]) (fun c hc => by rw [List.mem_singleton.mp hc]; exact la) fun c hc => by rw [List.mem_singleton.mp hc]; exact lb
  refine ⟨s1.heap.objs.size + 4, [s1.heap.objs.size + 4, s1.heap.objs.size + 2, s1.heap.objs.size + 3, s1.heap.objs.size, s1.heap.objs.size + 1], _, _, H1, rfl, I1.kept (t' := s1.toks) k, turn_zipM S (Nat.ne_of_lt la) (Nat.ne_of_lt (Nat.lt_succ_of_lt lb)), ⟨hz, hTI, ⟨_, _, hTO⟩, ⟨_, g1, rfl, rfl⟩, ⟨_, g2, rfl, rfl⟩⟩, fun c hc => ?_, q⟩
  have up : s1.heap.objs.size ≤ c := by
    rcases five hc with rfl | rfl | rfl | rfl | rfl <;> omega
  exact I1.fpOk up (I1.hok.fresh up)
theorem pi_zipMK {X : Cx} (K : PySem.W.Frag) (hk : X.K = K) {e e2 : Expr} {ta : TA} {p pos tpos : Pos} {elts : List Expr} {kk : Nat} (hg : Gl X "zip") (hm : X.mg "zip" = none) (ha : PA X [e, e2] ta)
    (hs : starEach [e, e2] X.env = (false, eval e X.env) :: starEach [e2] X.env := by rfl) (hpl : (backTo pos (starEach [e2] X.env)).any (·.1) = false := by rfl) : PI X (.Tuple elts kk tpos) (.Call (.Name "zip" p) [e, e2] [] pos) (iZipM K ta) := by subst hk; exact pi_zipM hg hm ha hs hpl
section
variable {K : PySem.W.Frag} {a b : Addr}
theorem walk_zipM {xs ys : List V} {n : Nat} (hn : n = min xs.length ys.length) : Walk (ItzM K a b) n (fun H => SqT K H a xs ∧ SqL K H b ys) (YPair (fun i => xs[i]?) fun i => ys[i]?) := by
  refine ⟨fun i _ hi q => ?_, fun _ q => ⟨xs, ys, q, ⟨by omega, by omega⟩, by omega⟩, fun i H v H' _ q y => ?_⟩
  · have h1 : i < xs.length := by omega
    have h2 : i < ys.length := by omega
    exact ⟨xs, ys, xs[i], ys[i], q, List.getElem?_eq_getElem h1, List.getElem?_eq_getElem h2⟩
  · obtain ⟨T, x, z, ⟨h1, h2, h3⟩, h4, h5⟩ := y
    exact ⟨T, x, z, h1, h2, h3, h4 xs q.1, h5 ys q.2⟩
theorem dw_zipM {Hs : Hp} {vs ws : List V} {ds es : List D} (h : SqT K Hs a vs) (r : DatA K Hs vs ds) (h' : SqL K Hs b ws) (r' : DatA K Hs ws es) : DWalk K Hs (ItzM K a b) (zipD ds es) := by
  refine dw_pair (walk_zipM (xs := vs) (ys := ws) rfl) (fun H e => ⟨e.sqT h, e.sqL h'⟩) (by unfold zipD; rw [List.length_map, List.length_zip, r.len, r'.len]) fun i hi => ?_
  have h1 : i < vs.length := by omega
  have h2 : i < ws.length := by omega
  obtain ⟨d, hd, q⟩ := r.at (List.getElem?_eq_getElem h1)
  obtain ⟨e, he, q'⟩ := r'.at (List.getElem?_eq_getElem h2)
  have ez : (ds.zip es)[i]? = some (d, e) := List.getElem?_zip_eq_some.mpr ⟨hd, he⟩
  refine ⟨d, e, by unfold zipD; rw [List.getElem?_map, ez]; rfl, fun x hx => ?_, fun x hx => ?_⟩
  · rw [List.getElem?_eq_getElem h1] at hx
    exact (Option.some.inj hx) ▸ q
  · rw [List.getElem?_eq_getElem h2] at hx
    exact (Option.some.inj hx) ▸ q'
end
theorem wi_zipM {K : KX} {δ : Env} {S : Sto} {t : TA} {R : List D → Sto → Prop} (h : WA K t δ S fun ds S1 => ∃ xs ys, ds = [.tup xs, .lst ys] ∧ R (zipD xs ys) S1) : WI K (iZipM K.f t) δ S R := fun Hs H σ RR R0 L k => h Hs H σ _ R0 L fun vs ds Hs1 H1 S1 e1 R1 r1 ⟨xs, ys, hd, q⟩ => by
  subst hd
  cases r1 with
  | cons ra r2 =>
    cases r2 with
    | cons rb r3 =>
      cases r3
      cases ra with
      | tup hq ha =>
        cases rb with
        | lst hq' ha' => exact ⟨_, _, _, _, rfl, ⟨(R1.ex.tc hq).sq, .of (R1.ex _ _ hq')⟩, k _ _ Hs1 H1 S1 e1 R1 (dw_zipM hq.sq ha (.of hq') ha') q⟩
end PL

set_option Elab.async false
set_option linter.all false
set_option maxRecDepth 100000
/-! PM1: what the small defs do, in plain Lean. -/
namespace Paid
open PySem L2 PL
/-! ### comparing -/
theorem eq_int {S : Sto} {q : Kq} {i j : Int} (h : q (.bl (decide (i = j))) S) : phEq (.int i) (.int j) S q := ⟨_, _, rfl, rfl, rfl, rfl, by
  have e : PyData.eqv (.int i) (.int j) = decide (i = j) := by simp [PyData.eqv]; rfl
  rw [e]; exact h⟩
theorem ne_int {S : Sto} {q : Kq} {i j : Int} (h : q (.bl (!decide (i = j))) S) : phNe (.int i) (.int j) S q := ⟨_, _, rfl, rfl, rfl, rfl, by
  have e : PyData.eqv (.int i) (.int j) = decide (i = j) := by simp [PyData.eqv]; rfl
  rw [e]; exact h⟩
theorem eqv_str (x y : Str) : PyData.eqv (.str x) (.str y) = decide (x = y) := by simp [PyData.eqv]; rfl
def okS (x : Str) : Prop := PyData.strOk x = true
theorem sh_str {x : Str} (h : okS x) : SeqAt.shaped (.str x) = true := by
  unfold okS at h
  simp [SeqAt.shaped, PyData.canLay0, PyData.depth, h]
theorem eq_str {S : Sto} {q : Kq} {i j : Str} (hi : okS i) (hj : okS j) (h : q (.bl (decide (i = j))) S) : phEq (.str i) (.str j) S q := ⟨_, _, rfl, rfl, sh_str hi, sh_str hj, by
  rw [eqv_str]; exact h⟩
theorem ne_str {S : Sto} {q : Kq} {i j : Str} (hi : okS i) (hj : okS j) (h : q (.bl (!decide (i = j))) S) : phNe (.str i) (.str j) S q := ⟨_, _, rfl, rfl, sh_str hi, sh_str hj, by
  rw [eqv_str]; exact h⟩
theorem pys_strs : ∀ xs : List Str, D.pys (xs.map D.str) = some (xs.map PyData.str)
  | [] => rfl
  | x :: xs => by show (match D.py (.str x), D.pys (xs.map D.str) with | some y, some ys => some (y :: ys) | _, _ => none) = _; rw [pys_strs xs]; rfl
theorem pys_ints : ∀ xs : List Int, D.pys (xs.map D.int) = some (xs.map PyData.int)
  | [] => rfl
  | x :: xs => by show (match D.py (.int x), D.pys (xs.map D.int) with | some y, some ys => some (y :: ys) | _, _ => none) = _; rw [pys_ints xs]; rfl
theorem lay_strs : ∀ xs : List Str, (∀ x ∈ xs, okS x) → PyData.canLayAll0 (xs.map PyData.str) = true ∧ PyData.depthAll (xs.map PyData.str) = 0
  | [], _ => by simp [PyData.canLayAll0, PyData.depthAll]
  | x :: xs, h => by
    have h1 := h x (List.mem_cons_self ..)
    have ih := lay_strs xs fun y hy => h y (List.mem_cons_of_mem _ hy)
    unfold okS at h1
    simp [PyData.canLayAll0, PyData.depthAll, PyData.canLay0, PyData.depth, ih.1, ih.2, h1]
theorem lay_ints : ∀ xs : List Int, PyData.canLayAll0 (xs.map PyData.int) = true ∧ PyData.depthAll (xs.map PyData.int) = 0
  | [] => by simp [PyData.canLayAll0, PyData.depthAll]
  | x :: xs => by simp [PyData.canLayAll0, PyData.depthAll, PyData.canLay0, PyData.depth, (lay_ints xs).1, (lay_ints xs).2]
theorem eqvAll_strs : ∀ xs ys : List Str, PyData.eqvAll (xs.map PyData.str) (ys.map PyData.str) = decide (xs = ys)
  | [], [] => by simp [PyData.eqvAll]
  | [], _ :: _ => by simp [PyData.eqvAll]
  | _ :: _, [] => by simp [PyData.eqvAll]
  | x :: xs, y :: ys => by simp [PyData.eqvAll, eqvAll_strs xs ys, eqv_str]
theorem eqvAll_ints : ∀ xs ys : List Int, PyData.eqvAll (xs.map PyData.int) (ys.map PyData.int) = decide (xs = ys)
  | [], [] => by simp [PyData.eqvAll]
  | [], _ :: _ => by simp [PyData.eqvAll]
  | _ :: _, [] => by simp [PyData.eqvAll]
  | x :: xs, y :: ys => by simp [PyData.eqvAll, eqvAll_ints xs ys, PyData.eqv]; rfl
theorem py_tupS (xs : List Str) : D.py (.tup (xs.map D.str)) = some (.tuple (xs.map PyData.str)) := by
  unfold D.py; rw [pys_strs]
theorem py_lstI (xs : List Int) : D.py (.lst (xs.map D.int)) = some (.list (xs.map PyData.int)) := by
  unfold D.py; rw [pys_ints]
theorem sh_tupS (xs : List Str) (h : ∀ x ∈ xs, okS x) : SeqAt.shaped (.tuple (xs.map PyData.str)) = true := by
  simp [SeqAt.shaped, PyData.canLay0, PyData.depth, (lay_strs xs h).1, (lay_strs xs h).2]
theorem sh_lstI (xs : List Int) : SeqAt.shaped (.list (xs.map PyData.int)) = true := by
  simp [SeqAt.shaped, PyData.canLay0, PyData.depth, (lay_ints xs).1, (lay_ints xs).2]
/-- tuples of texts -/
theorem eq_tupS {S : Sto} {q : Kq} {xs ys : List Str} (hx : ∀ x ∈ xs, okS x) (hy : ∀ x ∈ ys, okS x) (h : q (.bl (decide (xs = ys))) S) : phEq (.tup (xs.map D.str)) (.tup (ys.map D.str)) S q := ⟨_, _, py_tupS xs, py_tupS ys, sh_tupS xs hx, sh_tupS ys hy, by
  have e : PyData.eqv (.tuple (xs.map PyData.str)) (.tuple (ys.map PyData.str)) = decide (xs = ys) := by rw [PyData.eqv]; exact eqvAll_strs xs ys
  rw [e]; exact h⟩
theorem ne_tupS {S : Sto} {q : Kq} {xs ys : List Str} (hx : ∀ x ∈ xs, okS x) (hy : ∀ x ∈ ys, okS x) (h : q (.bl (!decide (xs = ys))) S) : phNe (.tup (xs.map D.str)) (.tup (ys.map D.str)) S q := ⟨_, _, py_tupS xs, py_tupS ys, sh_tupS xs hx, sh_tupS ys hy, by
  have e : PyData.eqv (.tuple (xs.map PyData.str)) (.tuple (ys.map PyData.str)) = decide (xs = ys) := by rw [PyData.eqv]; exact eqvAll_strs xs ys
  rw [e]; exact h⟩
theorem ne_nil {S : Sto} {q : Kq} {xs : List Str} (hx : ∀ x ∈ xs, okS x) (h : q (.bl (!decide (xs = []))) S) : phNe (.tup (xs.map D.str)) (.tup []) S q := ne_tupS (ys := []) hx (by simp) h
theorem eq_nil {S : Sto} {q : Kq} {xs : List Str} (hx : ∀ x ∈ xs, okS x) (h : q (.bl (decide (xs = []))) S) : phEq (.tup (xs.map D.str)) (.tup []) S q := eq_tupS (ys := []) hx (by simp) h
/-- lists of ints, wherever they stand -/
theorem asL_res {S : Sto} {x : D} {xs : List D} (h : asL S x = some xs) : x.res S = .lst xs := by
  cases x with
  | lst ys => cases h; rfl
  | ref a =>
    show D.resO a (O.items (S a)) = .lst xs
    have h' : O.items (S a) = some xs := h
    rw [h']; rfl
  | _ => cases h
theorem eq_lstI {S : Sto} {q : Kq} {x y : D} {xs ys : List Int} (hx : asL S x = some (xs.map D.int)) (hy : asL S y = some (ys.map D.int)) (h : q (.bl (decide (xs = ys))) S) : phEq x y S q := ⟨_, _, by rw [asL_res hx]; exact py_lstI xs, by rw [asL_res hy]; exact py_lstI ys, sh_lstI xs, sh_lstI ys, by
  have e : PyData.eqv (.list (xs.map PyData.int)) (.list (ys.map PyData.int)) = decide (xs = ys) := by rw [PyData.eqv]; exact eqvAll_ints xs ys
  rw [e]; exact h⟩
theorem ne_lstI {S : Sto} {q : Kq} {x y : D} {xs ys : List Int} (hx : asL S x = some (xs.map D.int)) (hy : asL S y = some (ys.map D.int)) (h : q (.bl (!decide (xs = ys))) S) : phNe x y S q := ⟨_, _, by rw [asL_res hx]; exact py_lstI xs, by rw [asL_res hy]; exact py_lstI ys, sh_lstI xs, sh_lstI ys, by
  have e : PyData.eqv (.list (xs.map PyData.int)) (.list (ys.map PyData.int)) = decide (xs = ys) := by rw [PyData.eqv]; exact eqvAll_ints xs ys
  rw [e]; exact h⟩
/-! ### places of a walk by enumerate -/
theorem enum_strs (xs : List Str) : enumD (xs.map D.str) = xs.zipIdx.map fun p => .key [.int (p.2 : Nat), .str p.1] := by
  rw [enumD_eq, List.zipIdx_map, List.map_map]
  rfl
theorem getElem?_idxOf {xs : List Str} {z : Str} (h : z ∈ xs) : xs[xs.idxOf z]? = some z := by
  have := List.idxOf_lt_length_of_mem h
  rw [List.getElem?_eq_getElem this, List.getElem_idxOf]
theorem idxOf_min : ∀ {xs : List Str} {z : Str} {m : Nat}, m < xs.idxOf z → xs[m]? ≠ some z
  | [], z, m, h => by simp
  | x :: xs, z, m, h => by
    rw [List.idxOf_cons] at h
    by_cases e : x = z
    · subst e; simp at h
    · have e' : (x == z) = false := by simpa using e
      rw [e', cond_false] at h
      cases m with
      | zero => intro q; simp at q; exact e q
      | succ m => rw [List.getElem?_cons_succ]; exact idxOf_min (by omega)
theorem in_yes {S : Sto} {q : Kq} {x : Str} {y : D} {xs : List Str} (h : asQ S y = some (xs.map D.str)) (k : q (.bl (decide (x ∈ xs))) S) : phIn false (.str x) y S q := in_strs h k
theorem in_not {S : Sto} {q : Kq} {x : Str} {y : D} {xs : List Str} (h : asQ S y = some (xs.map D.str)) (k : q (.bl (!decide (x ∈ xs))) S) : phIn true (.str x) y S q := in_strs h k
theorem ne_bl {S : Sto} {q : Kq} {a b : Bool} (h : q (.bl (!decide (a = b))) S) : phNe (.bl a) (.bl b) S q := ⟨_, _, rfl, rfl, rfl, rfl, by
  have e : PyData.eqv (.bool a) (.bool b) = decide (a = b) := by cases a <;> cases b <;> rfl
  rw [e]; exact h⟩
/-! ### doors -/
def withinD (x : D) (lo hi : Int) : Bool := match x with
  | .int i => decide (lo ≤ i) && decide (i ≤ hi)
  | _ => false
mutual
/-- data that a door may be asked about -/
def fineD : D → Bool
  | .non => true
  | .bl _ => true
  | .int _ => true
  | .str z => decide (z.length ≤ 1000)
  | .tup xs => decide (xs.length ≤ 1000) && fineL xs
  | .lst xs => decide (xs.length ≤ 1000) && fineL xs
  | .key _ => false
  | .ref _ => false
  | .ty _ => false
  | .scr _ => false
  | .dct _ => false
  | .lam _ _ _ => false
def fineL : List D → Bool
  | [] => true
  | x :: xs => fineD x && fineL xs
end
theorem tyN_in {S : Sto} {x : D} {T : String} (h : x.tyN S = some T) : T = "NoneType" ∨ T = "bool" ∨ T = "int" ∨ T = "str" ∨ T = "tuple" ∨ T = "list" := by
  cases x with
  | ref a =>
    have h' : (O.items (S a)).map (fun _ => "list") = some T := h
    cases e : O.items (S a) with
    | none => rw [e] at h'; cases h'
    | some xs => rw [e] at h'; cases h'; simp
  | ty n => cases h
  | scr xs => cases h
  | dct xs => cases h
  | lam _ _ _ => cases h
  | _ => cases h; simp
theorem tyN_ref {S : Sto} {a : Addr} {T : String} (h : D.tyN S (.ref a) = some T) : T = "list" := by
  have h' : (O.items (S a)).map (fun _ => "list") = some T := h
  cases e : O.items (S a) with
  | none => rw [e] at h'; cases h'
  | some xs => rw [e] at h'; cases h'; rfl
theorem tyN_int {S : Sto} {x : D} (h : x.tyN S = some "int") : ∃ i, x = .int i := by
  cases x with
  | ref a => exact absurd (tyN_ref h) (by decide)
  | int i => exact ⟨i, rfl⟩
  | _ => first | (cases h; done) | (revert h; simp [D.tyN])
theorem tyN_bool {S : Sto} {x : D} (h : x.tyN S = some "bool") : ∃ i, x = .bl i := by
  cases x with
  | ref a => exact absurd (tyN_ref h) (by decide)
  | bl i => exact ⟨i, rfl⟩
  | _ => first | (cases h; done) | (revert h; simp [D.tyN])
theorem tyN_str {S : Sto} {x : D} (h : x.tyN S = some "str") : ∃ i, x = .str i := by
  cases x with
  | ref a => exact absurd (tyN_ref h) (by decide)
  | str i => exact ⟨i, rfl⟩
  | _ => first | (cases h; done) | (revert h; simp [D.tyN])
theorem tyN_tup {S : Sto} {x : D} (h : x.tyN S = some "tuple") (hf : fineD x = true) : ∃ xs, x = .tup xs := by
  cases x with
  | ref a => exact absurd (tyN_ref h) (by decide)
  | tup i => exact ⟨i, rfl⟩
  | key i => unfold fineD at hf; cases hf
  | _ => first | (cases h; done) | (revert h; simp [D.tyN])
theorem within_int {i lo hi : Int} : withinD (.int i) lo hi = (decide (lo ≤ i) && decide (i ≤ hi)) := rfl
def phWithin : PhA := fun ds S q => ∃ x lo hi T, ds = [x, .int lo, .int hi] ∧ x.tyN S = some T ∧ q (.bl (withinD x lo hi)) S
def smallS : Str := "abcdefghijklmnopqrstuvwxyz"
def nameOk (z : Str) : Bool := decide (1 ≤ z.length) && decide (z.length ≤ 8) && z.cps.toList.all fun c => decide (c ∈ smallS.cps.toList)
def nameD : D → Bool
  | .str z => nameOk z
  | _ => false
def shortD : D → Prop
  | .str z => z.length ≤ 1000
  | _ => True
def phIsName : PhA := fun ds S q => ∃ x T, ds = [x] ∧ x.tyN S = some T ∧ shortD x ∧ q (.bl (nameD x)) S
theorem fineL_mem : ∀ {xs : List D} {x : D}, fineL xs = true → x ∈ xs → fineD x = true
  | [], x, _, h => by simp at h
  | y :: ys, x, h, hx => by
    unfold fineL at h
    rw [Bool.and_eq_true] at h
    rcases List.mem_cons.mp hx with e | e
    · rw [e]; exact h.1
    · exact fineL_mem h.2 e
theorem fineL_of : ∀ {xs : List D}, (∀ x ∈ xs, fineD x = true) → fineL xs = true
  | [], _ => by simp [fineL]
  | y :: ys, h => by
    unfold fineL
    rw [h y (List.mem_cons_self ..), fineL_of fun x hx => h x (List.mem_cons_of_mem _ hx)]
    rfl
theorem fine_ty {S : Sto} {x : D} (h : fineD x = true) : ∃ T, x.tyN S = some T := by
  cases x <;> first
    | exact ⟨_, rfl⟩
    | (unfold fineD at h; cases h)
theorem fine_short {x : D} (h : fineD x = true) : shortD x := by
  cases x with
  | str z => unfold fineD at h; show z.length ≤ 1000; exact of_decide_eq_true h
  | _ => trivial
def strsOf : List D → List Str
  | [] => []
  | .str z :: xs => z :: strsOf xs
  | _ :: xs => strsOf xs
theorem names_strs : ∀ {ns : List D}, ns.all nameD = true → ns = (strsOf ns).map D.str
  | [], _ => rfl
  | x :: xs, h => by
    rw [List.all_cons, Bool.and_eq_true] at h
    cases x with
    | str z => show D.str z :: xs = D.str z :: (strsOf xs).map D.str; rw [← names_strs h.2]
    | _ => cases h.1
theorem strsOf_map : ∀ xs : List Str, strsOf (xs.map D.str) = xs
  | [] => rfl
  | x :: xs => by show x :: strsOf (xs.map D.str) = _; rw [strsOf_map xs]
def farZ : Int := 1000000000000000000
def folkD (b : D) : List D → Bool := fun ns => decide (ns.length ≤ 40) && (ns.all nameD && (decide (strsOf ns).Nodup && (!ns.isEmpty || withinD b 0 0)))
def stateB : D → Bool
  | .tup [a, .tup ns] => withinD a 0 farZ && folkD a ns
  | _ => false
theorem stateB_no {x : D} (h : ∀ xs, x ≠ .tup xs) : stateB x = false := by
  cases x with
  | tup xs => exact absurd rfl (h xs)
  | _ => rfl
theorem stateB_len {xs : List D} (h : xs.length ≠ 2) : stateB (.tup xs) = false := by
  match xs, h with
  | [], _ => rfl
  | [_], _ => rfl
  | [_, _], h => exact absurd rfl h
  | _ :: _ :: _ :: _, _ => (unfold stateB; split <;> first | rfl | (rename_i e; cases e))
theorem stateB_b {a b : D} (h : ∀ xs, b ≠ .tup xs) : stateB (.tup [a, b]) = false := by
  cases b with
  | tup xs => exact absurd rfl (h xs)
  | _ => rfl
theorem stateB_eq {a : D} {ns : List D} : stateB (.tup [a, .tup ns]) = (withinD a 0 farZ && folkD a ns) := rfl
theorem stateB_a {a b : D} (h : withinD a 0 1000000000000000000 = false) : stateB (.tup [a, b]) = false := by
  cases b with
  | tup xs => show (withinD a 0 1000000000000000000 && folkD a xs) = false; rw [h]; rfl
  | _ => rfl
def phIsState : PhA := fun ds S q => ∃ x, ds = [x] ∧ fineD x = true ∧ q (.bl (stateB x)) S
def phNeedState : PhA := fun ds S q => ∃ x, ds = [x] ∧ fineD x = true ∧ stateB x = true ∧ q .non S
def stateD (b : Int) (folk : List Str) : D := .tup [.int b, .tup (folk.map D.str)]
structure StOk (b : Int) (folk : List Str) : Prop where
  lo : 0 ≤ b
  hi : b ≤ farZ
  len : folk.length ≤ 40
  nm : ∀ n ∈ folk, nameOk n = true
  nd : folk.Nodup
  nob : folk = [] → b = 0
theorem name_okS {z : Str} (h : nameOk z = true) : okS z := by
  unfold nameOk at h
  rw [Bool.and_eq_true, Bool.and_eq_true] at h
  have h2 := h.2
  rw [List.all_eq_true] at h2
  have hs : ∀ c ∈ smallS.cps.toList, c < 0x110000 := by decide
  unfold okS PyData.strOk
  rw [← Array.all_toList, List.all_eq_true]
  exact fun c hc => decide_eq_true (hs c (of_decide_eq_true (h2 c hc)))
theorem name_short {z : Str} (h : nameOk z = true) : z.length ≤ 8 := by
  unfold nameOk at h
  rw [Bool.and_eq_true, Bool.and_eq_true] at h
  exact of_decide_eq_true h.1.2
theorem fine_state {b : Int} {folk : List Str} (h : StOk b folk) : fineD (stateD b folk) = true := by
  have h1 : fineL (folk.map D.str) = true := fineL_of fun x hx => by
    obtain ⟨z, hz, rfl⟩ := List.mem_map.mp hx
    unfold fineD
    show decide (z.length ≤ 1000) = true
    exact decide_eq_true (Nat.le_trans (name_short (h.nm z hz)) (by omega))
  have h2 : (folk.map D.str).length ≤ 1000 := by rw [List.length_map]; exact Nat.le_trans h.len (by omega)
  unfold stateD
  simp [fineD, fineL, h1]
  have := h.len
  omega
theorem stateB_ok {b : Int} {folk : List Str} (h : StOk b folk) : stateB (stateD b folk) = true := by
  have h1 : (folk.map D.str).all nameD = true := by
    rw [List.all_map]
    exact List.all_eq_true.mpr h.nm
  have h2 : (!(folk.map D.str).isEmpty || withinD (.int b) 0 0) = true := by
    by_cases e : folk = []
    · have := h.nob e
      subst this; simp [withinD]
    · cases folk with
      | nil => exact absurd rfl e
      | cons x xs => rfl
  show (withinD (.int b) 0 farZ && folkD (.int b) (folk.map D.str)) = true
  unfold folkD
  rw [h1, h2, strsOf_map]
  simp [withinD, h.lo, h.hi, h.len, h.nd]
/-! ### shares, rows -/
def shareZ (b p m : Int) : Int := if (b - p + m - 1) / m > 0 then (b - p + m - 1) / m else 0
def phShare : PhA := fun ds S q => ∃ b p m : Int, ds = [.int b, .int p, .int m] ∧ 0 < m ∧ m < 1000000000 ∧ q (.int (shareZ b p m)) S
def pairD (p : Str × Int) : D := .tup [.str p.1, .int p.2]
def pairE (p : Str × Int) : PyData := .tuple [.str p.1, .int p.2]
def tripD (p : Str × Str × Int) : D := .tup [.str p.1, .str p.2.1, .int p.2.2]
def tripE (p : Str × Str × Int) : PyData := .tuple [.str p.1, .str p.2.1, .int p.2.2]
def sortP (ps : List (Str × Int)) : List (Str × Int) := ps.mergeSort (PySem.W.dataLe false pairE)
def sortT (ps : List (Str × Str × Int)) : List (Str × Str × Int) := ps.mergeSort (PySem.W.dataLe false tripE)
theorem sortP_perm (ps : List (Str × Int)) : (sortP ps).Perm ps := List.mergeSort_perm _ _
theorem sortT_perm (ps : List (Str × Str × Int)) : (sortT ps).Perm ps := List.mergeSort_perm _ _
theorem asQ_of {S : Sto} {x : D} {xs : List D} (h : asL S x = some xs) : asQ S x = some xs := by
  cases x <;> first
    | exact h
    | (cases h)
theorem sorted_p {S : Sto} {q : Kq} {x : D} {ps : List (Str × Int)} (h : asL S x = some (ps.map pairD)) (hq : NewL S ((sortP ps).map pairD) q) : phSorted [x] S q :=
  ⟨x, _, ps, pairD, pairE, rfl, asQ_of h, fun b => rfl, PySem.W.AllAlike.of fun a b => by simp [pairE, PySem.W.alike, PySem.W.alikeAll], PySem.W.Sortable.tuples fun b => ⟨_, _, rfl⟩, by rw [h]; simp, fun b => by simp [pairE, PyData.depth, PyData.depthAll], hq⟩
theorem sorted_t {S : Sto} {q : Kq} {x : D} {ps : List (Str × Str × Int)} (h : asL S x = some (ps.map tripD)) (hq : NewL S ((sortT ps).map tripD) q) : phSorted [x] S q :=
  ⟨x, _, ps, tripD, tripE, rfl, asQ_of h, fun b => rfl, PySem.W.AllAlike.of fun a b => by simp [tripE, PySem.W.alike, PySem.W.alikeAll], PySem.W.Sortable.tuples fun b => ⟨_, _, rfl⟩, by rw [h]; simp, fun b => by simp [tripE, PyData.depth, PyData.depthAll], hq⟩
def sortI (ns : List Int) : List Int := ns.mergeSort fun a b => decide (a ≤ b)
theorem sorted_i {S : Sto} {q : Kq} {x : D} {ns : List Int} (h : asL S x = some (ns.map D.int)) (hq : NewL S ((sortI ns).map D.int) q) : phSorted [x] S q :=
  ⟨x, _, ns, D.int, PyData.int, rfl, asQ_of h, fun b => rfl, PySem.W.AllAlike.of fun a b => by simp [PySem.W.alike], PySem.W.Sortable.others fun b => ⟨(fun z => nomatch z), fun _ z => nomatch z⟩, by rw [h]; simp, fun b => by simp [PyData.depth], by
    have e : PySem.W.dataLe false PyData.int = fun a b => decide (a ≤ b) := PySem.W.dataLe_int (fun b : Int => b)
    rw [e]; exact hq⟩
def paidRows (b : Int) (folk : List Str) : List (Str × Int) := folk.zipIdx.map fun p => (p.1, shareZ b p.2 folk.length)
def phAllPaid : PhA := fun ds S q => ∃ b folk, ds = [stateD b folk] ∧ folk.length ≤ 1000 ∧ NewL S ((sortP (paidRows b folk)).map pairD) q
def phPaid : PhA := fun ds S q => ∃ b folk, ds = [stateD b folk] ∧ StOk b folk ∧ NewL S ((sortP (paidRows b folk)).map pairD) q
def posT (ts : List (Str × Str × Int)) : List (Str × Str × Int) := sortT (ts.filter fun t => decide (0 < t.2.2))
def phTriples : PhA := fun ds S q => ∃ ts, ds = [.lst (ts.map tripD)] ∧ ts.length ≤ 1000 ∧ NewL S ((posT ts).map tripD) q
def emptyS : Str := ""
def billRows (b : Int) (folk : List Str) (c : Int) : List (Str × Str × Int) := folk.zipIdx.map fun p => (p.1, emptyS, shareZ (b + c) p.2 folk.length - shareZ b p.2 folk.length)
def comeRows (b : Int) (folk : List Str) (z : Str) : List (Str × Str × Int) := folk.zipIdx.map fun p => (z, p.1, shareZ b p.2 folk.length - shareZ b p.2 (folk.length + 1))
def goAt (at' n : Nat) : Int := if n < at' then n else n - 1
def goRows (b : Int) (folk : List Str) (z : Str) : List (Str × Str × Int) := (folk.zipIdx.filter fun p => decide (p.2 ≠ folk.idxOf z)).map fun p => (p.1, z, shareZ b (goAt (folk.idxOf z) p.2) (folk.length - 1) - shareZ b p.2 folk.length)
def phByBill : PhA := fun ds S q => ∃ b folk c, ds = [stateD b folk, .int c] ∧ folk.length ≤ 1000 ∧ NewL S ((posT (billRows b folk c)).map tripD) q
def phByCome : PhA := fun ds S q => ∃ b folk z, ds = [stateD b folk, .str z] ∧ folk.length ≤ 1000 ∧ NewL S ((posT (comeRows b folk z)).map tripD) q
def phByGo : PhA := fun ds S q => ∃ b folk z, ds = [stateD b folk, .str z] ∧ folk.length ≤ 1000 ∧ z ∈ folk ∧ NewL S ((posT (goRows b folk z)).map tripD) q
def phBillHanded : PhA := fun ds S q => ∃ b folk c, ds = [stateD b folk, .int c] ∧ StOk b folk ∧ 0 ≤ c ∧ c ≤ farZ - b ∧ folk ≠ [] ∧ NewL S ((posT (billRows b folk c)).map tripD) q
def phComeHanded : PhA := fun ds S q => ∃ b folk z, ds = [stateD b folk, .str z] ∧ StOk b folk ∧ nameOk z = true ∧ z ∉ folk ∧ folk.length < 40 ∧ NewL S ((posT (comeRows b folk z)).map tripD) q
def phGoHanded : PhA := fun ds S q => ∃ b folk z, ds = [stateD b folk, .str z] ∧ StOk b folk ∧ z ∈ folk ∧ (folk.length = 1 → b ≤ 0) ∧ NewL S ((posT (goRows b folk z)).map tripD) q
def phNeedBills : PhA := fun ds S q => ∃ b : Int, ds = [.int b] ∧ 0 ≤ b ∧ b ≤ farZ ∧ q .non S
def phMustHand : PhA := fun ds S q => ∃ b m : Int, ds = [.int b, .int m] ∧ 0 ≤ b ∧ b ≤ farZ ∧ 1 ≤ m ∧ m ≤ 40 ∧ q (.int (b / (m + 1))) S
/-! ### draws -/
/-- a bag: the draws, how many were taken -/
def bagO (ns : List Int) (n : Int) : O := .lst [.lst (ns.map D.int), .int n]
structure BagAt (S : Sto) (b : Addr) (ns : List Int) (n : Int) : Prop where
  at' : S b = some (bagO ns n)
  len : ns.length = 400
  pos : 0 ≤ n
def phTake : PhA := fun ds S q => ∃ (b : Addr) (ns : List Int) (n m : Int), ds = [.ref b, .int m] ∧ BagAt S b ns n ∧ 0 < m ∧ ∀ r : Int, 0 ≤ r → r < m → q (.int r) (S.upd b (bagO ns (n + 1)))
def phCell : PhA := fun ds S q => ∃ (ns : List Int) (k : Int), ds = [.scr (ns.map D.int), .int k] ∧ 0 ≤ k ∧ ∀ c : Int, q (.int c) S
def phDraws : PhA := fun ds S q => ∃ c : Int, ds = [.int c, .int 400, .int 1000] ∧ ∀ ns : List Int, ns.length = 400 → q (.lst (ns.map D.int)) S
def phBag : PhA := fun ds S q => ∃ (ns : List Int) (k : Int), ds = [.scr (ns.map D.int), .int k] ∧ 0 ≤ k ∧ ∀ p ns, S p = none → ns.length = 400 → q (.ref p) (S.upd p (bagO ns 0))
def Bags (S : Sto) (ps : List Addr) : Prop := ∀ p ∈ ps, ∃ ns n, BagAt S p ns n
def phBags : PhA := fun ds S q => ∃ (ns : List Int) (k : Int), ds = [.scr (ns.map D.int), .int k] ∧ ns.length ≤ 1000 ∧ 0 ≤ k ∧ k ≤ 1000 ∧ ∀ ps S', ps.length ≤ 1000 → Bags S' ps → Sub S S' → q (.lst (ps.map D.ref)) S'
/-- so many were taken in between -/
def Took (S : Sto) (b : Addr) (ns : List Int) (S' : Sto) : Prop := ∃ n, 0 ≤ n ∧ S' = S.upd b (bagO ns n)
def phFarDraw : PhA := fun ds S q => ∃ (b : Addr) (ns : List Int) (n m : Int), ds = [.ref b, .int m] ∧ BagAt S b ns n ∧ 0 < m ∧ ∀ (r : Int) S', 0 ≤ r → r < m → Took S b ns S' → q (.int r) S'
def phMixed : PhA := fun ds S q => ∃ (b : Addr) (ns : List Int) (n : Int) (m : Nat), ds = [.ref b, .int m] ∧ BagAt S b ns n ∧ m ≤ 1000 ∧ ∀ (ps : List Int) S', ps.Perm ((List.range m).map fun i : Nat => (i : Int) + 1) → Took S b ns S' → q (.tup (ps.map D.int)) S'
def firstN : List Str := ["ann", "bo", "cy", "dee", "eli", "fay", "gus", "hal", "ida", "jo"]
def lettered (c : Str) : List Str := smallS.cps.toList.map fun k => c ++ ⟨#[k]⟩
def xS : Str := "x"
def yS : Str := "y"
def allN : List Str := firstN ++ lettered xS ++ lettered yS
def phNames : PhA := fun ds S q => ∃ m : Nat, ds = [.int m] ∧ m ≤ 1000 ∧ NewL S ((allN.take m).map D.str) q
def phAState : PhA := fun ds S q => ∃ (b : Addr) (ns : List Int) (n : Int) (m : Nat) (far : Int), ds = [.ref b, .int m, .int far] ∧ BagAt S b ns n ∧ m ≤ 40 ∧ 59 ≤ far ∧ far ≤ farZ ∧
  ∀ (c : Int) (folk : List Str) (S' : Sto), StOk c folk → c ≤ far → folk.length ≤ m → (∀ z : Str, z ∈ folk → z ∈ allN) → Took S b ns S' → q (stateD c folk) S'
def sumT (ts : List (Str × Str × Int)) (f : Str × Str × Int → Bool) : Int := ((ts.filter f).map fun t => t.2.2).sum
def phSum2 : PhA := fun ds S q => ∃ (ts : List (Str × Str × Int)) (k : Int) (z : Str), ds = [.lst (ts.map tripD), .int k, .str z] ∧ ts.length ≤ 1000 ∧ (∀ t ∈ ts, okS t.1 ∧ okS t.2.1) ∧ okS z ∧ ((k = 0 ∧ q (.int (sumT ts fun t => decide (t.1 = z))) S) ∨ (k = 1 ∧ q (.int (sumT ts fun t => decide (t.2.1 = z))) S))
theorem Took.bag {S S' : Sto} {b : Addr} {ns : List Int} (h : Took S b ns S') (hl : ns.length = 400) : ∃ n, BagAt S' b ns n := by
  obtain ⟨n, h1, rfl⟩ := h
  exact ⟨n, upd_at, hl, h1⟩
theorem Took.trans {S S1 S2 : Sto} {b : Addr} {ns : List Int} (h : Took S b ns S1) (h2 : Took S1 b ns S2) : Took S b ns S2 := by
  obtain ⟨n, h1, rfl⟩ := h
  obtain ⟨m, h3, rfl⟩ := h2
  exact ⟨m, h3, upd_twice⟩
theorem Took.one {S : Sto} {b : Addr} {ns : List Int} {n : Int} (h : 0 ≤ n) : Took S b ns (S.upd b (bagO ns n)) := ⟨n, h, rfl⟩
theorem Took.none {S S' : Sto} {b : Addr} {ns : List Int} {n : Int} (h : Took S b ns S') (hb : BagAt S b ns n) {p : Addr} (hp : S p = none) : S' p = none := by
  obtain ⟨n, h1, rfl⟩ := h
  rw [upd_off (sne hb.at' hp).symm]; exact hp
theorem Took.bags {S S' : Sto} {b : Addr} {ns : List Int} (h : Took S b ns S') (hl : ns.length = 400) {ps : List Addr} (hp : Bags S ps) : Bags S' ps := fun p hm => by
  obtain ⟨n, h1, rfl⟩ := h
  by_cases e : p = b
  · subst e; exact ⟨ns, n, upd_at, hl, h1⟩
  · obtain ⟨ns', n', g⟩ := hp p hm
    exact ⟨ns', n', by rw [upd_off e]; exact g.at', g.len, g.pos⟩
theorem allN_ok : ∀ z ∈ allN, nameOk z = true := by decide +kernel
theorem allN_nodup : allN.Nodup := by decide +kernel
def nameAt (i : Int) : Str := (allN[(i - 1).toNat]?).getD emptyS
theorem nameAt_mem {i : Int} (h1 : 1 ≤ i) (h2 : i ≤ 62) : nameAt i ∈ allN := by
  have hl : (i - 1).toNat < allN.length := by rw [show allN.length = 62 from by decide +kernel]; omega
  unfold nameAt
  rw [List.getElem?_eq_getElem hl]
  exact List.getElem_mem hl
theorem nameAt_inj {i j : Int} (h1 : 1 ≤ i) (h2 : i ≤ 62) (h3 : 1 ≤ j) (h4 : j ≤ 62) (h : nameAt i = nameAt j) : i = j := by
  have hl : (i - 1).toNat < allN.length := by rw [show allN.length = 62 from by decide +kernel]; omega
  have hl2 : (j - 1).toNat < allN.length := by rw [show allN.length = 62 from by decide +kernel]; omega
  unfold nameAt at h
  rw [List.getElem?_eq_getElem hl, List.getElem?_eq_getElem hl2] at h
  have h : allN[(i - 1).toNat] = allN[(j - 1).toNat] := h
  have hp := List.pairwise_iff_getElem.mp (show List.Pairwise (· ≠ ·) allN from allN_nodup)
  rcases Nat.lt_trichotomy (i - 1).toNat (j - 1).toNat with g | g | g
  · exact absurd h (hp _ _ hl hl2 g)
  · omega
  · exact absurd h.symm (hp _ _ hl2 hl g)
theorem mixed_mem {m : Nat} {ps : List Int} (h : ps.Perm ((List.range m).map fun i : Nat => (i : Int) + 1)) {i : Int} (hi : i ∈ ps) : 1 ≤ i ∧ i ≤ m := by
  have := h.mem_iff.mp hi
  obtain ⟨j, hj, rfl⟩ := List.mem_map.mp this
  have := List.mem_range.mp hj
  omega
theorem mixed_nodup {m : Nat} {ps : List Int} (h : ps.Perm ((List.range m).map fun i : Nat => (i : Int) + 1)) (hm : m ≤ 62) (k : Nat) : ((ps.take k).map nameAt).Nodup := by
  have h1 : ps.Nodup := h.nodup_iff.mpr (by
    rw [List.nodup_iff_pairwise_ne, List.pairwise_map]
    exact List.nodup_range.imp fun h e => h (by omega))
  have h2 : (ps.take k).Nodup := h1.sublist (List.take_sublist _ _)
  rw [List.nodup_iff_pairwise_ne, List.pairwise_map]
  refine List.Pairwise.imp_of_mem (fun {a b} ha hb hne e => ?_) h2
  obtain ⟨a1, a2⟩ := mixed_mem h (List.mem_of_mem_take ha)
  obtain ⟨b1, b2⟩ := mixed_mem h (List.mem_of_mem_take hb)
  exact hne (nameAt_inj a1 (by omega) b1 (by omega) e)
/-! ### odd things -/
theorem atI_some {α : Type} {xs : List α} {i : Int} (h0 : 0 ≤ i) (h1 : i < (xs.length : Nat)) : ∃ d, atI xs i = some d ∧ d ∈ xs := by
  obtain ⟨j, rfl⟩ : ∃ j : Nat, i = j := ⟨i.toNat, by omega⟩
  have hj : j < xs.length := by omega
  exact ⟨_, atI_nat (List.getElem?_eq_getElem hj), List.getElem_mem hj⟩
theorem ixN_nat' {n j : Nat} (h : j < n) : ixN n (j : Int) = some j := by
  unfold ixN
  rw [if_pos (by omega), if_pos (by omega)]
  simp
/-- containers at most d deep, each of at most m -/
def fineN (m : Nat) : Nat → D → Bool
  | _, .non => true
  | _, .bl _ => true
  | _, .int _ => true
  | _, .str z => decide (z.length ≤ 1000)
  | d + 1, .tup xs => decide (xs.length ≤ m) && xs.all (fineN m d)
  | d + 1, .lst xs => decide (xs.length ≤ m) && xs.all (fineN m d)
  | _, _ => false
theorem fineN_mono {m m' : Nat} (hm : m ≤ m') : ∀ {d d' : Nat} {x : D}, d ≤ d' → fineN m d x = true → fineN m' d' x = true
  | d, d', .non, _, _ => by cases d' <;> rfl
  | d, d', .bl b, _, _ => by cases d' <;> rfl
  | d, d', .int i, _, _ => by cases d' <;> rfl
  | d, d', .str z, _, h => by
    have h' : decide (z.length ≤ 1000) = true := by cases d <;> exact h
    cases d' <;> exact h'
  | 0, _, .tup xs, _, h => by cases h
  | 0, _, .lst xs, _, h => by cases h
  | d + 1, 0, _, hd, _ => absurd hd (by omega)
  | d + 1, d' + 1, .tup xs, hd, h => by
    unfold fineN at h ⊢
    rw [Bool.and_eq_true, decide_eq_true_eq, List.all_eq_true] at h ⊢
    exact ⟨by omega, fun x hx => fineN_mono hm (by omega) (h.2 x hx)⟩
  | d + 1, d' + 1, .lst xs, hd, h => by
    unfold fineN at h ⊢
    rw [Bool.and_eq_true, decide_eq_true_eq, List.all_eq_true] at h ⊢
    exact ⟨by omega, fun x hx => fineN_mono hm (by omega) (h.2 x hx)⟩
  | 0, _, .key xs, _, h => by cases h
  | 0, _, .ref xs, _, h => by cases h
  | 0, _, .ty xs, _, h => by cases h
  | 0, _, .scr xs, _, h => by cases h
  | 0, _, .dct xs, _, h => by cases h
  | 0, _, .lam _ _ _, _, h => by cases h
  | d + 1, _, .key xs, _, h => by cases h
  | d + 1, _, .ref xs, _, h => by cases h
  | d + 1, _, .ty xs, _, h => by cases h
  | d + 1, _, .scr xs, _, h => by cases h
  | d + 1, _, .dct xs, _, h => by cases h
  | d + 1, _, .lam _ _ _, _, h => by cases h
theorem fineN_D {m : Nat} (hm : m ≤ 1000) : ∀ {d : Nat} {x : D}, fineN m d x = true → fineD x = true
  | _, .non, _ => by simp [fineD]
  | _, .bl b, _ => by simp [fineD]
  | _, .int i, _ => by simp [fineD]
  | d, .str z, h => by
    have h' : decide (z.length ≤ 1000) = true := by cases d <;> exact h
    unfold fineD; exact h'
  | 0, .tup xs, h => by cases h
  | 0, .lst xs, h => by cases h
  | d + 1, .tup xs, h => by
    unfold fineN at h
    rw [Bool.and_eq_true, decide_eq_true_eq, List.all_eq_true] at h
    unfold fineD
    rw [fineL_of fun x hx => fineN_D hm (h.2 x hx), Bool.and_true]
    exact decide_eq_true (by omega)
  | d + 1, .lst xs, h => by
    unfold fineN at h
    rw [Bool.and_eq_true, decide_eq_true_eq, List.all_eq_true] at h
    unfold fineD
    rw [fineL_of fun x hx => fineN_D hm (h.2 x hx), Bool.and_true]
    exact decide_eq_true (by omega)
  | 0, .key xs, h => by cases h
  | 0, .ref xs, h => by cases h
  | 0, .ty xs, h => by cases h
  | 0, .scr xs, h => by cases h
  | 0, .dct xs, h => by cases h
  | 0, .lam _ _ _, h => by cases h
  | d + 1, .key xs, h => by cases h
  | d + 1, .ref xs, h => by cases h
  | d + 1, .ty xs, h => by cases h
  | d + 1, .scr xs, h => by cases h
  | d + 1, .dct xs, h => by cases h
  | d + 1, .lam _ _ _, h => by cases h
theorem fineN_tup {m d : Nat} {xs : List D} (h1 : xs.length ≤ m) (h2 : ∀ x ∈ xs, fineN m d x = true) : fineN m (d + 1) (.tup xs) = true := by
  unfold fineN
  rw [Bool.and_eq_true, decide_eq_true_eq, List.all_eq_true]
  exact ⟨h1, h2⟩
theorem fineN_lst {m d : Nat} {xs : List D} (h1 : xs.length ≤ m) (h2 : ∀ x ∈ xs, fineN m d x = true) : fineN m (d + 1) (.lst xs) = true := by
  unfold fineN
  rw [Bool.and_eq_true, decide_eq_true_eq, List.all_eq_true]
  exact ⟨h1, h2⟩
/-- a sequence that may be spoilt -/
def seqD : D → Option (List D)
  | .tup xs => some xs
  | .lst xs => some xs
  | _ => none
theorem fineN_seq {m d : Nat} {x : D} {xs : List D} (h : fineN m d x = true) (hs : seqD x = some xs) : ∃ e, d = e + 1 ∧ xs.length ≤ m ∧ ∀ y ∈ xs, fineN m e y = true := by
  cases x with
  | tup ys =>
    cases hs
    cases d with
    | zero => cases h
    | succ e =>
      unfold fineN at h
      rw [Bool.and_eq_true, decide_eq_true_eq, List.all_eq_true] at h
      exact ⟨e, rfl, h⟩
  | lst ys =>
    cases hs
    cases d with
    | zero => cases h
    | succ e =>
      unfold fineN at h
      rw [Bool.and_eq_true, decide_eq_true_eq, List.all_eq_true] at h
      exact ⟨e, rfl, h⟩
  | _ => cases hs
def oddL : List D := [.non, .bl true, .bl false, .int (-1), .int 0, .int 1, .int 40, .int 41, .int 1000000000000000000, .int 1000000000000000001, .int 1000000000000000000000000000000, .str "", .str "ann", .str "Ann", .str "abcdefghi"] ++
  [.tup [], .lst [], .tup [.int 0], .tup [.int 0, .tup []], .lst [.int 0, .tup []]] ++ [.tup [.int 0, .tup [.str "ann"]], .tup [.int 1, .tup []], .tup [.int 5, .tup [.str "ann", .str "ann"]], .tup [.int 5, .lst [.str "ann"]], .tup [.int 5, .tup [.str "A"]]]
theorem odd_fine : ∀ d ∈ oddL, fineN 2 2 d = true := by decide +kernel
def phOdd : PhA := fun ds S q => ∃ ns : List Int, ds = [.lst (ns.map D.int)] ∧ 2 ≤ ns.length ∧ ∀ y, fineN 2 2 y = true → q y S
def phSpoilt (N : Nat) : PhA := fun ds S q => ∃ (x : D) (ns : List Int) (m d : Nat), ds = [x, .lst (ns.map D.int)] ∧ 3 ≤ ns.length ∧ d ≤ N ∧ 1 ≤ m ∧ m ≤ 500 ∧ fineN m d x = true ∧ ∀ y S', fineN (m + 1) (d + 3) y = true → Sub S S' → q y S'
theorem sub_del {S S' : Sto} {p : Addr} (h : Sub S S') (hp : S p = none) : Sub S (S'.del p) := fun a o e => by
  unfold Sto.del
  rw [if_neg (sne e hp)]
  exact h a o e
theorem sub_fresh {S S' : Sto} {p : Addr} (h : Sub S S') (hp : S' p = none) : S p = none := by
  cases e : S p with
  | none => rfl
  | some o => rw [h p o e] at hp; cases hp
theorem eq_bl {S : Sto} {q : Kq} {a b : Bool} (h : q (.bl (decide (a = b))) S) : phEq (.bl a) (.bl b) S q := ⟨_, _, rfl, rfl, rfl, rfl, by
  have e : PyData.eqv (.bool a) (.bool b) = decide (a = b) := by cases a <;> cases b <;> rfl
  rw [e]; exact h⟩
def AllF (xs : List D) : Prop := ∀ x ∈ xs, fineD x = true
theorem allF_append {xs ys : List D} (h : AllF xs) (h' : AllF ys) : AllF (xs ++ ys) := fun x hx => by
  rcases List.mem_append.mp hx with hx | hx
  · exact h x hx
  · exact h' x hx
theorem allF_nil : AllF [] := fun x hx => absurd hx (by simp)
theorem allF_cons {x : D} {xs : List D} (h : fineD x = true) (h' : AllF xs) : AllF (x :: xs) := fun y hy => by
  rcases List.mem_cons.mp hy with e | e
  · rw [e]; exact h
  · exact h' y e
theorem fine_tup {xs : List D} (hl : xs.length ≤ 1000) (h : AllF xs) : fineD (.tup xs) = true := by
  unfold fineD
  rw [fineL_of h, Bool.and_true]
  exact decide_eq_true hl
theorem fine_lst {xs : List D} (hl : xs.length ≤ 1000) (h : AllF xs) : fineD (.lst xs) = true := by
  unfold fineD
  rw [fineL_of h, Bool.and_true]
  exact decide_eq_true hl
theorem fine_names {xs : List Str} (h : ∀ x ∈ xs, nameOk x = true) : AllF (xs.map D.str) := fun x hx => by
  obtain ⟨z, hz, rfl⟩ := List.mem_map.mp hx
  unfold fineD
  have := name_short (h z hz)
  exact decide_eq_true (by omega)
theorem fineN_state {b : Int} {folk : List Str} (h : StOk b folk) : fineN 40 2 (stateD b folk) = true := by
  refine fineN_tup (d := 1) (by simp) fun x hx => ?_
  rcases List.mem_cons.mp hx with e | e
  · subst e; rfl
  · rw [List.mem_singleton] at e
    subst e
    refine fineN_tup (d := 0) (by rw [List.length_map]; exact h.len) fun y hy => ?_
    obtain ⟨z, hz, rfl⟩ := List.mem_map.mp hy
    have := name_short (h.nm z hz)
    show decide (z.length ≤ 1000) = true
    exact decide_eq_true (by omega)
/-- a law: every script, True -/
def phLaw : PhA := fun ds S q => ∃ ns : List Int, ds = [.scr (ns.map D.int)] ∧ ns.length ≤ 63 ∧ ∀ S', q (.bl true) S'
end Paid

set_option Elab.async false
set_option linter.all false
set_option maxRecDepth 100000
/-! PK3: what shares add up to, what is handed. -/
namespace Paid
open PySem L2 PL
/-! ### one share -/
theorem share_eq {b p m : Int} (hb : 0 ≤ b) (h1 : p < m) (h0 : 0 < m) : shareZ b p m = (b - p + m - 1) / m := by
  unfold shareZ
  have h : 0 ≤ (b - p + m - 1) / m := Int.ediv_nonneg (by omega) (by omega)
  split <;> omega
theorem share_form {b p m : Int} (hb : 0 ≤ b) (h0 : 0 ≤ p) (h1 : p < m) : shareZ b p m = b / m + if p < b % m then 1 else 0 := by
  rw [share_eq hb h1 (by omega)]
  have e := Int.emod_add_mul_ediv b m
  have r0 := Int.emod_nonneg b (show m ≠ 0 by omega)
  have r1 := Int.emod_lt_of_pos b (show 0 < m by omega)
  split
  · rename_i h
    have e2 : b - p + m - 1 = (b % m - p - 1) + m * (b / m + 1) := by rw [Int.mul_add, Int.mul_one]; omega
    rw [e2, Int.add_mul_ediv_left _ _ (by omega), Int.ediv_eq_zero_of_lt (by omega) (by omega)]
    omega
  · rename_i h
    have e2 : b - p + m - 1 = (b % m - p + m - 1) + m * (b / m) := by omega
    rw [e2, Int.add_mul_ediv_left _ _ (by omega), Int.ediv_eq_zero_of_lt (by omega) (by omega)]
    omega
theorem share_nonneg {b p m : Int} : 0 ≤ shareZ b p m := by unfold shareZ; split <;> omega
theorem share_le {b p m : Int} (hb : 0 ≤ b) (h0 : 0 ≤ p) (h1 : p < m) : shareZ b p m ≤ b := by
  rw [share_eq hb h1 (by omega)]
  have h : (b - p + m - 1) / m < b + 1 := by
    rw [Int.ediv_lt_iff_lt_mul (by omega), Int.add_mul, Int.one_mul]
    have : b * 1 ≤ b * m := Int.mul_le_mul_of_nonneg_left (by omega) hb
    omega
  omega
theorem share_anti {b p q m : Int} (hb : 0 ≤ b) (h0 : 0 ≤ p) (hpq : p ≤ q) (h1 : q < m) : shareZ b q m ≤ shareZ b p m := by
  rw [share_eq hb h1 (by omega), share_eq hb (by omega) (by omega)]
  exact Int.ediv_le_ediv (by omega) (by omega)
theorem share_near {b p q m : Int} (hb : 0 ≤ b) (h0 : 0 ≤ p) (h1 : p < m) (h2 : 0 ≤ q) (h3 : q < m) : shareZ b p m - shareZ b q m ≤ 1 := by
  rw [share_form hb h0 h1, share_form hb h2 h3]
  split <;> split <;> omega
theorem share_more {b p m : Int} (hb : 0 ≤ b) (h0 : 0 ≤ p) (h1 : p < m) : shareZ b p (m + 1) ≤ shareZ b p m := by
  rw [share_eq hb h1 (by omega), share_eq hb (show p < m + 1 by omega) (by omega), Int.le_ediv_iff_mul_le (by omega)]
  have h : 0 ≤ (b - p + (m + 1) - 1) / (m + 1) := Int.ediv_nonneg (by omega) (by omega)
  have h2 := Int.ediv_mul_le (b - p + (m + 1) - 1) (show m + 1 ≠ 0 by omega)
  rw [Int.mul_add, Int.mul_one] at h2
  by_cases hk : (b - p + (m + 1) - 1) / (m + 1) = 0
  · rw [hk]; omega
  · omega
theorem share_fewer {b p m : Int} (hb : 0 ≤ b) (h0 : 0 < p) (h1 : p < m) : shareZ b p m ≤ shareZ b (p - 1) (m - 1) := by
  rw [share_eq hb h1 (by omega), share_eq hb (show p - 1 < m - 1 by omega) (by omega), Int.le_ediv_iff_mul_le (by omega)]
  have h : 0 ≤ (b - p + m - 1) / m := Int.ediv_nonneg (by omega) (by omega)
  have h2 := Int.ediv_mul_le (b - p + m - 1) (show m ≠ 0 by omega)
  rw [Int.mul_sub, Int.mul_one]
  omega
theorem share_bill {b c p m : Int} (hb : 0 ≤ b) (hc : 0 ≤ c) (h1 : p < m) (h0 : 0 < m) : shareZ b p m ≤ shareZ (b + c) p m := by
  rw [share_eq hb h1 h0, share_eq (show 0 ≤ b + c by omega) h1 h0]
  exact Int.ediv_le_ediv h0 (by omega)
theorem share_last {b m : Int} (hb : 0 ≤ b) (hm : 0 ≤ m) : shareZ b m (m + 1) = b / (m + 1) := by
  rw [share_eq hb (by omega) (by omega), show b - m + (m + 1) - 1 = b by omega]
/-! ### sums -/
theorem sum_step (q r : Int) (hr : 0 ≤ r) : ∀ k : Nat, ((List.range k).map fun i : Nat => q + if (i : Int) < r then 1 else 0).sum = q * k + if (k : Int) < r then (k : Int) else r
  | 0 => by simp; omega
  | k + 1 => by
    rw [List.range_succ, List.map_append, List.sum_append, sum_step q r hr k]
    simp only [List.map_cons, List.map_nil, List.sum_cons, List.sum_nil]
    have e : q * ((k + 1 : Nat) : Int) = q * k + q := by rw [Int.natCast_add]; simp [Int.mul_add]
    rw [e]
    split <;> split <;> omega
theorem sum_share {b : Int} (hb : 0 ≤ b) (m : Nat) (hm : 0 < m) : ((List.range m).map fun i : Nat => shareZ b i m).sum = b := by
  have e : ((List.range m).map fun i : Nat => shareZ b i m) = (List.range m).map fun i : Nat => b / m + if (i : Int) < b % m then 1 else 0 := by
    apply List.map_congr_left
    intro i hi
    have := List.mem_range.mp hi
    exact share_form hb (by omega) (by omega)
  have r0 := Int.emod_nonneg b (show (m : Int) ≠ 0 by omega)
  have r1 := Int.emod_lt_of_pos b (show 0 < (m : Int) by omega)
  rw [e, sum_step _ _ r0, if_neg (by omega)]
  have e := Int.emod_add_mul_ediv b m
  rw [Int.mul_comm] at e
  omega
theorem perm_sum {xs ys : List Int} (h : xs.Perm ys) : xs.sum = ys.sum := by
  induction h with
  | nil => rfl
  | cons x _ ih => rw [List.sum_cons, List.sum_cons, ih]
  | swap x y l => rw [List.sum_cons, List.sum_cons, List.sum_cons, List.sum_cons]; omega
  | trans _ _ h1 h2 => rw [h1, h2]
theorem sum_sub {α : Type} (f g : α → Int) : ∀ xs : List α, (xs.map fun x => f x - g x).sum = (xs.map f).sum - (xs.map g).sum
  | [] => rfl
  | x :: xs => by rw [List.map_cons, List.map_cons, List.map_cons, List.sum_cons, List.sum_cons, List.sum_cons, sum_sub f g xs]; omega
theorem sumT_pos {ts : List (Str × Str × Int)} (h : ∀ t ∈ ts, 0 ≤ t.2.2) (f : Str × Str × Int → Bool) : sumT (posT ts) f = sumT ts f := by
  have h1 : (posT ts).Perm (ts.filter fun t => decide (0 < t.2.2)) := sortT_perm _
  unfold sumT
  rw [perm_sum ((h1.filter f).map _)]
  clear h1
  induction ts with
  | nil => rfl
  | cons t r ih =>
    have h2 := ih fun x hx => h x (List.mem_cons_of_mem _ hx)
    have h3 := h t (List.mem_cons_self ..)
    by_cases e : 0 < t.2.2
    · rw [List.filter_cons_of_pos (by simpa using e)]
      by_cases e2 : f t = true
      · rw [List.filter_cons_of_pos e2, List.filter_cons_of_pos e2, List.map_cons, List.map_cons, List.sum_cons, List.sum_cons, h2]
      · rw [List.filter_cons_of_neg e2, List.filter_cons_of_neg e2, h2]
    · rw [List.filter_cons_of_neg (by simpa using e)]
      by_cases e2 : f t = true
      · rw [List.filter_cons_of_pos e2, List.map_cons, List.sum_cons, h2]; omega
      · rw [List.filter_cons_of_neg e2, h2]
theorem pos_mem {ts : List (Str × Str × Int)} {t : Str × Str × Int} (h : t ∈ posT ts) : t ∈ ts ∧ 0 < t.2.2 := by
  have h1 : (posT ts).Perm (ts.filter fun t => decide (0 < t.2.2)) := sortT_perm _
  have := h1.mem_iff.mp h
  rw [List.mem_filter] at this
  exact ⟨this.1, of_decide_eq_true this.2⟩
theorem pos_len (ts : List (Str × Str × Int)) : (posT ts).length ≤ ts.length := by
  have h1 : (posT ts).Perm (ts.filter fun t => decide (0 < t.2.2)) := sortT_perm _
  rw [h1.length_eq]
  exact List.length_filter_le _ _
/-! ### by names -/
def own (b : Int) (folk : List Str) (z : Str) : Int := shareZ b (folk.idxOf z : Nat) (folk.length : Nat)
theorem idx_ne {x y : Str} {xs : List Str} (h : x ≠ y) : (x :: xs).idxOf y = xs.idxOf y + 1 := by
  have e : (x == y) = false := by simpa using h
  rw [List.idxOf_cons, e]; rfl
theorem zip_names {folk : List Str} (h : folk.Nodup) : folk.zipIdx = folk.map fun z => (z, folk.idxOf z) := by
  apply List.ext_getElem
  · simp
  · intro i h1 h2
    rw [List.length_map] at h2
    simp only [List.getElem_zipIdx, List.getElem_map, Nat.zero_add]
    rw [h.idxOf_getElem i h2]
theorem idx_lt {folk : List Str} {z : Str} (h : z ∈ folk) : ((folk.idxOf z : Nat) : Int) < (folk.length : Nat) := by
  have := List.idxOf_lt_length_of_mem h
  omega
theorem map_range {folk : List Str} (h : folk.Nodup) (g : Nat → Int) : (folk.map fun z => g (folk.idxOf z)) = (List.range folk.length).map g := by
  apply List.ext_getElem
  · simp
  · intro i h1 h2
    rw [List.length_map] at h1
    simp only [List.getElem_map, List.getElem_range]
    rw [h.idxOf_getElem i h1]
theorem sum_own {b : Int} {folk : List Str} (hb : 0 ≤ b) (h : folk.Nodup) (h0 : folk ≠ []) : (folk.map (own b folk)).sum = b := by
  have e : folk.map (own b folk) = (List.range folk.length).map fun i : Nat => shareZ b i (folk.length : Nat) := map_range h fun i : Nat => shareZ b i (folk.length : Nat)
  rw [e]
  exact sum_share hb _ (List.length_pos_iff.mpr h0)
theorem paid_names {b : Int} {folk : List Str} (h : folk.Nodup) : paidRows b folk = folk.map fun z => (z, own b folk z) := by
  unfold paidRows; rw [zip_names h, List.map_map]; rfl
theorem bill_names {b c : Int} {folk : List Str} (h : folk.Nodup) : billRows b folk c = folk.map fun z => (z, emptyS, own (b + c) folk z - own b folk z) := by
  unfold billRows; rw [zip_names h, List.map_map]; rfl
theorem nodup_snoc {folk : List Str} {z : Str} (h : folk.Nodup) (hz : z ∉ folk) : (folk ++ [z]).Nodup := by
  rw [List.nodup_append]
  exact ⟨h, by simp, fun a ha b hb e => by rw [List.mem_singleton] at hb; exact hz (by rw [← hb, ← e]; exact ha)⟩
theorem own_snoc {b : Int} {folk : List Str} {z y : Str} (hy : y ∈ folk) : own b (folk ++ [z]) y = shareZ b (folk.idxOf y : Nat) ((folk.length : Nat) + 1) := by
  unfold own
  rw [List.idxOf_append, if_pos hy, List.length_append, List.length_singleton]
  rfl
theorem own_last {b : Int} {folk : List Str} {z : Str} (hz : z ∉ folk) : own b (folk ++ [z]) z = shareZ b (folk.length : Nat) ((folk.length : Nat) + 1) := by
  unfold own
  rw [List.idxOf_append, if_neg hz, List.length_append, List.length_singleton]
  simp
theorem come_names {b : Int} {folk : List Str} {z : Str} (h : folk.Nodup) (hz : z ∉ folk) : comeRows b folk z = folk.map fun y => (z, y, own b folk y - own b (folk ++ [z]) y) := by
  unfold comeRows
  rw [zip_names h, List.map_map]
  apply List.map_congr_left
  intro y hy
  rw [own_snoc hy]
  rfl
def butFor (folk : List Str) (z : Str) : List Str := folk.filter fun y => !decide (y = z)
theorem but_mem {folk : List Str} {z y : Str} : y ∈ butFor folk z ↔ y ∈ folk ∧ y ≠ z := by
  unfold butFor
  rw [List.mem_filter]
  simp
theorem but_nodup {folk : List Str} {z : Str} (h : folk.Nodup) : (butFor folk z).Nodup := h.sublist List.filter_sublist
theorem but_none : ∀ {folk : List Str} {z : Str}, z ∉ folk → butFor folk z = folk
  | [], _, _ => rfl
  | x :: xs, z, h => by
    unfold butFor
    rw [List.filter_cons_of_pos (by simpa using fun e : x = z => h (by simp [e]))]
    have := but_none (folk := xs) (z := z) fun e => h (List.mem_cons_of_mem _ e)
    unfold butFor at this
    rw [this]
theorem but_cons_ne {x z : Str} {xs : List Str} (h : x ≠ z) : butFor (x :: xs) z = x :: butFor xs z := by
  unfold butFor
  rw [List.filter_cons_of_pos (by simpa using h)]
theorem but_cons_eq {z : Str} {xs : List Str} : butFor (z :: xs) z = butFor xs z := by
  unfold butFor
  rw [List.filter_cons_of_neg (by simp)]
theorem but_len : ∀ {folk : List Str} {z : Str}, folk.Nodup → z ∈ folk → (butFor folk z).length + 1 = folk.length
  | [], _, _, h => by simp at h
  | x :: xs, z, hn, h => by
    have hn' := List.nodup_cons.mp hn
    by_cases e : x = z
    · subst e
      rw [but_cons_eq, but_none hn'.1, List.length_cons]
    · rw [but_cons_ne e, List.length_cons, List.length_cons, but_len hn'.2 (by
        rcases List.mem_cons.mp h with h | h
        · exact absurd h.symm e
        · exact h)]
theorem but_idx : ∀ {folk : List Str} {z y : Str}, folk.Nodup → z ∈ folk → y ∈ folk → y ≠ z → (((butFor folk z).idxOf y : Nat) : Int) = goAt (folk.idxOf z) (folk.idxOf y)
  | [], _, _, _, h, _, _ => by simp at h
  | x :: xs, z, y, hn, hz, hy, hne => by
    have hn' := List.nodup_cons.mp hn
    by_cases e : x = z
    · subst e
      have hy' : y ∈ xs := by
        rcases List.mem_cons.mp hy with h | h
        · exact absurd h hne
        · exact h
      rw [but_cons_eq, but_none hn'.1, List.idxOf_cons_self, idx_ne (fun e => hne e.symm)]
      unfold goAt
      rw [if_neg (by omega)]
      omega
    · have hz' : z ∈ xs := by
        rcases List.mem_cons.mp hz with h | h
        · exact absurd h.symm e
        · exact h
      rw [but_cons_ne e, idx_ne e]
      by_cases e2 : x = y
      · subst e2
        rw [List.idxOf_cons_self, List.idxOf_cons_self]
        unfold goAt
        rw [if_pos (by omega)]
      · have hy' : y ∈ xs := by
          rcases List.mem_cons.mp hy with h | h
          · exact absurd h.symm e2
          · exact h
        rw [idx_ne e2, idx_ne e2]
        have ih := but_idx hn'.2 hz' hy' hne
        unfold goAt at ih ⊢
        split at ih <;> split <;> omega
theorem go_names {b : Int} {folk : List Str} {z : Str} (h : folk.Nodup) (hz : z ∈ folk) : goRows b folk z = (butFor folk z).map fun y => (y, z, own b (butFor folk z) y - own b folk y) := by
  unfold goRows
  rw [zip_names h, List.filter_map, List.map_map]
  have e : folk.filter ((fun p : Str × Nat => decide (p.2 ≠ folk.idxOf z)) ∘ fun z => (z, folk.idxOf z)) = butFor folk z := by
    unfold butFor
    apply List.filter_congr
    intro y hy
    by_cases e : y = z
    · subst e; simp
    · have : folk.idxOf y ≠ folk.idxOf z := fun q => e (by
        have h1 := getElem?_idxOf hy
        have h2 := getElem?_idxOf hz
        rw [q, h2] at h1
        cases h1; rfl)
      simp [e, this]
  rw [e]
  apply List.map_congr_left
  intro y hy
  obtain ⟨hy1, hy2⟩ := but_mem.mp hy
  have hl := but_len h hz
  show (y, z, shareZ b (goAt (folk.idxOf z) (folk.idxOf y)) (folk.length - 1) - shareZ b (folk.idxOf y : Nat) (folk.length : Nat)) = _
  unfold own
  rw [but_idx h hz hy1 hy2, show (((butFor folk z).length : Nat) : Int) = (folk.length : Nat) - 1 by omega]
theorem sum_but (f : Str → Int) : ∀ {folk : List Str} {z : Str}, folk.Nodup → z ∈ folk → (folk.map f).sum = ((butFor folk z).map f).sum + f z
  | [], _, _, h => by simp at h
  | x :: xs, z, hn, h => by
    have hn' := List.nodup_cons.mp hn
    by_cases e : x = z
    · subst e
      rw [but_cons_eq, but_none hn'.1, List.map_cons, List.sum_cons]; omega
    · rw [but_cons_ne e, List.map_cons, List.map_cons, List.sum_cons, List.sum_cons, sum_but f hn'.2 (by
        rcases List.mem_cons.mp h with h | h
        · exact absurd h.symm e
        · exact h)]
      omega
/-! ### rows told by names -/
theorem sum_all {ts : List (Str × Str × Int)} {f : Str × Str × Int → Bool} (h : ∀ t ∈ ts, f t = true) : sumT ts f = (ts.map fun t => t.2.2).sum := by
  unfold sumT
  rw [List.filter_eq_self.mpr h]
theorem sum_one (g1 g2 : Str → Str) (v : Str → Int) (f : Str × Str × Int → Bool) {z : Str} : ∀ {folk : List Str}, folk.Nodup → z ∈ folk → (∀ y ∈ folk, f (g1 y, g2 y, v y) = decide (y = z)) → sumT (folk.map fun y => (g1 y, g2 y, v y)) f = v z
  | [], _, h, _ => by simp at h
  | x :: xs, hn, h, hf => by
    have hn' := List.nodup_cons.mp hn
    have hx := hf x (List.mem_cons_self ..)
    have hr : ∀ y ∈ xs, f (g1 y, g2 y, v y) = decide (y = z) := fun y hy => hf y (List.mem_cons_of_mem _ hy)
    unfold sumT
    rw [List.map_cons]
    by_cases e : x = z
    · subst e
      rw [List.filter_cons_of_pos (by rw [hx]; simp)]
      have : (xs.map fun y => (g1 y, g2 y, v y)).filter f = [] := by
        rw [List.filter_eq_nil_iff]
        intro t ht
        obtain ⟨y, hy, rfl⟩ := List.mem_map.mp ht
        rw [hr y hy]
        simp
        intro e; subst e; exact hn'.1 hy
      rw [this]
      simp
    · rw [List.filter_cons_of_neg (by rw [hx]; simpa using e)]
      have h' : z ∈ xs := by
        rcases List.mem_cons.mp h with h | h
        · exact absurd h.symm e
        · exact h
      exact sum_one g1 g2 v f hn'.2 h' hr
theorem own_come {b : Int} {folk : List Str} {z y : Str} (hb : 0 ≤ b) (hy : y ∈ folk) : own b (folk ++ [z]) y ≤ own b folk y := by
  rw [own_snoc hy]
  exact share_more hb (by omega) (idx_lt hy)
theorem own_go {b : Int} {folk : List Str} {z y : Str} (hb : 0 ≤ b) (h : folk.Nodup) (hz : z ∈ folk) (hy : y ∈ folk) (hne : y ≠ z) : own b folk y ≤ own b (butFor folk z) y := by
  have hl := but_len h hz
  have h1 := idx_lt hy
  have h2 := idx_lt hz
  unfold own
  rw [but_idx h hz hy hne, show (((butFor folk z).length : Nat) : Int) = (folk.length : Nat) - 1 by omega]
  unfold goAt
  split
  · have := share_more (b := b) (p := (folk.idxOf y : Nat)) (m := (folk.length : Nat) - 1) hb (by omega) (by omega)
    rw [show ((folk.length : Nat) : Int) - 1 + 1 = (folk.length : Nat) by omega] at this
    exact this
  · have hne2 : folk.idxOf y ≠ folk.idxOf z := fun q => hne (by
      have h1 := getElem?_idxOf hy
      have h2 := getElem?_idxOf hz
      rw [q, h2] at h1
      cases h1; rfl)
    exact share_fewer hb (by omega) h1
theorem own_bill {b c : Int} {folk : List Str} {y : Str} (hb : 0 ≤ b) (hc : 0 ≤ c) (hy : y ∈ folk) : own b folk y ≤ own (b + c) folk y :=
  share_bill hb hc (idx_lt hy) (by have := idx_lt hy; omega)
/-! ### the row of all -/
theorem row_desc {b : Int} {folk : List Str} (hb : 0 ≤ b) (h : folk.Nodup) : (folk.map (own b folk)).Pairwise fun x y => y ≤ x := by
  have e : folk.map (own b folk) = (List.range folk.length).map fun i : Nat => shareZ b i (folk.length : Nat) := map_range h fun i : Nat => shareZ b i (folk.length : Nat)
  rw [e, List.pairwise_map]
  refine List.Pairwise.imp_of_mem (fun {a c} ha hc hlt => ?_) List.pairwise_lt_range
  have := List.mem_range.mp hc
  exact share_anti hb (by omega) (by omega) (by omega)
theorem sortI_desc {ns : List Int} (h : ns.Pairwise fun x y => y ≤ x) : (sortI ns).reverse = ns := by
  have h1 : (sortI ns).Pairwise fun a b => decide (a ≤ b) = true := List.pairwise_mergeSort (fun a b c => by simp; omega) (fun a b => by simp; omega) ns
  have h2 : (ns.reverse).Pairwise fun a b => decide (a ≤ b) = true := by
    rw [List.pairwise_reverse]
    exact h.imp fun h => decide_eq_true h
  have hp : (sortI ns).Perm ns.reverse := (List.mergeSort_perm _ _).trans (List.reverse_perm ns).symm
  rw [hp.eq_of_pairwise (fun a b _ _ h1 h2 => by have := of_decide_eq_true h1; have := of_decide_eq_true h2; omega) h1 h2, List.reverse_reverse]
/-! ### tables of texts -/
def tabD (ps : List (Str × Int)) : List (Key × D) := ps.map fun p => (.inr p.1, .int p.2)
theorem tab_nodup {ps : List (Str × Int)} (h : (ps.map (·.1)).Nodup) : ((tabD ps).map (·.1)).Nodup := by
  have e : (tabD ps).map (·.1) = (ps.map (·.1)).map Sum.inr := by unfold tabD; rw [List.map_map, List.map_map]; rfl
  rw [e, List.nodup_iff_pairwise_ne, List.pairwise_map]
  exact (List.nodup_iff_pairwise_ne.mp h).imp fun h e => h (Sum.inr.inj e)
theorem tab_get : ∀ {ps : List (Str × Int)} {z : Str} {v : Int}, (ps.map (·.1)).Nodup → (z, v) ∈ ps → valD (tabD ps) (Sum.inr z : Key) = some (.int v)
  | [], _, _, _, h => by simp at h
  | p :: ps, z, v, hn, h => by
    have hn' := List.nodup_cons.mp (show ((p.1 :: ps.map (·.1))).Nodup from hn)
    show valD ((Sum.inr p.1, D.int p.2) :: tabD ps) (Sum.inr z) = _
    rcases List.mem_cons.mp h with e | h
    · subst e
      simp [valD, List.find?_cons]
    · have hne : p.1 ≠ z := fun e => hn'.1 (List.mem_map.mpr ⟨(z, v), h, e.symm⟩)
      have ih := tab_get hn'.2 h
      have hne' : ¬ (Sum.inr p.1 : Key) = Sum.inr z := fun e => hne (Sum.inr.inj e)
      simp only [valD, List.find?_cons, hne', decide_false]
      exact ih
def ownT (b : Int) (folk : List Str) : O := .dK (tabD (sortP (paidRows b folk)))
theorem keys_nodup {b : Int} {folk : List Str} (h : folk.Nodup) : ((sortP (paidRows b folk)).map (·.1)).Nodup := by
  have := ((sortP_perm (paidRows b folk)).map (·.1)).nodup_iff
  rw [this, paid_names h, List.map_map]
  have e : folk.map ((fun p : Str × Int => p.1) ∘ fun z => (z, own b folk z)) = folk := by
    have : ((fun p : Str × Int => p.1) ∘ fun z => (z, own b folk z)) = id := rfl
    rw [this, List.map_id]
  rw [e]
  exact h
theorem own_has {b : Int} {folk : List Str} {z : Str} (h : folk.Nodup) (hz : z ∈ folk) {S : Sto} {p : Addr} (hp : S p = some (ownT b folk)) : HasD S p (.str z) (some (.int (own b folk z))) := by
  have := HasD.k (S := S) (a := p) (Sum.inr z) hp
  rw [tab_get (keys_nodup h) (v := own b folk z) ((sortP_perm _).mem_iff.mpr (by rw [paid_names h]; exact List.mem_map.mpr ⟨z, hz, rfl⟩))] at this
  exact this
theorem dict_paid {b : Int} {folk : List Str} (h : folk.Nodup) {S : Sto} {q : Kq} (hq : ∀ p, S p = none → q (.ref p) (S.upd p (ownT b folk))) : phDictP [.lst ((sortP (paidRows b folk)).map pairD)] S q := by
  refine ⟨_, tabD (sortP (paidRows b folk)), rfl, ?_, fun p hp => ?_⟩
  · unfold tabD
    rw [asL_lst, List.map_map]
    rfl
  · rw [mergeD_nodup _ _ (by rw [List.nil_append]; exact tab_nodup (keys_nodup h)), List.nil_append]
    exact hq p hp
theorem row_ends {b : Int} {folk : List Str} (hb : 0 ≤ b) (h : folk.Nodup) (h0 : folk.map (own b folk) ≠ []) : ∃ x y : Int, atI ((folk.map (own b folk)).map D.int) 0 = some (.int x) ∧ atI ((folk.map (own b folk)).map D.int) (-1) = some (.int y) ∧ x - y ≤ 1 := by
  have e : folk.map (own b folk) = (List.range folk.length).map fun i : Nat => shareZ b i (folk.length : Nat) := map_range h fun i : Nat => shareZ b i (folk.length : Nat)
  have hl : 0 < folk.length := List.length_pos_iff.mpr fun z => h0 (by rw [z]; rfl)
  rw [e]
  refine ⟨shareZ b (0 : Nat) (folk.length : Nat), shareZ b ((folk.length - 1 : Nat)) (folk.length : Nat), ?_, ?_, share_near hb (by omega) (by omega) (by omega) (by omega)⟩
  · refine atI_nat (j := 0) ?_
    simp [hl]
  · obtain ⟨k, hk⟩ : ∃ k, folk.length = k + 1 := ⟨folk.length - 1, by omega⟩
    rw [hk, List.range_succ, List.map_append, List.map_append]
    exact atI_last _ _
theorem Bags.sub {S S' : Sto} {ps : List Addr} (h : Bags S ps) (hs : Sub S S') : Bags S' ps := fun p hp => let ⟨ns, n, g⟩ := h p hp; ⟨ns, n, hs _ _ g.at', g.len, g.pos⟩
theorem BagAt.sub {S S' : Sto} {b : Addr} {ns : List Int} {n : Int} (h : BagAt S b ns n) (hs : Sub S S') : BagAt S' b ns n := ⟨hs _ _ h.at', h.len, h.pos⟩
/-- what is held stays behind draws -/
theorem Took.keep {S S' : Sto} {b p : Addr} {ns : List Int} {o : O} (h : Took S b ns S') (hp : S p = some o) (hne : p ≠ b) : S' p = some o := by
  obtain ⟨n, h1, rfl⟩ := h
  rw [upd_off hne]; exact hp
theorem strs_own (b : Int) (folk l : List Str) : (l.map fun z => D.int (own b folk z)) = (l.map (own b folk)).map D.int := by rw [List.map_map]; rfl
theorem ok_empty : okS emptyS := by show PyData.strOk emptyS = true; decide +kernel
def zedS : Str := "zed"
theorem ok_zed : nameOk zedS = true := by decide +kernel
theorem zed_out : zedS ∉ allN := by decide +kernel
theorem StOk.snoc {b : Int} {folk : List Str} {z : Str} (h : StOk b folk) (hz : nameOk z = true) (hn : z ∉ folk) (hl : folk.length < 40) : StOk b (folk ++ [z]) :=
  ⟨h.lo, h.hi, by rw [List.length_append, List.length_singleton]; omega, fun n hm => by
    rcases List.mem_append.mp hm with q | q
    · exact h.nm n q
    · rw [List.mem_singleton] at q; rw [q]; exact hz, nodup_snoc h.nd hn, fun e => absurd e (by simp)⟩
theorem StOk.but {b : Int} {folk : List Str} {z : Str} (h : StOk b folk) (hz : z ∈ folk) (hl : 1 < folk.length) : StOk b (butFor folk z) := by
  have := but_len h.nd hz
  exact ⟨h.lo, h.hi, by have := h.len; omega, fun n hm => h.nm n (but_mem.mp hm).1, but_nodup h.nd, fun e => by rw [e] at this; simp at this; omega⟩
theorem StOk.bill {b c : Int} {folk : List Str} (h : StOk b folk) (h0 : folk ≠ []) (hc : 0 ≤ c) (hl : b + c ≤ farZ) : StOk (b + c) folk :=
  ⟨by have := h.lo; omega, hl, h.len, h.nm, h.nd, fun e => absurd e h0⟩
/-! ### rows of the three ways, told by names -/
theorem come_mem {b : Int} {folk : List Str} {z : Str} (h : folk.Nodup) (hz : z ∉ folk) {t : Str × Str × Int} (ht : t ∈ posT (comeRows b folk z)) : t.1 = z ∧ t.2.1 ∈ folk ∧ 0 < t.2.2 := by
  obtain ⟨h1, h2⟩ := pos_mem ht
  rw [come_names h hz] at h1
  obtain ⟨y, hy, rfl⟩ := List.mem_map.mp h1
  exact ⟨rfl, hy, h2⟩
theorem go_mem {b : Int} {folk : List Str} {z : Str} (h : folk.Nodup) (hz : z ∈ folk) {t : Str × Str × Int} (ht : t ∈ posT (goRows b folk z)) : t.1 ∈ folk ∧ t.2.1 = z ∧ 0 < t.2.2 := by
  obtain ⟨h1, h2⟩ := pos_mem ht
  rw [go_names h hz] at h1
  obtain ⟨y, hy, rfl⟩ := List.mem_map.mp h1
  exact ⟨(but_mem.mp hy).1, rfl, h2⟩
theorem bill_mem {b c : Int} {folk : List Str} (h : folk.Nodup) {t : Str × Str × Int} (ht : t ∈ posT (billRows b folk c)) : t.1 ∈ folk ∧ t.2.1 = emptyS ∧ 0 < t.2.2 := by
  obtain ⟨h1, h2⟩ := pos_mem ht
  rw [bill_names h] at h1
  obtain ⟨y, hy, rfl⟩ := List.mem_map.mp h1
  exact ⟨hy, rfl, h2⟩
theorem come_len {b : Int} {folk : List Str} {z : Str} : (posT (comeRows b folk z)).length ≤ folk.length := Nat.le_trans (pos_len _) (by unfold comeRows; rw [List.length_map, List.length_zipIdx]; exact Nat.le_refl _)
theorem bill_len {b c : Int} {folk : List Str} : (posT (billRows b folk c)).length ≤ folk.length := Nat.le_trans (pos_len _) (by unfold billRows; rw [List.length_map, List.length_zipIdx]; exact Nat.le_refl _)
theorem go_len {b : Int} {folk : List Str} {z : Str} : (posT (goRows b folk z)).length ≤ folk.length := Nat.le_trans (pos_len _) (by unfold goRows; rw [List.length_map]; exact Nat.le_trans (List.length_filter_le _ _) (by rw [List.length_zipIdx]; exact Nat.le_refl _))
theorem come_all {b : Int} {folk : List Str} {z : Str} (hb : 0 ≤ b) (h : folk.Nodup) (h0 : folk ≠ []) (hz : z ∉ folk) : sumT (posT (comeRows b folk z)) (fun t => decide (t.1 = z)) = own b (folk ++ [z]) z := by
  rw [come_names h hz, sumT_pos (fun t ht => by obtain ⟨y, hy, rfl⟩ := List.mem_map.mp ht; have := own_come (z := z) hb hy; show 0 ≤ own b folk y - own b (folk ++ [z]) y; omega), sum_all (fun t ht => by obtain ⟨y, hy, rfl⟩ := List.mem_map.mp ht; simp), List.map_map]
  show (folk.map fun y => own b folk y - own b (folk ++ [z]) y).sum = _
  rw [sum_sub, sum_own hb h h0]
  have := sum_own hb (nodup_snoc h hz) (by simp)
  rw [List.map_append, List.sum_append] at this
  simp only [List.map_cons, List.map_nil, List.sum_cons, List.sum_nil] at this
  omega
theorem come_one {b : Int} {folk : List Str} {z y : Str} (hb : 0 ≤ b) (h : folk.Nodup) (hz : z ∉ folk) (hy : y ∈ folk) : sumT (posT (comeRows b folk z)) (fun t => decide (t.2.1 = y)) = own b folk y - own b (folk ++ [z]) y := by
  rw [come_names h hz, sumT_pos (fun t ht => by obtain ⟨y, hy, rfl⟩ := List.mem_map.mp ht; have := own_come (z := z) hb hy; show 0 ≤ own b folk y - own b (folk ++ [z]) y; omega)]
  exact sum_one (fun _ => z) (fun y => y) (fun y => own b folk y - own b (folk ++ [z]) y) _ h hy fun x _ => rfl
theorem go_all {b : Int} {folk : List Str} {z : Str} (hb : 0 ≤ b) (h : folk.Nodup) (hz : z ∈ folk) (hl : 1 < folk.length) : sumT (posT (goRows b folk z)) (fun t => decide (t.2.1 = z)) = own b folk z := by
  have hbl := but_len h hz
  rw [go_names h hz, sumT_pos (fun t ht => by
    obtain ⟨y, hy, rfl⟩ := List.mem_map.mp ht
    obtain ⟨hy1, hy2⟩ := but_mem.mp hy
    have := own_go hb h hz hy1 hy2; show 0 ≤ own b (butFor folk z) y - own b folk y; omega), sum_all (fun t ht => by obtain ⟨y, hy, rfl⟩ := List.mem_map.mp ht; simp), List.map_map]
  show ((butFor folk z).map fun y => own b (butFor folk z) y - own b folk y).sum = _
  rw [sum_sub, sum_own hb (but_nodup h) (fun e => by rw [e] at hbl; simp at hbl; omega)]
  have h1 := sum_own hb h (fun e => by rw [e] at hl; simp at hl)
  rw [sum_but (own b folk) h hz] at h1
  omega
theorem go_one {b : Int} {folk : List Str} {z y : Str} (hb : 0 ≤ b) (h : folk.Nodup) (hz : z ∈ folk) (hy : y ∈ butFor folk z) : sumT (posT (goRows b folk z)) (fun t => decide (t.1 = y)) = own b (butFor folk z) y - own b folk y := by
  rw [go_names h hz, sumT_pos (fun t ht => by
    obtain ⟨y, hy, rfl⟩ := List.mem_map.mp ht
    obtain ⟨hy1, hy2⟩ := but_mem.mp hy
    have := own_go hb h hz hy1 hy2; show 0 ≤ own b (butFor folk z) y - own b folk y; omega)]
  exact sum_one (fun y => y) (fun _ => z) (fun y => own b (butFor folk z) y - own b folk y) _ (but_nodup h) hy fun x _ => rfl
theorem bill_all {b c : Int} {folk : List Str} (hb : 0 ≤ b) (hc : 0 ≤ c) (h : folk.Nodup) (h0 : folk ≠ []) : sumT (posT (billRows b folk c)) (fun t => decide (t.2.1 = emptyS)) = c := by
  rw [bill_names h, sumT_pos (fun t ht => by obtain ⟨y, hy, rfl⟩ := List.mem_map.mp ht; have := own_bill hb hc hy; show 0 ≤ own (b + c) folk y - own b folk y; omega), sum_all (fun t ht => by obtain ⟨y, hy, rfl⟩ := List.mem_map.mp ht; simp), List.map_map]
  show (folk.map fun y => own (b + c) folk y - own b folk y).sum = _
  rw [sum_sub, sum_own hb h h0, sum_own (by omega) h h0]
  omega
theorem bill_one {b c : Int} {folk : List Str} {y : Str} (hb : 0 ≤ b) (hc : 0 ≤ c) (h : folk.Nodup) (hy : y ∈ folk) : sumT (posT (billRows b folk c)) (fun t => decide (t.1 = y)) = own (b + c) folk y - own b folk y := by
  rw [bill_names h, sumT_pos (fun t ht => by obtain ⟨y, hy, rfl⟩ := List.mem_map.mp ht; have := own_bill hb hc hy; show 0 ≤ own (b + c) folk y - own b folk y; omega)]
  exact sum_one (fun y => y) (fun _ => emptyS) (fun y => own (b + c) folk y - own b folk y) _ h hy fun x _ => rfl
end Paid

set_option Elab.async false
set_option linter.all false
set_option maxRecDepth 100000
/-! PK9: bills told back: sights, stretches. -/
namespace Paid
open PySem L2 PL
theorem pys_runs : ∀ rs : List (Int × Int), D.pys (rs.map fun r => D.tup [.int r.1, .int r.2]) = some (rs.map fun r => PyData.tuple [.int r.1, .int r.2])
  | [] => rfl
  | r :: rs => by
    show (match D.py (.tup [.int r.1, .int r.2]), D.pys (rs.map fun r => D.tup [.int r.1, .int r.2]) with | some y, some ys => some (y :: ys) | _, _ => none) = _
    rw [pys_runs rs]; rfl
theorem lay_runs : ∀ rs : List (Int × Int), PyData.canLayAll0 (rs.map fun r => PyData.tuple [.int r.1, .int r.2]) = true ∧ PyData.depthAll (rs.map fun r => PyData.tuple [.int r.1, .int r.2]) ≤ 1
  | [] => by simp [PyData.canLayAll0, PyData.depthAll]
  | r :: rs => by
    have ih := lay_runs rs
    simp [PyData.canLayAll0, PyData.depthAll, PyData.canLay0, PyData.depth, ih.1]
    have := ih.2
    omega
theorem ne_runs {S : Sto} {q : Kq} {x : D} {rs : List (Int × Int)} (h : asL S x = some (rs.map fun r => D.tup [.int r.1, .int r.2])) (hq : q (.bl (!decide (rs = []))) S) : phNe x (.lst []) S q := by
  refine ⟨.list (rs.map fun r => PyData.tuple [.int r.1, .int r.2]), .list [], by rw [asL_res h]; unfold D.py; rw [pys_runs], rfl, ?_, rfl, ?_⟩
  · have := (lay_runs rs).2
    simp [SeqAt.shaped, PyData.canLay0, PyData.depth, (lay_runs rs).1]
    omega
  · have e : PyData.eqv (.list (rs.map fun r => PyData.tuple [.int r.1, .int r.2])) (.list []) = decide (rs = []) := by
      cases rs <;> simp [PyData.eqv, PyData.eqvAll]
    rw [e]; exact hq
/-! ### sights -/
abbrev Sight := Int × Int × Int
def sightD (s : Sight) : D := .tup [.int s.1, .int s.2.1, .int s.2.2]
structure SightOk (s : Sight) : Prop where
  m1 : 1 ≤ s.1
  m2 : s.1 ≤ 40
  p1 : 0 ≤ s.2.1
  p2 : s.2.1 < s.1
  c1 : 0 ≤ s.2.2
  c2 : s.2.2 ≤ farZ
def lowOf (s : Sight) : Int := if 0 < s.2.2 then (s.2.2 - 1) * s.1 + s.2.1 + 1 else 0
def highOf (s : Sight) : Int := s.2.2 * s.1 + s.2.1
theorem fit_iff {s : Sight} (h : SightOk s) {b : Int} (hb : 0 ≤ b) : shareZ b s.2.1 s.1 = s.2.2 ↔ lowOf s ≤ b ∧ b ≤ highOf s := by
  obtain ⟨m, p, c⟩ := s
  obtain ⟨m1, m2, p1, p2, c1, c2⟩ := h
  dsimp only at m1 m2 p1 p2 c1 c2 ⊢
  rw [share_eq hb p2 (by omega)]
  unfold lowOf highOf
  dsimp only
  have h1 : c ≤ (b - p + m - 1) / m ↔ c * m ≤ b - p + m - 1 := Int.le_ediv_iff_mul_le (by omega)
  have h2 : (b - p + m - 1) / m < c + 1 ↔ b - p + m - 1 < (c + 1) * m := Int.ediv_lt_iff_lt_mul (by omega)
  have e1 : (c + 1) * m = c * m + m := by rw [Int.add_mul, Int.one_mul]
  have e2 : (c - 1) * m = c * m - m := by rw [Int.sub_mul, Int.one_mul]
  by_cases hc : 0 < c
  · rw [if_pos hc]
    constructor
    · intro e
      have := h1.mp (by omega)
      have := h2.mp (by omega)
      omega
    · intro ⟨a, z⟩
      have := h1.mpr (by omega)
      have := h2.mpr (by omega)
      omega
  · rw [if_neg hc]
    have hc0 : c = 0 := by omega
    subst hc0
    constructor
    · intro e
      have := h2.mp (by omega)
      omega
    · intro ⟨a, z⟩
      have := h2.mpr (by omega)
      have : 0 ≤ (b - p + m - 1) / m := Int.ediv_nonneg (by omega) (by omega)
      omega
/-! ### what one of some hands falls by, when one comes -/
def fallZ (b p m : Int) : Int := shareZ b p m - shareZ b p (m + 1)
theorem fall_low {b p m c : Int} (hb : 0 ≤ b) (h0 : 0 ≤ p) (h1 : p < m) (hc : 0 < c) (h : fallZ b p m = c) : (c - 1) * (m * (m + 1)) + p < b := by
  unfold fallZ at h
  rw [share_eq hb h1 (by omega), share_eq hb (show p < m + 1 by omega) (by omega)] at h
  have a1 := Int.ediv_mul_le (b - p + m - 1) (show m ≠ 0 by omega)
  have a2 := Int.lt_ediv_add_one_mul_self (b - p + (m + 1) - 1) (show 0 < m + 1 by omega)
  generalize (b - p + m - 1) / m = u at *
  generalize (b - p + (m + 1) - 1) / (m + 1) = v at *
  have hu : u = v + c := by omega
  subst hu
  have b1 : (v + c) * m = v * m + c * m := Int.add_mul ..
  have b2 : (v + 1) * (m + 1) = v * m + v + m + 1 := by rw [Int.add_mul, Int.mul_add, Int.one_mul, Int.mul_one]; omega
  have b3 : c * (m * (m + 1)) = c * m * m + c * m := by rw [← Int.mul_assoc, Int.mul_add, Int.mul_one]
  have b4 : (c - 1) * (m * (m + 1)) = c * (m * (m + 1)) - m * (m + 1) := by rw [Int.sub_mul, Int.one_mul]
  have b5 : m * (m + 1) = m * m + m := by rw [Int.mul_add, Int.mul_one]
  rw [b1] at a1
  rw [b2] at a2
  have x1 : c * m - m < v + 1 := by omega
  have x2 : (c * m - m) * m ≤ v * m := Int.mul_le_mul_of_nonneg_right (by omega) (by omega)
  rw [Int.sub_mul] at x2
  omega
theorem fall_high {b p m c : Int} (hb : 0 ≤ b) (h0 : 0 ≤ p) (h1 : p < m) (hc : 0 ≤ c) (h : fallZ b p m = c) : b < (c + 1) * (m * (m + 1)) + p := by
  unfold fallZ at h
  rw [share_eq hb h1 (by omega), share_eq hb (show p < m + 1 by omega) (by omega)] at h
  have a1 := Int.lt_ediv_add_one_mul_self (b - p + m - 1) (show 0 < m by omega)
  have a2 := Int.ediv_mul_le (b - p + (m + 1) - 1) (show m + 1 ≠ 0 by omega)
  generalize (b - p + m - 1) / m = u at *
  generalize (b - p + (m + 1) - 1) / (m + 1) = v at *
  have hu : u = v + c := by omega
  subst hu
  have b1 : (v + c + 1) * m = v * m + c * m + m := by rw [Int.add_mul, Int.add_mul, Int.one_mul]
  have b2 : v * (m + 1) = v * m + v := by rw [Int.mul_add, Int.mul_one]
  have b3 : c * (m * (m + 1)) = c * m * m + c * m := by rw [← Int.mul_assoc, Int.mul_add, Int.mul_one]
  have b4 : (c + 1) * (m * (m + 1)) = c * (m * (m + 1)) + m * (m + 1) := by rw [Int.add_mul, Int.one_mul]
  have b5 : m * (m + 1) = m * m + m := by rw [Int.mul_add, Int.mul_one]
  rw [b1] at a1
  rw [b2] at a2
  have x1 : v ≤ c * m + m := by omega
  have x2 : v * m ≤ (c * m + m) * m := Int.mul_le_mul_of_nonneg_right x1 (by omega)
  rw [Int.add_mul] at x2
  omega
theorem fall_nonneg {b p m : Int} (hb : 0 ≤ b) (h0 : 0 ≤ p) (h1 : p < m) : 0 ≤ fallZ b p m := by
  have := share_more hb h0 h1
  unfold fallZ; omega
/-! ### stretches -/
abbrev Run := Int × Int
def runD (r : Run) : D := .tup [.int r.1, .int r.2]
structure Runs (lo hi : Int) (P : Int → Prop) (rs : List Run) : Prop where
  sep : rs.Pairwise fun r s => r.2 + 1 < s.1
  wf : ∀ r ∈ rs, lo ≤ r.1 ∧ r.1 ≤ r.2 ∧ r.2 < hi
  all : ∀ b, lo ≤ b → b < hi → (P b ↔ ∃ r ∈ rs, r.1 ≤ b ∧ b ≤ r.2)
theorem runs_nil {lo : Int} {P : Int → Prop} : Runs lo lo P [] := ⟨.nil, fun r h => absurd h (by simp), fun b h1 h2 => by omega⟩
theorem runs_not {lo h : Int} {P : Int → Prop} {rs : List Run} (R : Runs lo h P rs) (hp : ¬ P h) : Runs lo (h + 1) P rs :=
  ⟨R.sep, fun r hr => by have := R.wf r hr; omega, fun b h1 h2 => by
    by_cases e : b = h
    · subst e
      exact ⟨fun z => absurd z hp, fun ⟨r, hr, z1, z2⟩ => by have := R.wf r hr; omega⟩
    · exact R.all b h1 (by omega)⟩
theorem runs_new {lo h : Int} {P : Int → Prop} {rs : List Run} (R : Runs lo h P rs) (hl : lo ≤ h) (hp : P h) (hn : ∀ r ∈ rs, r.2 + 1 < h) : Runs lo (h + 1) P (rs ++ [(h, h)]) := by
  refine ⟨List.pairwise_append.mpr ⟨R.sep, by simp, fun a ha b hb => ?_⟩, fun r hr => ?_, fun b h1 h2 => ?_⟩
  · rw [List.mem_singleton] at hb; subst hb; exact hn a ha
  · rcases List.mem_append.mp hr with hr | hr
    · have := R.wf r hr; omega
    · rw [List.mem_singleton] at hr; subst hr; exact ⟨hl, by simp, by simp; omega⟩
  · by_cases e : b = h
    · subst e
      exact ⟨fun _ => ⟨(b, b), by simp, by simp, by simp⟩, fun _ => hp⟩
    · rw [R.all b h1 (by omega)]
      constructor
      · rintro ⟨r, hr, z⟩; exact ⟨r, List.mem_append_left _ hr, z⟩
      · rintro ⟨r, hr, z1, z2⟩
        rcases List.mem_append.mp hr with hr | hr
        · exact ⟨r, hr, z1, z2⟩
        · rw [List.mem_singleton] at hr; subst hr; simp at z1 z2; omega
theorem runs_more {lo h : Int} {P : Int → Prop} {rs : List Run} {l : Int} (R : Runs lo h P (rs ++ [(l, h - 1)])) (hp : P h) : Runs lo (h + 1) P (rs ++ [(l, h)]) := by
  obtain ⟨s1, _, s3⟩ := List.pairwise_append.mp R.sep
  have w := R.wf (l, h - 1) (by simp)
  refine ⟨List.pairwise_append.mpr ⟨s1, by simp, fun a ha b hb => ?_⟩, fun r hr => ?_, fun b h1 h2 => ?_⟩
  · rw [List.mem_singleton] at hb; subst hb
    have := s3 a ha (l, h - 1) (by simp)
    exact this
  · rcases List.mem_append.mp hr with hr | hr
    · have := R.wf r (List.mem_append_left _ hr); omega
    · rw [List.mem_singleton] at hr; subst hr; simp at w ⊢; omega
  · by_cases e : b = h
    · subst e
      refine ⟨fun _ => ⟨(l, b), by simp, ?_, by simp⟩, fun _ => hp⟩
      simp at w ⊢; omega
    · rw [R.all b h1 (by omega)]
      constructor
      · rintro ⟨r, hr, z1, z2⟩
        rcases List.mem_append.mp hr with hr | hr
        · exact ⟨r, List.mem_append_left _ hr, z1, z2⟩
        · rw [List.mem_singleton] at hr; subst hr
          exact ⟨(l, h), by simp, z1, by simp at z2 ⊢; omega⟩
      · rintro ⟨r, hr, z1, z2⟩
        rcases List.mem_append.mp hr with hr | hr
        · exact ⟨r, List.mem_append_left _ hr, z1, z2⟩
        · rw [List.mem_singleton] at hr; subst hr
          exact ⟨(l, h - 1), by simp, z1, by simp at z2 ⊢; omega⟩
/-- the run before the last one ends far ahead -/
theorem runs_last {lo h : Int} {P : Int → Prop} {rs : List Run} {r : Run} (R : Runs lo h P (rs ++ [r])) (hne : r.2 ≠ h - 1) : ∀ x ∈ rs ++ [r], x.2 + 1 < h := fun x hx => by
  obtain ⟨_, _, s3⟩ := List.pairwise_append.mp R.sep
  have w := R.wf r (by simp)
  rcases List.mem_append.mp hx with hx | hx
  · have := s3 x hx r (by simp); omega
  · rw [List.mem_singleton] at hx; subst hx; omega
def lowsOf (ss : List Sight) : List Int := 0 :: (ss.filter fun s => decide (0 < s.2.2)).map lowOf
theorem lowsOf_len (ss : List Sight) : (lowsOf ss).length ≤ ss.length + 1 := by
  unfold lowsOf
  rw [List.length_cons, List.length_map]
  have := List.length_filter_le (fun s : Sight => decide (0 < s.2.2)) ss
  omega
theorem lowsOf_snoc (ss : List Sight) (s : Sight) : lowsOf (ss ++ [s]) = lowsOf ss ++ if 0 < s.2.2 then [lowOf s] else [] := by
  unfold lowsOf
  rw [List.filter_append, List.map_append, List.cons_append]
  by_cases h : 0 < s.2.2
  · rw [if_pos h, List.filter_cons_of_pos (by simpa using h)]; rfl
  · rw [if_neg h, List.filter_cons_of_neg (by simpa using h)]; rfl
theorem low_nonneg {s : Sight} (h : SightOk s) : 0 ≤ lowOf s := by
  unfold lowOf
  split
  · have := Int.mul_nonneg (show 0 ≤ s.2.2 - 1 by omega) (show 0 ≤ s.1 by have := h.m1; omega)
    have := h.p1
    omega
  · omega
theorem lows_nonneg {ss : List Sight} (h : ∀ s ∈ ss, SightOk s) {low : Int} (hl : low ∈ lowsOf ss) : 0 ≤ low := by
  unfold lowsOf at hl
  rcases List.mem_cons.mp hl with e | e
  · omega
  · obtain ⟨s, hs, rfl⟩ := List.mem_map.mp e
    exact low_nonneg (h s (List.mem_filter.mp hs).1)
/-- all sights fit at b -/
def Fits (ss : List Sight) (b : Int) : Prop := 0 ≤ b ∧ ∀ s ∈ ss, shareZ b s.2.1 s.1 = s.2.2
theorem fits_range {ss : List Sight} (h : ∀ s ∈ ss, SightOk s) {low high : Int} (hl1 : low ∈ lowsOf ss) (hl2 : ∀ y ∈ lowsOf ss, y ≤ low) (hh1 : high ∈ ss.map highOf) (hh2 : ∀ y ∈ ss.map highOf, high ≤ y) : ∀ b, Fits ss b ↔ low ≤ b ∧ b ≤ high := fun b => by
  have hl0 := lows_nonneg h hl1
  have hle : ∀ s ∈ ss, lowOf s ≤ low := fun s hs => by
    by_cases hc : 0 < s.2.2
    · exact hl2 _ (List.mem_cons_of_mem _ (List.mem_map.mpr ⟨s, List.mem_filter.mpr ⟨hs, by simpa using hc⟩, rfl⟩))
    · unfold lowOf; rw [if_neg hc]; exact hl0
  constructor
  · rintro ⟨h0, hf⟩
    constructor
    · rcases List.mem_cons.mp hl1 with e | e
      · omega
      · obtain ⟨s, hs, rfl⟩ := List.mem_map.mp e
        have hs := (List.mem_filter.mp hs).1
        exact ((fit_iff (h s hs) h0).mp (hf s hs)).1
    · obtain ⟨s, hs, rfl⟩ := List.mem_map.mp hh1
      exact ((fit_iff (h s hs) h0).mp (hf s hs)).2
  · rintro ⟨z1, z2⟩
    refine ⟨by omega, fun s hs => (fit_iff (h s hs) (by omega)).mpr ⟨?_, ?_⟩⟩
    · have := hle s hs; omega
    · have := hh2 _ (List.mem_map.mpr ⟨s, hs, rfl⟩); omega
def phSeen : PhA := fun ds S q => ∃ s, ds = [sightD s] ∧ SightOk s ∧ q (.bl true) S
def phBillsOf : PhA := fun ds S q => ∃ ss : List Sight, ds = [.tup (ss.map sightD)] ∧ 1 ≤ ss.length ∧ ss.length ≤ 10 ∧ (∀ s ∈ ss, SightOk s) ∧
  ∀ low high : Int, 0 ≤ low → (∀ b, Fits ss b ↔ low ≤ b ∧ b ≤ high) → (∃ s ∈ ss, high = highOf s) →
    (low ≤ high → q (.tup [.int low, .int high]) S) ∧ (high < low → q .non S)
def phFalls : PhA := fun ds S q => ∃ b p m : Int, ds = [.int b, .int p, .int m] ∧ 0 < m ∧ m < 100000000 ∧ q (.int (fallZ b p m)) S
def loR (m c : Int) : Int := if (c - 1) * (m * (m + 1)) > 0 then (c - 1) * (m * (m + 1)) else 0
def hiR (m p c : Int) : Int := (c + 1) * (m * (m + 1)) + p + 1
def phHanding : PhA := fun ds S q => ∃ m p c : Int, ds = [.int m, .int p, .int c] ∧ 1 ≤ m ∧ m ≤ 39 ∧ 0 ≤ p ∧ p < m ∧ 0 ≤ c ∧ c ≤ 1000000000000000 ∧
  ∀ rs : List Run, Runs (loR m c) (hiR m p c) (fun b => fallZ b p m = c) rs → rs.length ≤ 100000 → NewL S (rs.map runD) q
theorem whole_le {m : Int} (h1 : 1 ≤ m) (h2 : m ≤ 39) : 0 < m * (m + 1) ∧ m * (m + 1) ≤ 1560 := by
  have e : m * (m + 1) = m * m + m := by rw [Int.mul_add, Int.mul_one]
  have h3 : 0 < m * m := Int.mul_pos (by omega) (by omega)
  have h4 : m * m ≤ m * 39 := Int.mul_le_mul_of_nonneg_left h2 (by omega)
  omega
theorem range_len {m p c : Int} (h1 : 1 ≤ m) (h2 : m ≤ 39) (hp : p < m) (hp0 : 0 ≤ p) (hc : 0 ≤ c) (hc2 : c ≤ 1000000000000000) : loR m c ≤ hiR m p c ∧ hiR m p c - loR m c ≤ 4000 ∧ 0 ≤ loR m c ∧ hiR m p c ≤ 2000000000000000000 := by
  obtain ⟨w1, w2⟩ := whole_le h1 h2
  unfold loR hiR
  generalize m * (m + 1) = w at *
  have e1 : (c - 1) * w = c * w - w := by rw [Int.sub_mul, Int.one_mul]
  have e2 : (c + 1) * w = c * w + w := by rw [Int.add_mul, Int.one_mul]
  have e3 : c * w ≤ c * 1560 := Int.mul_le_mul_of_nonneg_left w2 hc
  have e4 : 0 ≤ c * w := Int.mul_nonneg hc (by omega)
  rw [e1, e2]
  split <;> omega
/-- around a run nothing fits -/
theorem runs_edges {m p c : Int} {rs : List Run} (h1 : 1 ≤ m) (h2 : m ≤ 39) (hp0 : 0 ≤ p) (hp : p < m) (hc : 0 ≤ c) (R : Runs (loR m c) (hiR m p c) (fun b => fallZ b p m = c) rs) {r : Run} (hr : r ∈ rs) :
    0 ≤ r.1 ∧ r.1 ≤ r.2 ∧ (∀ b, r.1 ≤ b → b ≤ r.2 → fallZ b p m = c) ∧ (0 ≤ r.1 - 1 → fallZ (r.1 - 1) p m ≠ c) ∧ fallZ (r.2 + 1) p m ≠ c ∧ r.2 < (c + 1) * (m * (m + 1)) + p := by
  obtain ⟨w1, w2, w3⟩ := R.wf r hr
  have hl0 : 0 ≤ loR m c := by unfold loR; split <;> omega
  have hin : ∀ b, r.1 ≤ b → b ≤ r.2 → fallZ b p m = c := fun b z1 z2 => (R.all b (by omega) (by omega)).mpr ⟨r, hr, z1, z2⟩
  have hhi := fall_high (by omega) hp0 hp hc (hin r.2 (by omega) (by omega))
  have out : ∀ b, loR m c ≤ b → b < hiR m p c → (b = r.1 - 1 ∨ b = r.2 + 1) → fallZ b p m ≠ c := fun b z1 z2 z3 e => by
    obtain ⟨t, ht, y1, y2⟩ := (R.all b z1 z2).mp e
    by_cases ert : t = r
    · subst ert; omega
    · obtain ⟨i, hi, rfl⟩ := List.getElem_of_mem ht
      obtain ⟨j, hj, rfl⟩ := List.getElem_of_mem hr
      have hs := List.pairwise_iff_getElem.mp R.sep
      rcases Nat.lt_trichotomy i j with g | g | g
      · have := hs i j hi hj g; omega
      · subst g; exact ert rfl
      · have := hs j i hj hi g; omega
  refine ⟨by omega, w2, hin, fun z => ?_, out _ (by omega) (by unfold hiR; omega) (.inr rfl), hhi⟩
  by_cases e : loR m c ≤ r.1 - 1
  · exact out _ e (by omega) (.inl rfl)
  · by_cases hc0 : 0 < c
    · have := fall_low (by omega) hp0 hp hc0 (hin r.1 (by omega) w2)
      have hlo : loR m c ≤ (c - 1) * (m * (m + 1)) := by
        have : 0 ≤ (c - 1) * (m * (m + 1)) := Int.mul_nonneg (by omega) (by have := whole_le h1 h2; omega)
        unfold loR; split <;> omega
      omega
    · have hc1 : c = 0 := by omega
      subst hc1
      have hlo : loR m 0 = 0 := by
        have := whole_le h1 h2
        unfold loR
        generalize m * (m + 1) = w at *
        rw [if_neg (by omega)]
      omega
/-! ### by names -/
theorem names_state {b : Int} {m : Nat} (hb : 0 ≤ b) (hf : b ≤ farZ) (h1 : 1 ≤ m) (h2 : m ≤ 40) : StOk b (allN.take m) ∧ (allN.take m).length = m :=
  have hl : (allN.take m).length = m := by rw [List.length_take, show allN.length = 62 from by decide +kernel]; omega
  ⟨⟨hb, hf, by omega, fun z hz => allN_ok z (List.mem_of_mem_take hz), allN_nodup.sublist (List.take_sublist _ _), fun e => by rw [e] at hl; simp at hl; omega⟩, hl⟩
theorem own_at {b : Int} {folk : List Str} {i : Nat} {z : Str} (h : folk.Nodup) (hz : folk[i]? = some z) : own b folk z = shareZ b i (folk.length : Nat) := by
  obtain ⟨hi, e⟩ := List.getElem?_eq_some_iff.mp hz
  unfold own
  rw [← e, h.idxOf_getElem i hi]
def phPaidAt : PhA := fun ds S q => ∃ (b : Int) (m p : Nat), ds = [.int b, .int m, .int p] ∧ 0 ≤ b ∧ b ≤ farZ ∧ 1 ≤ m ∧ m ≤ 40 ∧ p < m ∧ q (.int (shareZ b p m)) S
def phHandedTo : PhA := fun ds S q => ∃ (b : Int) (m p : Nat), ds = [.int b, .int m, .int p] ∧ 0 ≤ b ∧ b ≤ farZ ∧ 1 ≤ m ∧ m ≤ 39 ∧ p < m ∧ q (.int (fallZ b p m)) S
def phAllFit : PhA := fun ds S q => ∃ (b : Int) (ss : List Sight), ds = [.int b, .lst (ss.map sightD)] ∧ 0 ≤ b ∧ b ≤ farZ ∧ (∀ s ∈ ss, SightOk s) ∧ ss.length ≤ 10 ∧ q (.bl (ss.all fun s => decide (shareZ b s.2.1 s.1 = s.2.2))) S
/-! ### the law's own steps -/
theorem runs_filter_none {b : Int} : ∀ {rs : List Run}, (∀ r ∈ rs, ¬ (r.1 ≤ b ∧ b ≤ r.2)) → (rs.filter fun r => decide (r.1 ≤ b) && decide (b ≤ r.2)) = [] := fun h => by
  rw [List.filter_eq_nil_iff]
  intro r hr
  have := h r hr
  simpa using this
theorem runs_one {b : Int} : ∀ {rs : List Run}, rs.Pairwise (fun r s => r.2 + 1 < s.1) → (∀ r ∈ rs, r.1 ≤ r.2) → (∃ r ∈ rs, r.1 ≤ b ∧ b ≤ r.2) → ((rs.filter fun r => decide (r.1 ≤ b) && decide (b ≤ r.2)).map fun _ => (1 : Int)) = [1]
  | [], _, _, h => by obtain ⟨r, hr, _⟩ := h; simp at hr
  | x :: rs, hp, hw, h => by
    obtain ⟨hp1, hp2⟩ := List.pairwise_cons.mp hp
    have hw2 : ∀ r ∈ rs, r.1 ≤ r.2 := fun r hr => hw r (List.mem_cons_of_mem _ hr)
    by_cases hx : x.1 ≤ b ∧ b ≤ x.2
    · rw [List.filter_cons_of_pos (by simpa using hx), runs_filter_none fun r hr => by have := hp1 r hr; omega]
      rfl
    · rw [List.filter_cons_of_neg (by simpa using hx)]
      refine runs_one hp2 hw2 ?_
      obtain ⟨r, hr, z⟩ := h
      rcases List.mem_cons.mp hr with e | e
      · subst e; exact absurd z hx
      · exact ⟨r, e, z⟩
theorem cut_runs (rs : List Run) (lo hi : Option Int) : ∃ ys : List Run, cutD (rs.map runD) lo hi = ys.map runD ∧ (∀ y ∈ ys, y ∈ rs) ∧ ys.length ≤ rs.length := by
  unfold cutD
  rw [← List.map_drop, ← List.map_take]
  refine ⟨_, rfl, fun y hy => List.mem_of_mem_drop (List.mem_of_mem_take hy), ?_⟩
  rw [List.length_take, List.length_drop]
  omega
theorem zip_runs (rs : List Run) : zipD (rs.map runD) ((rs.map runD).drop 1) = (rs.zip (rs.drop 1)).map fun p => .key [runD p.1, runD p.2] := by
  unfold zipD
  rw [← List.map_drop, List.zip_map, List.map_map]
  rfl
theorem zip_next {rs : List Run} (h : rs.Pairwise fun r s => r.2 + 1 < s.1) {p : Run × Run} (hp : p ∈ rs.zip (rs.drop 1)) : p.1 ∈ rs ∧ p.2 ∈ rs ∧ p.1.2 + 1 < p.2.1 := by
  obtain ⟨i, hi, e⟩ := List.getElem_of_mem hp
  rw [List.length_zip, List.length_drop] at hi
  rw [List.getElem_zip] at e
  subst e
  refine ⟨List.getElem_mem _, List.mem_of_mem_drop (List.getElem_mem _), ?_⟩
  have := List.pairwise_iff_getElem.mp h i (i + 1) (by omega) (by omega) (by omega)
  rw [List.getElem_drop]
  have e2 : 1 + i = i + 1 := by omega
  simp only [e2]
  exact this
theorem high_le {B : Int} {s : Sight} (h : SightOk s) (hB : 0 ≤ B) (hf : shareZ B s.2.1 s.1 = s.2.2) : highOf s ≤ B + 40 := by
  obtain ⟨m1, m2, p1, p2, c1, c2⟩ := h
  rw [share_eq hB p2 (by omega)] at hf
  have := Int.ediv_mul_le (B - s.2.1 + s.1 - 1) (show s.1 ≠ 0 by omega)
  rw [hf] at this
  unfold highOf
  omega
theorem fits_take {ss : List Sight} {b : Int} (h : Fits ss b) (k : Nat) : Fits (ss.take k) b := ⟨h.1, fun s hs => h.2 s (List.mem_of_mem_take hs)⟩
theorem fits_all {ss : List Sight} {b : Int} (h0 : 0 ≤ b) : (ss.all fun s => decide (shareZ b s.2.1 s.1 = s.2.2)) = true ↔ Fits ss b := by
  rw [List.all_eq_true]
  constructor
  · intro h; exact ⟨h0, fun s hs => of_decide_eq_true (h s hs)⟩
  · intro h s hs; exact decide_eq_true (h.2 s hs)
theorem bags_del {S : Sto} {ps : List Addr} {p : Addr} (h : Bags S ps) (hn : p ∉ ps) : Bags (S.del p) ps := fun a ha => by
  obtain ⟨ns, n, g⟩ := h a ha
  refine ⟨ns, n, ?_, g.len, g.pos⟩
  unfold Sto.del
  rw [if_neg (fun e : a = p => hn (e ▸ ha))]
  exact g.at'
theorem bag_del {S : Sto} {b p : Addr} {ns : List Int} {n : Int} (h : BagAt S b ns n) (hne : b ≠ p) : BagAt (S.del p) b ns n := ⟨by
  unfold Sto.del
  rw [if_neg hne]
  exact h.at', h.len, h.pos⟩
theorem bags_fresh {S : Sto} {ps : List Addr} {p : Addr} (h : Bags S ps) (hp : S p = none) : p ∉ ps := fun hm => by
  obtain ⟨ns, n, g⟩ := h p hm
  rw [g.at'] at hp; cases hp
end Paid

set_option Elab.async false
set_option linter.all false
set_option maxRecDepth 100000
/-! PK14: how many are enough, what goes through hands. -/
namespace Paid
open PySem L2 PL
def phLeast : PhA := fun ds S q => ∃ b c : Int, ds = [.int b, .int c] ∧ 0 ≤ b ∧ b ≤ farZ ∧ 1 ≤ c ∧ c ≤ farZ ∧ q (.int ((b + c - 1) / c)) S
def thruZ (b : Int) (m : Nat) : Int := ((List.range m).map fun i : Nat => b / ((1 + (i : Int)) + 1)).sum
def phThrough : PhA := fun ds S q => ∃ (b : Int) (m : Nat), ds = [.int b, .int m] ∧ 0 ≤ b ∧ b ≤ farZ ∧ 1 ≤ m ∧ m ≤ 1000000 ∧ q (.int (thruZ b m)) S
def phMost : PhA := fun ds S q => ∃ (b : Int) (m : Nat), ds = [.int b, .int m] ∧ 0 ≤ b ∧ b ≤ farZ ∧ 1 ≤ m ∧ m ≤ 40 ∧ q (.int (shareZ b 0 m)) S
theorem thru_succ (b : Int) (m : Nat) : thruZ b (m + 1) = thruZ b m + b / ((m : Int) + 2) := by
  unfold thruZ
  rw [List.range_succ, List.map_append, List.sum_append]
  simp only [List.map_cons, List.map_nil, List.sum_cons, List.sum_nil]
  rw [show (1 + (m : Int)) + 1 = (m : Int) + 2 by omega]
  omega
theorem thru_zero (m : Nat) : thruZ 0 m = 0 := by
  induction m with
  | zero => rfl
  | succ m ih => rw [thru_succ, ih, Int.zero_ediv]; rfl
theorem most_is {b : Int} {folk : List Str} (h : StOk b folk) (h0 : folk ≠ []) {m : Int} (hm : m ∈ (sortP (paidRows b folk)).map fun p : Str × Int => p.2) (hl : ∀ y ∈ (sortP (paidRows b folk)).map fun p : Str × Int => p.2, y ≤ m) : m = shareZ b 0 (folk.length : Nat) := by
  have hp := (sortP_perm (paidRows b folk)).map fun p : Str × Int => p.2
  have e : (paidRows b folk).map (fun p : Str × Int => p.2) = folk.map (own b folk) := by rw [paid_names h.nd, List.map_map]; rfl
  rw [e] at hp
  have h1 := hp.mem_iff.mp hm
  obtain ⟨z, hz, rfl⟩ := List.mem_map.mp h1
  have hlen : 0 < folk.length := List.length_pos_iff.mpr h0
  have h2 : own b folk folk[0] = shareZ b 0 (folk.length : Nat) := by
    have := own_at (b := b) (i := 0) h.nd (List.getElem?_eq_getElem hlen)
    exact this
  have h3 := hl (own b folk folk[0]) (hp.mem_iff.mpr (List.mem_map.mpr ⟨_, List.getElem_mem hlen, rfl⟩))
  have h4 : own b folk z ≤ shareZ b 0 (folk.length : Nat) := share_anti h.lo (by omega) (by omega) (idx_lt hz)
  omega
/-! ### the least many -/
theorem least_facts {b c : Int} (hb : 0 ≤ b) (hc : 1 ≤ c) : 0 ≤ (b + c - 1) / c ∧ b ≤ (b + c - 1) / c * c ∧ ((b + c - 1) / c - 1) * c < b ∧ ((b + c - 1) / c = 0 ↔ b = 0) ∧ (b + c - 1) / c ≤ b := by
  have h0 : 0 ≤ (b + c - 1) / c := Int.ediv_nonneg (by omega) (by omega)
  have h1 := Int.ediv_mul_le (b + c - 1) (show c ≠ 0 by omega)
  have h2 := Int.lt_ediv_add_one_mul_self (b + c - 1) (show 0 < c by omega)
  generalize (b + c - 1) / c = k at *
  rw [Int.add_mul, Int.one_mul] at h2
  have h3 : (k - 1) * c = k * c - c := by rw [Int.sub_mul, Int.one_mul]
  have h4 : k * 1 ≤ k * c := Int.mul_le_mul_of_nonneg_left hc h0
  refine ⟨h0, by omega, by omega, ⟨fun e => by subst e; omega, fun e => ?_⟩, ?_⟩
  · subst e
    by_cases hk : k = 0
    · exact hk
    · have : 1 * c ≤ k * c := Int.mul_le_mul_of_nonneg_right (by omega) (by omega)
      omega
  · by_cases hk : 1 ≤ k
    · have : (k - 1) * 1 ≤ (k - 1) * c := Int.mul_le_mul_of_nonneg_left hc (by omega)
      omega
    · omega
theorem most_le {b c : Int} {m : Nat} (hb : 0 ≤ b) (hm : 1 ≤ m) : shareZ b 0 m ≤ c ↔ b ≤ m * c := by
  rw [share_eq hb (by omega) (by omega)]
  have : (b - 0 + (m : Int) - 1) / m < c + 1 ↔ b - 0 + (m : Int) - 1 < (c + 1) * m := Int.ediv_lt_iff_lt_mul (by omega)
  rw [Int.add_mul, Int.one_mul, Int.mul_comm c] at this
  omega
theorem come_sum {b : Int} {folk : List Str} (h : StOk b folk) (h0 : folk ≠ []) (hz : zedS ∉ folk) : ((posT (comeRows b folk zedS)).map fun t : Str × Str × Int => t.2.2).sum = b / ((folk.length : Nat) + 1) := by
  have := come_all h.lo h.nd h0 hz
  rw [own_last hz, share_last h.lo (by omega)] at this
  rw [← this]
  unfold sumT
  rw [List.filter_eq_self.mpr fun t ht => by rw [(come_mem h.nd hz ht).1]; simp]
theorem div_less {b : Int} {m : Int} (hb : 0 ≤ b) (hm : 1 ≤ m) : b / (m + 1) ≤ b / m := by
  rw [Int.le_ediv_iff_mul_le (by omega)]
  have h1 := Int.ediv_mul_le b (show m + 1 ≠ 0 by omega)
  have h2 : 0 ≤ b / (m + 1) := Int.ediv_nonneg hb (by omega)
  rw [Int.mul_add, Int.mul_one] at h1
  omega
/-! ### a great sum by stretches of one quotient -/
def sumN (n : Nat) : Nat → Nat → Nat
  | _, 0 => 0
  | a, k + 1 => n / a + sumN n (a + 1) k
theorem sumN_add (n : Nat) : ∀ (j a k : Nat), sumN n a (j + k) = sumN n a j + sumN n (a + j) k
  | 0, a, k => by rw [Nat.zero_add]; show _ = 0 + sumN n (a + 0) k; rw [Nat.zero_add, Nat.add_zero]
  | j + 1, a, k => by
    rw [show j + 1 + k = (j + k) + 1 by omega]
    show n / a + sumN n (a + 1) (j + k) = (n / a + sumN n (a + 1) j) + sumN n (a + (j + 1)) k
    rw [sumN_add n j (a + 1) k, show a + 1 + j = a + (j + 1) by omega]
    omega
theorem sumN_flat (n q : Nat) : ∀ (k a : Nat), (∀ i, a ≤ i → i < a + k → n / i = q) → sumN n a k = q * k
  | 0, a, _ => rfl
  | k + 1, a, h => by
    show n / a + sumN n (a + 1) k = q * (k + 1)
    rw [h a (by omega) (by omega), sumN_flat n q k (a + 1) fun i h1 h2 => h i (by omega) (by omega), Nat.mul_add, Nat.mul_one]
    omega
/-- from a, k more, in at most f stretches -/
def sumB (n : Nat) : Nat → Nat → Nat → Nat
  | 0, a, k => sumN n a k
  | f + 1, a, k => if n / a = 0 then 0 else if n / (n / a) + 1 - a < k then n / a * (n / (n / a) + 1 - a) + sumB n f (n / (n / a) + 1) (k - (n / (n / a) + 1 - a)) else n / a * k
theorem flat_at {n a i : Nat} (ha : 0 < a) (hq : 0 < n / a) (h1 : a ≤ i) (h2 : i ≤ n / (n / a)) : n / i = n / a := by
  have e1 : n / i ≤ n / a := Nat.div_le_div_left h1 ha
  have e2 : n / a ≤ n / i := by
    rw [Nat.le_div_iff_mul_le (by omega)]
    have := Nat.div_mul_le_self n (n / a)
    calc n / a * i ≤ n / a * (n / (n / a)) := Nat.mul_le_mul_left _ h2
      _ ≤ n := by rw [Nat.mul_comm]; exact this
  omega
theorem sumB_eq (n : Nat) : ∀ (f a k : Nat), 0 < a → sumB n f a k = sumN n a k
  | 0, a, k, _ => rfl
  | f + 1, a, k, ha => by
    unfold sumB
    by_cases h0 : n / a = 0
    · rw [if_pos h0, sumN_flat n 0 k a fun i h1 h2 => Nat.eq_zero_of_le_zero (h0 ▸ Nat.div_le_div_left (a := n) h1 ha), Nat.zero_mul]
    · have hq : 0 < n / a := Nat.pos_of_ne_zero h0
      have hle : a ≤ n / (n / a) := by
        rw [Nat.le_div_iff_mul_le hq, Nat.mul_comm]
        exact Nat.div_mul_le_self n a
      have hin : ∀ i, a ≤ i → i ≤ n / (n / a) → n / i = n / a := fun i h1 h2 => flat_at ha hq h1 h2
      rw [if_neg h0]
      revert hle hin
      generalize n / (n / a) = w
      intro hle hin
      by_cases hk : w + 1 - a < k
      · rw [if_pos hk, sumB_eq n f _ _ (by omega)]
        obtain ⟨r, rfl⟩ : ∃ r, k = (w + 1 - a) + r := ⟨k - (w + 1 - a), by omega⟩
        rw [sumN_add n (w + 1 - a) a r, sumN_flat n (n / a) (w + 1 - a) a fun i h1 h2 => hin i h1 (by omega), show a + (w + 1 - a) = w + 1 by omega, show w + 1 - a + r - (w + 1 - a) = r by omega]
      · rw [if_neg hk, sumN_flat n (n / a) k a fun i h1 h2 => hin i h1 (by omega)]
theorem thru_sumN (n : Nat) : ∀ m : Nat, thruZ (n : Nat) m = (sumN n 2 m : Nat)
  | 0 => rfl
  | m + 1 => by
    rw [thru_succ, thru_sumN n m, sumN_add n m 2 1]
    show _ = (((sumN n 2 m) + (n / (2 + m) + 0) : Nat) : Int)
    rw [Nat.add_zero, Int.natCast_add, Int.natCast_ediv]
    congr 2
    omega
theorem great_sum : thruZ 1000000 1000000 = 12970034 := by
  have h := thru_sumN 1000000 1000000
  rw [← sumB_eq 1000000 3000 2 1000000 (by decide), show sumB 1000000 3000 2 1000000 = 12970034 by decide +kernel] at h
  exact h
theorem small_sum : thruZ 10 3 = 10 := by decide +kernel
end Paid

set_option Elab.async false
set_option linter.all false
set_option maxRecDepth 100000
/-! PKS: the order of pairs and triples; what is sorted is told by what it holds. -/
namespace Paid
open PySem L2 PL
theorem str_ext {x y : Str} (h : x.cps.toList = y.cps.toList) : x = y := by
  obtain ⟨a⟩ := x
  obtain ⟨b⟩ := y
  exact congrArg Str.mk (Array.toList_inj.mp h)
theorem str_ne {x y : Str} (h : x ≠ y) : x.cps.toList ≠ y.cps.toList := fun e => h (str_ext e)
def ltS (x y : Str) : Prop := x.cps.toList < y.cps.toList
instance (x y : Str) : Decidable (ltS x y) := inferInstanceAs (Decidable (x.cps.toList < y.cps.toList))
theorem ltS_irrefl (x : Str) : ¬ ltS x x := List.lt_irrefl _
theorem ltS_trans {x y z : Str} (h : ltS x y) (h' : ltS y z) : ltS x z := List.lt_trans h h'
theorem ltS_tri {x y : Str} (h : ¬ ltS x y) (h' : ¬ ltS y x) : x = y := str_ext (List.le_antisymm (List.not_lt.mp h') (List.not_lt.mp h))
def ltT (a b : Str × Str × Int) : Prop := ltS a.1 b.1 ∨ (a.1 = b.1 ∧ (ltS a.2.1 b.2.1 ∨ (a.2.1 = b.2.1 ∧ a.2.2 < b.2.2)))
instance (a b : Str × Str × Int) : Decidable (ltT a b) := by unfold ltT; infer_instance
def ltP (a b : Str × Int) : Prop := ltS a.1 b.1 ∨ (a.1 = b.1 ∧ a.2 < b.2)
instance (a b : Str × Int) : Decidable (ltP a b) := by unfold ltP; infer_instance
theorem alike_str (x y : Str) : PySem.W.alike (.str x) (.str y) = true := by simp [PySem.W.alike]
theorem alike_int (x y : Int) : PySem.W.alike (.int x) (.int y) = true := by simp [PySem.W.alike]
theorem eqv_int (x y : Int) : PyData.eqv (.int x) (.int y) = decide (x = y) := by simp [PyData.eqv]; rfl
theorem lt_tripE (a b : Str × Str × Int) : PySem.W.dataLt (tripE a) (tripE b) = decide (ltT a b) := by
  unfold tripE
  have hz : PySem.W.rowLt [] [] = false := by rw [show ([] : List PyData) = ([] : List Int).map PyData.int from rfl, PySem.W.dataLt_ints]; simp
  unfold PySem.W.rowLt at hz
  rw [PySem.W.dataLt_tuple, PySem.W.dataLt_cons (alike_str _ _), PySem.W.dataLt_cons (alike_str _ _), PySem.W.dataLt_cons (alike_int _ _), hz, PySem.W.dataLt_str, PySem.W.dataLt_str, PySem.W.dataLt_int, eqv_str, eqv_str, eqv_int]
  unfold ltT ltS
  by_cases h1 : a.1 = b.1
  · have i1 : ¬ (b.1.cps.toList < b.1.cps.toList) := List.lt_irrefl _
    by_cases h2 : a.2.1 = b.2.1
    · have i2 : ¬ (b.2.1.cps.toList < b.2.1.cps.toList) := List.lt_irrefl _
      by_cases h3 : a.2.2 = b.2.2
      · simp [h1, h2, h3, i1, i2]
      · simp [h1, h2, h3, i1, i2]
    · simp [h1, h2, i1]
  · simp [h1]
theorem lt_pairE (a b : Str × Int) : PySem.W.dataLt (pairE a) (pairE b) = decide (ltP a b) := by
  unfold pairE
  rw [PySem.W.dataLt_pair (alike_str _ _) (alike_int _ _), PySem.W.dataLt_str, PySem.W.dataLt_int, eqv_str, eqv_int]
  unfold ltP ltS
  by_cases h1 : a.1 = b.1
  · have i1 : ¬ (b.1.cps.toList < b.1.cps.toList) := List.lt_irrefl _
    by_cases h3 : a.2 = b.2
    · simp [h1, h3, i1]
    · simp [h1, h3, i1]
  · simp [h1]
theorem ltT_tri {a b : Str × Str × Int} (h : ¬ ltT a b) (h' : ¬ ltT b a) : a = b := by
  obtain ⟨a1, a2, a3⟩ := a
  obtain ⟨b1, b2, b3⟩ := b
  unfold ltT at h h'
  simp only [not_or, not_and] at h h'
  have e1 := ltS_tri h.1 h'.1
  subst e1
  have h2 := h.2 rfl
  have h3 := h'.2 rfl
  have e2 := ltS_tri h2.1 h3.1
  subst e2
  have h4 := h2.2 rfl
  have h5 := h3.2 rfl
  have : a3 = b3 := by omega
  subst this; rfl
theorem ltP_tri {a b : Str × Int} (h : ¬ ltP a b) (h' : ¬ ltP b a) : a = b := by
  obtain ⟨a1, a2⟩ := a
  obtain ⟨b1, b2⟩ := b
  unfold ltP at h h'
  simp only [not_or, not_and] at h h'
  have e1 := ltS_tri h.1 h'.1
  subst e1
  have h4 := h.2 rfl
  have h5 := h'.2 rfl
  have : a2 = b2 := by omega
  subst this; rfl
theorem ltT_trans {a b c : Str × Str × Int} (h : ltT a b) (h' : ltT b c) : ltT a c := by
  obtain ⟨a1, a2, a3⟩ := a
  obtain ⟨b1, b2, b3⟩ := b
  obtain ⟨c1, c2, c3⟩ := c
  unfold ltT at *
  dsimp only at *
  rcases h with h | ⟨rfl, h⟩
  · rcases h' with h' | ⟨rfl, _⟩
    · exact .inl (ltS_trans h h')
    · exact .inl h
  · rcases h' with h' | ⟨rfl, h'⟩
    · exact .inl h'
    · refine .inr ⟨rfl, ?_⟩
      rcases h with h | ⟨rfl, h⟩
      · rcases h' with h' | ⟨rfl, _⟩
        · exact .inl (ltS_trans h h')
        · exact .inl h
      · rcases h' with h' | ⟨rfl, h'⟩
        · exact .inl h'
        · exact .inr ⟨rfl, by omega⟩
theorem ltP_trans {a b c : Str × Int} (h : ltP a b) (h' : ltP b c) : ltP a c := by
  obtain ⟨a1, a2⟩ := a
  obtain ⟨b1, b2⟩ := b
  obtain ⟨c1, c2⟩ := c
  unfold ltP at *
  dsimp only at *
  rcases h with h | ⟨rfl, h⟩
  · rcases h' with h' | ⟨rfl, _⟩
    · exact .inl (ltS_trans h h')
    · exact .inl h
  · rcases h' with h' | ⟨rfl, h'⟩
    · exact .inl h'
    · exact .inr ⟨rfl, by omega⟩
/-- an order by less: sorted lists of the same things are the same -/
theorem sort_perm {α : Type} {lt : α → α → Prop} [DecidableRel lt] {le : α → α → Bool} (hle : ∀ a b, le a b = !decide (lt b a)) (tri : ∀ {a b}, ¬ lt a b → ¬ lt b a → a = b) (tr : ∀ {a b c}, lt a b → lt b c → lt a c) (irr : ∀ a, ¬ lt a a) {xs ys : List α} (h : xs.Perm ys) : xs.mergeSort le = ys.mergeSort le := by
  have asym : ∀ {a b}, lt a b → ¬ lt b a := fun h1 h2 => irr _ (tr h1 h2)
  have t1 : ∀ a b c, le a b = true → le b c = true → le a c = true := fun a b c h1 h2 => by
    rw [hle] at h1 h2 ⊢
    simp only [Bool.not_eq_true', decide_eq_false_iff_not] at h1 h2 ⊢
    intro h3
    by_cases q : lt a b
    · exact h2 (tr h3 q)
    · have := tri q h1
      subst this
      exact h2 h3
  have t2 : ∀ a b, (le a b || le b a) = true := fun a b => by
    rw [hle, hle]
    simp only [Bool.or_eq_true, Bool.not_eq_true', decide_eq_false_iff_not]
    by_cases q : lt a b
    · exact .inl (asym q)
    · exact .inr q
  refine List.Perm.eq_of_pairwise (le := fun a b => le a b = true) (fun a b _ _ h1 h2 => ?_) (List.pairwise_mergeSort t1 t2 xs) (List.pairwise_mergeSort t1 t2 ys) (((List.mergeSort_perm _ _).trans h).trans (List.mergeSort_perm _ _).symm)
  rw [hle] at h1 h2
  simp only [Bool.not_eq_true', decide_eq_false_iff_not] at h1 h2
  exact tri h2 h1
theorem ltT_irrefl (a : Str × Str × Int) : ¬ ltT a a := fun h => by
  rcases h with h | ⟨_, h | ⟨_, h⟩⟩
  · exact ltS_irrefl _ h
  · exact ltS_irrefl _ h
  · omega
theorem ltP_irrefl (a : Str × Int) : ¬ ltP a a := fun h => by
  rcases h with h | ⟨_, h⟩
  · exact ltS_irrefl _ h
  · omega
theorem sortT_eq {xs ys : List (Str × Str × Int)} (h : xs.Perm ys) : sortT xs = sortT ys :=
  sort_perm (lt := ltT) (fun a b => by show (!PySem.W.dataLt (tripE b) (tripE a)) = _; rw [lt_tripE]) ltT_tri ltT_trans ltT_irrefl h
theorem sortP_eq {xs ys : List (Str × Int)} (h : xs.Perm ys) : sortP xs = sortP ys :=
  sort_perm (lt := ltP) (fun a b => by show (!PySem.W.dataLt (pairE b) (pairE a)) = _; rw [lt_pairE]) ltP_tri ltP_trans ltP_irrefl h
/-! ### comparing lists of pairs, of triples -/
theorem eqv_trip (a b : Str × Str × Int) : PyData.eqv (tripE a) (tripE b) = decide (a = b) := by
  obtain ⟨a1, a2, a3⟩ := a
  obtain ⟨b1, b2, b3⟩ := b
  unfold tripE
  rw [PyData.eqv]
  simp only [PyData.eqvAll, eqv_str, eqv_int, Bool.and_true]
  by_cases h1 : a1 = b1 <;> by_cases h2 : a2 = b2 <;> by_cases h3 : a3 = b3 <;> simp [h1, h2, h3]
theorem eqv_pair (a b : Str × Int) : PyData.eqv (pairE a) (pairE b) = decide (a = b) := by
  obtain ⟨a1, a3⟩ := a
  obtain ⟨b1, b3⟩ := b
  unfold pairE
  rw [PyData.eqv]
  simp only [PyData.eqvAll, eqv_str, eqv_int, Bool.and_true]
  by_cases h1 : a1 = b1 <;> by_cases h3 : a3 = b3 <;> simp [h1, h3]
theorem eqvAll_map {α : Type} [DecidableEq α] (ep : α → PyData) (h : ∀ a b, PyData.eqv (ep a) (ep b) = decide (a = b)) : ∀ xs ys : List α, PyData.eqvAll (xs.map ep) (ys.map ep) = decide (xs = ys)
  | [], [] => by simp [PyData.eqvAll]
  | [], _ :: _ => by simp [PyData.eqvAll]
  | _ :: _, [] => by simp [PyData.eqvAll]
  | x :: xs, y :: ys => by simp [PyData.eqvAll, eqvAll_map ep h xs ys, h]
theorem pys_map {α : Type} (enc : α → D) (ep : α → PyData) (h : ∀ a, (enc a).py = some (ep a)) : ∀ xs : List α, D.pys (xs.map enc) = some (xs.map ep)
  | [] => rfl
  | x :: xs => by
    show (match (enc x).py, D.pys (xs.map enc) with | some y, some ys => some (y :: ys) | _, _ => none) = _
    rw [pys_map enc ep h xs, h x]; rfl
theorem lay_map {α : Type} (ep : α → PyData) (d : Nat) : ∀ xs : List α, (∀ x ∈ xs, PyData.canLay0 (ep x) = true ∧ (ep x).depth ≤ d) → PyData.canLayAll0 (xs.map ep) = true ∧ PyData.depthAll (xs.map ep) ≤ d
  | [], _ => by simp [PyData.canLayAll0, PyData.depthAll]
  | x :: xs, h => by
    have h1 := h x (List.mem_cons_self ..)
    have ih := lay_map ep d xs fun y hy => h y (List.mem_cons_of_mem _ hy)
    simp only [List.map_cons, PyData.canLayAll0, PyData.depthAll, ih.1, h1.1, Bool.and_self, true_and]
    omega
theorem py_lst_map {α : Type} (enc : α → D) (ep : α → PyData) (h : ∀ a, (enc a).py = some (ep a)) (xs : List α) : D.py (.lst (xs.map enc)) = some (.list (xs.map ep)) := by
  unfold D.py; rw [pys_map enc ep h]
theorem py_tup_map {α : Type} (enc : α → D) (ep : α → PyData) (h : ∀ a, (enc a).py = some (ep a)) (xs : List α) : D.py (.tup (xs.map enc)) = some (.tuple (xs.map ep)) := by
  unfold D.py; rw [pys_map enc ep h]
theorem sh_list_map {α : Type} (ep : α → PyData) (d : Nat) (hd : d ≤ 40) (xs : List α) (h : ∀ x ∈ xs, PyData.canLay0 (ep x) = true ∧ (ep x).depth ≤ d) : SeqAt.shaped (.list (xs.map ep)) = true := by
  obtain ⟨h1, h2⟩ := lay_map ep d xs h
  simp [SeqAt.shaped, PyData.canLay0, PyData.depth, h1]
  omega
def okT (t : Str × Str × Int) : Prop := okS t.1 ∧ okS t.2.1
theorem lay_trip {t : Str × Str × Int} (h : okT t) : PyData.canLay0 (tripE t) = true ∧ (tripE t).depth ≤ 1 := by
  have h1 := h.1
  have h2 := h.2
  unfold okS at h1 h2
  simp [tripE, PyData.canLay0, PyData.canLayAll0, PyData.depth, PyData.depthAll, h1, h2]
theorem lay_pair {t : Str × Int} (h : okS t.1) : PyData.canLay0 (pairE t) = true ∧ (pairE t).depth ≤ 1 := by
  have h1 := h
  unfold okS at h1
  simp [pairE, PyData.canLay0, PyData.canLayAll0, PyData.depth, PyData.depthAll, h1]
section
variable {S : Sto} {q : Kq} {x y : D}
theorem eq_lstT {xs ys : List (Str × Str × Int)} (hx : asL S x = some (xs.map tripD)) (hy : asL S y = some (ys.map tripD)) (h1 : ∀ t ∈ xs, okT t) (h2 : ∀ t ∈ ys, okT t) (h : q (.bl (decide (xs = ys))) S) : phEq x y S q :=
  ⟨_, _, by rw [asL_res hx]; exact py_lst_map tripD tripE (fun _ => rfl) xs, by rw [asL_res hy]; exact py_lst_map tripD tripE (fun _ => rfl) ys, sh_list_map tripE 1 (by omega) xs fun t ht => lay_trip (h1 t ht), sh_list_map tripE 1 (by omega) ys fun t ht => lay_trip (h2 t ht), by
    rw [PyData.eqv, eqvAll_map tripE eqv_trip]; exact h⟩
theorem ne_lstT {xs ys : List (Str × Str × Int)} (hx : asL S x = some (xs.map tripD)) (hy : asL S y = some (ys.map tripD)) (h1 : ∀ t ∈ xs, okT t) (h2 : ∀ t ∈ ys, okT t) (h : q (.bl (!decide (xs = ys))) S) : phNe x y S q :=
  ⟨_, _, by rw [asL_res hx]; exact py_lst_map tripD tripE (fun _ => rfl) xs, by rw [asL_res hy]; exact py_lst_map tripD tripE (fun _ => rfl) ys, sh_list_map tripE 1 (by omega) xs fun t ht => lay_trip (h1 t ht), sh_list_map tripE 1 (by omega) ys fun t ht => lay_trip (h2 t ht), by
    rw [PyData.eqv, eqvAll_map tripE eqv_trip]; exact h⟩
theorem eq_lstP {xs ys : List (Str × Int)} (hx : asL S x = some (xs.map pairD)) (hy : asL S y = some (ys.map pairD)) (h1 : ∀ t ∈ xs, okS t.1) (h2 : ∀ t ∈ ys, okS t.1) (h : q (.bl (decide (xs = ys))) S) : phEq x y S q :=
  ⟨_, _, by rw [asL_res hx]; exact py_lst_map pairD pairE (fun _ => rfl) xs, by rw [asL_res hy]; exact py_lst_map pairD pairE (fun _ => rfl) ys, sh_list_map pairE 1 (by omega) xs fun t ht => lay_pair (h1 t ht), sh_list_map pairE 1 (by omega) ys fun t ht => lay_pair (h2 t ht), by
    rw [PyData.eqv, eqvAll_map pairE eqv_pair]; exact h⟩
theorem ne_lstP {xs ys : List (Str × Int)} (hx : asL S x = some (xs.map pairD)) (hy : asL S y = some (ys.map pairD)) (h1 : ∀ t ∈ xs, okS t.1) (h2 : ∀ t ∈ ys, okS t.1) (h : q (.bl (!decide (xs = ys))) S) : phNe x y S q :=
  ⟨_, _, by rw [asL_res hx]; exact py_lst_map pairD pairE (fun _ => rfl) xs, by rw [asL_res hy]; exact py_lst_map pairD pairE (fun _ => rfl) ys, sh_list_map pairE 1 (by omega) xs fun t ht => lay_pair (h1 t ht), sh_list_map pairE 1 (by omega) ys fun t ht => lay_pair (h2 t ht), by
    rw [PyData.eqv, eqvAll_map pairE eqv_pair]; exact h⟩
/-- states -/
def stateE (b : Int) (folk : List Str) : PyData := .tuple [.int b, .tuple (folk.map PyData.str)]
theorem py_state (b : Int) (folk : List Str) : (stateD b folk).py = some (stateE b folk) := by
  unfold stateD D.py
  rw [D.pys, D.pys, py_tupS]
  rfl
theorem sh_state {b : Int} {folk : List Str} (h : ∀ z ∈ folk, okS z) : SeqAt.shaped (stateE b folk) = true := by
  have h1 := lay_strs folk h
  simp [SeqAt.shaped, stateE, PyData.canLay0, PyData.canLayAll0, PyData.depth, PyData.depthAll, h1.1, h1.2]
theorem eqv_state (b c : Int) (f g : List Str) : PyData.eqv (stateE b f) (stateE c g) = decide (b = c ∧ f = g) := by
  unfold stateE
  rw [PyData.eqv]
  have e : PyData.eqv (.tuple (f.map PyData.str)) (.tuple (g.map PyData.str)) = decide (f = g) := by rw [PyData.eqv]; exact eqvAll_strs f g
  simp only [PyData.eqvAll, eqv_int, e, Bool.and_true]
  by_cases h1 : b = c <;> by_cases h2 : f = g <;> simp [h1, h2]
theorem eq_state {b c : Int} {f g : List Str} (h1 : ∀ z ∈ f, okS z) (h2 : ∀ z ∈ g, okS z) (h : q (.bl (decide (b = c ∧ f = g))) S) : phEq (stateD b f) (stateD c g) S q :=
  ⟨_, _, py_state b f, py_state c g, sh_state h1, sh_state h2, by rw [eqv_state]; exact h⟩
theorem ne_state {b c : Int} {f g : List Str} (h1 : ∀ z ∈ f, okS z) (h2 : ∀ z ∈ g, okS z) (h : q (.bl (!decide (b = c ∧ f = g))) S) : phNe (stateD b f) (stateD c g) S q :=
  ⟨_, _, py_state b f, py_state c g, sh_state h1, sh_state h2, by rw [eqv_state]; exact h⟩
end
theorem py_strok_non : SeqAt.shaped .none = true := by simp [SeqAt.shaped, PyData.canLay0, PyData.depth]
end Paid

set_option Elab.async false
set_option linter.all false
set_option maxRecDepth 100000
/-! PKD: deeds, rows of deeds, tables of what was handed. -/
namespace Paid
open PySem L2 PL
inductive Deed where
  | bill (c : Int) | come (z : Str) | go (z : Str)
def deedD : Deed → D
  | .bill c => .tup [.str "bill", .int c]
  | .come z => .tup [.str "come", .str z]
  | .go z => .tup [.str "go", .str z]
def dOk : Deed → Prop
  | .bill c => 0 ≤ c ∧ c ≤ farZ
  | .come z => nameOk z = true
  | .go z => nameOk z = true
/-- whether a deed is possible; what it makes of the bills, of the folk; what is handed -/
def canB (b : Int) (folk : List Str) : Deed → Bool
  | .bill c => !decide (folk = []) && decide (b + c ≤ farZ)
  | .come z => !decide (z ∈ folk) && decide (folk.length < 40)
  | .go z => decide (z ∈ folk) && (decide (1 < folk.length) || decide (b = 0))
theorem canB_bill {b c : Int} {folk : List Str} : canB b folk (.bill c) = (!decide (folk = []) && decide (b + c ≤ farZ)) := rfl
theorem canB_come {b : Int} {folk : List Str} {z : Str} : canB b folk (.come z) = (!decide (z ∈ folk) && decide (folk.length < 40)) := rfl
theorem canB_go {b : Int} {folk : List Str} {z : Str} : canB b folk (.go z) = (decide (z ∈ folk) && (decide (1 < folk.length) || decide (b = 0))) := rfl
def nb (b : Int) : Deed → Int
  | .bill c => b + c
  | _ => b
def nf (folk : List Str) : Deed → List Str
  | .bill _ => folk
  | .come z => folk ++ [z]
  | .go z => butFor folk z
def rowsOf (b : Int) (folk : List Str) : Deed → List (Str × Str × Int)
  | .bill c => posT (billRows b folk c)
  | .come z => posT (comeRows b folk z)
  | .go z => posT (goRows b folk z)
theorem ok_next {b : Int} {folk : List Str} {d : Deed} (h : StOk b folk) (hd : dOk d) (hc : canB b folk d = true) : StOk (nb b d) (nf folk d) := by
  cases d with
  | bill c =>
    unfold canB at hc
    rw [Bool.and_eq_true, Bool.not_eq_true', decide_eq_false_iff_not, decide_eq_true_eq] at hc
    exact h.bill hc.1 hd.1 hc.2
  | come z =>
    unfold canB at hc
    rw [Bool.and_eq_true, Bool.not_eq_true', decide_eq_false_iff_not, decide_eq_true_eq] at hc
    exact h.snoc hd hc.1 hc.2
  | go z =>
    unfold canB at hc
    rw [Bool.and_eq_true, Bool.or_eq_true, decide_eq_true_eq, decide_eq_true_eq, decide_eq_true_eq] at hc
    have hl := but_len h.nd hc.1
    by_cases h1 : 1 < folk.length
    · exact h.but hc.1 h1
    · have hb : b = 0 := by omega
      subst hb
      exact ⟨h.lo, h.hi, by have := h.len; show (butFor folk z).length ≤ 40; omega, fun n hm => h.nm n (but_mem.mp hm).1, but_nodup h.nd, fun _ => rfl⟩
theorem rows_len {b : Int} {folk : List Str} {d : Deed} : (rowsOf b folk d).length ≤ folk.length := by
  cases d with
  | bill c => exact bill_len
  | come z => exact come_len
  | go z => exact go_len
theorem name_ne {z : Str} (h : nameOk z = true) : z ≠ emptyS := fun e => by
  subst e
  exact absurd h (by decide +kernel)
/-- names of a row; the sign of a row -/
theorem rows_ok {b : Int} {folk : List Str} {d : Deed} (h : StOk b folk) (hd : dOk d) (hc : canB b folk d = true) {t : Str × Str × Int} (ht : t ∈ rowsOf b folk d) : okT t ∧ 0 < t.2.2 ∧ t.1 ≠ t.2.1 := by
  cases d with
  | bill c =>
    obtain ⟨h1, h2, h3⟩ := bill_mem h.nd ht
    exact ⟨⟨name_okS (h.nm _ h1), by rw [h2]; exact ok_empty⟩, h3, by rw [h2]; exact name_ne (h.nm _ h1)⟩
  | come z =>
    unfold canB at hc
    rw [Bool.and_eq_true, Bool.not_eq_true', decide_eq_false_iff_not] at hc
    obtain ⟨h1, h2, h3⟩ := come_mem h.nd hc.1 ht
    exact ⟨⟨by rw [h1]; exact name_okS hd, name_okS (h.nm _ h2)⟩, h3, fun e => hc.1 (by rw [← h1, e]; exact h2)⟩
  | go z =>
    unfold canB at hc
    rw [Bool.and_eq_true, decide_eq_true_eq] at hc
    obtain ⟨h1, h2, h3⟩ := pos_mem ht |>.1 |> fun q => (by
      rw [go_names h.nd hc.1] at q
      obtain ⟨y, hy, e⟩ := List.mem_map.mp q
      exact ⟨by rw [← e]; exact (but_mem.mp hy).1, by rw [← e], by rw [← e]; exact (but_mem.mp hy).2⟩ : t.1 ∈ folk ∧ t.2.1 = z ∧ t.1 ≠ z)
    exact ⟨⟨name_okS (h.nm _ h1), by rw [h2]; exact name_okS hd⟩, (pos_mem ht).2, by rw [h2]; exact h3⟩
/-! ### tables -/
abbrev TB := List ((Str × Str) × Int)
def kT (p : Str × Str) : List Key := [.inr p.1, .inr p.2]
theorem kT_inj {p q : Str × Str} (h : kT p = kT q) : p = q := by
  obtain ⟨a, b⟩ := p
  obtain ⟨c, d⟩ := q
  unfold kT at h
  simp only [List.cons.injEq, Sum.inr.injEq, and_true] at h
  rw [h.1, h.2]
def tbD (t : TB) : List (List Key × D) := t.map fun e => (kT e.1, .int e.2)
def getT (t : TB) (k : Str × Str) : Int := ((t.find? fun e => decide (e.1 = k)).map (·.2)).getD 0
def putT (t : TB) (k : Str × Str) (c : Int) : TB := if (t.any fun e => decide (e.1 = k)) = true then t.map (fun e => if e.1 = k then (e.1, c) else e) else t ++ [(k, c)]
def addT (t : TB) (r : Str × Str × Int) : TB := putT t (r.1, r.2.1) (getT t (r.1, r.2.1) + r.2.2)
def addAll (t : TB) (rows : List (Str × Str × Int)) : TB := rows.foldl addT t
theorem valD_tb (t : TB) (k : Str × Str) : valD (tbD t) (kT k) = (t.find? fun e => decide (e.1 = k)).map fun e => .int e.2 := by
  unfold valD tbD
  induction t with
  | nil => rfl
  | cons e r ih =>
    rw [List.map_cons, List.find?_cons, List.find?_cons]
    by_cases h : e.1 = k
    · subst h; simp
    · have h' : ¬ kT e.1 = kT k := fun q => h (kT_inj q)
      rw [decide_eq_false h, decide_eq_false h']
      exact ih
theorem getD_tb (t : TB) (k : Str × Str) : (valD (tbD t) (kT k)).getD (.int 0) = .int (getT t k) := by
  rw [valD_tb]
  unfold getT
  cases t.find? fun e => decide (e.1 = k) <;> rfl
theorem any_tb (t : TB) (k : Str × Str) : ((tbD t).any fun kv => decide (kv.1 = kT k)) = t.any fun e => decide (e.1 = k) := by
  unfold tbD
  rw [List.any_map]
  congr 1
  funext e
  show decide (kT e.1 = kT k) = decide (e.1 = k)
  by_cases h : e.1 = k
  · subst h; simp
  · rw [decide_eq_false h, decide_eq_false fun q => h (kT_inj q)]
theorem putD_tb (t : TB) (k : Str × Str) (c : Int) : putD (tbD t) (kT k) (.int c) = tbD (putT t k c) := by
  unfold putD putT
  rw [any_tb]
  split
  · unfold tbD
    rw [List.map_map, List.map_map]
    apply List.map_congr_left
    intro e _
    show (if kT e.1 = kT k then (kT e.1, D.int c) else (kT e.1, D.int e.2)) = (kT (if e.1 = k then (e.1, c) else e).1, D.int (if e.1 = k then (e.1, c) else e).2)
    by_cases h : e.1 = k
    · rw [if_pos h, if_pos (by rw [h])]
    · rw [if_neg h, if_neg fun q => h (kT_inj q)]
  · unfold tbD
    rw [List.map_append]
    rfl
theorem put_len (t : TB) (k : Str × Str) (c : Int) : (putT t k c).length ≤ t.length + 1 := by
  unfold putT
  split
  · rw [List.length_map]; omega
  · rw [List.length_append]; simp
theorem add_len : ∀ (rows : List (Str × Str × Int)) (t : TB), (addAll t rows).length ≤ t.length + rows.length
  | [], t => Nat.le_refl _
  | r :: rows, t => by
    have h1 := add_len rows (addT t r)
    have h2 := put_len t (r.1, r.2.1) (getT t (r.1, r.2.1) + r.2.2)
    show (addAll (addT t r) rows).length ≤ _
    rw [List.length_cons]
    have h3 : (addT t r).length ≤ t.length + 1 := h2
    omega
/-! what a table holds -/
def keyN (t : TB) : Prop := (t.map (·.1)).Nodup
theorem any_mem {t : TB} {k : Str × Str} : (t.any fun e => decide (e.1 = k)) = true ↔ k ∈ t.map (·.1) := by
  rw [List.any_eq_true, List.mem_map]
  constructor
  · rintro ⟨e, h1, h2⟩; exact ⟨e, h1, of_decide_eq_true h2⟩
  · rintro ⟨e, h1, h2⟩; exact ⟨e, h1, decide_eq_true h2⟩
theorem put_keys (t : TB) (k : Str × Str) (c : Int) : (putT t k c).map (·.1) = if k ∈ t.map (·.1) then t.map (·.1) else t.map (·.1) ++ [k] := by
  unfold putT
  by_cases h : k ∈ t.map (·.1)
  · rw [if_pos (any_mem.mpr h), if_pos h, List.map_map]
    apply List.map_congr_left
    intro e _
    show (if e.1 = k then (e.1, c) else e).1 = e.1
    split <;> rfl
  · rw [if_neg fun q => h (any_mem.mp q), if_neg h, List.map_append]
    rfl
theorem put_nodup {t : TB} {k : Str × Str} {c : Int} (h : keyN t) : keyN (putT t k c) := by
  unfold keyN at h ⊢
  rw [put_keys]
  split
  · exact h
  · rename_i hk
    rw [List.nodup_append]
    exact ⟨h, by simp, fun a ha b hb e => by rw [List.mem_singleton] at hb; exact hk (by rw [← hb, ← e]; exact ha)⟩
theorem add_nodup : ∀ (rows : List (Str × Str × Int)) {t : TB}, keyN t → keyN (addAll t rows)
  | [], _, h => h
  | r :: rows, _, h => add_nodup rows (put_nodup h)
/-- sums over a table, by its keys -/
def sumK (t : TB) (f : Str × Str → Bool) : Int := ((t.filter fun e => f e.1).map (·.2)).sum
theorem sumK_cons (e : (Str × Str) × Int) (t : TB) (f : Str × Str → Bool) : sumK (e :: t) f = (if f e.1 then e.2 else 0) + sumK t f := by
  unfold sumK
  by_cases h : f e.1 = true
  · rw [List.filter_cons_of_pos (p := fun e : (Str × Str) × Int => f e.1) h, List.map_cons, List.sum_cons, if_pos h]
  · rw [List.filter_cons_of_neg (p := fun e : (Str × Str) × Int => f e.1) h, if_neg h, Int.zero_add]
theorem get_cons_ne {e : (Str × Str) × Int} {t : TB} {k : Str × Str} (h : e.1 ≠ k) : getT (e :: t) k = getT t k := by
  unfold getT
  rw [List.find?_cons, decide_eq_false h]
theorem get_cons_eq {e : (Str × Str) × Int} {t : TB} : getT (e :: t) e.1 = e.2 := by
  unfold getT
  rw [List.find?_cons, decide_eq_true rfl]
  rfl
theorem get_none : ∀ {t : TB} {k : Str × Str}, k ∉ t.map (·.1) → getT t k = 0
  | [], _, _ => rfl
  | e :: t, k, h => by
    rw [get_cons_ne fun q => h (by rw [List.map_cons, q]; exact List.mem_cons_self ..)]
    exact get_none fun q => h (by rw [List.map_cons]; exact List.mem_cons_of_mem _ q)
theorem map_other {t : TB} {k : Str × Str} {c : Int} (h : k ∉ t.map (·.1)) : t.map (fun e => if e.1 = k then (e.1, c) else e) = t := by
  have : t.map (fun e => if e.1 = k then (e.1, c) else e) = t.map id := by
    apply List.map_congr_left
    intro e he
    rw [if_neg fun q => h (List.mem_map.mpr ⟨e, he, q⟩)]
    rfl
  rw [this, List.map_id]
theorem sumK_append (t u : TB) (f : Str × Str → Bool) : sumK (t ++ u) f = sumK t f + sumK u f := by
  unfold sumK
  rw [List.filter_append, List.map_append, List.sum_append]
theorem sumK_map {k : Str × Str} {c : Int} (f : Str × Str → Bool) : ∀ {t : TB}, keyN t → k ∈ t.map (·.1) → sumK (t.map fun e => if e.1 = k then (e.1, c) else e) f = sumK t f + if f k then c - getT t k else 0
  | [], _, h => by simp at h
  | e :: t, hn, h => by
    have hn' := List.nodup_cons.mp (show (e.1 :: t.map (·.1)).Nodup from hn)
    rw [List.map_cons, sumK_cons]
    by_cases q : e.1 = k
    · subst q
      rw [map_other hn'.1, if_pos rfl, get_cons_eq, sumK_cons]
      split <;> omega
    · have hm : k ∈ t.map (·.1) := by
        rcases List.mem_cons.mp (show k ∈ e.1 :: t.map (·.1) from h) with w | w
        · exact absurd w.symm q
        · exact w
      rw [if_neg q, get_cons_ne q, sumK_cons, sumK_map f hn'.2 hm]
      omega
theorem sumK_put {t : TB} {k : Str × Str} {c : Int} (f : Str × Str → Bool) (h : keyN t) : sumK (putT t k c) f = sumK t f + if f k then c - getT t k else 0 := by
  by_cases hk : k ∈ t.map (·.1)
  · have e : putT t k c = t.map fun e => if e.1 = k then (e.1, c) else e := by unfold putT; rw [if_pos (any_mem.mpr hk)]
    rw [e, sumK_map f h hk]
  · have e : putT t k c = t ++ [(k, c)] := by unfold putT; rw [if_neg fun q => hk (any_mem.mp q)]
    rw [e, sumK_append, get_none hk, sumK_cons]
    show _ + ((if f k then c else 0) + sumK [] f) = _
    rw [show sumK [] f = 0 from rfl]
    split <;> omega
def keyF (f : Str × Str → Bool) : Str × Str × Int → Bool := fun t => f (t.1, t.2.1)
theorem sumT_cons (r : Str × Str × Int) (rows : List (Str × Str × Int)) (g : Str × Str × Int → Bool) : sumT (r :: rows) g = (if g r then r.2.2 else 0) + sumT rows g := by
  unfold sumT
  by_cases h : g r = true
  · rw [List.filter_cons_of_pos h, List.map_cons, List.sum_cons, if_pos h]
  · rw [List.filter_cons_of_neg h, if_neg h, Int.zero_add]
theorem sumT_append (t u : List (Str × Str × Int)) (f : Str × Str × Int → Bool) : sumT (t ++ u) f = sumT t f + sumT u f := by
  unfold sumT
  rw [List.filter_append, List.map_append, List.sum_append]
theorem sumK_add (f : Str × Str → Bool) : ∀ (rows : List (Str × Str × Int)) {t : TB}, keyN t → sumK (addAll t rows) f = sumK t f + sumT rows (keyF f)
  | [], t, _ => by show sumK t f = sumK t f + 0; omega
  | r :: rows, t, h => by
    show sumK (addAll (addT t r) rows) f = _
    rw [sumK_add f rows (show keyN (addT t r) from put_nodup h), sumT_cons]
    unfold addT
    rw [sumK_put f h]
    show _ + (if f (r.1, r.2.1) then _ else 0) + _ = _ + ((if f (r.1, r.2.1) then _ else 0) + _)
    split <;> omega
/-- a table's rows -/
def rowT (e : (Str × Str) × Int) : Str × Str × Int := (e.1.1, e.1.2, e.2)
def listT (t : TB) : List (Str × Str × Int) := sortT (t.map rowT)
theorem list_perm (t : TB) : (listT t).Perm (t.map rowT) := sortT_perm _
theorem sumT_perm {xs ys : List (Str × Str × Int)} (h : xs.Perm ys) (f : Str × Str × Int → Bool) : sumT xs f = sumT ys f := perm_sum ((h.filter f).map _)
theorem sumT_list (t : TB) (f : Str × Str → Bool) : sumT (listT t) (keyF f) = sumK t f := by
  rw [sumT_perm (list_perm t)]
  unfold sumT sumK
  rw [List.filter_map, List.map_map]
  rfl
theorem list_len (t : TB) : (listT t).length = t.length := by rw [(list_perm t).length_eq, List.length_map]
theorem mem_list {t : TB} {r : Str × Str × Int} : r ∈ listT t ↔ ((r.1, r.2.1), r.2.2) ∈ t := by
  rw [(list_perm t).mem_iff, List.mem_map]
  constructor
  · rintro ⟨e, h1, h2⟩
    rw [← h2]; exact h1
  · intro h; exact ⟨_, h, rfl⟩
/-- what is told of each entry holds behind all rows -/
theorem get_mem : ∀ {t : TB} {k : Str × Str}, k ∈ t.map (·.1) → (k, getT t k) ∈ t
  | [], _, h => by simp at h
  | e :: t, k, h => by
    by_cases q : e.1 = k
    · subst q
      rw [get_cons_eq]
      exact List.mem_cons_self ..
    · rw [get_cons_ne q]
      refine List.mem_cons_of_mem _ (get_mem ?_)
      rcases List.mem_cons.mp (show k ∈ e.1 :: t.map (·.1) from h) with w | w
      · exact absurd w.symm q
      · exact w
theorem put_mem {t : TB} {k : Str × Str} {c : Int} {e : (Str × Str) × Int} (h : e ∈ putT t k c) : e = (k, c) ∨ e ∈ t := by
  unfold putT at h
  split at h
  · obtain ⟨x, hx, q⟩ := List.mem_map.mp h
    by_cases w : x.1 = k
    · rw [if_pos w] at q; left; rw [← q, w]
    · rw [if_neg w] at q; right; rw [← q]; exact hx
  · rcases List.mem_append.mp h with h | h
    · exact .inr h
    · rw [List.mem_singleton] at h; exact .inl h
theorem add_all (P : (Str × Str) × Int → Prop) (h0 : ∀ k v c, P (k, v) → 0 < c → P (k, v + c)) : ∀ (rows : List (Str × Str × Int)) {t : TB}, (∀ r ∈ rows, 0 < r.2.2 ∧ P ((r.1, r.2.1), r.2.2)) → (∀ e ∈ t, P e) → ∀ e ∈ addAll t rows, P e
  | [], _, _, ht => ht
  | r :: rows, t, hr, ht => by
    refine add_all P h0 rows (fun x hx => hr x (List.mem_cons_of_mem _ hx)) fun e he => ?_
    rcases put_mem he with q | q
    · rw [q]
      obtain ⟨g1, g2⟩ := hr r (List.mem_cons_self ..)
      by_cases w : (r.1, r.2.1) ∈ t.map (·.1)
      · exact h0 _ _ _ (ht _ (get_mem w)) g1
      · rw [get_none w, Int.zero_add]; exact g2
    · exact ht e q
/-- sums at one key -/
def atK (k : Str × Str) : Str × Str → Bool := fun x => decide (x = k)
theorem sum_at : ∀ {t : TB} (k : Str × Str), keyN t → sumK t (atK k) = getT t k
  | [], _, _ => rfl
  | e :: t, k, hn => by
    have hn' := List.nodup_cons.mp (show (e.1 :: t.map (·.1)).Nodup from hn)
    rw [sumK_cons, sum_at k hn'.2]
    unfold atK
    by_cases q : e.1 = k
    · subst q
      rw [get_cons_eq, get_none hn'.1, if_pos (by simp)]; omega
    · rw [get_cons_ne q, if_neg (by simpa using q)]; omega
theorem nodup_tb {t : TB} (h : keyN t) : t.Nodup := by
  unfold keyN at h
  rw [List.nodup_iff_pairwise_ne, List.pairwise_map] at h
  exact List.nodup_iff_pairwise_ne.mpr (h.imp fun h e => h (by rw [e]))
theorem mem_get {t : TB} (h : keyN t) {k : Str × Str} {v : Int} (hm : (k, v) ∈ t) : getT t k = v := by
  induction t with
  | nil => simp at hm
  | cons e t ih =>
    have hn' := List.nodup_cons.mp (show (e.1 :: t.map (·.1)).Nodup from h)
    rcases List.mem_cons.mp hm with q | q
    · rw [← q]; exact get_cons_eq
    · rw [get_cons_ne fun w => hn'.1 (by rw [w]; exact List.mem_map.mpr ⟨_, q, rfl⟩)]
      exact ih hn'.2 q
/-- two tables that tell the same of every key hold the same -/
theorem tb_perm {t u : TB} (h1 : keyN t) (h2 : keyN u) (p1 : ∀ e ∈ t, 0 < e.2) (p2 : ∀ e ∈ u, 0 < e.2) (h : ∀ k, getT t k = getT u k) : t.Perm u := by
  have main : ∀ {t u : TB}, keyN t → keyN u → (∀ e ∈ t, 0 < e.2) → (∀ k, getT t k = getT u k) → ∀ e ∈ t, e ∈ u := fun {t u} h1 h2 p1 h e he => by
    have g := mem_get h1 (k := e.1) (v := e.2) he
    have hp := p1 e he
    by_cases w : e.1 ∈ u.map (·.1)
    · have := get_mem w
      rw [← h, g] at this
      exact this
    · have := get_none w
      rw [← h, g] at this
      omega
  rw [List.perm_ext_iff_of_nodup (nodup_tb h1) (nodup_tb h2)]
  exact fun e => ⟨main h1 h2 p1 h e, main h2 h1 p2 (fun k => (h k).symm) e⟩
theorem list_eq {t u : TB} (h1 : keyN t) (h2 : keyN u) (p1 : ∀ e ∈ t, 0 < e.2) (p2 : ∀ e ∈ u, 0 < e.2) (h : ∀ k, sumK t (atK k) = sumK u (atK k)) : listT t = listT u :=
  sortT_eq ((tb_perm h1 h2 p1 p2 fun k => by rw [← sum_at k h1, ← sum_at k h2, h]).map _)
/-! ### rows of deeds -/
def runT : Int → List Str → TB → List Deed → Option (Int × List Str × TB)
  | b, f, t, [] => some (b, f, t)
  | b, f, t, d :: ds => if canB b f d = true then runT (nb b d) (nf f d) (addAll t (rowsOf b f d)) ds else none
def runS : Int → List Str → List Deed → Option (Int × List Str)
  | b, f, [] => some (b, f)
  | b, f, d :: ds => if canB b f d = true then runS (nb b d) (nf f d) ds else none
theorem run_fst : ∀ (ds : List Deed) (b : Int) (f : List Str) (t : TB), (runT b f t ds).map (fun r => (r.1, r.2.1)) = runS b f ds
  | [], _, _, _ => rfl
  | d :: ds, b, f, t => by
    unfold runT runS
    split
    · exact run_fst ds _ _ _
    · rfl
theorem run_append : ∀ (ds es : List Deed) (b : Int) (f : List Str) (t : TB), runT b f t (ds ++ es) = match runT b f t ds with
    | some (b', f', t') => runT b' f' t' es
    | none => none
  | [], _, _, _, _ => rfl
  | d :: ds, es, b, f, t => by
    rw [List.cons_append]
    by_cases hc : canB b f d = true
    · have e1 : ∀ l, runT b f t (d :: l) = runT (nb b d) (nf f d) (addAll t (rowsOf b f d)) l := fun l => by rw [runT, if_pos hc]
      rw [e1, e1]
      exact run_append ds es _ _ _
    · have e1 : ∀ l, runT b f t (d :: l) = none := fun l => by rw [runT, if_neg hc]
      rw [e1, e1]
theorem runS_append : ∀ (ds es : List Deed) (b : Int) (f : List Str), runS b f (ds ++ es) = match runS b f ds with
    | some (b', f') => runS b' f' es
    | none => none
  | [], _, _, _ => rfl
  | d :: ds, es, b, f => by
    rw [List.cons_append]
    by_cases hc : canB b f d = true
    · have e1 : ∀ l, runS b f (d :: l) = runS (nb b d) (nf f d) l := fun l => by rw [runS, if_pos hc]
      rw [e1, e1]
      exact runS_append ds es _ _
    · have e1 : ∀ l, runS b f (d :: l) = none := fun l => by rw [runS, if_neg hc]
      rw [e1, e1]
/-- all that is told of a run -/
structure RunOk (b : Int) (f : List Str) (t : TB) : Prop where
  st : StOk b f
  nd : keyN t
  pos : ∀ e ∈ t, 0 < e.2 ∧ e.1.1 ≠ e.1.2 ∧ okS e.1.1 ∧ okS e.1.2
theorem run_step {b : Int} {f : List Str} {t : TB} {d : Deed} (h : RunOk b f t) (hd : dOk d) (hc : canB b f d = true) : RunOk (nb b d) (nf f d) (addAll t (rowsOf b f d)) := by
  refine ⟨ok_next h.st hd hc, add_nodup _ h.nd, add_all (fun e => 0 < e.2 ∧ e.1.1 ≠ e.1.2 ∧ okS e.1.1 ∧ okS e.1.2) (fun k v c q hc => ⟨by have := q.1; show 0 < v + c; omega, q.2⟩) _ (fun r hr => ?_) h.pos⟩
  obtain ⟨h1, h2, h3⟩ := rows_ok h.st hd hc hr
  exact ⟨h2, h2, h3, h1.1, h1.2⟩
theorem run_ok : ∀ {ds : List Deed} {b : Int} {f : List Str} {t : TB} {b' : Int} {f' : List Str} {t' : TB}, RunOk b f t → (∀ d ∈ ds, dOk d) → runT b f t ds = some (b', f', t') → RunOk b' f' t'
  | [], _, _, _, _, _, _, h, _, e => by cases e; exact h
  | d :: ds, b, f, t, _, _, _, h, hd, e => by
    unfold runT at e
    split at e
    · rename_i hc
      exact run_ok (run_step h (hd d (List.mem_cons_self ..)) hc) (fun x hx => hd x (List.mem_cons_of_mem _ hx)) e
    · cases e
theorem run_nil {b : Int} {f : List Str} (h : StOk b f) : RunOk b f [] := ⟨h, by unfold keyN; simp, fun e he => absurd he (by simp)⟩
/-- what a run adds to the sums does not hang on the table ahead -/
theorem run_sum (g : Str × Str → Bool) : ∀ {ds : List Deed} {b : Int} {f : List Str} {t : TB} {b' : Int} {f' : List Str} {t' : TB}, RunOk b f t → (∀ d ∈ ds, dOk d) → runT b f t ds = some (b', f', t') →
    ∃ u, runT b f [] ds = some (b', f', u) ∧ sumK t' g = sumK t g + sumK u g
  | [], _, _, _, _, _, _, _, _, e => by cases e; exact ⟨[], rfl, by rw [show sumK [] g = 0 from rfl]; omega⟩
  | d :: ds, b, f, t, b', f', t', h, hd, e => by
    unfold runT at e
    split at e
    · rename_i hc
      have hd1 := hd d (List.mem_cons_self ..)
      have hd2 : ∀ x ∈ ds, dOk x := fun x hx => hd x (List.mem_cons_of_mem _ hx)
      have r1 := run_step h hd1 hc
      have r2 := run_step (run_nil h.st) hd1 hc
      obtain ⟨u, e1, e2⟩ := run_sum g r1 hd2 e
      have e3 : ∃ w, runT (nb b d) (nf f d) (addAll [] (rowsOf b f d)) ds = some (b', f', w) := by
        have q := run_fst ds (nb b d) (nf f d) (addAll t (rowsOf b f d))
        have q2 := run_fst ds (nb b d) (nf f d) (addAll [] (rowsOf b f d))
        rw [e] at q
        rw [← q] at q2
        cases z : runT (nb b d) (nf f d) (addAll [] (rowsOf b f d)) ds with
        | none => rw [z] at q2; cases q2
        | some w =>
          rw [z] at q2
          obtain ⟨w1, w2, w3⟩ := w
          cases q2
          exact ⟨w3, rfl⟩
      obtain ⟨w, e3⟩ := e3
      obtain ⟨u2, e4, e5⟩ := run_sum g r2 hd2 e3
      rw [e1] at e4
      cases e4
      refine ⟨w, ?_, ?_⟩
      · unfold runT; rw [if_pos hc]; exact e3
      · rw [e2, e5, sumK_add g _ h.nd, sumK_add g _ (run_nil h.st).nd, show sumK [] g = 0 from rfl]
        omega
    · cases e
theorem run_len_of : ∀ {ds : List Deed} {b : Int} {f : List Str} {t : TB} {b' : Int} {f' : List Str} {t' : TB}, StOk b f → (∀ d ∈ ds, dOk d) → runT b f t ds = some (b', f', t') → t'.length ≤ t.length + 40 * ds.length
  | [], _, _, _, _, _, _, _, _, e => by cases e; simp
  | d :: ds, b, f, t, _, _, _, h, hd, e => by
    unfold runT at e
    split at e
    · rename_i hc
      have := run_len_of (ok_next h (hd d (List.mem_cons_self ..)) hc) (fun x hx => hd x (List.mem_cons_of_mem _ hx)) e
      have h1 := add_len (rowsOf b f d) t
      have h2 := rows_len (b := b) (folk := f) (d := d)
      have h3 := h.len
      rw [List.length_cons]
      omega
    · cases e
theorem run_len {ds : List Deed} {b : Int} {f : List Str} {b' : Int} {f' : List Str} {t' : TB} (h : StOk b f) (hd : ∀ d ∈ ds, dOk d) (hl : ds.length ≤ 100) (e : runT b f [] ds = some (b', f', t')) : t'.length ≤ 1000000 := by
  have := run_len_of h hd e
  simp at this
  omega
/-! ### what each has handed, less what they got -/
def ownO (b : Int) (f : List Str) (z : Str) : Int := if z ∈ f then own b f z else 0
def fromF (z : Str) : Str × Str → Bool := fun k => decide (k.1 = z)
def toF (z : Str) : Str × Str → Bool := fun k => decide (k.2 = z)
def netT (rows : List (Str × Str × Int)) (z : Str) : Int := sumT rows (keyF (fromF z)) - sumT rows (keyF (toF z))
theorem sum_none {rows : List (Str × Str × Int)} {g : Str × Str × Int → Bool} (h : ∀ r ∈ rows, g r = false) : sumT rows g = 0 := by
  unfold sumT
  rw [List.filter_eq_nil_iff.mpr fun r hr => by rw [h r hr]; simp]
  rfl
theorem own_at_nil {b : Int} {z : Str} : own b [z] z = shareZ b 0 1 := by
  unfold own
  simp
theorem net_deed {b : Int} {f : List Str} {d : Deed} {z : Str} (h : StOk b f) (hd : dOk d) (hc : canB b f d = true) (hz : z ≠ emptyS) : netT (rowsOf b f d) z = ownO (nb b d) (nf f d) z - ownO b f z := by
  unfold netT ownO
  cases d with
  | bill c =>
    unfold canB at hc
    rw [Bool.and_eq_true, Bool.not_eq_true', decide_eq_false_iff_not, decide_eq_true_eq] at hc
    have e2 : sumT (posT (billRows b f c)) (keyF (toF z)) = 0 := sum_none fun r hr => decide_eq_false fun e => hz (by rw [← e]; exact (bill_mem h.nd hr).2.1)
    show sumT (posT (billRows b f c)) _ - sumT (posT (billRows b f c)) _ = (if z ∈ f then _ else 0) - _
    rw [e2]
    by_cases hm : z ∈ f
    · rw [if_pos hm, if_pos hm]
      have := bill_one (c := c) h.lo hd.1 h.nd hm
      show sumT (posT (billRows b f c)) (fun t => decide (t.1 = z)) - 0 = _
      rw [this]
      show _ = own (b + c) f z - own b f z
      omega
    · rw [if_neg hm, if_neg hm]
      rw [sum_none (g := keyF (fromF z)) fun r hr => decide_eq_false fun e => hm (by rw [← e]; exact (bill_mem h.nd hr).1)]
  | come y =>
    unfold canB at hc
    rw [Bool.and_eq_true, Bool.not_eq_true', decide_eq_false_iff_not, decide_eq_true_eq] at hc
    show sumT (posT (comeRows b f y)) (fun t => decide (t.1 = z)) - sumT (posT (comeRows b f y)) (fun t => decide (t.2.1 = z)) = (if z ∈ f ++ [y] then own b (f ++ [y]) z else 0) - _
    by_cases hy : z = y
    · subst hy
      rw [if_neg hc.1, if_pos (by simp), sum_none (g := fun t => decide (t.2.1 = z)) fun r hr => decide_eq_false fun e => hc.1 (by rw [← e]; exact (come_mem h.nd hc.1 hr).2.1)]
      by_cases h0 : f = []
      · subst h0
        have hb := h.nob rfl
        subst hb
        show sumT (posT []) _ - 0 = own 0 [z] z - 0
        rw [own_at_nil]
        have e0 : posT [] = [] := List.eq_nil_of_length_eq_zero (by have := pos_len []; simpa using this)
        rw [e0]
        show (0 : Int) - 0 = shareZ 0 0 1 - 0
        decide
      · rw [come_all h.lo h.nd h0 hc.1]
    · rw [sum_none (g := fun t => decide (t.1 = z)) fun r hr => decide_eq_false fun e => hy (by rw [← e]; exact (come_mem h.nd hc.1 hr).1)]
      by_cases hm : z ∈ f
      · rw [if_pos (by simp [hm]), if_pos hm, come_one h.lo h.nd hc.1 hm]
        omega
      · rw [if_neg (by simp [hm, hy]), if_neg hm, sum_none (g := fun t => decide (t.2.1 = z)) fun r hr => decide_eq_false fun e => hm (by rw [← e]; exact (come_mem h.nd hc.1 hr).2.1)]
  | go y =>
    unfold canB at hc
    rw [Bool.and_eq_true, Bool.or_eq_true, decide_eq_true_eq, decide_eq_true_eq, decide_eq_true_eq] at hc
    have gm : ∀ r ∈ posT (goRows b f y), r.1 ∈ butFor f y ∧ r.2.1 = y := fun r hr => by
      have q := (pos_mem hr).1
      rw [go_names h.nd hc.1] at q
      obtain ⟨x, hx, e⟩ := List.mem_map.mp q
      rw [← e]; exact ⟨hx, rfl⟩
    show sumT (posT (goRows b f y)) (fun t => decide (t.1 = z)) - sumT (posT (goRows b f y)) (fun t => decide (t.2.1 = z)) = (if z ∈ butFor f y then own b (butFor f y) z else 0) - _
    by_cases hy : z = y
    · subst hy
      have n1 : z ∉ butFor f z := fun e => (but_mem.mp e).2 rfl
      rw [if_neg n1, if_pos hc.1, sum_none (g := fun t => decide (t.1 = z)) fun r hr => decide_eq_false fun e => n1 (by have := (gm r hr).1; rw [e] at this; exact this)]
      by_cases hl : 1 < f.length
      · rw [go_all h.lo h.nd hc.1 hl]
      · have hb : b = 0 := by omega
        subst hb
        have hbl := but_len h.nd hc.1
        have e0 : butFor f z = [] := by
          apply List.eq_nil_of_length_eq_zero
          omega
        rw [sum_none (g := fun t => decide (t.2.1 = z)) fun r hr => absurd (gm r hr).1 (by rw [e0]; simp)]
        have := share_le (b := 0) (p := (f.idxOf z : Nat)) (m := (f.length : Nat)) (by omega) (by omega) (idx_lt hc.1)
        have := share_nonneg (b := 0) (p := (f.idxOf z : Nat)) (m := (f.length : Nat))
        unfold own
        omega
    · rw [sum_none (g := fun t => decide (t.2.1 = z)) fun r hr => decide_eq_false fun e => hy (by rw [← e]; exact (gm r hr).2)]
      by_cases hm : z ∈ f
      · have hm2 : z ∈ butFor f y := but_mem.mpr ⟨hm, hy⟩
        rw [if_pos hm2, if_pos hm, go_one h.lo h.nd hc.1 hm2]
        omega
      · have hm2 : z ∉ butFor f y := fun e => hm (but_mem.mp e).1
        rw [if_neg hm2, if_neg hm, sum_none (g := fun t => decide (t.1 = z)) fun r hr => decide_eq_false fun e => hm2 (by have := (gm r hr).1; rw [e] at this; exact this)]
theorem net_house {b : Int} {f : List Str} {d : Deed} (h : StOk b f) (hd : dOk d) (hc : canB b f d = true) : netT (rowsOf b f d) emptyS = b - nb b d := by
  unfold netT
  have nf1 : ∀ x ∈ f, x ≠ emptyS := fun x hx => name_ne (h.nm x hx)
  cases d with
  | bill c =>
    unfold canB at hc
    rw [Bool.and_eq_true, Bool.not_eq_true', decide_eq_false_iff_not, decide_eq_true_eq] at hc
    show sumT (posT (billRows b f c)) (fun t => decide (t.1 = emptyS)) - sumT (posT (billRows b f c)) (fun t => decide (t.2.1 = emptyS)) = b - (b + c)
    rw [sum_none (g := fun t => decide (t.1 = emptyS)) fun r hr => decide_eq_false fun e => nf1 _ (bill_mem h.nd hr).1 e, bill_all h.lo hd.1 h.nd hc.1]
    omega
  | come y =>
    unfold canB at hc
    rw [Bool.and_eq_true, Bool.not_eq_true', decide_eq_false_iff_not, decide_eq_true_eq] at hc
    show sumT (posT (comeRows b f y)) (fun t => decide (t.1 = emptyS)) - sumT (posT (comeRows b f y)) (fun t => decide (t.2.1 = emptyS)) = b - b
    rw [sum_none (g := fun t => decide (t.1 = emptyS)) fun r hr => decide_eq_false fun e => name_ne hd (by rw [← (come_mem h.nd hc.1 hr).1, e]),
      sum_none (g := fun t => decide (t.2.1 = emptyS)) fun r hr => decide_eq_false fun e => nf1 _ (come_mem h.nd hc.1 hr).2.1 e]
    omega
  | go y =>
    unfold canB at hc
    rw [Bool.and_eq_true, decide_eq_true_eq] at hc
    show sumT (posT (goRows b f y)) (fun t => decide (t.1 = emptyS)) - sumT (posT (goRows b f y)) (fun t => decide (t.2.1 = emptyS)) = b - b
    rw [sum_none (g := fun t => decide (t.1 = emptyS)) fun r hr => decide_eq_false fun e => nf1 _ (go_mem h.nd hc.1 hr).1 e,
      sum_none (g := fun t => decide (t.2.1 = emptyS)) fun r hr => decide_eq_false fun e => name_ne hd (by rw [← (go_mem h.nd hc.1 hr).2.1, e])]
    omega
def netK (t : TB) (z : Str) : Int := sumK t (fromF z) - sumK t (toF z)
theorem net_list (t : TB) (z : Str) : netT (listT t) z = netK t z := by
  unfold netT netK
  rw [sumT_list, sumT_list]
theorem run_net : ∀ {ds : List Deed} {b : Int} {f : List Str} {t : TB} {b' : Int} {f' : List Str} {t' : TB}, RunOk b f t → (∀ d ∈ ds, dOk d) → runT b f t ds = some (b', f', t') →
    (∀ z, z ≠ emptyS → netK t' z - netK t z = ownO b' f' z - ownO b f z) ∧ netK t' emptyS - netK t emptyS = b - b'
  | [], _, _, _, _, _, _, _, _, e => by cases e; exact ⟨fun z _ => by omega, by omega⟩
  | d :: ds, b, f, t, b', f', t', h, hd, e => by
    unfold runT at e
    split at e
    · rename_i hc
      have hd1 := hd d (List.mem_cons_self ..)
      obtain ⟨i1, i2⟩ := run_net (run_step h hd1 hc) (fun x hx => hd x (List.mem_cons_of_mem _ hx)) e
      have ad : ∀ z, netK (addAll t (rowsOf b f d)) z = netK t z + netT (rowsOf b f d) z := fun z => by
        unfold netK netT
        rw [sumK_add _ _ h.nd, sumK_add _ _ h.nd]
        omega
      refine ⟨fun z hz => ?_, ?_⟩
      · have := i1 z hz
        rw [ad, net_deed h.st hd1 hc hz] at this
        omega
      · rw [ad, net_house h.st hd1 hc] at i2
        omega
    · cases e
/-! ### bills put together -/
theorem run_comes : ∀ (zs f : List Str) (b : Int), StOk b f → (f ++ zs).Nodup → (∀ z ∈ zs, nameOk z = true) → (f ++ zs).length ≤ 40 → runS b f (zs.map Deed.come) = some (b, f ++ zs)
  | [], f, b, _, _, _, _ => by rw [List.append_nil]; rfl
  | z :: zs, f, b, h, hn, hk, hl => by
    have e : f ++ z :: zs = (f ++ [z]) ++ zs := by simp
    have hz : z ∉ f := fun q => by
      have := (List.nodup_append.mp hn).2.2 z q z (List.mem_cons_self ..)
      exact this rfl
    have hl2 : f.length < 40 := by rw [List.length_append, List.length_cons] at hl; omega
    have hc : canB b f (.come z) = true := by unfold canB; simp [hz, hl2]
    rw [List.map_cons]
    unfold runS
    rw [if_pos hc, e]
    rw [e] at hn hl
    exact run_comes zs (f ++ [z]) b (h.snoc (hk z (List.mem_cons_self ..)) hz hl2) hn (fun x hx => hk x (List.mem_cons_of_mem _ hx)) hl
theorem nobody_ok : StOk 0 [] := ⟨Int.le_refl _, by decide, by decide, fun _ h => absurd h (by simp), by simp, fun _ => rfl⟩
theorem mixed_one {b : Int} {f : List Str} (h : StOk b f) (h0 : f ≠ []) : runS 0 [] (f.map Deed.come ++ [.bill b]) = some (b, f) := by
  rw [runS_append, run_comes f [] 0 nobody_ok h.nd h.nm h.len]
  show runS 0 ([] ++ f) [.bill b] = _
  rw [List.nil_append]
  unfold runS
  have hc : canB 0 f (.bill b) = true := by unfold canB; have := h.hi; simp [h0]; omega
  rw [if_pos hc]
  show some (0 + b, f) = _
  rw [Int.zero_add]
theorem mixed_two {b : Int} {z : Str} {f : List Str} (h : StOk b (z :: f)) : runS 0 [] (Deed.come z :: .bill b :: f.map Deed.come) = some (b, z :: f) := by
  have hz := h.nm z (List.mem_cons_self ..)
  have hc1 : canB 0 [] (.come z) = true := by unfold canB; simp
  have hc2 : canB 0 [z] (.bill b) = true := by unfold canB; have := h.hi; simp; omega
  have ok1 : StOk b [z] := ⟨h.lo, h.hi, by simp, fun x hx => by rw [List.mem_singleton] at hx; rw [hx]; exact hz, by simp, fun e => absurd e (by simp)⟩
  have hl := h.len
  unfold runS
  rw [if_pos hc1]
  show runS 0 ([] ++ [z]) _ = _
  rw [List.nil_append]
  unfold runS
  rw [if_pos hc2]
  show runS (0 + b) [z] _ = _
  rw [Int.zero_add, run_comes f [z] b ok1 h.nd (fun x hx => h.nm x (List.mem_cons_of_mem _ hx)) hl]
  rfl
end Paid

set_option Elab.async false
set_option linter.all false
set_option maxRecDepth 100000
/-! PKP: what the defs about deeds do. -/
namespace Paid
open PySem L2 PL
/-- data that may be asked whether it is a deed: its first text is a text -/
def wordOk : D → Prop
  | .tup (.str w :: _) => okS w
  | _ => True
def deedB : D → Bool
  | .tup [.str w, x] => if w = "bill" then withinD x 0 farZ else decide (w ∈ (["come", "go"] : List Str)) && nameD x
  | _ => false
def phIsDeed : PhA := fun ds S q => ∃ x, ds = [x] ∧ fineD x = true ∧ wordOk x ∧ q (.bl (deedB x)) S
theorem deedB_no {x : D} (h : ∀ xs, x ≠ .tup xs) : deedB x = false := by
  cases x with
  | tup xs => exact absurd rfl (h xs)
  | _ => rfl
theorem deedB_len {xs : List D} (h : xs.length ≠ 2) : deedB (.tup xs) = false := by
  match xs, h with
  | [], _ => rfl
  | [_], _ => (unfold deedB; split <;> first | rfl | (rename_i e; cases e))
  | [_, _], h => exact absurd rfl h
  | _ :: _ :: _ :: _, _ => (unfold deedB; split <;> first | rfl | (rename_i e; cases e))
theorem deedB_a {a b : D} (h : ∀ w, a ≠ .str w) : deedB (.tup [a, b]) = false := by
  cases a with
  | str w => exact absurd rfl (h w)
  | _ => rfl
theorem deedB_eq (w : Str) (x : D) : deedB (.tup [.str w, x]) = if w = "bill" then withinD x 0 farZ else decide (w ∈ (["come", "go"] : List Str)) && nameD x := rfl
theorem deedB_d {d : Deed} (h : dOk d) : deedB (deedD d) = true := by
  cases d with
  | bill c =>
    have e : deedB (deedD (.bill c)) = withinD (.int c) 0 farZ := (deedB_eq _ _).trans (if_pos rfl)
    rw [e]
    simp [withinD, h.1, h.2]
  | come z =>
    have e : deedB (deedD (.come z)) = (decide (("come" : Str) ∈ (["come", "go"] : List Str)) && nameD (.str z)) := (deedB_eq _ _).trans (if_neg (by decide))
    rw [e, show nameD (.str z) = true from h]
    rfl
  | go z =>
    have e : deedB (deedD (.go z)) = (decide (("go" : Str) ∈ (["come", "go"] : List Str)) && nameD (.str z)) := (deedB_eq _ _).trans (if_neg (by decide))
    rw [e, show nameD (.str z) = true from h]
    rfl
theorem fine_deed {d : Deed} (h : dOk d) : fineD (deedD d) = true := by
  cases d with
  | bill c => simp [deedD, fineD, fineL]; decide
  | come z => have := name_short h; simp [deedD, fineD, fineL]; exact ⟨by decide, by omega⟩
  | go z => have := name_short h; simp [deedD, fineD, fineL]; exact ⟨by decide, by omega⟩
theorem ok_billS : okS "bill" := by show PyData.strOk "bill" = true; decide +kernel
theorem ok_comeS : okS "come" := by show PyData.strOk "come" = true; decide +kernel
theorem ok_goS : okS "go" := by show PyData.strOk "go" = true; decide +kernel
theorem word_deed (d : Deed) : wordOk (deedD d) := by
  cases d with
  | bill c => exact ok_billS
  | come z => exact ok_comeS
  | go z => exact ok_goS
/-- what a thing is that may be a row of deeds -/
def deedsB : D → Bool
  | .lst xs => decide (xs.length ≤ 100) && xs.all deedB
  | _ => false
def deedsFine : D → Prop
  | .lst xs => ∀ x ∈ xs, fineD x = true ∧ wordOk x
  | _ => True
def phNeedDeeds : PhA := fun ds S q => ∃ x, ds = [x] ∧ fineD x = true ∧ deedsFine x ∧ deedsB x = true ∧ q .non S
def phPossible : PhA := fun ds S q => ∃ b folk d, ds = [stateD b folk, deedD d] ∧ StOk b folk ∧ dOk d ∧ q (.bl (canB b folk d)) S
def phDone : PhA := fun ds S q => ∃ b folk d, ds = [stateD b folk, deedD d] ∧ StOk b folk ∧ dOk d ∧ canB b folk d = true ∧ q (.tup [stateD (nb b d) (nf folk d), .lst ((rowsOf b folk d).map tripD)]) S
def phAllDone : PhA := fun ds S q => ∃ b folk deeds, ds = [stateD b folk, .lst (deeds.map deedD)] ∧ StOk b folk ∧ (∀ d ∈ deeds, dOk d) ∧ deeds.length ≤ 1000 ∧ (runT b folk [] deeds = none → q .non S) ∧
  ∀ b' f' t, runT b folk [] deeds = some (b', f', t) → ∀ p, S p = none → q (.tup [stateD b' f', .ref p]) (S.upd p (.dT (tbD t)))
def phListed : PhA := fun ds S q => ∃ t : TB, t.length ≤ 1000000 ∧ ((ds = [.dct (tbD t)] ∧ NewL S ((listT t).map tripD) q) ∨ ∃ p, ds = [.ref p] ∧ S p = some (.dT (tbD t)) ∧ NewL (S.del p) ((listT t).map tripD) q)
def phBehind : PhA := fun ds S q => ∃ b folk deeds, ds = [stateD b folk, .lst (deeds.map deedD)] ∧ StOk b folk ∧ (∀ d ∈ deeds, dOk d) ∧ deeds.length ≤ 100 ∧ (runS b folk deeds = none → q .non S) ∧ ∀ b' f', runS b folk deeds = some (b', f') → q (stateD b' f') S
def phHanded : PhA := fun ds S q => ∃ b folk deeds, ds = [stateD b folk, .lst (deeds.map deedD)] ∧ StOk b folk ∧ (∀ d ∈ deeds, dOk d) ∧ deeds.length ≤ 100 ∧ (runT b folk [] deeds = none → q .non S) ∧ ∀ b' f' t, runT b folk [] deeds = some (b', f', t) → NewL S ((listT t).map tripD) q
def stepD (b : Int) (folk : List Str) (d : Deed) : D := if canB b folk d = true then stateD (nb b d) (nf folk d) else .non
def phStep : PhA := fun ds S q => ∃ b folk d, ds = [stateD b folk, deedD d] ∧ StOk b folk ∧ dOk d ∧ q (stepD b folk d) S
def phADeed : PhA := fun ds S q => ∃ (b : Addr) (ns : List Int) (n : Int) (c : Int) (folk : List Str) (far : Int), ds = [.ref b, stateD c folk, .int far] ∧ BagAt S b ns n ∧ StOk c folk ∧ 59 ≤ far ∧ far ≤ farZ + 1 ∧
  ∀ (d : Deed) (S' : Sto), dOk d → Took S b ns S' → q (deedD d) S'
theorem name_pick {u : Int} (h0 : 0 ≤ u) (h1 : u < 44) : ∃ z : Str, atI ((allN.take 44).map D.str) u = some (.str z) ∧ nameOk z = true := by
  obtain ⟨j, rfl⟩ : ∃ j : Nat, u = j := ⟨u.toNat, by omega⟩
  have hj : j < (allN.take 44).length := by rw [show (allN.take 44).length = 44 from by decide +kernel]; omega
  exact ⟨_, atI_nat (by rw [List.getElem?_map, List.getElem?_eq_getElem hj]; rfl), allN_ok _ (List.mem_of_mem_take (List.getElem_mem hj))⟩
/-- what stands but for the bags -/
theorem Bags.del {S : Sto} {ps : List Addr} {p : Addr} (h : Bags S ps) (hp : ∀ b ∈ ps, b ≠ p) : Bags (S.del p) ps := fun b hb => by
  obtain ⟨ns, n, g⟩ := h b hb
  exact ⟨ns, n, by unfold Sto.del; rw [if_neg (hp b hb)]; exact g.at', g.len, g.pos⟩
theorem Bags.upd {S : Sto} {ps : List Addr} {p : Addr} {o : O} (h : Bags S ps) (hp : ∀ b ∈ ps, b ≠ p) : Bags (S.upd p o) ps := fun b hb => by
  obtain ⟨ns, n, g⟩ := h b hb
  exact ⟨ns, n, by rw [upd_off (hp b hb)]; exact g.at', g.len, g.pos⟩
theorem Bags.ne {S : Sto} {ps : List Addr} {p : Addr} (h : Bags S ps) (hp : S p = none) : ∀ b ∈ ps, b ≠ p := fun b hb e => by
  obtain ⟨ns, n, g⟩ := h b hb
  have := g.at'
  rw [e, hp] at this
  cases this
theorem step_of {b : Int} {f : List Str} {d : Deed} : (canB b f d = true ∧ stepD b f d = stateD (nb b d) (nf f d)) ∨ (canB b f d = false ∧ stepD b f d = .non) := by
  cases h : canB b f d with
  | true => exact .inl ⟨rfl, if_pos h⟩
  | false => exact .inr ⟨rfl, if_neg (by rw [h]; simp)⟩
theorem runS_snoc {b b' : Int} {f f' : List Str} {ds : List Deed} {d : Deed} (h : runS b f ds = some (b', f')) (hc : canB b' f' d = true) : runS b f (ds ++ [d]) = some (nb b' d, nf f' d) := by
  rw [runS_append, h]
  show runS b' f' [d] = _
  rw [runS, if_pos hc]
  rfl
theorem runS_ok : ∀ {ds : List Deed} {b : Int} {f : List Str} {b' : Int} {f' : List Str}, StOk b f → (∀ d ∈ ds, dOk d) → runS b f ds = some (b', f') → StOk b' f'
  | [], _, _, _, _, h, _, e => by cases e; exact h
  | d :: ds, b, f, _, _, h, hd, e => by
    unfold runS at e
    split at e
    · rename_i hc
      exact runS_ok (ok_next h (hd d (List.mem_cons_self ..)) hc) (fun x hx => hd x (List.mem_cons_of_mem _ hx)) e
    · cases e
theorem runT_of {ds : List Deed} {b : Int} {f : List Str} {b' : Int} {f' : List Str} (t : TB) (h : runS b f ds = some (b', f')) : ∃ t', runT b f t ds = some (b', f', t') := by
  have q := run_fst ds b f t
  rw [h] at q
  cases z : runT b f t ds with
  | none => rw [z] at q; cases q
  | some w =>
    rw [z] at q
    obtain ⟨w1, w2, w3⟩ := w
    cases q
    exact ⟨w3, rfl⟩
/-- a run in two parts -/
theorem run_parts {ds : List Deed} {b b' : Int} {f f' : List Str} {t : TB} (k : Nat) (hst : StOk b f) (hd : ∀ d ∈ ds, dOk d) (h : runT b f [] ds = some (b', f', t)) :
    ∃ b1 f1 t1 t2, runT b f [] (ds.take k) = some (b1, f1, t1) ∧ runT b1 f1 [] (ds.drop k) = some (b', f', t2) ∧ StOk b1 f1 ∧ RunOk b1 f1 t1 ∧ RunOk b' f' t2 ∧ RunOk b' f' t ∧ listT (addAll [] (listT t1 ++ listT t2)) = listT t := by
  have e : ds = ds.take k ++ ds.drop k := (List.take_append_drop k ds).symm
  have hd1 : ∀ d ∈ ds.take k, dOk d := fun d hm => hd d (List.mem_of_mem_take hm)
  have hd2 : ∀ d ∈ ds.drop k, dOk d := fun d hm => hd d (List.mem_of_mem_drop hm)
  have hr := h
  rw [e, run_append] at hr
  cases z : runT b f [] (ds.take k) with
  | none => rw [z] at hr; cases hr
  | some w =>
    obtain ⟨b1, f1, t1⟩ := w
    rw [z] at hr
    have r1 := run_ok (run_nil hst) hd1 z
    have hr : runT b1 f1 t1 (ds.drop k) = some (b', f', t) := hr
    obtain ⟨t2, h2, _⟩ := run_sum (fun _ => true) r1 hd2 hr
    have r2 := run_ok (run_nil r1.st) hd2 h2
    have r3 := run_ok (run_nil hst) hd h
    refine ⟨b1, f1, t1, t2, rfl, h2, r1.st, r1, r2, r3, ?_⟩
    have rows : ∀ r ∈ listT t1 ++ listT t2, 0 < r.2.2 := fun r hm => by
      rcases List.mem_append.mp hm with hm | hm
      · exact (r1.pos _ (mem_list.mp hm)).1
      · exact (r2.pos _ (mem_list.mp hm)).1
    have n0 : keyN ([] : TB) := by unfold keyN; simp
    refine list_eq (add_nodup _ n0) r3.nd (add_all (fun e => 0 < e.2) (fun k v c q1 q2 => by show 0 < v + c; have : 0 < v := q1; omega) _ (fun r hm => ⟨rows r hm, rows r hm⟩) (fun e he => absurd he (by simp))) (fun e he => (r3.pos e he).1) fun k => ?_
    obtain ⟨t2', h2', hs⟩ := run_sum (atK k) r1 hd2 hr
    rw [h2] at h2'
    cases h2'
    rw [sumK_add _ _ n0, sumT_append, sumT_list, sumT_list, hs, show sumK [] (atK k) = 0 from rfl]
    omega
theorem mem_find : ∀ {t : TB} {e : (Str × Str) × Int}, keyN t → e ∈ t → (t.find? fun x => decide (x.1 = e.1)) = some e
  | [], _, _, h => by simp at h
  | x :: t, e, hn, h => by
    have hn' := List.nodup_cons.mp (show (x.1 :: t.map (·.1)).Nodup from hn)
    rcases List.mem_cons.mp h with q | q
    · subst q; rw [List.find?_cons, decide_eq_true rfl]
    · have hne : x.1 ≠ e.1 := fun w => hn'.1 (by rw [w]; exact List.mem_map.mpr ⟨_, q, rfl⟩)
      rw [List.find?_cons, decide_eq_false hne]
      exact mem_find hn'.2 q
theorem rows_of_run {b : Int} {f : List Str} {t : TB} (h : RunOk b f t) : ∀ r ∈ listT t, okT r ∧ 0 < r.2.2 ∧ r.1 ≠ r.2.1 := fun r hm => by
  obtain ⟨h1, h2, h3, h4⟩ := h.pos _ (mem_list.mp hm)
  exact ⟨⟨h3, h4⟩, h1, h2⟩
theorem add_names : ∀ (rows : List (Str × Str × Int)) {t : TB}, (∀ r ∈ rows, okT r) → (∀ e ∈ t, okS e.1.1 ∧ okS e.1.2) → ∀ e ∈ addAll t rows, okS e.1.1 ∧ okS e.1.2
  | [], _, _, ht => ht
  | r :: rows, t, hr, ht => by
    refine add_names rows (fun x hx => hr x (List.mem_cons_of_mem _ hx)) fun e he => ?_
    rcases put_mem he with q | q
    · rw [q]; exact hr r (List.mem_cons_self ..)
    · exact ht e q
/-- the table of who has paid what, asked -/
theorem own_get {b : Int} {folk : List Str} {z : Str} (h : folk.Nodup) {S : Sto} {p : Addr} (hp : S p = some (ownT b folk)) : ∃ o, HasD S p (.str z) o ∧ o.getD (.int 0) = .int (ownO b folk z) := by
  by_cases hz : z ∈ folk
  · exact ⟨_, own_has h hz hp, by unfold ownO; rw [if_pos hz]; rfl⟩
  · refine ⟨_, HasD.k (Sum.inr z) hp, ?_⟩
    have e : valD (tabD (sortP (paidRows b folk))) (Sum.inr z : Key) = none := by
      have hn : ∀ p ∈ sortP (paidRows b folk), p.1 ≠ z := fun p hm e => by
        have := (sortP_perm _).mem_iff.mp hm
        rw [paid_names h] at this
        obtain ⟨y, hy, q⟩ := List.mem_map.mp this
        rw [← q] at e
        exact hz (by rw [← e]; exact hy)
      unfold valD
      rw [List.find?_eq_none.mpr fun kv hm => ?_]
      · rfl
      · unfold tabD at hm
        obtain ⟨p, hp, q⟩ := List.mem_map.mp hm
        rw [← q]
        simp only [decide_eq_true_eq]
        intro e
        exact hn p hp (Sum.inr.inj e)
    rw [e]
    unfold ownO
    rw [if_neg hz]
    rfl
def phNet : PhA := fun ds S q => ∃ (ts : List (Str × Str × Int)) (z : Str), ds = [.lst (ts.map tripD), .str z] ∧ ts.length ≤ 1000000 ∧ (∀ t ∈ ts, okT t) ∧ okS z ∧ q (.int (netT ts z)) S
end Paid

set_option Elab.async false
set_option linter.all false
set_option maxRecDepth 100000
/-! PKT: the laws' own table of who has paid what; what is handed by it. -/
namespace Paid
open PySem L2 PL
/-- a list in order is what sorting gives -/
theorem sortP_is {xs ys : List (Str × Int)} (h : xs.Perm ys) (hs : ys.Pairwise fun a b => ¬ ltP b a) : sortP xs = ys := by
  have hle : ∀ a b : Str × Int, PySem.W.dataLe false pairE a b = !decide (ltP b a) := fun a b => by show (!PySem.W.dataLt (pairE b) (pairE a)) = _; rw [lt_pairE]
  rw [sortP_eq h]
  refine List.mergeSort_of_pairwise ?_
  exact hs.imp fun {a b} q => by rw [hle]; simpa using q
theorem sortT_is {xs ys : List (Str × Str × Int)} (h : xs.Perm ys) (hs : ys.Pairwise fun a b => ¬ ltT b a) : sortT xs = ys := by
  have hle : ∀ a b : Str × Str × Int, PySem.W.dataLe false tripE a b = !decide (ltT b a) := fun a b => by show (!PySem.W.dataLt (tripE b) (tripE a)) = _; rw [lt_tripE]
  rw [sortT_eq h]
  refine List.mergeSort_of_pairwise ?_
  exact hs.imp fun {a b} q => by rw [hle]; simpa using q
theorem cut_last (xs : List D) (y : D) : cutD (xs ++ [y]) none (some (-1)) = xs := by
  have e : HT.sIx (xs ++ [y]).length (xs ++ [y]).length (some (-1)) = xs.length := by
    show (if (-1 : Int) < 0 then ((-1 : Int) + ((xs ++ [y]).length : Nat)).toNat else min (-1 : Int).toNat (xs ++ [y]).length) = _
    rw [if_pos (by decide), List.length_append, List.length_singleton]
    omega
  unfold cutD
  rw [e, HT.sIx_none, List.drop_zero, Nat.sub_zero, List.take_left]
theorem cut_strs (xs : List Str) (lo hi : Option Int) : ∃ l : List Str, cutD (xs.map D.str) lo hi = l.map D.str ∧ (∀ z ∈ l, z ∈ xs) ∧ l.length ≤ xs.length := by
  unfold cutD
  rw [List.length_map]
  refine ⟨(xs.drop (HT.sIx xs.length 0 lo)).take (HT.sIx xs.length xs.length hi - HT.sIx xs.length 0 lo), by rw [List.map_take, List.map_drop], fun z hz => List.mem_of_mem_drop (List.mem_of_mem_take hz), ?_⟩
  rw [List.length_take, List.length_drop]
  omega
def sharesL (b : Int) (m : Nat) : List Int := (List.range m).map fun i => shareZ b (i : Nat) (m : Nat)
def phShares : PhA := fun ds S q => ∃ (b : Int) (m : Nat), ds = [.int b, .int (m : Nat)] ∧ 0 ≤ b ∧ m ≤ 1000 ∧ NewL S ((sharesL b m).map D.int) q
def rowsN (b : Int) (folk : List Str) : List (Str × Int) := folk.map fun z => (z, own b folk z)
def tabO (b : Int) (folk : List Str) : O := .dK (tabD (rowsN b folk))
def phTab : PhA := fun ds S q => ∃ b folk, ds = [stateD b folk] ∧ StOk b folk ∧ ∀ p, S p = none → q (.ref p) (S.upd p (tabO b folk))
def phGivenAt : PhA := fun ds S q => ∃ b folk d, ds = [stateD b folk, deedD d] ∧ StOk b folk ∧ dOk d ∧ canB b folk d = true ∧ q (.lst ((rowsOf b folk d).map tripD)) S
theorem share_over {b : Int} {m i : Nat} (hb : 0 ≤ b) (hi : i < m) : (b - b % (m : Nat)) / (m : Nat) + (if decide ((i : Int) < b % (m : Nat)) = true then 1 else 0) = shareZ b (i : Nat) (m : Nat) := by
  rw [share_form hb (by omega) (by omega)]
  have e := Int.emod_add_mul_ediv b m
  have e2 : (b - b % (m : Nat)) / (m : Nat) = b / (m : Nat) := by
    rw [show b - b % (m : Nat) = (m : Nat) * (b / (m : Nat)) by omega, Int.mul_ediv_cancel_left _ (by omega)]
  rw [e2]
  by_cases h : (i : Int) < b % (m : Nat)
  · rw [if_pos (by simpa using h), if_pos h]
  · rw [if_neg (by simpa using h), if_neg h]
theorem own_list {b : Int} {folk : List Str} (h : folk.Nodup) : folk.map (own b folk) = sharesL b folk.length := map_range h fun i : Nat => shareZ b i (folk.length : Nat)
theorem rowsN_keys (b : Int) (folk : List Str) : (rowsN b folk).map (·.1) = folk := by
  unfold rowsN
  rw [List.map_map]
  show folk.map (fun z => z) = folk
  simp
theorem zip_rows (b : Int) (folk : List Str) : (folk.map Sum.inr).zip ((folk.map (own b folk)).map D.int) = tabD (rowsN b folk) := by
  unfold tabD rowsN
  rw [List.map_map, List.map_map]
  induction folk with
  | nil => rfl
  | cons z r ih =>
    have main : ∀ (f : Str → Int) (l : List Str), (l.map Sum.inr).zip (l.map (D.int ∘ f)) = l.map ((fun p : Str × Int => ((.inr p.1 : Key), D.int p.2)) ∘ fun z => (z, f z)) := by
      intro f l
      induction l with
      | nil => rfl
      | cons x xs ih => rw [List.map_cons, List.map_cons, List.map_cons, List.zip_cons_cons, ih]; rfl
    exact main _ _
theorem tab_merge {b : Int} {folk : List Str} (h : folk.Nodup) : mergeD [] ((folk.map Sum.inr).zip ((folk.map (own b folk)).map D.int)) = tabD (rowsN b folk) := by
  rw [zip_rows, mergeD_nodup _ _ (by rw [List.nil_append]; exact tab_nodup (by rw [rowsN_keys]; exact h)), List.nil_append]
theorem tab_has {b : Int} {folk : List Str} {z : Str} (h : folk.Nodup) (hz : z ∈ folk) {S : Sto} {p : Addr} (hp : S p = some (tabO b folk)) : HasD S p (.str z) (some (.int (own b folk z))) := by
  have := HasD.k (S := S) (a := p) (Sum.inr z) hp
  have e := tab_get (ps := rowsN b folk) (z := z) (v := own b folk z) (by rw [rowsN_keys]; exact h) (List.mem_map.mpr ⟨z, hz, rfl⟩)
  rw [e] at this
  exact this
theorem but_given (f g : Str → Int) (y : Str) : ∀ l : List Str, l.filterMap (fun z => if z ≠ y ∧ g z < f z then some (z, y, f z - g z) else none) = (butFor l y).filterMap fun z => if g z < f z then some (z, y, f z - g z) else none
  | [] => rfl
  | x :: xs => by
    have ih := but_given f g y xs
    by_cases q : x = y
    · subst q
      rw [but_cons_eq, List.filterMap_cons, if_neg (by simp)]
      exact ih
    · rw [but_cons_ne q, List.filterMap_cons, List.filterMap_cons]
      by_cases w : g x < f x
      · rw [if_pos ⟨q, w⟩, if_pos w, ih]
      · rw [if_neg (fun z => w z.2), if_neg w, ih]
theorem paid_rowsN {b : Int} {folk : List Str} (h : folk.Nodup) : sortP (paidRows b folk) = sortP (rowsN b folk) := by rw [paid_names h]; rfl
/-- the rows told one by one, then sorted -/
def givenL (b : Int) (folk : List Str) (d : Deed) (zs : List Str) : List (Str × Str × Int) := zs.filterMap fun z => match d with
  | .bill c => if own b folk z < own (b + c) folk z then some (z, emptyS, own (b + c) folk z - own b folk z) else none
  | .come y => if own b (folk ++ [y]) z < own b folk z then some (y, z, own b folk z - own b (folk ++ [y]) z) else none
  | .go y => if z ≠ y ∧ own b folk z < own b (butFor folk y) z then some (z, y, own b (butFor folk y) z - own b folk z) else none
theorem given_sorted {b : Int} {folk : List Str} {d : Deed} (h : StOk b folk) (hd : dOk d) (hc : canB b folk d = true) : sortT (givenL b folk d folk) = rowsOf b folk d := by
  have pos : ∀ (f : Str → Str × Str × Int) (g : Str → Option (Str × Str × Int)) (l : List Str), (∀ z ∈ l, g z = if 0 < (f z).2.2 then some (f z) else none) → l.filterMap g = (l.map f).filter fun t => decide (0 < t.2.2) := by
    intro f g l
    induction l with
    | nil => intro _; rfl
    | cons x xs ih =>
      intro hg
      have hx := hg x (List.mem_cons_self ..)
      rw [List.filterMap_cons, hx, List.map_cons, List.filter_cons, ih fun z hz => hg z (List.mem_cons_of_mem _ hz)]
      by_cases q : 0 < (f x).2.2
      · rw [if_pos q, if_pos (by simpa using q)]
      · rw [if_neg q, if_neg (by simpa using q)]
  unfold rowsOf
  cases d with
  | bill c =>
    show sortT _ = posT (billRows b folk c)
    unfold posT givenL
    rw [bill_names h.nd, ← pos (fun z => (z, emptyS, own (b + c) folk z - own b folk z))]
    intro z hz
    show (if own b folk z < own (b + c) folk z then some (z, emptyS, own (b + c) folk z - own b folk z) else none) = if 0 < own (b + c) folk z - own b folk z then some (z, emptyS, own (b + c) folk z - own b folk z) else none
    by_cases q : own b folk z < own (b + c) folk z
    · rw [if_pos q, if_pos (by omega)]
    · rw [if_neg q, if_neg (by omega)]
  | come y =>
    rw [canB_come, Bool.and_eq_true, Bool.not_eq_true', decide_eq_false_iff_not] at hc
    show sortT _ = posT (comeRows b folk y)
    unfold posT givenL
    rw [come_names h.nd hc.1, ← pos (fun z => (y, z, own b folk z - own b (folk ++ [y]) z))]
    intro z hz
    show (if own b (folk ++ [y]) z < own b folk z then some (y, z, own b folk z - own b (folk ++ [y]) z) else none) = if 0 < own b folk z - own b (folk ++ [y]) z then some (y, z, own b folk z - own b (folk ++ [y]) z) else none
    by_cases q : own b (folk ++ [y]) z < own b folk z
    · rw [if_pos q, if_pos (by omega)]
    · rw [if_neg q, if_neg (by omega)]
  | go y =>
    rw [canB_go, Bool.and_eq_true, decide_eq_true_eq] at hc
    show sortT _ = posT (goRows b folk y)
    unfold posT givenL
    rw [go_names h.nd hc.1, ← pos (fun z => (z, y, own b (butFor folk y) z - own b folk z)) (fun z => if own b folk z < own b (butFor folk y) z then some (z, y, own b (butFor folk y) z - own b folk z) else none)]
    · rw [← but_given]
    · intro z hz
      show (if own b folk z < own b (butFor folk y) z then some (z, y, own b (butFor folk y) z - own b folk z) else none) = if 0 < own b (butFor folk y) z - own b folk z then some (z, y, own b (butFor folk y) z - own b folk z) else none
      by_cases q : own b folk z < own b (butFor folk y) z
      · rw [if_pos q, if_pos (by omega)]
      · rw [if_neg q, if_neg (by omega)]
theorem given_len (b : Int) (folk : List Str) (d : Deed) (zs : List Str) : (givenL b folk d zs).length ≤ zs.length := List.length_filterMap_le _ _
theorem given_snoc (b : Int) (folk : List Str) (d : Deed) (pre : List Str) (z : Str) : givenL b folk d (pre ++ [z]) = givenL b folk d pre ++ givenL b folk d [z] := by
  unfold givenL
  rw [List.filterMap_append]
theorem given_bill (b c : Int) (folk : List Str) (z : Str) : givenL b folk (.bill c) [z] = if own b folk z < own (b + c) folk z then [(z, emptyS, own (b + c) folk z - own b folk z)] else [] := by
  unfold givenL
  by_cases h : own b folk z < own (b + c) folk z
  · rw [if_pos h]; simp [h]
  · rw [if_neg h]; simp [h]
theorem given_come (b : Int) (folk : List Str) (y z : Str) : givenL b folk (.come y) [z] = if own b (folk ++ [y]) z < own b folk z then [(y, z, own b folk z - own b (folk ++ [y]) z)] else [] := by
  unfold givenL
  by_cases h : own b (folk ++ [y]) z < own b folk z
  · rw [if_pos h]; simp [h]
  · rw [if_neg h]; simp [h]
theorem given_go (b : Int) (folk : List Str) (y z : Str) : givenL b folk (.go y) [z] = if z ≠ y ∧ own b folk z < own b (butFor folk y) z then [(z, y, own b (butFor folk y) z - own b folk z)] else [] := by
  unfold givenL
  by_cases h : z ≠ y ∧ own b folk z < own b (butFor folk y) z
  · rw [if_pos h]; simp [h.1, h.2]
  · rw [if_neg h]
    simp only [List.filterMap_cons, if_neg h, List.filterMap_nil]
def annS : Str := "ann"
def boS : Str := "bo"
def cyS : Str := "cy"
def deeS : Str := "dee"
def some3 : List Str := [cyS, annS, boS]
theorem some_ok : StOk 7 some3 := ⟨by decide, by decide, by decide, by decide +kernel, by decide +kernel, fun e => absurd e (by decide)⟩
theorem some_paid : sortP (paidRows 7 some3) = [(annS, 2), (boS, 2), (cyS, 3)] := sortP_is (by decide +kernel) (by decide +kernel)
theorem some_come : posT (comeRows 7 some3 deeS) = [(deeS, cyS, 1)] := sortT_is (by decide +kernel) (by decide +kernel)
theorem some_go : posT (goRows 7 some3 cyS) = [(annS, cyS, 2), (boS, cyS, 1)] := sortT_is (by decide +kernel) (by decide +kernel)
theorem some_bill : posT (billRows 7 some3 1) = [(annS, emptyS, 1)] := sortT_is (by decide +kernel) (by decide +kernel)
theorem ok_annS : okS annS := by show PyData.strOk annS = true; decide +kernel
theorem ok_boS : okS boS := by show PyData.strOk boS = true; decide +kernel
theorem ok_cyS : okS cyS := by show PyData.strOk cyS = true; decide +kernel
theorem ok_deeS : okS deeS := by show PyData.strOk deeS = true; decide +kernel
theorem ok_paid3 : ∀ t ∈ [(annS, (2 : Int)), (boS, 2), (cyS, 3)], okS t.1 := fun t ht => by
  have : t = (annS, 2) ∨ t = (boS, 2) ∨ t = (cyS, 3) := by simpa using ht
  rcases this with e | e | e <;> subst e
  · exact ok_annS
  · exact ok_boS
  · exact ok_cyS
theorem ok_go3 : ∀ t ∈ [(annS, cyS, (2 : Int)), (boS, cyS, 1)], okT t := fun t ht => by
  have : t = (annS, cyS, 2) ∨ t = (boS, cyS, 1) := by simpa using ht
  rcases this with e | e <;> subst e
  · exact ⟨ok_annS, ok_cyS⟩
  · exact ⟨ok_boS, ok_cyS⟩
section
variable {S : Sto} {q : Kq} {x y : D}
theorem py_keyP (xs : List (Str × Int)) : D.py (.lst (xs.map keyP)) = some (.list (xs.map pairE)) := py_lst_map keyP pairE (fun p => by unfold keyP D.py; rfl) xs
theorem ne_lstPK {xs ys : List (Str × Int)} (hx : asL S x = some (xs.map pairD)) (hy : asL S y = some (ys.map keyP)) (h1 : ∀ t ∈ xs, okS t.1) (h2 : ∀ t ∈ ys, okS t.1) (h : q (.bl (!decide (xs = ys))) S) : phNe x y S q :=
  ⟨_, _, by rw [asL_res hx]; exact py_lst_map pairD pairE (fun _ => rfl) xs, by rw [asL_res hy]; exact py_keyP ys, sh_list_map pairE 1 (by omega) xs fun t ht => lay_pair (h1 t ht), sh_list_map pairE 1 (by omega) ys fun t ht => lay_pair (h2 t ht), by
    rw [PyData.eqv, eqvAll_map pairE eqv_pair]; exact h⟩
end
end Paid

set_option Elab.async false
set_option linter.all false
set_option maxRecDepth 100000
/-! PKO: orders told back. -/
namespace Paid
open PySem L2 PL
def fac : Nat → Int
  | 0 => 1
  | n + 1 => fac n * ((n : Int) + 1)
theorem fac_pos : ∀ n, 0 < fac n
  | 0 => by decide
  | n + 1 => Int.mul_pos (fac_pos n) (by omega)
theorem fac_step (k : Nat) : fac k ≤ fac (k + 1) := by
  show _ ≤ fac k * ((k : Int) + 1)
  have h := fac_pos k
  have e : fac k * ((k : Int) + 1) = fac k * k + fac k := by rw [Int.mul_add, Int.mul_one]
  have : 0 ≤ fac k * k := Int.mul_nonneg (by omega) (by omega)
  omega
theorem fac_mono {n m : Nat} (h : n ≤ m) : fac n ≤ fac m := by
  induction h with
  | refl => exact Int.le_refl _
  | step h ih => exact Int.le_trans ih (fac_step _)
theorem fac_le {n : Nat} (h : n ≤ 8) : fac n ≤ 40320 := Int.le_trans (fac_mono h) (by decide)
def phProduct : PhA := fun ds S q => ∃ m : Nat, ds = [.int (m : Nat)] ∧ m ≤ 8 ∧ q (.int (fac m)) S
theorem zip_steps {α : Type} {R : α → α → Prop} : ∀ {xs : List α}, xs.Pairwise R → ∀ p ∈ xs.zip (xs.drop 1), R p.1 p.2
  | [], _, p, h => by simp at h
  | [x], _, p, h => by simp at h
  | x :: y :: xs, hp, p, h => by
    rw [List.pairwise_cons] at hp
    have e : (x :: y :: xs).zip ((x :: y :: xs).drop 1) = (x, y) :: (y :: xs).zip ((y :: xs).drop 1) := rfl
    rw [e, List.mem_cons] at h
    rcases h with rfl | h
    · exact hp.1 y (List.mem_cons_self ..)
    · exact zip_steps hp.2 p h
/-- names with what each has paid, by name -/
structure KOk (ps : List (Str × Int)) : Prop where
  lo : 1 ≤ ps.length
  hi : ps.length ≤ 8
  nm : ∀ p ∈ ps, nameOk p.1 = true
  v0 : ∀ p ∈ ps, 0 ≤ p.2
  v1 : ∀ p ∈ ps, p.2 ≤ farZ
  st : ps.Pairwise fun a b => ltS a.1 b.1
def phIsKnown : PhA := fun ds S q => ∃ ps : List (Str × Int), ds = [.tup (ps.map pairD)] ∧ KOk ps ∧ q (.bl true) S
/-- the names of those who have paid v -/
def whoP (ps : List (Str × Int)) (v : Int) : List Str := (ps.filter fun p => decide (p.2 = v)).map (·.1)
/-- what orders answers -/
def ordD (b : Int) (ps : List (Str × Int)) : D :=
  if sortI (sharesL b ps.length) = sortI (ps.map (·.2)) then
    .tup [.int (fac (whoP ps (b / (ps.length : Nat) + 1)).length * fac (whoP ps (b / (ps.length : Nat))).length), .tup ((whoP ps (b / (ps.length : Nat) + 1) ++ whoP ps (b / (ps.length : Nat))).map D.str)]
  else .tup [.int 0, .non]
def phOrders : PhA := fun ds S q => ∃ (b : Int) (ps : List (Str × Int)), ds = [.int b, .tup (ps.map pairD)] ∧ 0 ≤ b ∧ b ≤ farZ ∧ KOk ps ∧ q (ordD b ps) S
/-- texts in order -/
def sortS (xs : List Str) : List Str := xs.mergeSort (PySem.W.dataLe false PyData.str)
theorem sortS_perm (xs : List Str) : (sortS xs).Perm xs := List.mergeSort_perm _ _
theorem sorted_s {S : Sto} {q : Kq} {x : D} {xs : List Str} (h : asL S x = some (xs.map D.str)) (hq : NewL S ((sortS xs).map D.str) q) : phSorted [x] S q :=
  ⟨x, _, xs, D.str, PyData.str, rfl, asQ_of h, fun b => rfl, PySem.W.AllAlike.of fun a b => by simp [PySem.W.alike], PySem.W.Sortable.others fun b => ⟨(fun z => nomatch z), fun _ z => nomatch z⟩, by rw [h]; simp, fun b => by simp [PyData.depth], hq⟩
theorem lt_strE (a b : Str) : PySem.W.dataLt (.str a) (.str b) = decide (ltS a b) := by
  rw [PySem.W.dataLt_str]; rfl
theorem sortS_eq {xs ys : List Str} (h : xs.Perm ys) : sortS xs = sortS ys :=
  sort_perm (lt := ltS) (fun a b => by show (!PySem.W.dataLt (.str b) (.str a)) = _; rw [lt_strE]) ltS_tri ltS_trans ltS_irrefl h
theorem sortI_eq {xs ys : List Int} (h : xs.Perm ys) : sortI xs = sortI ys :=
  sort_perm (lt := fun a b : Int => a < b) (fun a b => by by_cases e : a ≤ b <;> simp [e] <;> omega) (fun h1 h2 => by omega) (fun h1 h2 => by omega) (fun a => by omega) h
theorem sortS_fix (xs : List Str) : sortS (sortS xs) = sortS xs := sortS_eq (sortS_perm xs)
theorem perm_same {xs ys : List Str} (h1 : xs.Nodup) (h2 : ys.Nodup) (h : ∀ z, z ∈ xs ↔ z ∈ ys) : xs.Perm ys := (List.perm_ext_iff_of_nodup h1 h2).mpr h
theorem sortP_step (xs : List (Str × Int)) (h : (xs.map (·.1)).Nodup) : (sortP xs).Pairwise fun a b => ltS a.1 b.1 := by
  have hle : ∀ a b : Str × Int, PySem.W.dataLe false pairE a b = !decide (ltP b a) := fun a b => by show (!PySem.W.dataLt (pairE b) (pairE a)) = _; rw [lt_pairE]
  have asym : ∀ {a b}, ltP a b → ¬ ltP b a := fun h1 h2 => ltP_irrefl _ (ltP_trans h1 h2)
  have hs : (sortP xs).Pairwise fun a b => PySem.W.dataLe false pairE a b = true := List.pairwise_mergeSort (fun a b c h1 h2 => by
      rw [hle] at h1 h2 ⊢
      simp only [Bool.not_eq_true', decide_eq_false_iff_not] at h1 h2 ⊢
      intro h3
      by_cases q : ltP a b
      · exact h2 (ltP_trans h3 q)
      · have := ltP_tri q h1
        subst this
        exact h2 h3) (fun a b => by
      rw [hle, hle]
      simp only [Bool.or_eq_true, Bool.not_eq_true', decide_eq_false_iff_not]
      by_cases q : ltP a b
      · exact .inl (asym q)
      · exact .inr q) xs
  have hn : ((sortP xs).map (·.1)).Nodup := ((sortP_perm xs).map _).nodup_iff.mpr h
  have hn' : (sortP xs).Pairwise fun a b => a.1 ≠ b.1 := List.pairwise_map.mp hn
  refine (hs.and hn').imp fun {a b} ⟨q1, q2⟩ => ?_
  rw [hle] at q1
  simp only [Bool.not_eq_true', decide_eq_false_iff_not] at q1
  rcases Decidable.em (ltS a.1 b.1) with e | e
  · exact e
  · exact absurd (ltS_tri e fun e2 => q1 (.inl e2)) q2
section
variable {b : Int} {o : List Str}
def over (b : Int) (n : Nat) : Nat := (b % (n : Nat)).toNat
theorem over_lt {n : Nat} (h : 0 < n) : over b n < n := by
  unfold over
  have := Int.emod_lt_of_pos b (show (0 : Int) < n by omega)
  have := Int.emod_nonneg b (show (n : Int) ≠ 0 by omega)
  omega
theorem over_eq {n : Nat} (h : 0 < n) : ((over b n : Nat) : Int) = b % (n : Nat) := by
  unfold over
  have := Int.emod_nonneg b (show (n : Int) ≠ 0 by omega)
  omega
theorem own_over (hb : 0 ≤ b) {z : Str} (hz : z ∈ o) : own b o z = b / (o.length : Nat) + if o.idxOf z < over b o.length then 1 else 0 := by
  have h := List.idxOf_lt_length_of_mem hz
  unfold own
  rw [share_form hb (by omega) (by omega)]
  have e := over_eq (b := b) (show 0 < o.length by omega)
  by_cases q : o.idxOf z < over b o.length
  · rw [if_pos q, if_pos (by omega)]
  · rw [if_neg q, if_neg (by omega)]
theorem mem_take_idx : ∀ {o : List Str} {k : Nat} {z : Str}, z ∈ o.take k ↔ z ∈ o ∧ o.idxOf z < k
  | [], k, z => by simp
  | x :: o, 0, z => by simp
  | x :: o, k + 1, z => by
    rw [List.take_succ_cons, List.mem_cons, List.mem_cons, mem_take_idx (o := o)]
    by_cases e : x = z
    · subst e; simp
    · rw [idx_ne e]
      constructor
      · rintro (h | ⟨h1, h2⟩)
        · exact absurd h.symm e
        · exact ⟨.inr h1, by omega⟩
      · rintro ⟨h | h1, h2⟩
        · exact absurd h.symm e
        · exact .inr ⟨h1, by omega⟩
theorem own_take (hb : 0 ≤ b) {z : Str} (hz : z ∈ o) : own b o z = b / (o.length : Nat) + if z ∈ o.take (over b o.length) then 1 else 0 := by
  rw [own_over hb hz]
  by_cases q : o.idxOf z < over b o.length
  · rw [if_pos q, if_pos (mem_take_idx.mpr ⟨hz, q⟩)]
  · rw [if_neg q, if_neg fun h => q (mem_take_idx.mp h).2]
/-- what is paid tells who has paid a cent more, and nothing else -/
theorem paid_same {o' : List Str} (hb : 0 ≤ b) (h : o.Nodup) (hp : o'.Perm o) : sortP (paidRows b o') = sortP (paidRows b o) ↔ ∀ z, z ∈ o'.take (over b o.length) ↔ z ∈ o.take (over b o.length) := by
  have h' : o'.Nodup := hp.nodup_iff.mpr h
  have hl := hp.length_eq
  rw [paid_names h, paid_names h']
  constructor
  · intro e z
    have e2 : (o'.map fun z => (z, own b o' z)).Perm (o.map fun z => (z, own b o z)) := ((sortP_perm _).symm.trans (by rw [e])).trans (sortP_perm _)
    rcases Decidable.em (z ∈ o) with hz | hz
    · have hz' := hp.mem_iff.mpr hz
      have hm : (z, own b o' z) ∈ o.map fun z => (z, own b o z) := e2.mem_iff.mp (List.mem_map.mpr ⟨z, hz', rfl⟩)
      obtain ⟨y, hy, ey⟩ := List.mem_map.mp hm
      obtain ⟨e3, ev⟩ := Prod.mk.inj ey
      rw [e3] at ev
      have g1 := own_take hb hz
      have g2 := own_take hb hz'
      rw [hl] at g2
      by_cases q1 : z ∈ o'.take (over b o.length) <;> by_cases q2 : z ∈ o.take (over b o.length)
      · exact ⟨fun _ => q2, fun _ => q1⟩
      · rw [if_pos q1] at g2; rw [if_neg q2] at g1; omega
      · rw [if_neg q1] at g2; rw [if_pos q2] at g1; omega
      · exact ⟨fun x => absurd x q1, fun x => absurd x q2⟩
    · exact ⟨fun x => absurd (hp.mem_iff.mp (List.mem_of_mem_take x)) hz, fun x => absurd (List.mem_of_mem_take x) hz⟩
  · intro e
    refine sortP_eq ((hp.map _).trans ?_)
    have : (o.map fun z => (z, own b o' z)) = o.map fun z => (z, own b o z) := List.map_congr_left fun z hz => by
      rw [own_take hb hz, own_take hb (hp.mem_iff.mpr hz), hl]
      by_cases q : z ∈ o.take (over b o.length)
      · rw [if_pos q, if_pos ((e z).mpr q)]
      · rw [if_neg q, if_neg fun x => q ((e z).mp x)]
    rw [this]
/-- those who have paid a cent more, those who have not, by name -/
def hiL (b : Int) (o : List Str) : List Str := whoP (sortP (paidRows b o)) (b / (o.length : Nat) + 1)
def loL (b : Int) (o : List Str) : List Str := whoP (sortP (paidRows b o)) (b / (o.length : Nat))
theorem keys_o (h : o.Nodup) : ((sortP (paidRows b o)).map (·.1)).Nodup := keys_nodup h
theorem who_sorted (h : o.Nodup) (v : Int) : (whoP (sortP (paidRows b o)) v).Pairwise ltS := by
  have := sortP_step (paidRows b o) (by
    rw [paid_names h, List.map_map]
    have e : (o.map ((fun x => x.1) ∘ fun z => (z, own b o z))) = o := by
      have : ((fun x : Str × Int => x.1) ∘ fun z => (z, own b o z)) = id := rfl
      rw [this, List.map_id]
    rw [e]; exact h)
  exact List.pairwise_map.mpr (this.sublist List.filter_sublist)
theorem who_nodup (h : o.Nodup) (v : Int) : (whoP (sortP (paidRows b o)) v).Nodup := (who_sorted h v).imp fun {x y} q e => by subst e; exact ltS_irrefl _ q
theorem who_mem (h : o.Nodup) {v : Int} {z : Str} : z ∈ whoP (sortP (paidRows b o)) v ↔ z ∈ o ∧ own b o z = v := by
  unfold whoP
  rw [List.mem_map]
  constructor
  · rintro ⟨p, hp, rfl⟩
    rw [List.mem_filter, (sortP_perm _).mem_iff, paid_names h, List.mem_map] at hp
    obtain ⟨⟨y, hy, rfl⟩, hv⟩ := hp
    exact ⟨hy, by simpa using hv⟩
  · rintro ⟨hz, hv⟩
    refine ⟨(z, own b o z), ?_, rfl⟩
    rw [List.mem_filter, (sortP_perm _).mem_iff, paid_names h, List.mem_map]
    exact ⟨⟨z, hz, rfl⟩, by simpa using hv⟩
theorem hi_perm (hb : 0 ≤ b) (h : o.Nodup) : (hiL b o).Perm (o.take (over b o.length)) := by
  refine perm_same (who_nodup h _) (h.sublist (List.take_sublist ..)) fun z => ?_
  unfold hiL
  rw [who_mem h]
  constructor
  · rintro ⟨hz, hv⟩
    rw [own_take hb hz] at hv
    by_cases q : z ∈ o.take (over b o.length)
    · exact q
    · rw [if_neg q] at hv; omega
  · intro q
    have hz := List.mem_of_mem_take q
    exact ⟨hz, by rw [own_take hb hz, if_pos q]⟩
theorem mem_drop_idx {k : Nat} {z : Str} (h : o.Nodup) : z ∈ o.drop k ↔ z ∈ o ∧ z ∉ o.take k := by
  constructor
  · intro hz
    refine ⟨List.mem_of_mem_drop hz, fun q => ?_⟩
    have := List.take_append_drop k o
    rw [← this, List.nodup_append] at h
    exact h.2.2 z q z hz rfl
  · rintro ⟨hz, hn⟩
    rw [← List.take_append_drop k o, List.mem_append] at hz
    exact hz.resolve_left hn
theorem lo_perm (hb : 0 ≤ b) (h : o.Nodup) : (loL b o).Perm (o.drop (over b o.length)) := by
  refine perm_same (who_nodup h _) (h.sublist (List.drop_sublist ..)) fun z => ?_
  unfold loL
  rw [who_mem h, mem_drop_idx h]
  constructor
  · rintro ⟨hz, hv⟩
    refine ⟨hz, fun q => ?_⟩
    rw [own_take hb hz, if_pos q] at hv
    omega
  · rintro ⟨hz, q⟩
    exact ⟨hz, by rw [own_take hb hz, if_neg q]; omega⟩
theorem first_perm (hb : 0 ≤ b) (h : o.Nodup) : (hiL b o ++ loL b o).Perm o := by
  have := (hi_perm hb h).append (lo_perm hb h)
  rw [List.take_append_drop] at this
  exact this
theorem hi_len (hb : 0 ≤ b) (h : o.Nodup) (h0 : 0 < o.length) : (hiL b o).length = over b o.length := by
  rw [(hi_perm hb h).length_eq, List.length_take]
  have := over_lt (b := b) h0
  omega
theorem lo_len (hb : 0 ≤ b) (h : o.Nodup) : (loL b o).length = o.length - over b o.length := by
  rw [(lo_perm hb h).length_eq, List.length_drop]
theorem first_take (hb : 0 ≤ b) (h : o.Nodup) (h0 : 0 < o.length) : (hiL b o ++ loL b o).take (over b o.length) = hiL b o := by
  rw [← hi_len hb h h0]; exact List.take_left
theorem first_same (hb : 0 ≤ b) (h : o.Nodup) (h0 : 0 < o.length) : sortP (paidRows b (hiL b o ++ loL b o)) = sortP (paidRows b o) := by
  rw [paid_same hb h (first_perm hb h), first_take hb h h0]
  exact fun z => (hi_perm hb h).mem_iff
/-- of all orders of the same names, the sorted one is the first -/
theorem lex_min : ∀ {xs ys u v : List Str}, xs.Pairwise ltS → ys.Perm xs → lexS (ys ++ u) (xs ++ v) = true → ys = xs ∧ lexS u v = true
  | [], ys, u, v, _, hp, h => by
    have := hp.eq_nil
    subst this
    exact ⟨rfl, h⟩
  | x :: xs, [], u, v, _, hp, h => by simp at hp
  | x :: xs, y :: ys, u, v, hs, hp, h => by
    rw [List.cons_append, List.cons_append] at h
    unfold lexS at h
    rw [List.pairwise_cons] at hs
    by_cases e : y = x
    · subst e
      rw [if_pos rfl] at h
      obtain ⟨g1, g2⟩ := lex_min hs.2 hp.cons_inv h
      exact ⟨by rw [g1], g2⟩
    · rw [if_neg e, decide_eq_true_eq] at h
      have hy : y ∈ x :: xs := hp.mem_iff.mp (List.mem_cons_self ..)
      rcases List.mem_cons.mp hy with q | q
      · exact absurd q e
      · exact absurd (ltS_trans (show ltS y x from h) (hs.1 y q)) (ltS_irrefl _)
theorem lex_refl : ∀ xs : List Str, lexS xs xs = false
  | [] => rfl
  | x :: xs => by unfold lexS; rw [if_pos rfl]; exact lex_refl xs
theorem lex_first {o' : List Str} (hb : 0 ≤ b) (h : o.Nodup) (h0 : 0 < o.length) (hp : o'.Perm o) (hs : sortP (paidRows b o') = sortP (paidRows b o)) : lexS o' (hiL b o ++ loL b o) = false := by
  have h' : o'.Nodup := hp.nodup_iff.mpr h
  have hm := (paid_same hb h hp).mp hs
  have hl := hp.length_eq
  have p1 : (o'.take (over b o.length)).Perm (hiL b o) := perm_same (h'.sublist (List.take_sublist ..)) (who_nodup h _) fun z => (hm z).trans (hi_perm hb h).mem_iff.symm
  have p2 : (o'.drop (over b o.length)).Perm (loL b o) := perm_same (h'.sublist (List.drop_sublist ..)) (who_nodup h _) fun z => by
    rw [(lo_perm hb h).mem_iff, mem_drop_idx h, mem_drop_idx h', hm z, hp.mem_iff]
  cases e : lexS o' (hiL b o ++ loL b o) with
  | false => rfl
  | true =>
    rw [← List.take_append_drop (over b o.length) o'] at e
    obtain ⟨_, g2⟩ := lex_min (who_sorted h _) p1 e
    have g3 := lex_min (u := []) (v := []) (who_sorted h (b / (o.length : Nat))) p2 (by rw [List.append_nil, List.append_nil]; exact g2)
    cases g3.2
/-! the rows that orders is given -/
theorem known_ok (hb : 0 ≤ b) (hb1 : b ≤ farZ) (h : o.Nodup) (h0 : 0 < o.length) (h8 : o.length ≤ 8) (hn : ∀ z ∈ o, nameOk z = true) : KOk (sortP (paidRows b o)) := by
  have hl : (sortP (paidRows b o)).length = o.length := by rw [(sortP_perm _).length_eq]; unfold paidRows; rw [List.length_map, List.length_zipIdx]
  have hm : ∀ p ∈ sortP (paidRows b o), ∃ z ∈ o, p = (z, own b o z) := fun p hp => by
    rw [(sortP_perm _).mem_iff, paid_names h, List.mem_map] at hp
    obtain ⟨z, hz, rfl⟩ := hp
    exact ⟨z, hz, rfl⟩
  have hi : ∀ z ∈ o, o.idxOf z < o.length := fun z hz => List.idxOf_lt_length_of_mem hz
  refine ⟨by omega, by omega, fun p hp => ?_, fun p hp => ?_, fun p hp => ?_, ?_⟩
  · obtain ⟨z, hz, rfl⟩ := hm p hp; exact hn z hz
  · obtain ⟨z, hz, rfl⟩ := hm p hp; exact share_nonneg
  · obtain ⟨z, hz, rfl⟩ := hm p hp
    have := hi z hz
    have := share_le hb (p := (o.idxOf z : Nat)) (m := (o.length : Nat)) (by omega) (by omega)
    show own b o z ≤ farZ
    unfold own
    omega
  · refine sortP_step _ ?_
    rw [paid_names h, List.map_map]
    have : ((fun x : Str × Int => x.1) ∘ fun z => (z, own b o z)) = id := rfl
    rw [this, List.map_id]
    exact h
theorem cents_perm (h : o.Nodup) : ((sortP (paidRows b o)).map (·.2)).Perm (sharesL b o.length) := by
  refine ((sortP_perm _).map _).trans ?_
  rw [paid_names h, List.map_map]
  have := map_range h (fun i => shareZ b (i : Nat) (o.length : Nat))
  unfold sharesL
  rw [← this]
  exact List.Perm.refl _
theorem known_len : (sortP (paidRows b o)).length = o.length := by rw [(sortP_perm _).length_eq]; unfold paidRows; rw [List.length_map, List.length_zipIdx]
theorem ord_known (h : o.Nodup) : ordD b (sortP (paidRows b o)) = .tup [.int (fac (hiL b o).length * fac (loL b o).length), .tup ((hiL b o ++ loL b o).map D.str)] := by
  unfold ordD
  rw [known_len, if_pos (sortI_eq (cents_perm h).symm)]
  rfl
theorem ord_odd (hb : 0 ≤ b) (h0 : 0 < o.length) (h : o.Nodup) {ps : List (Str × Int)} {z : Str} {v : Int} (e : sortP (paidRows b o) = ps ++ [(z, v)]) : ordD b (ps ++ [(z, v + 1)]) = .tup [.int 0, .non] := by
  unfold ordD
  have hl : (ps ++ [(z, v + 1)]).length = o.length := by rw [← known_len (b := b) (o := o), e, List.length_append, List.length_append]; rfl
  rw [hl, if_neg]
  intro q
  have p : (sharesL b o.length).Perm ((ps ++ [(z, v + 1)]).map (·.2)) := ((List.mergeSort_perm (sharesL b o.length) _).symm.trans (by show (sortI (sharesL b o.length)).Perm _; rw [q]; exact List.mergeSort_perm _ _))
  have s1 := perm_sum p
  have s2 := perm_sum (cents_perm (b := b) h)
  rw [e] at s2
  rw [List.map_append, List.sum_append] at s1 s2
  simp only [List.map_cons, List.map_nil, List.sum_cons, List.sum_nil] at s1 s2
  omega
theorem known_odd {ps : List (Str × Int)} {z : Str} {v : Int} (h : KOk (ps ++ [(z, v)])) (hv : v < farZ) : KOk (ps ++ [(z, v + 1)]) := by
  have e : (ps ++ [(z, v + 1)]).map (·.1) = (ps ++ [(z, v)]).map (·.1) := by simp
  have hm : ∀ p ∈ ps ++ [(z, v + 1)], p ∈ ps ++ [(z, v)] ∨ p = (z, v + 1) := fun p hp => by
    rcases List.mem_append.mp hp with q | q
    · exact .inl (List.mem_append_left _ q)
    · exact .inr (List.mem_singleton.mp q)
  have hz : (z, v) ∈ ps ++ [(z, v)] := by simp
  have hl : (ps ++ [(z, v + 1)]).length = (ps ++ [(z, v)]).length := by simp
  refine ⟨by rw [hl]; exact h.lo, by rw [hl]; exact h.hi, fun p hp => ?_, fun p hp => ?_, fun p hp => ?_, ?_⟩
  · rcases hm p hp with q | rfl
    · exact h.nm p q
    · exact h.nm (z, v) hz
  · rcases hm p hp with q | rfl
    · exact h.v0 p q
    · have := h.v0 _ hz
      show 0 ≤ v + 1
      have : 0 ≤ v := this
      omega
  · rcases hm p hp with q | rfl
    · exact h.v1 p q
    · show v + 1 ≤ farZ; omega
  · have := List.pairwise_map (f := fun p : Str × Int => p.1) (R := ltS) |>.mpr h.st
    rw [← e] at this
    exact List.pairwise_map.mp this
end
/-! tuples of pairs -/
theorem sh_tupP {xs : List (Str × Int)} (h : ∀ t ∈ xs, okS t.1) : SeqAt.shaped (.tuple (xs.map pairE)) = true := by
  obtain ⟨h1, h2⟩ := lay_map pairE 1 xs fun t ht => lay_pair (h t ht)
  simp [SeqAt.shaped, PyData.canLay0, PyData.depth, h1]
  omega
section
variable {S : Sto} {q : Kq}
theorem eqv_tupP (xs ys : List (Str × Int)) : PyData.eqv (.tuple (xs.map pairE)) (.tuple (ys.map pairE)) = decide (xs = ys) := by rw [PyData.eqv]; exact eqvAll_map pairE eqv_pair xs ys
theorem eq_tupP {xs ys : List (Str × Int)} (h1 : ∀ t ∈ xs, okS t.1) (h2 : ∀ t ∈ ys, okS t.1) (h : q (.bl (decide (xs = ys))) S) : phEq (.tup (xs.map pairD)) (.tup (ys.map pairD)) S q :=
  ⟨_, _, py_tup_map pairD pairE (fun _ => rfl) xs, py_tup_map pairD pairE (fun _ => rfl) ys, sh_tupP h1, sh_tupP h2, by rw [eqv_tupP]; exact h⟩
theorem ne_tupP {xs ys : List (Str × Int)} (h1 : ∀ t ∈ xs, okS t.1) (h2 : ∀ t ∈ ys, okS t.1) (h : q (.bl (!decide (xs = ys))) S) : phNe (.tup (xs.map pairD)) (.tup (ys.map pairD)) S q :=
  ⟨_, _, py_tup_map pairD pairE (fun _ => rfl) xs, py_tup_map pairD pairE (fun _ => rfl) ys, sh_tupP h1, sh_tupP h2, by rw [eqv_tupP]; exact h⟩
theorem ne_lstS {x y : D} {xs ys : List Str} (hx : asL S x = some (xs.map D.str)) (hy : asL S y = some (ys.map D.str)) (h1 : ∀ t ∈ xs, okS t) (h2 : ∀ t ∈ ys, okS t) (h : q (.bl (!decide (xs = ys))) S) : phNe x y S q :=
  ⟨_, _, by rw [asL_res hx]; exact py_lst_map D.str PyData.str (fun _ => rfl) xs, by rw [asL_res hy]; exact py_lst_map D.str PyData.str (fun _ => rfl) ys, sh_list_map PyData.str 0 (by omega) xs (fun t ht => ⟨by have := h1 t ht; unfold okS at this; simp [PyData.canLay0, this], by simp [PyData.depth]⟩), sh_list_map PyData.str 0 (by omega) ys (fun t ht => ⟨by have := h2 t ht; unfold okS at this; simp [PyData.canLay0, this], by simp [PyData.depth]⟩), by
    rw [PyData.eqv, eqvAll_map PyData.str eqv_str]; exact h⟩
end
theorem shares_mem {b : Int} {n : Nat} (hb : 0 ≤ b) (hn : 0 < n) : b / (n : Nat) ∈ sharesL b n ∧ (0 < over b n → b / (n : Nat) + 1 ∈ sharesL b n) ∧ ∀ x ∈ sharesL b n, x = b / (n : Nat) ∨ x = b / (n : Nat) + 1 ∧ 0 < over b n := by
  have h1 := over_lt (b := b) hn
  have h2 := over_eq (b := b) hn
  have f : ∀ i : Nat, i < n → shareZ b (i : Nat) (n : Nat) = b / (n : Nat) + if i < over b n then 1 else 0 := fun i hi => by
    rw [share_form hb (by omega) (by omega)]
    by_cases q : i < over b n
    · rw [if_pos q, if_pos (by omega)]
    · rw [if_neg q, if_neg (by omega)]
  unfold sharesL
  refine ⟨List.mem_map.mpr ⟨n - 1, List.mem_range.mpr (by omega), ?_⟩, fun h => List.mem_map.mpr ⟨0, List.mem_range.mpr hn, ?_⟩, fun x hx => ?_⟩
  · rw [f (n - 1) (by omega), if_neg (by omega)]; omega
  · rw [f 0 hn, if_pos h]
  · obtain ⟨i, hi, rfl⟩ := List.mem_map.mp hx
    rw [f i (List.mem_range.mp hi)]
    by_cases q : i < over b n
    · rw [if_pos q]; exact .inr ⟨rfl, by omega⟩
    · rw [if_neg q]; exact .inl (by omega)
theorem shares_max {b m : Int} {n : Nat} (hb : 0 ≤ b) (hn : 0 < n) (h1 : m ∈ sharesL b n) (h2 : ∀ y ∈ sharesL b n, y ≤ m) : (over b n = 0 ∧ m = b / (n : Nat)) ∨ (0 < over b n ∧ m = b / (n : Nat) + 1) := by
  obtain ⟨g1, g2, g3⟩ := shares_mem hb hn
  rcases Nat.eq_zero_or_pos (over b n) with e | e
  · rcases g3 m h1 with q | ⟨q, q2⟩
    · exact .inl ⟨e, q⟩
    · omega
  · have := h2 _ (g2 e)
    rcases g3 m h1 with q | ⟨q, q2⟩
    · omega
    · exact .inr ⟨e, q⟩
theorem shares_min {b m : Int} {n : Nat} (hb : 0 ≤ b) (hn : 0 < n) (h1 : m ∈ sharesL b n) (h2 : ∀ y ∈ sharesL b n, m ≤ y) : m = b / (n : Nat) := by
  obtain ⟨g1, g2, g3⟩ := shares_mem hb hn
  have := h2 _ g1
  rcases g3 m h1 with q | ⟨q, q2⟩
  · exact q
  · omega
theorem who_len (ps : List (Str × Int)) (v : Int) : (whoP ps v).length ≤ ps.length := by
  unfold whoP; rw [List.length_map]; exact List.length_filter_le ..
def numL (ps : List (Str × Int)) (L : List Int) : Int := L.foldl (fun a c => a * fac (whoP ps c).length) 1
def ordL (ps : List (Str × Int)) (L : List Int) : List Str := L.flatMap (whoP ps)
theorem numL_snoc (ps : List (Str × Int)) (L : List Int) (c : Int) : numL ps (L ++ [c]) = numL ps L * fac (whoP ps c).length := by unfold numL; rw [List.foldl_append]; rfl
theorem ordL_snoc (ps : List (Str × Int)) (L : List Int) (c : Int) : ordL ps (L ++ [c]) = ordL ps L ++ whoP ps c := by unfold ordL; rw [List.flatMap_append]; simp
theorem ord_of {b : Int} {ps : List (Str × Int)} {L : List Int} (hb : 0 ≤ b) (hk : KOk ps) (he : sortI (sharesL b ps.length) = sortI (ps.map (·.2))) (hL : (over b ps.length = 0 ∧ L = [b / (ps.length : Nat)]) ∨ (0 < over b ps.length ∧ L = [b / (ps.length : Nat) + 1, b / (ps.length : Nat)])) :
    ordD b ps = .tup [.int (numL ps L), .tup ((ordL ps L).map D.str)] := by
  have hlo := hk.lo
  unfold ordD
  rw [if_pos he]
  rcases hL with ⟨h0, rfl⟩ | ⟨h0, rfl⟩
  · have hw : whoP ps (b / (ps.length : Nat) + 1) = [] := by
      unfold whoP
      rw [List.map_eq_nil_iff, List.filter_eq_nil_iff]
      intro p hp hv
      have hm : p.2 ∈ sharesL b ps.length := by
        have p1 : (ps.map (·.2)).Perm (sharesL b ps.length) := (List.mergeSort_perm (ps.map (·.2)) _).symm.trans (by show (sortI (ps.map (·.2))).Perm _; rw [← he]; exact List.mergeSort_perm _ _)
        exact p1.mem_iff.mp (List.mem_map.mpr ⟨p, hp, rfl⟩)
      obtain ⟨_, _, g3⟩ := shares_mem (n := ps.length) hb (by omega)
      have hv : p.2 = b / (ps.length : Nat) + 1 := by simpa using hv
      rcases g3 _ hm with q | ⟨q, q2⟩ <;> omega
    rw [hw]
    show D.tup [D.int (fac 0 * _), _] = D.tup [D.int (1 * _), _]
    unfold ordL
    simp [fac]
  · unfold numL ordL
    simp
/-- the name at a place, counted from 1 -/
def pick (N : List Str) (i : Int) : Str := (N[(i - 1).toNat]?).getD emptyS
theorem pick_perm {N : List Str} {m : Nat} {ps : List Int} (h : ps.Perm ((List.range m).map fun i : Nat => (i : Int) + 1)) (hm : N.length = m) : (ps.map (pick N)).Perm N := by
  refine (h.map (pick N)).trans ?_
  rw [List.map_map]
  have e : (List.range m).map (pick N ∘ fun i : Nat => (i : Int) + 1) = N := by
    refine List.ext_getElem? fun i => ?_
    rw [List.getElem?_map]
    by_cases hi : i < m
    · rw [List.getElem?_range hi]
      show some ((N[((i : Int) + 1 - 1).toNat]?).getD emptyS) = _
      rw [show ((i : Int) + 1 - 1).toNat = i by omega, List.getElem?_eq_getElem (by omega)]
      rfl
    · rw [List.getElem?_eq_none (by rw [List.length_range]; omega), List.getElem?_eq_none (by omega)]
      rfl
  rw [e]
theorem pick_at {N : List Str} {i : Int} {j : Nat} (h1 : i - 1 = j) (h2 : j < N.length) : (N.map D.str)[j]? = some (.str (pick N i)) := by
  rw [List.getElem?_map, List.getElem?_eq_getElem h2]
  unfold pick
  rw [show (i - 1).toNat = j by omega, List.getElem?_eq_getElem h2]
  rfl
theorem name_at30 {i : Int} {j : Nat} (h1 : i - 1 = j) (h2 : j < 30) : ((allN.take 30).map D.str)[j]? = some (.str (nameAt i)) := by
  rw [List.getElem?_map, List.getElem?_take_of_lt h2]
  have hj3 : j < allN.length := by rw [show allN.length = 62 from by decide +kernel]; omega
  rw [List.getElem?_eq_getElem hj3]
  unfold nameAt
  rw [show (i - 1).toNat = j by omega, List.getElem?_eq_getElem hj3]
  rfl
theorem at_last (xs : List D) (y : D) : atI (xs ++ [y]) (-1) = some y := by
  have : ixN (xs ++ [y]).length (-1) = some xs.length := by
    rw [List.length_append, List.length_singleton]
    unfold ixN
    simp
    omega
  unfold atI
  rw [this]
  simp
theorem ne_zeroNone {S : Sto} {q : Kq} (h : q (.bl false) S) : phNe (.tup [.int 0, .non]) (.tup [.int 0, .non]) S q :=
  ⟨.tuple [.int 0, .none], .tuple [.int 0, .none], rfl, rfl, by simp [SeqAt.shaped, PyData.canLay0, PyData.canLayAll0, PyData.depth, PyData.depthAll], by simp [SeqAt.shaped, PyData.canLay0, PyData.canLayAll0, PyData.depth, PyData.depthAll], by
    have e : PyData.eqv (.tuple [.int 0, .none]) (.tuple [.int 0, .none]) = true := by simp [PyData.eqv, PyData.eqvAll]
    rw [e]; exact h⟩
theorem snoc_of {α : Type} : ∀ {xs : List α}, 0 < xs.length → ∃ ys y, xs = ys ++ [y]
  | [x], _ => ⟨[], x, rfl⟩
  | x :: y :: xs, _ => by
    obtain ⟨ys, z, e⟩ := snoc_of (xs := y :: xs) (by simp)
    exact ⟨x :: ys, z, by rw [e]; rfl⟩
theorem known_le {b : Int} {o : List Str} (hb : 0 ≤ b) (h : o.Nodup) {p : Str × Int} (hp : p ∈ sortP (paidRows b o)) : p.2 ≤ b := by
  rw [(sortP_perm _).mem_iff, paid_names h, List.mem_map] at hp
  obtain ⟨z, hz, rfl⟩ := hp
  have := List.idxOf_lt_length_of_mem hz
  have := share_le hb (p := (o.idxOf z : Nat)) (m := (o.length : Nat)) (by omega) (by omega)
  show own b o z ≤ b
  unfold own
  omega
theorem map_snoc (P : List (Str × Int)) (z : Str) (v : Int) : (P ++ [(z, v)]).map pairD = P.map pairD ++ [.tup [.str z, .int v]] := by rw [List.map_append]; rfl
end Paid

set_option Elab.async false
set_option linter.all false
set_option maxRecDepth 100000
/-! PKX: the doors, for whatever they are asked. -/
namespace Paid
open PySem L2 PL
theorem stateB_of {y : D} (h : stateB y = true) : ∃ b folk, y = stateD b folk ∧ StOk b folk := by
  cases y with
  | tup xs =>
    by_cases hl : xs.length = 2
    · obtain ⟨a, c, rfl⟩ : ∃ a c, xs = [a, c] := by
        match xs, hl with
        | [a, c], _ => exact ⟨a, c, rfl⟩
      cases c with
      | tup ns =>
        rw [stateB_eq, Bool.and_eq_true] at h
        obtain ⟨h1, h2⟩ := h
        obtain ⟨b, rfl⟩ : ∃ b, a = .int b := by
          cases a with
          | int b => exact ⟨b, rfl⟩
          | _ => cases h1
        rw [within_int, Bool.and_eq_true, decide_eq_true_eq, decide_eq_true_eq] at h1
        unfold folkD at h2
        rw [Bool.and_eq_true, Bool.and_eq_true, Bool.and_eq_true, decide_eq_true_eq, decide_eq_true_eq] at h2
        obtain ⟨h3, h4, h5, h6⟩ := h2
        have e := names_strs h4
        refine ⟨b, strsOf ns, by unfold stateD; rw [← e], h1.1, h1.2, ?_, fun n hn => ?_, h5, fun e0 => ?_⟩
        · rw [e, List.length_map] at h3; exact h3
        · rw [List.all_eq_true] at h4
          have hm : D.str n ∈ ns := by rw [e]; exact List.mem_map.mpr ⟨n, hn, rfl⟩
          exact h4 _ hm
        · rw [e0] at e
          rw [e] at h6
          rw [Bool.or_eq_true] at h6
          rcases h6 with h6 | h6
          · cases h6
          · rw [within_int, Bool.and_eq_true, decide_eq_true_eq, decide_eq_true_eq] at h6
            omega
      | _ => rw [stateB_b (fun xs e => by cases e)] at h; cases h
    · rw [stateB_len hl] at h; cases h
  | _ => rw [stateB_no (fun xs e => by cases e)] at h; cases h
def phNeedStateX (C : Addr) : PhX := fun ds S q x => ∃ y, ds = [y] ∧ fineD y = true ∧ (stateB y = true → q .non S) ∧ (stateB y = false → x (.ref C) none S)
def phPaidX (C : Addr) : PhX := fun ds S q x => ∃ y, ds = [y] ∧ fineD y = true ∧ (∀ b folk, y = stateD b folk → StOk b folk → NewL S ((sortP (paidRows b folk)).map pairD) q) ∧ (stateB y = false → x (.ref C) none S)
def phBillX (CS CC : Addr) : PhX := fun ds S q x => ∃ y c, ds = [y, c] ∧ fineD y = true ∧ fineD c = true ∧ (stateB y = false → x (.ref CS) none S) ∧ ∀ b folk, y = stateD b folk → StOk b folk →
  (∀ k : Int, c = .int k → 0 ≤ k → k ≤ farZ - b → folk ≠ [] → NewL S ((posT (billRows b folk k)).map tripD) q) ∧ (withinD c 0 (farZ - b) = false ∨ folk = [] → x (.ref CC) none S)
def phComeX (CS CN : Addr) : PhX := fun ds S q x => ∃ y c, ds = [y, c] ∧ fineD y = true ∧ fineD c = true ∧ (stateB y = false → x (.ref CS) none S) ∧ ∀ b folk, y = stateD b folk → StOk b folk →
  (∀ z, c = .str z → nameOk z = true → z ∉ folk → folk.length < 40 → NewL S ((posT (comeRows b folk z)).map tripD) q) ∧ (nameD c = false ∨ (∃ z, c = .str z ∧ z ∈ folk) ∨ folk.length = 40 → x (.ref CN) none S)
def phGoX (CS CN : Addr) : PhX := fun ds S q x => ∃ y c, ds = [y, c] ∧ fineD y = true ∧ fineD c = true ∧ (stateB y = false → x (.ref CS) none S) ∧ ∀ b folk, y = stateD b folk → StOk b folk →
  (∀ z, c = .str z → z ∈ folk → (folk.length = 1 → b ≤ 0) → NewL S ((posT (goRows b folk z)).map tripD) q) ∧ ((∀ z, c = .str z → z ∉ folk) ∨ folk.length = 1 ∧ 0 < b → x (.ref CN) none S)
theorem within_is {c : D} {lo hi : Int} (h : withinD c lo hi = true) : ∃ k, c = .int k ∧ lo ≤ k ∧ k ≤ hi := by
  cases c with
  | int k => rw [within_int, Bool.and_eq_true, decide_eq_true_eq, decide_eq_true_eq] at h; exact ⟨k, rfl, h.1, h.2⟩
  | _ => cases h
theorem name_is {c : D} (h : nameD c = true) : ∃ z, c = .str z ∧ nameOk z = true := by
  cases c with
  | str z => exact ⟨z, rfl, h⟩
  | _ => cases h
def phNeedDeedsX (C : Addr) : PhX := fun ds S q x => ∃ y, ds = [y] ∧ fineD y = true ∧ deedsFine y ∧ (deedsB y = true → q .non S) ∧ (deedsB y = false → x (.ref C) none S)
theorem deedsB_no {y : D} (h : ∀ xs, y ≠ .lst xs) : deedsB y = false := by
  cases y with
  | lst xs => exact absurd rfl (h xs)
  | _ => rfl
theorem tyN_lst {S : Sto} {y : D} (h : y.tyN S = some "list") (hf : fineD y = true) : ∃ xs, y = .lst xs := by
  cases y with
  | lst xs => exact ⟨xs, rfl⟩
  | ref a => cases hf
  | scr i => cases hf
  | _ => first | (cases h; done) | (revert h; simp [D.tyN])
/-- the doors of rows of deeds: behind, handed -/
def deedsOk (y : D) (deeds : List Deed) : Prop := y = .lst (deeds.map deedD) ∧ (∀ d ∈ deeds, dOk d) ∧ deeds.length ≤ 100
def phBehindX (CS CD : Addr) : PhX := fun ds S q x => ∃ y c, ds = [y, c] ∧ fineD y = true ∧ fineD c = true ∧ deedsFine c ∧ (stateB y = false → x (.ref CS) none S) ∧ ∀ b folk, y = stateD b folk → StOk b folk → (deedsB c = false → x (.ref CD) none S) ∧
  ∀ deeds, deedsOk c deeds → (runS b folk deeds = none → q .non S) ∧ ∀ b' f', runS b folk deeds = some (b', f') → q (stateD b' f') S
def phHandedX (CS CD : Addr) : PhX := fun ds S q x => ∃ y c, ds = [y, c] ∧ fineD y = true ∧ fineD c = true ∧ deedsFine c ∧ (stateB y = false → x (.ref CS) none S) ∧ ∀ b folk, y = stateD b folk → StOk b folk → (deedsB c = false → x (.ref CD) none S) ∧
  ∀ deeds, deedsOk c deeds → (runT b folk [] deeds = none → q .non S) ∧ ∀ b' f' t, runT b folk [] deeds = some (b', f', t) → NewL S ((listT t).map tripD) q
/-- what again tells where all is right -/
def againD (b : Int) (folk : List Str) (deeds : List Deed) (k : Int) : D := match runS b folk deeds with
  | none => .non
  | some (b1, f1) => if f1 = folk then (if 1 < k ∧ runS b1 f1 deeds = none then .non else if b + k * (b1 - b) ≤ farZ then stateD (b + k * (b1 - b)) folk else .non) else .non
/-- again -/
def phAgainX (CS CD CT : Addr) : PhX := fun ds S q x => ∃ y c n, ds = [y, c, n] ∧ fineD y = true ∧ fineD c = true ∧ deedsFine c ∧ fineD n = true ∧ (stateB y = false → x (.ref CS) none S) ∧ (stateB y = true → deedsB c = false → x (.ref CD) none S) ∧
  (stateB y = true → deedsB c = true → withinD n 1 farZ = false → x (.ref CT) none S) ∧ ∀ b folk deeds k, y = stateD b folk → StOk b folk → deedsOk c deeds → n = .int k → 1 ≤ k → k ≤ farZ → q (againD b folk deeds k) S
theorem deed_of {d : D} (h : deedB d = true) : ∃ e, d = deedD e ∧ dOk e := by
  unfold deedB at h
  split at h
  · rename_i w x
    by_cases hw : w = "bill"
    · rw [if_pos hw] at h
      obtain ⟨k, rfl, k0, k1⟩ := within_is h
      exact ⟨.bill k, by rw [hw]; rfl, k0, k1⟩
    · rw [if_neg hw, Bool.and_eq_true, decide_eq_true_eq] at h
      obtain ⟨h1, h2⟩ := h
      obtain ⟨z, rfl, hz⟩ := name_is h2
      rcases List.mem_cons.mp h1 with e | h1
      · exact ⟨.come z, by rw [e]; rfl, hz⟩
      · rcases List.mem_cons.mp h1 with e | h1
        · exact ⟨.go z, by rw [e]; rfl, hz⟩
        · cases h1
  · cases h
theorem deeds_of {y : D} (h : deedsB y = true) : ∃ deeds, deedsOk y deeds := by
  cases y with
  | lst xs =>
    have h' : (decide (xs.length ≤ 100) && xs.all deedB) = true := h
    rw [Bool.and_eq_true, decide_eq_true_eq, List.all_eq_true] at h'
    obtain ⟨hl, ha⟩ := h'
    have main : ∀ l : List D, (∀ x ∈ l, deedB x = true) → ∃ deeds : List Deed, l = deeds.map deedD ∧ ∀ d ∈ deeds, dOk d := by
      intro l
      induction l with
      | nil => intro _; exact ⟨[], rfl, by simp⟩
      | cons a l ih =>
        intro hl
        obtain ⟨e, he, ho⟩ := deed_of (hl a (List.mem_cons_self ..))
        obtain ⟨es, h1, h2⟩ := ih fun x hx => hl x (List.mem_cons_of_mem _ hx)
        exact ⟨e :: es, by rw [h1, he]; rfl, fun d hd => by
          rcases List.mem_cons.mp hd with rfl | hd
          · exact ho
          · exact h2 d hd⟩
    obtain ⟨deeds, h1, h2⟩ := main xs ha
    exact ⟨deeds, by rw [h1], h2, by rw [h1, List.length_map] at hl; exact hl⟩
  | _ => cases h
/-! ### lambdas of three, doors by a name -/
def phL1 (φ : PhX) : PhX := fun ds S q x => ∃ a b c, ds = [a, b, c] ∧ φ [a] S q x
def phL2 (φ : PhX) : PhX := fun ds S q x => ∃ a b c, ds = [a, b, c] ∧ φ [a, b] S q x
def phLF (P : Program) (w : World) (K : PySem.W.Frag) (mg : Str → Option Value) (base : Heap) (k : Nat) : PhX := fun ds S q x => ∃ a b c φ, ds = [a, b, c] ∧ IsFn K a ∧ Does P w K mg base k 2 a φ ∧ φ [b, c] S q x
def kinD (n : Str) : D := .lst [.str n, .bl true]
theorem ne_dat {S : Sto} {q : Kq} {x y : D} {a b : PyData} {c : Bool} (ha : (x.res S).py = some a) (hb : (y.res S).py = some b) (sa : SeqAt.shaped a = true) (sb : SeqAt.shaped b = true) (e : PyData.eqv a b = c) (h : q (.bl (!c)) S) : phNe x y S q := ⟨a, b, ha, hb, sa, sb, by rw [e]; exact h⟩
theorem eq_dat {S : Sto} {q : Kq} {x y : D} {a b : PyData} {c : Bool} (ha : (x.res S).py = some a) (hb : (y.res S).py = some b) (sa : SeqAt.shaped a = true) (sb : SeqAt.shaped b = true) (e : PyData.eqv a b = c) (h : q (.bl c) S) : phEq x y S q := ⟨a, b, ha, hb, sa, sb, by rw [e]; exact h⟩
/-- a law: every script, True; the tables of its code objects are empty at first -/
def phLawT (tabs : List (Addr × Str)) : PhA := fun ds S q => ∃ ns : List Int, ds = [.scr (ns.map D.int)] ∧ ns.length ≤ 63 ∧ (∀ p ∈ tabs, S p.1 = some (.tab p.2)) ∧ ∀ S', q (.bl true) S'
theorem Took.tab {S S' : Sto} {b p : Addr} {ns : List Int} {n : Int} {z : Str} (h : Took S b ns S') (hb : BagAt S b ns n) (hp : S p = some (.tab z)) : S' p = some (.tab z) := by
  obtain ⟨m, _, rfl⟩ := h
  rw [upd_off (fun e => by rw [e, hb.at'] at hp; cases hp)]
  exact hp
def phNamesRefused (tb : Addr) (z : Str) : PhA := fun ds S q => ∃ b folk, ds = [stateD b folk] ∧ StOk b folk ∧ S tb = some (.tab z) ∧ ("zed" : Str) ∉ folk ∧ q (.bl true) S
theorem strs_inj : ∀ {f g : List Str}, f.map D.str = g.map D.str → f = g
  | [], [], _ => rfl
  | x :: xs, y :: ys, h => by
    rw [List.map_cons, List.map_cons] at h
    injection h with h1 h2
    injection h1 with h1
    rw [h1, strs_inj h2]
theorem stateD_inj {b c : Int} {f g : List Str} (h : stateD b f = stateD c g) : c = b ∧ g = f := by
  unfold stateD at h
  injection h with h
  injection h with h1 h2
  injection h1 with h1
  injection h2 with h2 _
  injection h2 with h2
  exact ⟨h1.symm, (strs_inj h2).symm⟩
def rowD (ds : List Deed) : D := .lst (ds.map deedD)
theorem row_fine {ds : List Deed} (hd : ∀ d ∈ ds, dOk d) (hl : ds.length ≤ 100) : fineD (rowD ds) = true ∧ deedsFine (rowD ds) ∧ deedsB (rowD ds) = true := by
  have hx : ∀ x ∈ ds.map deedD, fineD x = true ∧ wordOk x := fun x hx => by
    obtain ⟨d, hm, rfl⟩ := List.mem_map.mp hx
    exact ⟨fine_deed (hd d hm), word_deed d⟩
  refine ⟨fine_lst (by rw [List.length_map]; omega) fun x hm => (hx x hm).1, hx, ?_⟩
  show (decide ((ds.map deedD).length ≤ 100) && (ds.map deedD).all deedB) = true
  rw [Bool.and_eq_true, decide_eq_true_eq, List.length_map, List.all_map]
  exact ⟨hl, List.all_eq_true.mpr fun d hm => deedB_d (hd d hm)⟩
section
variable {S : Sto} {q : Kq} {x : Xq} {b : Int} {folk : List Str} {y c n : D} {CS CC CN CD CT : Addr}
theorem paidX_bad (hf : fineD y = true) (hb : stateB y = false) (k : x (.ref CS) none S) : phPaidX CS [y] S q x := ⟨y, rfl, hf, fun b f e h => (by rw [e, stateB_ok h] at hb; cases hb), fun _ => k⟩
theorem billX_bad (hf : fineD y = true) (hc : fineD c = true) (hb : stateB y = false) (k : x (.ref CS) none S) : phBillX CS CC [y, c] S q x := ⟨y, c, rfl, hf, hc, fun _ => k, fun b f e h => (by rw [e, stateB_ok h] at hb; cases hb)⟩
theorem comeX_bad (hf : fineD y = true) (hc : fineD c = true) (hb : stateB y = false) (k : x (.ref CS) none S) : phComeX CS CN [y, c] S q x := ⟨y, c, rfl, hf, hc, fun _ => k, fun b f e h => (by rw [e, stateB_ok h] at hb; cases hb)⟩
theorem goX_bad (hf : fineD y = true) (hc : fineD c = true) (hb : stateB y = false) (k : x (.ref CS) none S) : phGoX CS CN [y, c] S q x := ⟨y, c, rfl, hf, hc, fun _ => k, fun b f e h => (by rw [e, stateB_ok h] at hb; cases hb)⟩
theorem behindX_bad (hf : fineD y = true) (hc : fineD c = true) (hd : deedsFine c) (hb : stateB y = false) (k : x (.ref CS) none S) : phBehindX CS CD [y, c] S q x := ⟨y, c, rfl, hf, hc, hd, fun _ => k, fun b f e h => (by rw [e, stateB_ok h] at hb; cases hb)⟩
theorem handedX_bad (hf : fineD y = true) (hc : fineD c = true) (hd : deedsFine c) (hb : stateB y = false) (k : x (.ref CS) none S) : phHandedX CS CD [y, c] S q x := ⟨y, c, rfl, hf, hc, hd, fun _ => k, fun b f e h => (by rw [e, stateB_ok h] at hb; cases hb)⟩
theorem againX_bad (hf : fineD y = true) (hc : fineD c = true) (hd : deedsFine c) (hn : fineD n = true) (hb : stateB y = false) (k : x (.ref CS) none S) : phAgainX CS CD CT [y, c, n] S q x := ⟨y, c, n, rfl, hf, hc, hd, hn, fun _ => k, fun e => (by rw [hb] at e; cases e), fun e => (by rw [hb] at e; cases e), fun b f _ _ e h => (by rw [e, stateB_ok h] at hb; cases hb)⟩
theorem againX_deeds (hf : fineD y = true) (hc : fineD c = true) (hd : deedsFine c) (hn : fineD n = true) (hb : stateB y = true) (hb2 : deedsB c = false) (k : x (.ref CD) none S) : phAgainX CS CD CT [y, c, n] S q x := ⟨y, c, n, rfl, hf, hc, hd, hn, fun e => (by rw [hb] at e; cases e), fun _ _ => k, fun _ e => (by rw [hb2] at e; cases e), fun b f ds _ _ _ ⟨e, hd, hl⟩ => (by rw [e, show deedsB (.lst (ds.map deedD)) = true from (row_fine hd hl).2.2] at hb2; cases hb2)⟩
theorem billX_no (h : StOk b folk) (hc : fineD c = true) (hn : withinD c 0 (farZ - b) = false ∨ folk = []) (k : x (.ref CC) none S) : phBillX CS CC [stateD b folk, c] S q x :=
  ⟨_, c, rfl, fine_state h, hc, fun e => absurd e (by rw [stateB_ok h]; simp), fun b2 f2 e h2 => by
    obtain ⟨rfl, rfl⟩ := stateD_inj e
    refine ⟨fun k' ek k0 k1 kf => ?_, fun _ => k⟩
    rcases hn with hn | hn
    · rw [ek, within_int, decide_eq_true k0, decide_eq_true k1] at hn; cases hn
    · exact absurd hn kf⟩
theorem billX_yes (h : StOk b folk) {k' : Int} (k0 : 0 ≤ k') (k1 : k' ≤ farZ - b) (kf : folk ≠ []) (k : NewL S ((posT (billRows b folk k')).map tripD) q) : phBillX CS CC [stateD b folk, .int k'] S q x :=
  ⟨_, _, rfl, fine_state h, by simp [fineD], fun e => absurd e (by rw [stateB_ok h]; simp), fun b2 f2 e h2 => by
    obtain ⟨rfl, rfl⟩ := stateD_inj e
    refine ⟨fun k'' ek _ _ _ => ?_, fun hn => ?_⟩
    · cases ek; exact k
    · rcases hn with hn | hn
      · rw [within_int, decide_eq_true k0, decide_eq_true k1] at hn; cases hn
      · exact absurd hn kf⟩
theorem comeX_no (h : StOk b folk) (hc : fineD c = true) (hn : nameD c = false ∨ (∃ z, c = .str z ∧ z ∈ folk) ∨ folk.length = 40) (k : x (.ref CN) none S) : phComeX CS CN [stateD b folk, c] S q x :=
  ⟨_, c, rfl, fine_state h, hc, fun e => absurd e (by rw [stateB_ok h]; simp), fun b2 f2 e h2 => by
    obtain ⟨rfl, rfl⟩ := stateD_inj e
    refine ⟨fun z ez zn zf zl => ?_, fun _ => k⟩
    rcases hn with hn | ⟨z', ez', hz'⟩ | hn
    · rw [ez] at hn; rw [show nameD (.str z) = nameOk z from rfl, zn] at hn; cases hn
    · rw [ez] at ez'; cases ez'; exact absurd hz' zf
    · omega⟩
theorem goX_no (h : StOk b folk) (hc : fineD c = true) (hn : (∀ z, c = .str z → z ∉ folk) ∨ folk.length = 1 ∧ 0 < b) (k : x (.ref CN) none S) : phGoX CS CN [stateD b folk, c] S q x :=
  ⟨_, c, rfl, fine_state h, hc, fun e => absurd e (by rw [stateB_ok h]; simp), fun b2 f2 e h2 => by
    obtain ⟨rfl, rfl⟩ := stateD_inj e
    refine ⟨fun z ez zf zl => ?_, fun _ => k⟩
    rcases hn with hn | ⟨h1, h2⟩
    · exact absurd zf (hn z ez)
    · have := zl h1; omega⟩
theorem goX_yes (h : StOk b folk) {z : Str} (hc : fineD (.str z) = true) (zf : z ∈ folk) (zl : folk.length = 1 → b ≤ 0) (k : NewL S ((posT (goRows b folk z)).map tripD) q) : phGoX CS CN [stateD b folk, .str z] S q x :=
  ⟨_, _, rfl, fine_state h, hc, fun e => absurd e (by rw [stateB_ok h]; simp), fun b2 f2 e h2 => by
    obtain ⟨rfl, rfl⟩ := stateD_inj e
    refine ⟨fun z' ez' _ _ => ?_, fun hn => ?_⟩
    · cases ez'; exact k
    · rcases hn with hn | ⟨h1, h2⟩
      · exact absurd zf (hn z rfl)
      · have := zl h1; omega⟩
theorem behindX_no (h : StOk b folk) (hc : fineD c = true) (hd : deedsFine c) (hn : deedsB c = false) (k : x (.ref CD) none S) (hnn : ∀ deeds, ¬ deedsOk c deeds) : phBehindX CS CD [stateD b folk, c] S q x :=
  ⟨_, c, rfl, fine_state h, hc, hd, fun e => absurd e (by rw [stateB_ok h]; simp), fun b2 f2 e h2 => ⟨fun _ => k, fun deeds hk => absurd hk (hnn deeds)⟩⟩
theorem handedX_no (h : StOk b folk) (hc : fineD c = true) (hd : deedsFine c) (hn : deedsB c = false) (k : x (.ref CD) none S) (hnn : ∀ deeds, ¬ deedsOk c deeds) : phHandedX CS CD [stateD b folk, c] S q x :=
  ⟨_, c, rfl, fine_state h, hc, hd, fun e => absurd e (by rw [stateB_ok h]; simp), fun b2 f2 e h2 => ⟨fun _ => k, fun deeds hk => absurd hk (hnn deeds)⟩⟩
end
def phRun : PhA := fun ds S q => ∃ b folk deeds, ds = [stateD b folk, .lst (deeds.map deedD)] ∧ StOk b folk ∧ (∀ d ∈ deeds, dOk d) ∧ deeds.length ≤ 1000 ∧ (runT b folk [] deeds = none → q .non S) ∧
  ∀ b' f' t, runT b folk [] deeds = some (b', f', t) → q (.tup [stateD b' f', .lst ((listT t).map tripD)]) S
end Paid

set_option Elab.async false
set_option linter.all false
set_option maxRecDepth 100000
/-! PK10: orders, for whatever, and beside all orders. -/
namespace Paid
open PySem L2 PL
/-! ### names with what each has paid, or not -/
def pairB : D → Bool
  | .tup [a, c] => nameD a && withinD c 0 farZ
  | _ => false
theorem pairB_no {x : D} (h : ∀ xs, x ≠ .tup xs) : pairB x = false := by
  cases x with
  | tup xs => exact absurd rfl (h xs)
  | _ => rfl
theorem pairB_len {xs : List D} (h : xs.length ≠ 2) : pairB (.tup xs) = false := by
  match xs, h with
  | [], _ => rfl
  | [_], _ => rfl
  | [_, _], h => exact absurd rfl h
  | _ :: _ :: _ :: _, _ => rfl
theorem pairB_of {x : D} (h : pairB x = true) : ∃ p : Str × Int, x = pairD p ∧ nameOk p.1 = true ∧ 0 ≤ p.2 ∧ p.2 ≤ farZ := by
  unfold pairB at h
  split at h
  · rename_i a c
    rw [Bool.and_eq_true] at h
    obtain ⟨z, rfl, hz⟩ := name_is h.1
    obtain ⟨k, rfl, k0, k1⟩ := within_is h.2
    exact ⟨(z, k), rfl, hz, k0, k1⟩
  · cases h
theorem pairB_ok {p : Str × Int} (h : nameOk p.1 = true) (h0 : 0 ≤ p.2) (h1 : p.2 ≤ farZ) : pairB (pairD p) = true := by
  show (nameD (.str p.1) && withinD (.int p.2) 0 farZ) = true
  rw [show nameD (.str p.1) = nameOk p.1 from rfl, h, within_int, decide_eq_true h0, decide_eq_true h1]
  rfl
theorem pairs_of : ∀ {xs : List D}, xs.all pairB = true → ∃ ps : List (Str × Int), xs = ps.map pairD ∧ ∀ p ∈ ps, nameOk p.1 = true ∧ 0 ≤ p.2 ∧ p.2 ≤ farZ
  | [], _ => ⟨[], rfl, by simp⟩
  | x :: xs, h => by
    rw [List.all_cons, Bool.and_eq_true] at h
    obtain ⟨p, e, hp⟩ := pairB_of h.1
    obtain ⟨ps, e2, hps⟩ := pairs_of h.2
    exact ⟨p :: ps, by rw [e, e2]; rfl, fun y hy => by
      rcases List.mem_cons.mp hy with rfl | hy
      · exact hp
      · exact hps y hy⟩
theorem pairs_inj : ∀ {xs ys : List (Str × Int)}, xs.map pairD = ys.map pairD → xs = ys
  | [], [], _ => rfl
  | (a, b) :: xs, (c, d) :: ys, h => by
    rw [List.map_cons, List.map_cons] at h
    injection h with h1 h2
    injection h1 with h1
    injection h1 with h1 h3
    injection h3 with h3 _
    injection h1 with h1
    injection h3 with h3
    dsimp only at h1 h3
    rw [h1, h3, pairs_inj h2]
def KnownD (y : D) : Prop := ∃ ps : List (Str × Int), y = .tup (ps.map pairD) ∧ KOk ps
theorem known_all {xs : List D} (h : KnownD (.tup xs)) : xs.all pairB = true ∧ 1 ≤ xs.length ∧ xs.length ≤ 8 := by
  obtain ⟨ps, e, hk⟩ := h
  injection e with e
  subst e
  refine ⟨?_, by rw [List.length_map]; exact hk.lo, by rw [List.length_map]; exact hk.hi⟩
  rw [List.all_map]
  exact List.all_eq_true.mpr fun p hp => pairB_ok (hk.nm p hp) (hk.v0 p hp) (hk.v1 p hp)
theorem not_known {y : D} (h : ∀ xs, y ≠ .tup xs) : ¬ KnownD y := fun ⟨ps, e, _⟩ => h _ e
theorem rises : ∀ {ps : List (Str × Int)}, (ps.zip (ps.drop 1)).all (fun p => decide (ltS p.1.1 p.2.1)) = true → ps.Pairwise fun a b => ltS a.1 b.1
  | [], _ => .nil
  | [x], _ => List.pairwise_singleton _ _
  | x :: y :: ps, h => by
    have e : (x :: y :: ps).zip ((x :: y :: ps).drop 1) = (x, y) :: (y :: ps).zip ((y :: ps).drop 1) := rfl
    rw [e, List.all_cons, Bool.and_eq_true, decide_eq_true_eq] at h
    have ih := rises h.2
    refine List.pairwise_cons.mpr ⟨fun a ha => ?_, ih⟩
    rcases List.mem_cons.mp ha with rfl | ha
    · exact h.1
    · exact ltS_trans h.1 ((List.pairwise_cons.mp ih).1 a ha)
theorem known_iff {ps : List (Str × Int)} (h1 : 1 ≤ ps.length) (h2 : ps.length ≤ 8) (h : ∀ p ∈ ps, nameOk p.1 = true ∧ 0 ≤ p.2 ∧ p.2 ≤ farZ) : (ps.zip (ps.drop 1)).all (fun p => decide (ltS p.1.1 p.2.1)) = true ↔ KnownD (.tup (ps.map pairD)) := by
  constructor
  · intro q
    exact ⟨ps, rfl, h1, h2, fun p hp => (h p hp).1, fun p hp => (h p hp).2.1, fun p hp => (h p hp).2.2, rises q⟩
  · rintro ⟨ps', e, hk⟩
    injection e with e
    have := pairs_inj e
    subst this
    exact List.all_eq_true.mpr fun p hp => decide_eq_true (zip_steps hk.st p hp)
def phIsKnownX : PhA := fun ds S q => ∃ y, ds = [y] ∧ fineD y = true ∧ ∀ r : Bool, (r = true ↔ KnownD y) → q (.bl r) S
/-- orders, for whatever -/
def phOrdersX (CC CP : Addr) : PhX := fun ds S q x => ∃ y1 y2, ds = [y1, y2] ∧ fineD y1 = true ∧ fineD y2 = true ∧ (withinD y1 0 farZ = false → x (.ref CC) none S) ∧ ∀ b : Int, y1 = .int b → 0 ≤ b → b ≤ farZ → (¬ KnownD y2 → x (.ref CP) none S) ∧
  ∀ ps : List (Str × Int), y2 = .tup (ps.map pairD) → KOk ps → q (ordD b ps) S
section
variable {S : Sto} {q : Kq} {x : Xq} {CC CP : Addr} {y1 y2 : D}
theorem ordersX_cents (h1 : fineD y1 = true) (h2 : fineD y2 = true) (hn : withinD y1 0 farZ = false) (k : x (.ref CC) none S) : phOrdersX CC CP [y1, y2] S q x :=
  ⟨_, _, rfl, h1, h2, fun _ => k, fun b e b0 b1 => by rw [e, within_int, decide_eq_true b0, decide_eq_true b1] at hn; cases hn⟩
theorem ordersX_paid {b : Int} (b0 : 0 ≤ b) (b1 : b ≤ farZ) (h2 : fineD y2 = true) (hn : ¬ KnownD y2) (k : x (.ref CP) none S) : phOrdersX CC CP [.int b, y2] S q x :=
  ⟨_, _, rfl, rfl, h2, fun e => (by rw [within_int, decide_eq_true b0, decide_eq_true b1] at e; cases e), fun b' e _ _ => (by cases e; exact ⟨fun _ => k, fun ps e hk => absurd ⟨ps, e, hk⟩ hn⟩)⟩
theorem fine_known {ps : List (Str × Int)} (h : ps.length ≤ 1000) (hn : ∀ p ∈ ps, p.1.length ≤ 1000) : fineD (.tup (ps.map pairD)) = true := fine_tup (by rw [List.length_map]; omega) fun d hd => by
  obtain ⟨s, hs, rfl⟩ := List.mem_map.mp hd
  simp [pairD, fineD, fineL]
  exact hn s hs
theorem ordersX_yes {b : Int} {ps : List (Str × Int)} (b0 : 0 ≤ b) (b1 : b ≤ farZ) (hk : KOk ps) (k : q (ordD b ps) S) : phOrdersX CC CP [.int b, .tup (ps.map pairD)] S q x :=
  ⟨_, _, rfl, rfl, fine_known (by have := hk.hi; omega) (fun p hp => Nat.le_trans (name_short (hk.nm p hp)) (by decide)), fun e => (by rw [within_int, decide_eq_true b0, decide_eq_true b1] at e; cases e), fun b' e _ _ => ⟨fun h => absurd ⟨ps, rfl, hk⟩ h, fun ps' e2 _ => by
    cases e
    injection e2 with e2
    have := pairs_inj e2
    subst this
    exact k⟩⟩
end
/-! ### all orders -/
def ordN (N : List Str) : Nat → List (List Str)
  | 0 => [[]]
  | k + 1 => (ordN N k).flatMap fun o => (N.filter fun z => decide (z ∉ o)).map fun z => o ++ [z]
theorem ordN_mem {N : List Str} : ∀ {k : Nat} {o : List Str}, o ∈ ordN N k ↔ o.length = k ∧ o.Nodup ∧ ∀ z ∈ o, z ∈ N
  | 0, o => by
    unfold ordN
    rw [List.mem_singleton]
    constructor
    · rintro rfl; exact ⟨rfl, List.nodup_nil, by simp⟩
    · rintro ⟨h, _⟩; exact List.length_eq_zero_iff.mp h
  | k + 1, o => by
    unfold ordN
    rw [List.mem_flatMap]
    constructor
    · rintro ⟨o', h1, h2⟩
      rw [List.mem_map] at h2
      obtain ⟨z, h2, rfl⟩ := h2
      rw [List.mem_filter, decide_eq_true_eq] at h2
      obtain ⟨g1, g2, g3⟩ := ordN_mem.mp h1
      refine ⟨by rw [List.length_append, g1]; rfl, ?_, fun y hy => ?_⟩
      · rw [List.nodup_append]
        exact ⟨g2, by simp, fun a ha c hc e => by rw [List.mem_singleton] at hc; subst hc; subst e; exact h2.2 ha⟩
      · rcases List.mem_append.mp hy with q | q
        · exact g3 y q
        · rw [List.mem_singleton] at q; rw [q]; exact h2.1
    · rintro ⟨h1, h2, h3⟩
      obtain ⟨o', z, rfl⟩ := snoc_of (xs := o) (by omega)
      rw [List.nodup_append] at h2
      refine ⟨o', ordN_mem.mpr ⟨by rw [List.length_append] at h1; simpa using h1, h2.1, fun y hy => h3 y (List.mem_append_left _ hy)⟩, ?_⟩
      rw [List.mem_map]
      refine ⟨z, ?_, rfl⟩
      rw [List.mem_filter, decide_eq_true_eq]
      exact ⟨h3 z (by simp), fun hz => h2.2.2 z hz z (by simp) rfl⟩
theorem flat_len {α β : Type} (p : α → Bool) (f : α → List β) (w : Nat) : ∀ (l : List α), (∀ a ∈ l, (f a).length = if p a = true then w else 0) → (l.flatMap f).length = (l.filter p).length * w
  | [], _ => by simp
  | a :: l, h => by
    rw [List.flatMap_cons, List.length_append, h a (List.mem_cons_self ..), flat_len p f w l fun x hx => h x (List.mem_cons_of_mem _ hx)]
    by_cases e : p a = true
    · rw [if_pos e, List.filter_cons_of_pos e, List.length_cons, Nat.add_mul, Nat.one_mul, Nat.add_comm]
    · rw [if_neg e, List.filter_cons_of_neg e, Nat.zero_add]
theorem flat_le {α β : Type} (f : α → List β) (w : Nat) (h : ∀ a, (f a).length ≤ w) : ∀ l : List α, (l.flatMap f).length ≤ l.length * w
  | [] => by simp
  | a :: l => by
    rw [List.flatMap_cons, List.length_append, List.length_cons, Nat.add_mul, Nat.one_mul]
    have := h a
    have := flat_le f w h l
    omega
theorem ordN_len (N : List Str) : ∀ k, (ordN N k).length ≤ N.length ^ k
  | 0 => Nat.le_refl _
  | k + 1 => by
    have h := ordN_len N k
    rw [show ordN N (k + 1) = (ordN N k).flatMap fun o => (N.filter fun z => decide (z ∉ o)).map fun z => o ++ [z] from rfl]
    refine Nat.le_trans (flat_le _ N.length (fun o => by rw [List.length_map]; exact List.length_filter_le ..) _) ?_
    rw [Nat.pow_succ]
    exact Nat.mul_le_mul_right _ h
def strsD (o : List Str) : D := .tup (o.map D.str)
def nextO (N : List Str) (o : List Str) : List (List Str) := (N.filter fun z => decide (z ∉ o)).map fun z => o ++ [z]
theorem nextO_len (N o : List Str) : (nextO N o).length ≤ N.length := by unfold nextO; rw [List.length_map]; exact List.length_filter_le ..
theorem ordN_succ (N : List Str) (k : Nat) : ordN N (k + 1) = (ordN N k).flatMap (nextO N) := rfl
/-- all orders of some names -/
def phAllOrders : PhA := fun ds S q => ∃ N : List Str, ds = [.tup (N.map D.str)] ∧ N.length ≤ 6 ∧ q (.lst ((ordN N N.length).map strsD)) S
theorem cnt_split {N o : List Str} (hN : N.Nodup) (ho : o.Nodup) (hs : ∀ z ∈ o, z ∈ N) (p : Str → Bool) : ((N.filter fun z => decide (z ∉ o)).filter p).length + (o.filter p).length = (N.filter p).length := by
  have hp : ((N.filter fun z => decide (z ∉ o)) ++ o).Perm N := perm_same (by
      rw [List.nodup_append]
      refine ⟨hN.sublist List.filter_sublist, ho, fun a ha c hc e => ?_⟩
      subst e
      rw [List.mem_filter, decide_eq_true_eq] at ha
      exact ha.2 hc) hN fun z => by
    rw [List.mem_append, List.mem_filter, decide_eq_true_eq]
    constructor
    · rintro (h | h)
      · exact h.1
      · exact hs z h
    · intro h
      rcases Decidable.em (z ∈ o) with q | q
      · exact .inr q
      · exact .inl ⟨h, q⟩
  have := (hp.filter p).length_eq
  rw [List.filter_append, List.length_append] at this
  exact this
def goodN (N : List Str) (val : Str → Int) (sh : List Int) (k : Nat) : List (List Str) := (ordN N k).filter fun o => decide (o.map val = sh.take k)
theorem len_val (l : List Str) (val : Str → Int) (c : Int) : (l.filter fun z => decide (val z = c)).length = ((l.map val).filter fun v => decide (v = c)).length := by
  rw [List.filter_map, List.length_map]; rfl
theorem good_step {N : List Str} {val : Str → Int} {sh : List Int} {k w : Nat} {c : Int} (hN : N.Nodup) (hp : (N.map val).Perm sh) (hk : sh[k]? = some c) (hw : w + ((sh.take k).filter fun v => decide (v = c)).length = (sh.filter fun v => decide (v = c)).length) :
    (goodN N val sh (k + 1)).length = (goodN N val sh k).length * w := by
  unfold goodN
  rw [show ordN N (k + 1) = (ordN N k).flatMap fun o => (N.filter fun z => decide (z ∉ o)).map fun z => o ++ [z] from rfl, List.filter_flatMap]
  refine flat_len _ _ w _ fun o ho => ?_
  obtain ⟨h1, h2, h3⟩ := ordN_mem.mp ho
  have ht : sh.take (k + 1) = sh.take k ++ [c] := by rw [List.take_succ, hk]; rfl
  have hl : (o.map val).length = (sh.take k).length := by
    have : k < sh.length := by
      rcases Nat.lt_or_ge k sh.length with q | q
      · exact q
      · rw [List.getElem?_eq_none q] at hk; cases hk
    rw [List.length_map, List.length_take, h1]
    omega
  have he : ∀ z, ((o ++ [z]).map val = sh.take (k + 1)) ↔ o.map val = sh.take k ∧ val z = c := fun z => by
    rw [ht, List.map_append]
    constructor
    · intro e
      obtain ⟨e1, e2⟩ := List.append_inj e hl
      injection e2 with e2 _
      exact ⟨e1, e2⟩
    · rintro ⟨e1, e2⟩; rw [e1]; show _ ++ [val z] = _; rw [e2]
  rw [List.filter_map, List.length_map]
  by_cases q : o.map val = sh.take k
  · rw [if_pos (decide_eq_true q)]
    have ef : ((fun o => decide (List.map val o = List.take (k + 1) sh)) ∘ fun z => o ++ [z]) = fun z => decide (val z = c) := funext fun z => by
      show decide ((o ++ [z]).map val = sh.take (k + 1)) = _
      rw [Bool.eq_iff_iff, decide_eq_true_eq, decide_eq_true_eq, he z]
      exact ⟨fun x => x.2, fun x => ⟨q, x⟩⟩
    rw [ef]
    have g := cnt_split hN h2 h3 fun z => decide (val z = c)
    rw [len_val o, len_val N, q, (hp.filter _).length_eq] at g
    omega
  · rw [if_neg (by simpa using q)]
    rw [List.length_eq_zero_iff, List.filter_eq_nil_iff]
    intro z _ e
    have e : decide ((o ++ [z]).map val = sh.take (k + 1)) = true := e
    rw [decide_eq_true_eq, he z] at e
    exact q e.1
theorem shares_rep {b : Int} {n : Nat} (hb : 0 ≤ b) (hn : 0 < n) : sharesL b n = List.replicate (over b n) (b / (n : Nat) + 1) ++ List.replicate (n - over b n) (b / (n : Nat)) := by
  have h1 := over_lt (b := b) hn
  have h2 := over_eq (b := b) hn
  refine List.ext_getElem? fun i => ?_
  unfold sharesL
  rw [List.getElem?_map]
  by_cases hi : i < n
  · rw [List.getElem?_range hi]
    show some (shareZ b (i : Nat) (n : Nat)) = _
    rw [share_form hb (by omega) (by omega)]
    by_cases q : i < over b n
    · rw [if_pos (by omega), List.getElem?_append_left (by rw [List.length_replicate]; exact q), List.getElem?_replicate, if_pos q]
    · rw [if_neg (by omega), List.getElem?_append_right (by rw [List.length_replicate]; omega), List.length_replicate, List.getElem?_replicate, if_pos (by omega), Int.add_zero]
  · rw [List.getElem?_eq_none (by rw [List.length_range]; omega), List.getElem?_eq_none (by rw [List.length_append, List.length_replicate, List.length_replicate]; omega)]
    rfl
theorem fil_rep (m : Nat) (a c : Int) : ((List.replicate m a).filter fun v => decide (v = c)).length = if a = c then m else 0 := by
  by_cases e : a = c
  · rw [if_pos e, List.filter_replicate_of_pos (by simpa using e), List.length_replicate]
  · rw [if_neg e, List.filter_replicate_of_neg (by simpa using e)]; rfl
section
variable {b : Int} {N : List Str} {val : Str → Int} {n : Nat}
theorem good_low (hb : 0 ≤ b) (hn : 0 < n) (hN : N.Nodup) (hp : (N.map val).Perm (sharesL b n)) : ∀ k, k ≤ over b n → ((goodN N val (sharesL b n) k).length : Int) * fac (over b n - k) = fac (over b n)
  | 0, _ => by
    have e : goodN N val (sharesL b n) 0 = [[]] := by
      unfold goodN ordN
      rw [List.filter_cons_of_pos (by simp)]
      rfl
    rw [e]
    show (1 : Int) * _ = _
    rw [Int.one_mul]; rfl
  | k + 1, h => by
    have ih := good_low hb hn hN hp k (by omega)
    have h1 := over_lt (b := b) hn
    have hs := shares_rep hb hn
    have hg := good_step (k := k) (w := over b n - k) (c := b / (n : Nat) + 1) hN hp (by rw [hs, List.getElem?_append_left (by rw [List.length_replicate]; omega), List.getElem?_replicate, if_pos (by omega)]) (by
      rw [hs, List.take_append_of_le_length (by rw [List.length_replicate]; omega), List.take_replicate, List.filter_append, List.length_append, fil_rep, fil_rep, fil_rep, if_pos rfl, if_pos rfl, if_neg (by omega)]
      omega)
    rw [hg]
    obtain ⟨m, hm⟩ : ∃ m, over b n - k = m + 1 := ⟨over b n - k - 1, by omega⟩
    rw [hm] at ih ⊢
    rw [show over b n - (k + 1) = m by omega]
    rw [← ih]
    show _ = _ * (fac m * ((m : Int) + 1))
    rw [Int.natCast_mul, Int.mul_assoc, Int.mul_comm (((m + 1 : Nat) : Int)) (fac m)]
    rfl
theorem good_all (hb : 0 ≤ b) (hn : 0 < n) (hN : N.Nodup) (hp : (N.map val).Perm (sharesL b n)) : ∀ j, over b n + j ≤ n → ((goodN N val (sharesL b n) (over b n + j)).length : Int) * fac (n - over b n - j) = fac (over b n) * fac (n - over b n)
  | 0, _ => by
    have := good_low hb hn hN hp (over b n) (Nat.le_refl _)
    rw [Nat.sub_self, show fac 0 = 1 from rfl, Int.mul_one] at this
    rw [Nat.add_zero, this]; rfl
  | j + 1, h => by
    have ih := good_all hb hn hN hp j (by omega)
    have h1 := over_lt (b := b) hn
    have hs := shares_rep hb hn
    have hg := good_step (k := over b n + j) (w := n - over b n - j) (c := b / (n : Nat)) hN hp (by rw [hs, List.getElem?_append_right (by rw [List.length_replicate]; omega), List.length_replicate, List.getElem?_replicate, if_pos (by omega)]) (by
      rw [hs, List.take_append, List.length_replicate, List.take_replicate, List.take_replicate, List.filter_append, List.filter_append, List.length_append, List.length_append, fil_rep, fil_rep, fil_rep, fil_rep, if_pos rfl, if_pos rfl, if_neg (by omega), if_neg (by omega)]
      omega)
    rw [show over b n + (j + 1) = over b n + j + 1 by omega, hg]
    obtain ⟨m, hm⟩ : ∃ m, n - over b n - j = m + 1 := ⟨n - over b n - j - 1, by omega⟩
    rw [hm] at ih ⊢
    rw [show n - over b n - (j + 1) = m by omega]
    rw [← ih]
    show _ = _ * (fac m * ((m : Int) + 1))
    rw [Int.natCast_mul, Int.mul_assoc, Int.mul_comm (((m + 1 : Nat) : Int)) (fac m)]
    rfl
theorem good_count (hb : 0 ≤ b) (hn : 0 < n) (hN : N.Nodup) (hp : (N.map val).Perm (sharesL b n)) : ((goodN N val (sharesL b n) n).length : Int) = fac (over b n) * fac (n - over b n) := by
  have h1 := over_lt (b := b) hn
  have := good_all hb hn hN hp (n - over b n) (by omega)
  rw [show over b n + (n - over b n) = n by omega, Nat.sub_self, show fac 0 = 1 from rfl, Int.mul_one] at this
  exact this
end
/-! ### sorted orders -/
def strsE (o : List Str) : PyData := .tuple (o.map PyData.str)
theorem lt_strsE : ∀ a b : List Str, PyProof.Rows.lexLt PyProof.Rows.itemOrd (PySem.W.keyToksAll (a.map PyData.str)) (PySem.W.keyToksAll (b.map PyData.str)) = lexS a b
  | [], [] => rfl
  | [], y :: ys => by
    have h := PySem.W.dataLt_ints [] [0]
    unfold PySem.W.rowLt at h
    simp [PySem.W.keyToksAll] at h ⊢
    unfold lexS
    simp [PyProof.Rows.lexLt] at h ⊢
    exact .inl (by decide)
  | x :: xs, [] => by
    unfold lexS
    simp [PySem.W.keyToksAll, PyProof.Rows.lexLt]
    exact ⟨by decide, fun h => absurd h (by decide)⟩
  | x :: xs, y :: ys => by
    rw [List.map_cons, List.map_cons, PySem.W.dataLt_cons (alike_str _ _), lt_strsE xs ys, PySem.W.dataLt_str, eqv_str]
    show _ = if x = y then lexS xs ys else decide (x.cps.toList < y.cps.toList)
    by_cases e : x = y
    · rw [if_pos e, if_pos (by simpa using e)]
    · rw [if_neg e, if_neg (by simpa using e)]
theorem lt_orders (a b : List Str) : PySem.W.dataLt (strsE a) (strsE b) = lexS a b := by
  unfold strsE
  rw [PySem.W.dataLt_tuple, lt_strsE]
theorem lexS_trans : ∀ {a b c : List Str}, lexS a b = true → lexS b c = true → lexS a c = true
  | [], [], _, h, _ => by cases h
  | [], _ :: _, [], _, h => by cases h
  | [], _ :: _, _ :: _, _, _ => rfl
  | _ :: _, [], _, h, _ => by cases h
  | _ :: _, _ :: _, [], _, h => by cases h
  | x :: xs, y :: ys, z :: zs, h, h' => by
    unfold lexS at h h' ⊢
    by_cases e : x = y
    · subst e
      rw [if_pos rfl] at h
      by_cases e2 : x = z
      · subst e2
        rw [if_pos rfl] at h' ⊢
        exact lexS_trans h h'
      · rw [if_neg e2] at h' ⊢
        exact h'
    · rw [if_neg e, decide_eq_true_eq] at h
      by_cases e2 : y = z
      · subst e2
        rw [if_neg e, decide_eq_true h]
      · rw [if_neg e2, decide_eq_true_eq] at h'
        have t : ltS x z := ltS_trans (show ltS x y from h) (show ltS y z from h')
        by_cases e3 : x = z
        · subst e3; exact absurd t (ltS_irrefl _)
        · rw [if_neg e3]; exact decide_eq_true t
theorem lexS_tri : ∀ {a b : List Str}, lexS a b = false → lexS b a = false → a = b
  | [], [], _, _ => rfl
  | [], _ :: _, h, _ => by cases h
  | _ :: _, [], _, h => by cases h
  | x :: xs, y :: ys, h, h' => by
    unfold lexS at h h'
    by_cases e : x = y
    · subst e
      rw [if_pos rfl] at h h'
      rw [lexS_tri h h']
    · rw [if_neg e, decide_eq_false_iff_not] at h
      rw [if_neg fun x => e x.symm, decide_eq_false_iff_not] at h'
      exact absurd (ltS_tri h h') e
def sortO (l : List (List Str)) : List (List Str) := l.mergeSort (PySem.W.dataLe false strsE)
theorem leO (a b : List Str) : PySem.W.dataLe false strsE a b = !lexS b a := by show (!PySem.W.dataLt (strsE b) (strsE a)) = _; rw [lt_orders]
theorem sortO_head {l : List (List Str)} {F : List Str} (h : F ∈ l) (hm : ∀ o ∈ l, lexS o F = false) : ∃ r, sortO l = F :: r := by
  have hs : (sortO l).Pairwise fun a b => PySem.W.dataLe false strsE a b = true := List.pairwise_mergeSort (fun a b c h1 h2 => by
      rw [leO, Bool.not_eq_true'] at h1 h2 ⊢
      cases e : lexS c a with
      | false => rfl
      | true =>
        cases e2 : lexS a b with
        | true => rw [lexS_trans e e2] at h2; cases h2
        | false =>
          have := lexS_tri e2 h1
          subst this
          rw [e] at h2; cases h2) (fun a b => by
      rw [leO, leO]
      cases e : lexS b a with
      | false => rfl
      | true =>
        cases e2 : lexS a b with
        | false => rfl
        | true => have := lexS_trans e e2; rw [lex_refl] at this; cases this) l
  have hp : (sortO l).Perm l := List.mergeSort_perm _ _
  cases e : sortO l with
  | nil => rw [e] at hp; have := hp.symm.eq_nil; subst this; cases h
  | cons o r =>
    rw [e] at hp hs
    have ho : o ∈ l := hp.mem_iff.mp (List.mem_cons_self ..)
    have hF : F ∈ o :: r := hp.mem_iff.mpr h
    rcases List.mem_cons.mp hF with q | q
    · exact ⟨r, by rw [q]⟩
    · have := (List.pairwise_cons.mp hs).1 F q
      rw [leO, Bool.not_eq_true'] at this
      have := lexS_tri this (hm o ho)
      exact ⟨r, by rw [this]⟩
theorem sortO_nil : sortO [] = [] := (List.mergeSort_perm [] _).eq_nil
theorem strsE_depth (o : List Str) : (strsE o).depth ≤ 60 := by
  have h : ∀ o : List Str, PyData.depthAll (o.map PyData.str) = 0 := fun o => by
    induction o with
    | nil => rfl
    | cons x o ih => simp [PyData.depthAll, PyData.depth, ih]
  unfold strsE
  simp [PyData.depth, h]
theorem strs_alike : ∀ a b : List Str, PySem.W.alikeAll (a.map PyData.str) (b.map PyData.str) = true
  | [], _ => by simp [PySem.W.alikeAll]
  | _ :: _, [] => by simp [PySem.W.alikeAll]
  | x :: xs, y :: ys => by
    rw [List.map_cons, List.map_cons, PySem.W.alikeAll, alike_str, strs_alike xs ys]
    rfl
theorem sorted_os {S : Sto} {q : Kq} {x : D} {os : List (List Str)} (h : asL S x = some (os.map strsD)) (h0 : ∀ o ∈ os, o ≠ []) (hq : NewL S ((sortO os).map strsD) q) : phSorted [x] S q :=
  ⟨x, _, os, strsD, strsE, rfl, asQ_of h, fun b => py_tup_map D.str PyData.str (fun _ => rfl) b, PySem.W.AllAlike.of fun a b => by
    unfold strsE
    rw [PySem.W.alike]
    exact strs_alike a b, .inl fun d hd => by
      obtain ⟨o, ho, rfl⟩ := List.mem_map.mp hd
      cases o with
      | nil => exact absurd rfl (h0 _ ho)
      | cons z o => exact ⟨_, _, rfl⟩, by rw [h]; simp, strsE_depth, hq⟩
/-! ### what orders tells, beside all orders -/
section
variable {b : Int} {N : List Str} {val : Str → Int} {n : Nat}
def rowsV (N : List Str) (val : Str → Int) : List (Str × Int) := N.map fun z => (z, val z)
theorem perm_sub {xs ys : List Str} (h1 : xs.Nodup) (h2 : ys.Nodup) (h : ∀ z ∈ xs, z ∈ ys) (hl : ys.length ≤ xs.length) : xs.Perm ys := by
  have g := cnt_split h2 h1 h fun _ => true
  have e : ∀ l : List Str, l.filter (fun _ => true) = l := fun l => List.filter_eq_self.mpr fun _ _ => rfl
  rw [e, e, e] at g
  have g2 : (ys.filter fun z => decide (z ∉ xs)) = [] := List.length_eq_zero_iff.mp (by omega)
  rw [List.filter_eq_nil_iff] at g2
  exact perm_same h1 h2 fun z => ⟨h z, fun hz => Decidable.by_contra fun q => g2 z hz (decide_eq_true q)⟩
theorem paid_good {o : List Str} (hN : N.Pairwise ltS) (hl : N.length = n) (ho : o ∈ goodN N val (sharesL b n) n) : o.Perm N ∧ sortP (paidRows b o) = rowsV N val ∧ o.length = n := by
  unfold goodN at ho
  rw [List.mem_filter, decide_eq_true_eq] at ho
  obtain ⟨h1, h2⟩ := ho
  obtain ⟨g1, g2, g3⟩ := ordN_mem.mp h1
  have hNn : N.Nodup := hN.imp fun {x y} q e => by subst e; exact ltS_irrefl _ q
  have hp : o.Perm N := perm_sub g2 hNn g3 (by omega)
  have hsl : (sharesL b n).length = n := by unfold sharesL; rw [List.length_map, List.length_range]
  rw [List.take_of_length_le (by omega)] at h2
  refine ⟨hp, ?_, g1⟩
  have e1 : o.map (fun z => (z, own b o z)) = o.map fun z => (z, val z) := List.map_congr_left fun z hz => by
    have hi := List.idxOf_lt_length_of_mem hz
    have e : (o.map val)[o.idxOf z]? = (sharesL b n)[o.idxOf z]? := by rw [h2]
    rw [List.getElem?_map, List.getElem?_eq_getElem hi, List.getElem_idxOf] at e
    unfold sharesL at e
    rw [List.getElem?_map, List.getElem?_range (by omega)] at e
    have e : some (val z) = some (shareZ b (o.idxOf z : Nat) (n : Nat)) := e
    injection e with e
    unfold own
    rw [e, g1]
  rw [paid_names g2, e1]
  have p2 : (o.map fun z => (z, val z)).Perm (rowsV N val) := hp.map _
  refine (sortP_eq p2).trans ?_
  exact List.mergeSort_of_pairwise ((List.pairwise_map (f := fun z => (z, val z)) (R := fun a b => PySem.W.dataLe false pairE a b = true)).mpr (hN.imp fun {a b} q => by
    show (!PySem.W.dataLt (pairE (b, val b)) (pairE (a, val a))) = true
    rw [lt_pairE, decide_eq_false (by
      rintro (h | ⟨h, _⟩)
      · exact ltS_irrefl _ (ltS_trans q h)
      · have h : b = a := h
        subst h; exact ltS_irrefl _ q)]
    rfl))
theorem orders_told (hb : 0 ≤ b) (hn : 0 < n) (hN : N.Pairwise ltS) (hl : N.length = n) : ∃ (d : D) (r : List D), (sortO (goodN N val (sharesL b n) n)).map strsD ++ [.non] = d :: r ∧ ordD b (rowsV N val) = .tup [.int ((goodN N val (sharesL b n) n).length : Nat), d] ∧ (d = .non ∨ ∃ F : List Str, d = strsD F ∧ ∀ z ∈ F, z ∈ N) := by
  have hNn : N.Nodup := hN.imp fun {x y} q e => by subst e; exact ltS_irrefl _ q
  have hrl : (rowsV N val).length = n := by unfold rowsV; rw [List.length_map]; exact hl
  have hrv : (rowsV N val).map (·.2) = N.map val := by unfold rowsV; rw [List.map_map]; rfl
  have hsl : (sharesL b n).length = n := by unfold sharesL; rw [List.length_map, List.length_range]
  by_cases e : sortI (sharesL b n) = sortI (N.map val)
  · have hp : (N.map val).Perm (sharesL b n) := (List.mergeSort_perm (N.map val) _).symm.trans (by show (sortI (N.map val)).Perm _; rw [← e]; exact List.mergeSort_perm _ _)
    have hc := good_count hb hn hNn hp
    have f1 := fac_pos (over b n)
    have f2 := fac_pos (n - over b n)
    have f3 : 0 < fac (over b n) * fac (n - over b n) := Int.mul_pos f1 f2
    obtain ⟨o, ho⟩ : ∃ o, o ∈ goodN N val (sharesL b n) n := by
      cases hg : goodN N val (sharesL b n) n with
      | nil => rw [hg] at hc; have : (0 : Int) = _ := hc; omega
      | cons o r => exact ⟨o, List.mem_cons_self ..⟩
    obtain ⟨p1, p2, p3⟩ := paid_good hN hl ho
    have hon : o.Nodup := p1.nodup_iff.mpr hNn
    have h0 : 0 < o.length := by omega
    have hFp := first_perm hb hon
    have hFs := first_same hb hon h0
    have hF : hiL b o ++ loL b o ∈ goodN N val (sharesL b n) n := by
      unfold goodN
      rw [List.mem_filter, decide_eq_true_eq]
      have hFn : (hiL b o ++ loL b o).Nodup := hFp.nodup_iff.mpr hon
      refine ⟨ordN_mem.mpr ⟨hFp.length_eq.trans p3, hFn, fun z hz => p1.mem_iff.mp (hFp.mem_iff.mp hz)⟩, ?_⟩
      rw [List.take_of_length_le (by omega)]
      revert hFn hFp hFs
      generalize hiL b o ++ loL b o = F
      intro hFp hFs hFn
      rw [paid_names hFn, p2] at hFs
      have hm : ∀ z ∈ F, own b F z = val z := fun z hz => by
        have : (z, own b F z) ∈ sortP (F.map fun z => (z, own b F z)) := (sortP_perm _).mem_iff.mpr (List.mem_map.mpr ⟨z, hz, rfl⟩)
        rw [hFs] at this
        unfold rowsV at this
        obtain ⟨y, _, ey⟩ := List.mem_map.mp this
        obtain ⟨e1, e2⟩ := Prod.mk.inj ey
        rw [← e2, e1]
      have hFl : F.length = n := hFp.length_eq.trans p3
      rw [← List.map_congr_left hm]
      have := map_range hFn (fun i => shareZ b (i : Nat) (n : Nat))
      unfold sharesL own
      rw [hFl] at this ⊢
      exact this
    obtain ⟨r, hr⟩ := sortO_head hF fun o' ho' => by
      obtain ⟨q1, q2, q3⟩ := paid_good hN hl ho'
      exact lex_first hb hon h0 (q1.trans p1.symm) (q2.trans p2.symm)
    refine ⟨strsD (hiL b o ++ loL b o), r.map strsD ++ [.non], by rw [hr]; rfl, ?_, .inr ⟨_, rfl, fun z hz => p1.mem_iff.mp (hFp.mem_iff.mp hz)⟩⟩
    rw [← p2, ord_known hon, hi_len hb hon h0, lo_len hb hon, p3, hc]
    rfl
  · have hg : goodN N val (sharesL b n) n = [] := by
      rw [List.eq_nil_iff_forall_not_mem]
      intro o ho
      obtain ⟨p1, _, _⟩ := paid_good hN hl ho
      unfold goodN at ho
      rw [List.mem_filter, decide_eq_true_eq, List.take_of_length_le (by omega)] at ho
      exact e (sortI_eq (by rw [← ho.2]; exact p1.map val))
    rw [hg, sortO_nil]
    refine ⟨.non, [], rfl, ?_, .inl rfl⟩
    unfold ordD
    rw [hrl, hrv, if_neg e]
    rfl
end
/-! ### a table, a name's cell set anew -/
theorem valD_put {kvs : List (Key × D)} {k : Key} {v : D} : ∀ k', valD (putD kvs k v) k' = if k' = k then some v else valD kvs k' := by
  intro k'
  unfold putD
  split
  · rename_i h
    have main : ∀ l : List (Key × D), valD (l.map fun kv => if kv.1 = k then (kv.1, v) else kv) k' = if k' = k then (if (l.any fun kv => decide (kv.1 = k)) = true then some v else none) else valD l k' := by
      intro l
      induction l with
      | nil => unfold valD; split <;> rfl
      | cons a l ih =>
        unfold valD at ih ⊢
        rw [List.map_cons, List.find?_cons, List.any_cons]
        by_cases e : a.1 = k
        · rw [if_pos e]
          by_cases e2 : k' = k
          · subst e2
            simp [e]
          · have : ¬ a.1 = k' := fun x => e2 (x ▸ e)
            simp only [decide_eq_false this]
            rw [ih, if_neg e2, if_neg e2, List.find?_cons, decide_eq_false this]
        · rw [if_neg e]
          by_cases e3 : a.1 = k'
          · have e2 : ¬ k' = k := fun x => e (e3.trans x)
            rw [if_neg e2, List.find?_cons]
            simp [e3]
          · simp only [decide_eq_false e3]
            rw [ih, List.find?_cons, decide_eq_false e3, decide_eq_false e, Bool.false_or]
    rw [main, if_pos h]
  · rename_i h
    unfold valD
    rw [List.find?_append]
    by_cases e2 : k' = k
    · subst e2
      rw [if_pos rfl]
      have : kvs.find? (fun kv => decide (kv.1 = k')) = none := by
        rw [List.find?_eq_none]
        intro x hx q
        exact h (List.any_eq_true.mpr ⟨x, hx, q⟩)
      rw [this]
      simp
    · rw [if_neg e2]
      have : ¬ k = k' := fun x => e2 x.symm
      simp [this]
theorem put_lenK {kvs : List (Key × D)} {k : Key} {v : D} : (putD kvs k v).length ≤ kvs.length + 1 := by
  unfold putD
  split
  · rw [List.length_map]; omega
  · rw [List.length_append]; exact Nat.le_refl _
/-- a table tells val for these names -/
def Tells (kvs : List (Key × D)) (N : List Str) (val : Str → Int) : Prop := ∀ z ∈ N, valD kvs (.inr z) = some (.int (val z))
theorem tells_has {S : Sto} {p : Addr} {kvs : List (Key × D)} {N : List Str} {val : Str → Int} {z : Str} (h : Tells kvs N val) (hp : S p = some (.dK kvs)) (hz : z ∈ N) : HasD S p (.str z) (some (.int (val z))) := by
  have := HasD.k (S := S) (a := p) (Sum.inr z) hp
  rw [h z hz] at this
  exact this
theorem tells_put {kvs : List (Key × D)} {N : List Str} {val : Str → Int} {z : Str} {v : Int} (h : Tells kvs N val) : Tells (putD kvs (.inr z) (.int v)) N fun y => if y = z then v else val y := fun y hy => by
  rw [valD_put]
  by_cases e : y = z
  · subst e
    rw [if_pos rfl]
    show _ = some (D.int (if y = y then v else val y))
    rw [if_pos rfl]
  · rw [if_neg (fun x => e (Sum.inr.inj x))]
    show _ = some (D.int (if y = z then v else val y))
    rw [if_neg e]; exact h y hy
theorem tells_rows {b : Int} {o N : List Str} (h : o.Nodup) (hs : ∀ z ∈ N, z ∈ o) : Tells (tabD (rowsN b o)) N (own b o) := fun z hz => tab_get (ps := rowsN b o) (z := z) (v := own b o z) (by rw [rowsN_keys]; exact h) (List.mem_map.mpr ⟨z, hs z hz, rfl⟩)
theorem name_any {N : List Str} {j : Int} (h0 : 0 ≤ j) (h1 : j < N.length) : ∃ z ∈ N, atI (N.map D.str) j = some (.str z) := by
  obtain ⟨k, rfl⟩ : ∃ k : Nat, j = k := ⟨j.toNat, by omega⟩
  have hk : k < N.length := by omega
  exact ⟨N[k], List.getElem_mem hk, atI_nat (by rw [List.getElem?_map, List.getElem?_eq_getElem hk]; rfl)⟩
theorem name_at20 {i : Int} {j : Nat} (h1 : i - 1 = j) (h2 : j < 20) : ((allN.take 20).map D.str)[j]? = some (.str (nameAt i)) := by
  rw [List.getElem?_map, List.getElem?_take_of_lt h2]
  have hj3 : j < allN.length := by rw [show allN.length = 62 from by decide +kernel]; omega
  rw [List.getElem?_eq_getElem hj3]
  unfold nameAt
  rw [show (i - 1).toNat = j by omega, List.getElem?_eq_getElem hj3]
  rfl
theorem rows_known {N : List Str} {val : Str → Int} (hN : N.Pairwise ltS) (h1 : 1 ≤ N.length) (h8 : N.length ≤ 8) (hk : ∀ z ∈ N, nameOk z = true) (hv : ∀ z ∈ N, 0 ≤ val z ∧ val z ≤ farZ) : KOk (rowsV N val) := by
  have hm : ∀ p ∈ rowsV N val, ∃ z ∈ N, p = (z, val z) := fun p hp => by
    obtain ⟨z, hz, rfl⟩ := List.mem_map.mp hp
    exact ⟨z, hz, rfl⟩
  refine ⟨by unfold rowsV; rw [List.length_map]; exact h1, by unfold rowsV; rw [List.length_map]; exact h8, fun p hp => ?_, fun p hp => ?_, fun p hp => ?_, List.pairwise_map.mpr hN⟩
  all_goals obtain ⟨z, hz, rfl⟩ := hm p hp
  · exact hk z hz
  · exact (hv z hz).1
  · exact (hv z hz).2
theorem sortS_step {N : List Str} (h : N.Nodup) (hf : sortS N = N) : N.Pairwise ltS := by
  have hle : ∀ a b : Str, PySem.W.dataLe false PyData.str a b = !decide (ltS b a) := fun a b => by show (!PySem.W.dataLt (.str b) (.str a)) = _; rw [lt_strE]
  have asym : ∀ {a b}, ltS a b → ¬ ltS b a := fun h1 h2 => ltS_irrefl _ (ltS_trans h1 h2)
  have hs : (sortS N).Pairwise fun a b => PySem.W.dataLe false PyData.str a b = true := List.pairwise_mergeSort (fun a b c h1 h2 => by
      rw [hle] at h1 h2 ⊢
      simp only [Bool.not_eq_true', decide_eq_false_iff_not] at h1 h2 ⊢
      intro h3
      by_cases q : ltS a b
      · exact h2 (ltS_trans h3 q)
      · have := ltS_tri q h1
        subst this
        exact h2 h3) (fun a b => by
      rw [hle, hle]
      simp only [Bool.or_eq_true, Bool.not_eq_true', decide_eq_false_iff_not]
      by_cases q : ltS a b
      · exact .inl (asym q)
      · exact .inr q) N
  rw [hf] at hs
  refine (hs.and h).imp fun {a b} ⟨q1, q2⟩ => ?_
  rw [hle] at q1
  simp only [Bool.not_eq_true', decide_eq_false_iff_not] at q1
  rcases Decidable.em (ltS a b) with e | e
  · exact e
  · exact absurd (ltS_tri e q1) q2
theorem sortS_is {N : List Str} (h : N.Pairwise ltS) : sortS N = N := List.mergeSort_of_pairwise (h.imp fun {a b} q => by
  show (!PySem.W.dataLt (.str b) (.str a)) = true
  rw [lt_strE, decide_eq_false fun x => ltS_irrefl _ (ltS_trans q x)]
  rfl)
/-- not one place where a name has not paid its cents -/
theorem row_fits {val : Str → Int} {o : List Str} {sh : List Int} (hl : o.length = sh.length) : decide ((((o.zip sh).filter fun p => !decide (val p.1 = p.2)).map fun _ => (1 : Int)) = []) = decide (o.map val = sh) := by
  rw [Bool.eq_iff_iff, decide_eq_true_eq, decide_eq_true_eq, List.map_eq_nil_iff, List.filter_eq_nil_iff]
  induction o generalizing sh with
  | nil => cases sh with
    | nil => simp
    | cons c sh => cases hl
  | cons z o ih => cases sh with
    | nil => cases hl
    | cons c sh =>
      rw [List.zip_cons_cons, List.map_cons]
      have ih := ih (sh := sh) (by simpa using hl)
      constructor
      · intro h
        have h1 := h (z, c) (List.mem_cons_self ..)
        have h2 := ih.mp fun p hp => h p (List.mem_cons_of_mem _ hp)
        rw [h2, show val z = c by simpa using h1]
      · intro h
        injection h with h1 h2
        intro p hp
        rcases List.mem_cons.mp hp with rfl | hp
        · simp [h1]
        · exact ih.mpr h2 p hp
theorem ne_told {S : Sto} {q : Kq} {k : Int} {d : D} (h : d = .non ∨ ∃ F : List Str, d = strsD F ∧ ∀ z ∈ F, okS z) (hq : q (.bl false) S) : phNe (.tup [.int k, d]) (.tup [.int k, d]) S q := by
  rcases h with rfl | ⟨F, rfl, hF⟩
  · refine ne_dat (a := .tuple [.int k, .none]) (b := .tuple [.int k, .none]) (c := true) rfl rfl ?_ ?_ ?_ hq
    · simp [SeqAt.shaped, PyData.canLay0, PyData.canLayAll0, PyData.depth, PyData.depthAll]
    · simp [SeqAt.shaped, PyData.canLay0, PyData.canLayAll0, PyData.depth, PyData.depthAll]
    · simp [PyData.eqv, PyData.eqvAll]
  · exact ne_state hF hF (by rw [decide_eq_true ⟨rfl, rfl⟩]; exact hq)
/-! ### what is no row of names and cents, seen at once -/
def riseD : List D → Bool
  | .tup (.str a :: _) :: .tup (.str b :: x) :: r => decide (ltS a b) && riseD (.tup (.str b :: x) :: r)
  | _ => true
def knownB : D → Bool
  | .tup xs => (decide (1 ≤ xs.length) && decide (xs.length ≤ 8)) && (xs.all pairB && riseD xs)
  | _ => false
theorem rise_of : ∀ {ps : List (Str × Int)}, (ps.Pairwise fun a b => ltS a.1 b.1) → riseD (ps.map pairD) = true
  | [], _ => rfl
  | [_], _ => rfl
  | p :: r :: ps, h => by
    have h1 := List.pairwise_cons.mp h
    show (decide (ltS p.1 r.1) && riseD ((r :: ps).map pairD)) = true
    rw [decide_eq_true (h1.1 r (List.mem_cons_self ..)), rise_of h1.2]
    rfl
theorem unknown {y : D} (h : knownB y = false) : ¬ KnownD y := by
  rintro ⟨ps, rfl, hk⟩
  have hs := known_all ⟨ps, rfl, hk⟩
  have e : knownB (.tup (ps.map pairD)) = true := by
    show ((decide (1 ≤ (ps.map pairD).length) && decide ((ps.map pairD).length ≤ 8)) && ((ps.map pairD).all pairB && riseD (ps.map pairD))) = true
    rw [decide_eq_true hs.2.1, decide_eq_true hs.2.2, hs.1, rise_of hk.st]
    rfl
  rw [h] at e; cases e
/-! ### eight folk, nine folk, one -/
def n8 : List Str := allN.take 8
def val8 (z : Str) : Int := if z ∈ n8.drop 6 then 2 else 1
theorem n8_up : n8.Pairwise ltS := by decide +kernel
theorem n8_sort : sortS n8 = n8 := sortS_is n8_up
theorem n8_known : KOk (rowsV n8 val8) := rows_known n8_up (by decide +kernel) (by decide +kernel) (fun z hz => allN_ok z (List.mem_of_mem_take hz)) fun z _ => by
  unfold val8; split <;> decide
theorem n8_ord : ordD 10 (rowsV n8 val8) = .tup [.int 1440, .tup ((n8.drop 6 ++ n8.take 6).map D.str)] := by
  have hl : (rowsV n8 val8).length = 8 := by decide +kernel
  have hv : (rowsV n8 val8).map (·.2) = [1, 1, 1, 1, 1, 1, 2, 2] := by decide +kernel
  have hs : sharesL 10 8 = [2, 2, 1, 1, 1, 1, 1, 1] := by decide +kernel
  have h1 : whoP (rowsV n8 val8) (10 / ((8 : Nat) : Int) + 1) = n8.drop 6 := by decide +kernel
  have h2 : whoP (rowsV n8 val8) (10 / ((8 : Nat) : Int)) = n8.take 6 := by decide +kernel
  unfold ordD
  rw [hl, hv, hs, h1, h2, if_pos (sortI_eq (by decide))]
  have e1 : (n8.drop 6).length = 2 := by decide +kernel
  have e2 : (n8.take 6).length = 6 := by decide +kernel
  rw [e1, e2]
  rfl
theorem n8_rows : (n8.zipIdx.map fun p => D.tup [.str p.1, .int (1 + if decide (5 < (p.2 : Int)) = true then 1 else 0)]) = (rowsV n8 val8).map pairD := by
  have h : (n8.zipIdx.map fun p => (p.1, (1 : Int) + if decide (5 < (p.2 : Int)) = true then 1 else 0)) = rowsV n8 val8 := by decide +kernel
  rw [← h, List.map_map]
  rfl
def n9 : List Str := allN.take 9
theorem n9_sort : sortS n9 = n9 := sortS_is (by decide +kernel)
theorem n9_not : ¬ KnownD (.tup ((rowsV n9 fun _ => 1).map pairD)) := unknown (by decide +kernel)
theorem n9_fine : fineD (.tup ((rowsV n9 fun _ => 1).map pairD)) = true := fine_known (by decide +kernel) (by decide +kernel)
theorem one_known : KOk [(("ann" : Str), (0 : Int))] := ⟨by decide, by decide, by decide +kernel, by decide, by decide, List.pairwise_singleton _ _⟩
theorem one_ord : ordD 1 [(("ann" : Str), (0 : Int))] = .tup [.int 0, .non] := by
  unfold ordD
  have hs : sharesL 1 1 = [1] := by decide +kernel
  rw [show ([(("ann" : Str), (0 : Int))] : List (Str × Int)).length = 1 from rfl, hs, if_neg]
  show ¬ sortI [1] = sortI [0]
  unfold sortI
  rw [List.mergeSort_singleton, List.mergeSort_singleton]
  decide
end Paid

set_option Elab.async false
set_option linter.all false
set_option maxRecDepth 100000
set_option maxHeartbeats 4000000
namespace Paid
open PySem L2
def topS (i : Nat) : Stmt := PySem.Challenge.pw_paidback_k10_orders_told_back.main.body.getD i (.Pass ⟨0, 0, 0, 0⟩)
abbrev s_is_within : Stmt := topS 21
abbrev s_is_name : Stmt := topS 22
abbrev s_share : Stmt := topS 23
abbrev s_product : Stmt := topS 25
abbrev s_is_known : Stmt := topS 26
abbrev s_orders : Stmt := topS 27
abbrev s_law_cell_at : Stmt := topS 29
abbrev s_law_draws : Stmt := topS 30
abbrev s_law_bag : Stmt := topS 31
abbrev s_law_bags : Stmt := topS 32
abbrev s_law_take : Stmt := topS 33
abbrev s_law_far_draw : Stmt := topS 34
abbrev s_law_mixed : Stmt := topS 35
abbrev s_law_names : Stmt := topS 36
abbrev s_law_shares : Stmt := topS 37
abbrev s_law_refused : Stmt := topS 38
abbrev s_law_orders : Stmt := topS 39
abbrev s_law : Stmt := topS 40
theorem sc_is_within : FnScope ["thing", "low", "high"] ["thing", "low", "high"] (defScope s_is_within) := ⟨rfl, rfl, rfl, by decide +kernel, rfl, by decide +kernel, by decide +kernel⟩
theorem sc_is_name : FnScope ["thing", "sign"] ["thing"] (defScope s_is_name) := ⟨rfl, rfl, rfl, by decide +kernel, rfl, by decide +kernel, by decide +kernel⟩
theorem sc_share : FnScope ["bills", "place", "many"] ["bills", "place", "many"] (defScope s_share) := ⟨rfl, rfl, rfl, by decide +kernel, rfl, by decide +kernel, by decide +kernel⟩
theorem sc_product : FnScope ["many", "found", "one"] ["many"] (defScope s_product) := ⟨rfl, rfl, rfl, by decide +kernel, rfl, by decide +kernel, by decide +kernel⟩
theorem sc_is_known : FnScope ["thing", "pair", "one", "other"] ["thing"] (defScope s_is_known) := ⟨rfl, rfl, rfl, by decide +kernel, rfl, by decide +kernel, by decide +kernel⟩
theorem sc_orders : FnScope ["bills", "known", "shares", "cents", "names", "found", "most", "number", "order", "place", "name", "own"] ["bills", "known"] (defScope s_orders) := ⟨rfl, rfl, rfl, by decide +kernel, rfl, by decide +kernel, by decide +kernel⟩
theorem sc_law_cell_at : FnScope ["script", "k"] ["script", "k"] (defScope s_law_cell_at) := ⟨rfl, rfl, rfl, by decide +kernel, rfl, by decide +kernel, by decide +kernel⟩
theorem sc_law_draws : FnScope ["cell", "many", "size", "found", "rest", "stirred", "k"] ["cell", "many", "size"] (defScope s_law_draws) := ⟨rfl, rfl, rfl, by decide +kernel, rfl, by decide +kernel, by decide +kernel⟩
theorem sc_law_bag : FnScope ["script", "k"] ["script", "k"] (defScope s_law_bag) := ⟨rfl, rfl, rfl, by decide +kernel, rfl, by decide +kernel, by decide +kernel⟩
theorem sc_law_bags : FnScope ["script", "limit", "k"] ["script", "limit"] (defScope s_law_bags) := ⟨rfl, rfl, rfl, by decide +kernel, rfl, by decide +kernel, by decide +kernel⟩
theorem sc_law_take : FnScope ["bag", "many"] ["bag", "many"] (defScope s_law_take) := ⟨rfl, rfl, rfl, by decide +kernel, rfl, by decide +kernel, by decide +kernel⟩
theorem sc_law_far_draw : FnScope ["bag", "many", "found", "much"] ["bag", "many"] (defScope s_law_far_draw) := ⟨rfl, rfl, rfl, by decide +kernel, rfl, by decide +kernel, by decide +kernel⟩
theorem sc_law_mixed : FnScope ["bag", "many", "found", "one"] ["bag", "many"] (defScope s_law_mixed) := ⟨rfl, rfl, rfl, by decide +kernel, rfl, by decide +kernel, by decide +kernel⟩
theorem sc_law_names : FnScope ["many", "first", "letters", "letter"] ["many"] (defScope s_law_names) := ⟨rfl, rfl, rfl, by decide +kernel, rfl, by decide +kernel, by decide +kernel⟩
theorem sc_law_shares : FnScope ["bills", "many", "over", "place"] ["bills", "many"] (defScope s_law_shares) := ⟨rfl, rfl, rfl, by decide +kernel, rfl, by decide +kernel, by decide +kernel⟩
theorem sc_law_refused : FnScope ["call", "one", "two", "three", "kin", "e", "words", "word", "there"] ["call", "one", "two", "three"] (defScope s_law_refused) := ⟨rfl, rfl, rfl, by decide +kernel, rfl, by decide +kernel, by decide +kernel⟩
theorem sc_law_orders : FnScope ["names", "found", "turn", "longer", "order", "name"] ["names"] (defScope s_law_orders) := ⟨rfl, rfl, rfl, by decide +kernel, rfl, by decide +kernel, by decide +kernel⟩
theorem sc_law : FnScope ["script", "bag", "names", "eight", "bads", "bad", "nine", "odd", "many", "bills", "order", "table", "known", "good", "row", "name", "place", "cents"] ["script"] (defScope s_law) := ⟨rfl, rfl, rfl, by decide +kernel, rfl, by decide +kernel, by decide +kernel⟩
structure FnT (K : PySem.W.Frag) (mg : Str → Option Value) (x : Str) (st : Stmt) (ps : List Str) (a : Addr) (fd : FuncData) : Prop where
  F : Fun K x x st a fd
  b : Binds K fd ps []
  g : mg x = some (.ref a)
structure Tx (K : PySem.W.Frag) (mg : Str → Option Value) (ad : Nat → Addr) (fd : Nat → FuncData) : Prop where
  f21 : FnT K mg "is_within" s_is_within ["thing", "low", "high"] (ad 21) (fd 21)
  f22 : FnT K mg "is_name" s_is_name ["thing"] (ad 22) (fd 22)
  f23 : FnT K mg "share" s_share ["bills", "place", "many"] (ad 23) (fd 23)
  f25 : FnT K mg "product" s_product ["many"] (ad 25) (fd 25)
  f26 : FnT K mg "is_known" s_is_known ["thing"] (ad 26) (fd 26)
  f27 : FnT K mg "orders" s_orders ["bills", "known"] (ad 27) (fd 27)
  f29 : FnT K mg "_law_cell_at" s_law_cell_at ["script", "k"] (ad 29) (fd 29)
  f30 : FnT K mg "_law_draws" s_law_draws ["cell", "many", "size"] (ad 30) (fd 30)
  f31 : FnT K mg "_law_bag" s_law_bag ["script", "k"] (ad 31) (fd 31)
  f32 : FnT K mg "_law_bags" s_law_bags ["script", "limit"] (ad 32) (fd 32)
  f33 : FnT K mg "_law_take" s_law_take ["bag", "many"] (ad 33) (fd 33)
  f34 : FnT K mg "_law_far_draw" s_law_far_draw ["bag", "many"] (ad 34) (fd 34)
  f35 : FnT K mg "_law_mixed" s_law_mixed ["bag", "many"] (ad 35) (fd 35)
  f36 : FnT K mg "_law_names" s_law_names ["many"] (ad 36) (fd 36)
  f37 : FnT K mg "_law_shares" s_law_shares ["bills", "many"] (ad 37) (fd 37)
  f38 : FnT K mg "_law_refused" s_law_refused ["call", "one", "two", "three"] (ad 38) (fd 38)
  f39 : FnT K mg "_law_orders" s_law_orders ["names"] (ad 39) (fd 39)
  f40 : FnT K mg "law" s_law ["script"] (ad 40) (fd 40)
  all : mg "all" = none
  bool : mg "bool" = none
  dict : mg "dict" = none
  enumerate : mg "enumerate" = none
  int : mg "int" = none
  isinstance : mg "isinstance" = none
  len : mg "len" = none
  max : mg "max" = none
  min : mg "min" = none
  range : mg "range" = none
  sorted : mg "sorted" = none
  str : mg "str" = none
  tuple : mg "tuple" = none
  zip : mg "zip" = none
  m40 : (fd 40).code = .ref (ad 1040)
  nClubError : mg "ClubError" = some (.ref (ad 1))
  nNoState : mg "NoState" = some (.ref (ad 2))
  nNoCents : mg "NoCents" = some (.ref (ad 3))
  nNoName : mg "NoName" = some (.ref (ad 4))
  nNoDeeds : mg "NoDeeds" = some (.ref (ad 5))
  nNoTimes : mg "NoTimes" = some (.ref (ad 6))
  nNoMany : mg "NoMany" = some (.ref (ad 7))
  nNoPlace : mg "NoPlace" = some (.ref (ad 8))
  nNoSeen : mg "NoSeen" = some (.ref (ad 9))
  nNoPaid : mg "NoPaid" = some (.ref (ad 10))
  nNobody : mg "Nobody" = some (.ref (ad 11))
  nTooMuch : mg "TooMuch" = some (.ref (ad 12))
  nFull : mg "Full" = some (.ref (ad 13))
  nLastOne : mg "LastOne" = some (.ref (ad 14))
  nNothingLeft : mg "NothingLeft" = some (.ref (ad 15))
  nTwice : mg "Twice" = some (.ref (ad 16))
  nNotIn : mg "NotIn" = some (.ref (ad 17))
  ValueError : mg "ValueError" = none
  kNoCents : PL.Caught K (ad 3) [(.ref (ad 2), false), (.ref (ad 3), true), (.ref (ad 4), false), (.ref (ad 5), false), (.ref (ad 6), false), (.ref (ad 7), false), (.ref (ad 8), false), (.ref (ad 9), false), (.ref (ad 10), false), (.ref (ad 13), false), (.ref (ad 11), false), (.ref (ad 12), false), (.ref (ad 14), false), (.ref (ad 15), false), (.ty "ValueError", true)] [(.ref (ad 16), false), (.ref (ad 17), false), (.ref (ad 1), true)]
  kNoPaid : PL.Caught K (ad 10) [(.ref (ad 2), false), (.ref (ad 3), false), (.ref (ad 4), false), (.ref (ad 5), false), (.ref (ad 6), false), (.ref (ad 7), false), (.ref (ad 8), false), (.ref (ad 9), false), (.ref (ad 10), true), (.ref (ad 13), false), (.ref (ad 11), false), (.ref (ad 12), false), (.ref (ad 14), false), (.ref (ad 15), false), (.ty "ValueError", true)] [(.ref (ad 16), false), (.ref (ad 17), false), (.ref (ad 1), true)]
  cNoCents : PL.ClsT K mg "NoCents" (ad 3)
  cNoPaid : PL.ClsT K mg "NoPaid" (ad 10)
  gFAR : ∃ t, mg "FAR" = some (.int 1000000000000000000 t)
  gSMALL : ∃ t, mg "SMALL" = some (.str "abcdefghijklmnopqrstuvwxyz" t)
structure TbT (base : Heap) (mg : Str → Option Value) (ad : Nat → Addr) : Prop where
  t40 : LamX.TabB base mg (ad 1040) (ad 2040)
end Paid

set_option Elab.async false
set_option linter.all false
set_option maxRecDepth 100000
set_option maxHeartbeats 4000000
namespace Paid
open PySem PySem.Spec PyProof L2 RZ PL
local macro_rules | `(tactic| walk_at "in_list") => `(tactic| repeat (first | exact List.Mem.head _ | refine List.Mem.tail _ ?_))
local macro_rules | `(tactic| walk_at "wx1") => `(tactic| first
  | (with_reducible refine ws_seq ?_)
  | ((with_reducible refine' we_var ?hv ?_); (case hv => rfl))
  | (with_reducible refine we_int ?_)
  | (with_reducible refine we_op2 ?_)
  | (with_reducible refine add_int ?_)
  | (with_reducible refine sub_int ?_)
  | (with_reducible refine ws_set ?_)
  | (with_reducible refine ws_ret ?_)
  | (with_reducible refine ws_if ?_)
  | (with_reducible refine ws_next ?_)
  | (with_reducible refine we_cbA ?_)
  | (with_reducible refine wa_cons ?_)
  | (with_reducible refine wa_nil ?_)
  | (with_reducible refine we_call ?_)
  | (with_reducible refine we_callN ?_)
  | ((with_reducible refine' is_xc ?hc ?hm ?_); (case hc => assumption); (case hm => walk_at "in_list"))
  | (with_reducible refine we_ref ?_)
  | ((with_reducible refine' we_callX ?hE ?_); (case hE => assumption))
  | ((with_reducible refine' ws_raise ?hE ?_); (case hE => assumption))
  | (with_reducible refine wt_test ?_)
  | (with_reducible refine isB_mk ?_)
  | (with_reducible refine isI_mk ?_)
  | (with_reducible refine wt_B ?_)
  | (with_reducible refine wt_and ?_)
  | (with_reducible refine wt_or ?_)
  | (with_reducible refine wt_not ?_)
  | (with_reducible refine we_andV ?_)
  | (with_reducible refine we_orV ?_)
  | (with_reducible refine we_notV ?_)
  | (with_reducible refine we_if ?_)
  | (with_reducible refine we_chain2 ?_)
  | (with_reducible refine we_str ?_)
  | (with_reducible refine we_bl ?_)
  | (with_reducible refine we_non ?_)
  | (with_reducible refine we_ty ?_)
  | (with_reducible refine we_tup ?_)
  | (with_reducible refine we_key ?_)
  | ((with_reducible refine lz_mk ?hz ?_); (case hz => exact Nat.le_of_ble_eq_true rfl))
  | (with_reducible refine eq_int ?_)
  | (with_reducible refine eq_bl ?_)
  | (with_reducible refine ne_bl ?_)
  | (with_reducible refine ne_int ?_)
  | (with_reducible refine lt_int ?_)
  | (with_reducible refine le_int ?_)
  | (with_reducible refine gt_int ?_)
  | (with_reducible refine ge_int ?_)
  | ((with_reducible refine div_int ?h1 ?h2 ?_); (case h1 => omega); (case h2 => omega))
  | ((with_reducible refine mod_int ?h1 ?_); (case h1 => omega))
  | ((with_reducible refine mul_int ?h1 ?h2 ?_); (case h1 => omega); (case h2 => omega))
  | ((with_reducible refine mul_intR ?h1 ?h2 ?_); (case h1 => omega); (case h2 => omega))
  | (with_reducible refine ws_drop ?_)
  | (with_reducible refine ws_par ?_)
  | (with_reducible refine ws_asg ?_)
  | (with_reducible refine wg_name ?_)
  | ((with_reducible refine wg_tup ?hn ?_); (case hn => rfl))
  | ((with_reducible refine wg_key ?hn ?_); (case hn => rfl))
  | (with_reducible refine wgs_cons ?_)
  | (with_reducible refine wgs_nil ?_)
  | (with_reducible refine we_sl ?_)
  | (with_reducible refine wo_none ?_)
  | (with_reducible refine wo_some ?_)
  | (with_reducible refine wt_chainN ?_)
  | (with_reducible refine wk_cons ?_)
  | (with_reducible refine wk_last ?_)
  | (with_reducible refine we_lenSetD ?_)
  | (with_reducible refine we_revL ?_)
  | (with_reducible refine we_dget ?_)
  | (with_reducible refine wt_yes ?_)
  | (with_reducible refine isn_y ?_)
  | (with_reducible refine isn_tup ?_)
  | (with_reducible refine isn_lst ?_)
  | (with_reducible refine isn_int ?_)
  | (with_reducible refine isn_ref ?_)
  | (with_reducible refine nn_y ?_)
  | (with_reducible refine nn_tup ?_)
  | (with_reducible refine nn_lst ?_)
  | (with_reducible refine nn_int ?_)
  | (with_reducible refine nn_ref ?_)
  | (with_reducible refine is_non ?_)
  | (with_reducible refine neg_int ?_)
  | (with_reducible refine we_un1 ?_)
  | (with_reducible refine br_t ?_)
  | (with_reducible refine br_f ?_)
  | (with_reducible refine br_nt ?_)
  | (with_reducible refine br_nf ?_)
  | (with_reducible refine ws_retN ?_))
local macro_rules | `(tactic| walk_at "wx") => `(tactic| repeat walk_at "wx1")
local macro_rules | `(tactic| walk_at "w0") => `(tactic| dsimp only [cxOf, startE, List.map, List.length_cons, List.length_nil, List.replicate, List.cons_append, List.nil_append, List.append_nil, List.append_eq, HAppend.hAppend, Append.append, List.append, Nat.sub_self, Nat.reduceAdd, Nat.reduceSub])
local macro_rules | `(tactic| walk_at "wxS") => `(tactic| repeat first | (with_reducible refine we_lstS ?_) | walk_at "wx1")
local macro_rules | `(tactic| walk_at "kin") => `(tactic| (walk_at "wxS"; refine ne_dat rfl rfl (by decide +kernel) (by decide +kernel) (c := true) (by decide +kernel) ?_; walk_at "wx"))
section
variable {P : Program} {w : World} {K : PySem.W.Frag} {mg : Str → Option Value} {base : Heap} {ad : Nat → Addr} {fd : Nat → FuncData}
theorem ok_law_cell_at (T : Tx K mg ad fd) : FnOk P w K mg base CX0 1 (ad 29) (fd 29) ["script", "k"] (spF K 2 phCell) := by
  refine okF T.f29.F sc_law_cell_at fun cdv A outer s H E hr => ⟨_, (pss_cons (ps_if (pt_cmpR (opK K rfl opLt) (pv 1) (pe_callB (crK K rfl cLen) (by rfl) T.len (by decide +kernel) (pa_cons (pv 0) pa_nil)) (nomark _)) (pss_one (ps_ret (pe_ix (ixK K rfl ixR) (pv 0) (pv 1) (fun _ _ => rfl)))) pss_nil)
    (pss_one (ps_ret pe_int))), fun ds S q hl h => ?_⟩
  obtain ⟨ns, k, rfl, h1, hq⟩ := h
  walk_at "w0"
  walk_at "wx"
  refine .inl ⟨_, _, rfl, asQ_scr, ?_⟩
  rw [List.length_map]
  walk_at "wx"
  refine br_p (fun h2 => ?_) fun h2 => ?_
  · walk_at "wx"
    obtain ⟨j, rfl⟩ : ∃ j : Nat, k = j := ⟨k.toNat, by omega⟩
    have hj : j < ns.length := by omega
    refine ix_qn asQ_scr (by rw [List.getElem?_map, List.getElem?_eq_getElem hj]; rfl) ?_
    exact hq _
  · walk_at "wx"
    exact hq _

end
end Paid

set_option Elab.async false
set_option linter.all false
set_option maxRecDepth 100000
set_option maxHeartbeats 4000000
namespace Paid
open PySem PySem.Spec PyProof L2 RZ PL
local macro_rules | `(tactic| walk_at "in_list") => `(tactic| repeat (first | exact List.Mem.head _ | refine List.Mem.tail _ ?_))
local macro_rules | `(tactic| walk_at "wx1") => `(tactic| first
  | (with_reducible refine ws_seq ?_)
  | ((with_reducible refine' we_var ?hv ?_); (case hv => rfl))
  | (with_reducible refine we_int ?_)
  | (with_reducible refine we_op2 ?_)
  | (with_reducible refine add_int ?_)
  | (with_reducible refine sub_int ?_)
  | (with_reducible refine ws_set ?_)
  | (with_reducible refine ws_ret ?_)
  | (with_reducible refine ws_if ?_)
  | (with_reducible refine ws_next ?_)
  | (with_reducible refine we_cbA ?_)
  | (with_reducible refine wa_cons ?_)
  | (with_reducible refine wa_nil ?_)
  | (with_reducible refine we_call ?_)
  | (with_reducible refine we_callN ?_)
  | ((with_reducible refine' is_xc ?hc ?hm ?_); (case hc => assumption); (case hm => walk_at "in_list"))
  | (with_reducible refine we_ref ?_)
  | ((with_reducible refine' we_callX ?hE ?_); (case hE => assumption))
  | ((with_reducible refine' ws_raise ?hE ?_); (case hE => assumption))
  | (with_reducible refine wt_test ?_)
  | (with_reducible refine isB_mk ?_)
  | (with_reducible refine isI_mk ?_)
  | (with_reducible refine wt_B ?_)
  | (with_reducible refine wt_and ?_)
  | (with_reducible refine wt_or ?_)
  | (with_reducible refine wt_not ?_)
  | (with_reducible refine we_andV ?_)
  | (with_reducible refine we_orV ?_)
  | (with_reducible refine we_notV ?_)
  | (with_reducible refine we_if ?_)
  | (with_reducible refine we_chain2 ?_)
  | (with_reducible refine we_str ?_)
  | (with_reducible refine we_bl ?_)
  | (with_reducible refine we_non ?_)
  | (with_reducible refine we_ty ?_)
  | (with_reducible refine we_tup ?_)
  | (with_reducible refine we_key ?_)
  | ((with_reducible refine lz_mk ?hz ?_); (case hz => exact Nat.le_of_ble_eq_true rfl))
  | (with_reducible refine eq_int ?_)
  | (with_reducible refine eq_bl ?_)
  | (with_reducible refine ne_bl ?_)
  | (with_reducible refine ne_int ?_)
  | (with_reducible refine lt_int ?_)
  | (with_reducible refine le_int ?_)
  | (with_reducible refine gt_int ?_)
  | (with_reducible refine ge_int ?_)
  | ((with_reducible refine div_int ?h1 ?h2 ?_); (case h1 => omega); (case h2 => omega))
  | ((with_reducible refine mod_int ?h1 ?_); (case h1 => omega))
  | ((with_reducible refine mul_int ?h1 ?h2 ?_); (case h1 => omega); (case h2 => omega))
  | ((with_reducible refine mul_intR ?h1 ?h2 ?_); (case h1 => omega); (case h2 => omega))
  | (with_reducible refine ws_drop ?_)
  | (with_reducible refine ws_par ?_)
  | (with_reducible refine ws_asg ?_)
  | (with_reducible refine wg_name ?_)
  | ((with_reducible refine wg_tup ?hn ?_); (case hn => rfl))
  | ((with_reducible refine wg_key ?hn ?_); (case hn => rfl))
  | (with_reducible refine wgs_cons ?_)
  | (with_reducible refine wgs_nil ?_)
  | (with_reducible refine we_sl ?_)
  | (with_reducible refine wo_none ?_)
  | (with_reducible refine wo_some ?_)
  | (with_reducible refine wt_chainN ?_)
  | (with_reducible refine wk_cons ?_)
  | (with_reducible refine wk_last ?_)
  | (with_reducible refine we_lenSetD ?_)
  | (with_reducible refine we_revL ?_)
  | (with_reducible refine we_dget ?_)
  | (with_reducible refine wt_yes ?_)
  | (with_reducible refine isn_y ?_)
  | (with_reducible refine isn_tup ?_)
  | (with_reducible refine isn_lst ?_)
  | (with_reducible refine isn_int ?_)
  | (with_reducible refine isn_ref ?_)
  | (with_reducible refine nn_y ?_)
  | (with_reducible refine nn_tup ?_)
  | (with_reducible refine nn_lst ?_)
  | (with_reducible refine nn_int ?_)
  | (with_reducible refine nn_ref ?_)
  | (with_reducible refine is_non ?_)
  | (with_reducible refine neg_int ?_)
  | (with_reducible refine we_un1 ?_)
  | (with_reducible refine br_t ?_)
  | (with_reducible refine br_f ?_)
  | (with_reducible refine br_nt ?_)
  | (with_reducible refine br_nf ?_)
  | (with_reducible refine ws_retN ?_))
local macro_rules | `(tactic| walk_at "wx") => `(tactic| repeat walk_at "wx1")
local macro_rules | `(tactic| walk_at "w0") => `(tactic| dsimp only [cxOf, startE, List.map, List.length_cons, List.length_nil, List.replicate, List.cons_append, List.nil_append, List.append_nil, List.append_eq, HAppend.hAppend, Append.append, List.append, Nat.sub_self, Nat.reduceAdd, Nat.reduceSub])
local macro_rules | `(tactic| walk_at "wxS") => `(tactic| repeat first | (with_reducible refine we_lstS ?_) | walk_at "wx1")
local macro_rules | `(tactic| walk_at "kin") => `(tactic| (walk_at "wxS"; refine ne_dat rfl rfl (by decide +kernel) (by decide +kernel) (c := true) (by decide +kernel) ?_; walk_at "wx"))
section
variable {P : Program} {w : World} {K : PySem.W.Frag} {mg : Str → Option Value} {base : Heap} {ad : Nat → Addr} {fd : Nat → FuncData}
theorem ok_law_draws (T : Tx K mg ad fd) : FnOk P w K mg base CX0 1 (ad 30) (fd 30) ["cell", "many", "size"] (spF K 3 phDraws) := by
  refine okF T.f30.F sc_law_draws fun cdv A outer s H E hr => ⟨_, (pss_cons (ps_set (i := 3) sc_law_draws.nd rfl (.inl rfl) (pe_lst pa_nil))
    (pss_cons (ps_set (i := 4) sc_law_draws.nd rfl (.inl rfl) (pe_op (opK K rfl opMul) (pv 0) (pe_callTy (crK K rfl cInt) (by rfl) T.int (by decide +kernel) (pa_cons (pe_cmpR (opK K rfl opGe) (pv 0) (pe_powc (k := 1000000000000000000) ⟨by decide, by decide, by decide⟩ (by decide)) (nomark _)) pa_nil))))
    (pss_cons (ps_set (i := 5) sc_law_draws.nd rfl (.inl rfl) (pe_op (opK K rfl opMod) (pv 0) pe_int))
    (pss_cons (ps_for PassesOwn.never rfl (pi_range1 (by rfl) T.range (pa_cons (pe_op (opK K rfl opAdd) (pv 1) pe_int) pa_nil)) (pg_name (i := 6) sc_law_draws.nd rfl (.inl rfl)) (pss_cons (ps_set (i := 5) sc_law_draws.nd rfl (.inl rfl) (pe_op (opK K rfl opMod) (pe_op (opK K rfl opAdd) (pe_op (opK K rfl opAdd) (pe_op (opK K rfl opAdd) (pe_op (opK K rfl opMul) (pv 5) (pv 5)) (pe_op (opK K rfl opMul) pe_int (pv 5))) (pv 6)) pe_int) pe_int))
      (pss_one (ps_if (PW.pt (pw_and (pt_cmpR (opK K rfl opGt) (pv 6) pe_int (nomark _)) (pw_and1 (pt_cmpR (opK K rfl opGt) (pv 4) pe_int (nomark _))))) (pss_cons (ps_expr (pe_bm PySem.F.plainAttrs_list PySem.F.slot_list_append PySem.F.type_list_append (mmK K rfl mAppend) (pv 3) (pa_cons (pe_op (opK K rfl opMod) (pv 4) (pv 2)) pa_nil)))
        (pss_one (ps_set (i := 4) sc_law_draws.nd rfl (.inl rfl) (pe_op (opK K rfl opDiv) (pv 4) (pv 2))))) (pss_one (ps_if (pt_cmpR (opK K rfl opGt) (pv 6) pe_int (nomark _)) (pss_one (ps_expr (pe_bm PySem.F.plainAttrs_list PySem.F.slot_list_append PySem.F.type_list_append (mmK K rfl mAppend) (pv 3) (pa_cons (pe_op (opK K rfl opMod) (pe_op (opK K rfl opDiv) (pv 5) pe_int) (pv 2)) pa_nil)))) pss_nil))))))
    (pss_one (ps_ret (pv 3))))))), fun ds S q hl h => ?_⟩
  obtain ⟨c, rfl, hq⟩ := h
  walk_at "w0"
  walk_at "wx"
  refine we_lst ?_
  walk_at "wx"
  intro p hp
  walk_at "wx"
  dsimp only [List.set]
  walk_at "wx"
  refine .inr ⟨_, rfl, ?_⟩
  walk_at "wx"
  have hr : ∃ r : Int, (c * if decide (1000000000000000000 ≤ c) = true then 1 else 0) = r := ⟨_, rfl⟩
  obtain ⟨r, er⟩ := hr
  rw [er]
  have hs : ∃ t : Int, c % 2305843009213693951 = t ∧ 0 ≤ t ∧ t < 2305843009213693951 := ⟨_, rfl, by omega, by omega⟩
  obtain ⟨t, et, ht0, ht1⟩ := hs
  rw [et]
  dsimp only [List.set]
  refine ws_for (wi_range1 ?_)
  walk_at "wx"
  refine ⟨_, rfl, by decide, by decide, fun i δ' S' => ∃ (t r : Int) (u : Option D) (acc : List Int), δ' = [some (.int c), some (.int 400), some (.int 1000), some (.ref p), some (.int r), some (.int t), u] ∧ 0 ≤ t ∧ t < 2305843009213693951 ∧
    S' = S.upd p (.lst (acc.map D.int)) ∧ acc.length = i - 3, ⟨t, r, _, [], rfl, ht0, ht1, rfl, rfl⟩, fun i d δ' S' hi hI => ?_, fun δ' S' hI => ?_⟩
  · have hd : d = .int (i : Nat) ∧ i < 403 := by
      rw [List.getElem?_map] at hi
      by_cases h : i < ((400 : Int) + 3).toNat
      · rw [List.getElem?_range h] at hi; cases hi; exact ⟨by simp, by simpa using h⟩
      · rw [List.getElem?_eq_none (by rw [List.length_range]; omega)] at hi; cases hi
    obtain ⟨rfl, hi3⟩ := hd
    clear et er ht0 ht1
    obtain ⟨t, r, u, acc, rfl, ht0, ht1, rfl, hl⟩ := hI
    walk_at "wx"
    dsimp only [List.set]
    walk_at "wx"
    have hs : ∃ t2 : Int, (t * t + 48271 * t + ((i : Nat) : Int) + 1) % 2305843009213693951 = t2 ∧ 0 ≤ t2 ∧ t2 < 2305843009213693951 := ⟨_, rfl, Int.emod_nonneg _ (by decide), Int.emod_lt_of_pos _ (by decide)⟩
    obtain ⟨t2, et, ht0, ht1⟩ := hs
    rw [et]
    walk_at "wx"
    have hz : (acc.map D.int).length < sizeLine := by
      rw [List.length_map]
      exact Nat.lt_of_lt_of_le (show acc.length < 1000 by omega) (by decide)
    refine br_p (fun h3 => ?_) fun h3 => ?_
    · walk_at "wx"
      refine br_p (fun h4 => ?_) fun h4 => ?_
      · walk_at "wx"
        refine we_bm ?_
        walk_at "wx"
        refine ⟨.inl ⟨rfl, by rw [asL_ref upd_at]; simp⟩, ?_⟩
        walk_at "wx"
        refine ⟨_, _, _, rfl, rfl, upd_at, hz, ?_⟩
        rw [upd_twice]
        walk_at "wx"
        refine ⟨t2, _, _, acc ++ [_], rfl, ht0, ht1, by rw [List.map_append]; rfl, by rw [List.length_append, List.length_singleton]; omega⟩
      · walk_at "wx"
        rw [decide_eq_true h3]
        walk_at "wx"
        refine we_bm ?_
        walk_at "wx"
        refine ⟨.inl ⟨rfl, by rw [asL_ref upd_at]; simp⟩, ?_⟩
        walk_at "wx"
        refine ⟨_, _, _, rfl, rfl, upd_at, hz, ?_⟩
        rw [upd_twice]
        refine ⟨t2, _, _, acc ++ [_], rfl, ht0, ht1, by rw [List.map_append]; rfl, by rw [List.length_append, List.length_singleton]; omega⟩
    · walk_at "wx"
      rw [decide_eq_false h3]
      walk_at "wx"
      refine ⟨t2, _, _, acc, rfl, ht0, ht1, rfl, by omega⟩
  · obtain ⟨t, r, u, acc, rfl, ht0, ht1, rfl, hl⟩ := hI
    refine WS.freezeV 3 rfl upd_at ?_
    rw [del_upd hp]
    dsimp only [List.set]
    walk_at "wx"
    refine hq acc ?_
    rw [hl]
    decide

end
end Paid

set_option Elab.async false
set_option linter.all false
set_option maxRecDepth 100000
set_option maxHeartbeats 4000000
namespace Paid
open PySem PySem.Spec PyProof L2 RZ PL
local macro_rules | `(tactic| walk_at "in_list") => `(tactic| repeat (first | exact List.Mem.head _ | refine List.Mem.tail _ ?_))
local macro_rules | `(tactic| walk_at "wx1") => `(tactic| first
  | (with_reducible refine ws_seq ?_)
  | ((with_reducible refine' we_var ?hv ?_); (case hv => rfl))
  | (with_reducible refine we_int ?_)
  | (with_reducible refine we_op2 ?_)
  | (with_reducible refine add_int ?_)
  | (with_reducible refine sub_int ?_)
  | (with_reducible refine ws_set ?_)
  | (with_reducible refine ws_ret ?_)
  | (with_reducible refine ws_if ?_)
  | (with_reducible refine ws_next ?_)
  | (with_reducible refine we_cbA ?_)
  | (with_reducible refine wa_cons ?_)
  | (with_reducible refine wa_nil ?_)
  | (with_reducible refine we_call ?_)
  | (with_reducible refine we_callN ?_)
  | ((with_reducible refine' is_xc ?hc ?hm ?_); (case hc => assumption); (case hm => walk_at "in_list"))
  | (with_reducible refine we_ref ?_)
  | ((with_reducible refine' we_callX ?hE ?_); (case hE => assumption))
  | ((with_reducible refine' ws_raise ?hE ?_); (case hE => assumption))
  | (with_reducible refine wt_test ?_)
  | (with_reducible refine isB_mk ?_)
  | (with_reducible refine isI_mk ?_)
  | (with_reducible refine wt_B ?_)
  | (with_reducible refine wt_and ?_)
  | (with_reducible refine wt_or ?_)
  | (with_reducible refine wt_not ?_)
  | (with_reducible refine we_andV ?_)
  | (with_reducible refine we_orV ?_)
  | (with_reducible refine we_notV ?_)
  | (with_reducible refine we_if ?_)
  | (with_reducible refine we_chain2 ?_)
  | (with_reducible refine we_str ?_)
  | (with_reducible refine we_bl ?_)
  | (with_reducible refine we_non ?_)
  | (with_reducible refine we_ty ?_)
  | (with_reducible refine we_tup ?_)
  | (with_reducible refine we_key ?_)
  | ((with_reducible refine lz_mk ?hz ?_); (case hz => exact Nat.le_of_ble_eq_true rfl))
  | (with_reducible refine eq_int ?_)
  | (with_reducible refine eq_bl ?_)
  | (with_reducible refine ne_bl ?_)
  | (with_reducible refine ne_int ?_)
  | (with_reducible refine lt_int ?_)
  | (with_reducible refine le_int ?_)
  | (with_reducible refine gt_int ?_)
  | (with_reducible refine ge_int ?_)
  | ((with_reducible refine div_int ?h1 ?h2 ?_); (case h1 => omega); (case h2 => omega))
  | ((with_reducible refine mod_int ?h1 ?_); (case h1 => omega))
  | ((with_reducible refine mul_int ?h1 ?h2 ?_); (case h1 => omega); (case h2 => omega))
  | ((with_reducible refine mul_intR ?h1 ?h2 ?_); (case h1 => omega); (case h2 => omega))
  | (with_reducible refine ws_drop ?_)
  | (with_reducible refine ws_par ?_)
  | (with_reducible refine ws_asg ?_)
  | (with_reducible refine wg_name ?_)
  | ((with_reducible refine wg_tup ?hn ?_); (case hn => rfl))
  | ((with_reducible refine wg_key ?hn ?_); (case hn => rfl))
  | (with_reducible refine wgs_cons ?_)
  | (with_reducible refine wgs_nil ?_)
  | (with_reducible refine we_sl ?_)
  | (with_reducible refine wo_none ?_)
  | (with_reducible refine wo_some ?_)
  | (with_reducible refine wt_chainN ?_)
  | (with_reducible refine wk_cons ?_)
  | (with_reducible refine wk_last ?_)
  | (with_reducible refine we_lenSetD ?_)
  | (with_reducible refine we_revL ?_)
  | (with_reducible refine we_dget ?_)
  | (with_reducible refine wt_yes ?_)
  | (with_reducible refine isn_y ?_)
  | (with_reducible refine isn_tup ?_)
  | (with_reducible refine isn_lst ?_)
  | (with_reducible refine isn_int ?_)
  | (with_reducible refine isn_ref ?_)
  | (with_reducible refine nn_y ?_)
  | (with_reducible refine nn_tup ?_)
  | (with_reducible refine nn_lst ?_)
  | (with_reducible refine nn_int ?_)
  | (with_reducible refine nn_ref ?_)
  | (with_reducible refine is_non ?_)
  | (with_reducible refine neg_int ?_)
  | (with_reducible refine we_un1 ?_)
  | (with_reducible refine br_t ?_)
  | (with_reducible refine br_f ?_)
  | (with_reducible refine br_nt ?_)
  | (with_reducible refine br_nf ?_)
  | (with_reducible refine ws_retN ?_))
local macro_rules | `(tactic| walk_at "wx") => `(tactic| repeat walk_at "wx1")
local macro_rules | `(tactic| walk_at "w0") => `(tactic| dsimp only [cxOf, startE, List.map, List.length_cons, List.length_nil, List.replicate, List.cons_append, List.nil_append, List.append_nil, List.append_eq, HAppend.hAppend, Append.append, List.append, Nat.sub_self, Nat.reduceAdd, Nat.reduceSub])
local macro_rules | `(tactic| walk_at "wxS") => `(tactic| repeat first | (with_reducible refine we_lstS ?_) | walk_at "wx1")
local macro_rules | `(tactic| walk_at "kin") => `(tactic| (walk_at "wxS"; refine ne_dat rfl rfl (by decide +kernel) (by decide +kernel) (c := true) (by decide +kernel) ?_; walk_at "wx"))
section
variable {P : Program} {w : World} {K : PySem.W.Frag} {mg : Str → Option Value} {base : Heap} {ad : Nat → Addr} {fd : Nat → FuncData}
theorem ok_law_bag (T : Tx K mg ad fd) : FnOk P w K mg base CX0 2 (ad 31) (fd 31) ["script", "k"] (spF K 2 phBag) := by
  refine okF T.f31.F sc_law_bag fun cdv A outer s H E hr => ⟨_, (pss_one (ps_ret (pe_lst (pa_cons (pe_call (ok_law_draws T) (hr.mono (by decide)) (by rfl) T.f30.g T.f30.F.kp T.f30.b .nil pass0 (pa_cons (pe_call (ok_law_cell_at T) (hr.mono (by decide)) (by rfl) T.f29.g T.f29.F.kp T.f29.b .nil pass0 (pa_cons (pv 0) (pa_cons (pv 1) pa_nil))) (pa_cons pe_int (pa_cons pe_int pa_nil)))) (pa_cons pe_int pa_nil))))), fun ds S q hl h => ?_⟩
  obtain ⟨ns, k, rfl, h1, hq⟩ := h
  walk_at "w0"
  walk_at "wx"
  refine we_lst ?_
  walk_at "wx"
  refine ⟨rfl, ns, k, rfl, h1, fun c => ?_⟩
  walk_at "wx"
  refine ⟨rfl, c, rfl, fun ms hm => ?_⟩
  walk_at "wx"
  exact fun p hp => hq p ms hp hm

end
end Paid

set_option Elab.async false
set_option linter.all false
set_option maxRecDepth 100000
set_option maxHeartbeats 4000000
namespace Paid
open PySem PySem.Spec PyProof L2 RZ PL
local macro_rules | `(tactic| walk_at "in_list") => `(tactic| repeat (first | exact List.Mem.head _ | refine List.Mem.tail _ ?_))
local macro_rules | `(tactic| walk_at "wx1") => `(tactic| first
  | (with_reducible refine ws_seq ?_)
  | ((with_reducible refine' we_var ?hv ?_); (case hv => rfl))
  | (with_reducible refine we_int ?_)
  | (with_reducible refine we_op2 ?_)
  | (with_reducible refine add_int ?_)
  | (with_reducible refine sub_int ?_)
  | (with_reducible refine ws_set ?_)
  | (with_reducible refine ws_ret ?_)
  | (with_reducible refine ws_if ?_)
  | (with_reducible refine ws_next ?_)
  | (with_reducible refine we_cbA ?_)
  | (with_reducible refine wa_cons ?_)
  | (with_reducible refine wa_nil ?_)
  | (with_reducible refine we_call ?_)
  | (with_reducible refine we_callN ?_)
  | ((with_reducible refine' is_xc ?hc ?hm ?_); (case hc => assumption); (case hm => walk_at "in_list"))
  | (with_reducible refine we_ref ?_)
  | ((with_reducible refine' we_callX ?hE ?_); (case hE => assumption))
  | ((with_reducible refine' ws_raise ?hE ?_); (case hE => assumption))
  | (with_reducible refine wt_test ?_)
  | (with_reducible refine isB_mk ?_)
  | (with_reducible refine isI_mk ?_)
  | (with_reducible refine wt_B ?_)
  | (with_reducible refine wt_and ?_)
  | (with_reducible refine wt_or ?_)
  | (with_reducible refine wt_not ?_)
  | (with_reducible refine we_andV ?_)
  | (with_reducible refine we_orV ?_)
  | (with_reducible refine we_notV ?_)
  | (with_reducible refine we_if ?_)
  | (with_reducible refine we_chain2 ?_)
  | (with_reducible refine we_str ?_)
  | (with_reducible refine we_bl ?_)
  | (with_reducible refine we_non ?_)
  | (with_reducible refine we_ty ?_)
  | (with_reducible refine we_tup ?_)
  | (with_reducible refine we_key ?_)
  | ((with_reducible refine lz_mk ?hz ?_); (case hz => exact Nat.le_of_ble_eq_true rfl))
  | (with_reducible refine eq_int ?_)
  | (with_reducible refine eq_bl ?_)
  | (with_reducible refine ne_bl ?_)
  | (with_reducible refine ne_int ?_)
  | (with_reducible refine lt_int ?_)
  | (with_reducible refine le_int ?_)
  | (with_reducible refine gt_int ?_)
  | (with_reducible refine ge_int ?_)
  | ((with_reducible refine div_int ?h1 ?h2 ?_); (case h1 => omega); (case h2 => omega))
  | ((with_reducible refine mod_int ?h1 ?_); (case h1 => omega))
  | ((with_reducible refine mul_int ?h1 ?h2 ?_); (case h1 => omega); (case h2 => omega))
  | ((with_reducible refine mul_intR ?h1 ?h2 ?_); (case h1 => omega); (case h2 => omega))
  | (with_reducible refine ws_drop ?_)
  | (with_reducible refine ws_par ?_)
  | (with_reducible refine ws_asg ?_)
  | (with_reducible refine wg_name ?_)
  | ((with_reducible refine wg_tup ?hn ?_); (case hn => rfl))
  | ((with_reducible refine wg_key ?hn ?_); (case hn => rfl))
  | (with_reducible refine wgs_cons ?_)
  | (with_reducible refine wgs_nil ?_)
  | (with_reducible refine we_sl ?_)
  | (with_reducible refine wo_none ?_)
  | (with_reducible refine wo_some ?_)
  | (with_reducible refine wt_chainN ?_)
  | (with_reducible refine wk_cons ?_)
  | (with_reducible refine wk_last ?_)
  | (with_reducible refine we_lenSetD ?_)
  | (with_reducible refine we_revL ?_)
  | (with_reducible refine we_dget ?_)
  | (with_reducible refine wt_yes ?_)
  | (with_reducible refine isn_y ?_)
  | (with_reducible refine isn_tup ?_)
  | (with_reducible refine isn_lst ?_)
  | (with_reducible refine isn_int ?_)
  | (with_reducible refine isn_ref ?_)
  | (with_reducible refine nn_y ?_)
  | (with_reducible refine nn_tup ?_)
  | (with_reducible refine nn_lst ?_)
  | (with_reducible refine nn_int ?_)
  | (with_reducible refine nn_ref ?_)
  | (with_reducible refine is_non ?_)
  | (with_reducible refine neg_int ?_)
  | (with_reducible refine we_un1 ?_)
  | (with_reducible refine br_t ?_)
  | (with_reducible refine br_f ?_)
  | (with_reducible refine br_nt ?_)
  | (with_reducible refine br_nf ?_)
  | (with_reducible refine ws_retN ?_))
local macro_rules | `(tactic| walk_at "wx") => `(tactic| repeat walk_at "wx1")
local macro_rules | `(tactic| walk_at "w0") => `(tactic| dsimp only [cxOf, startE, List.map, List.length_cons, List.length_nil, List.replicate, List.cons_append, List.nil_append, List.append_nil, List.append_eq, HAppend.hAppend, Append.append, List.append, Nat.sub_self, Nat.reduceAdd, Nat.reduceSub])
local macro_rules | `(tactic| walk_at "wxS") => `(tactic| repeat first | (with_reducible refine we_lstS ?_) | walk_at "wx1")
local macro_rules | `(tactic| walk_at "kin") => `(tactic| (walk_at "wxS"; refine ne_dat rfl rfl (by decide +kernel) (by decide +kernel) (c := true) (by decide +kernel) ?_; walk_at "wx"))
section
variable {P : Program} {w : World} {K : PySem.W.Frag} {mg : Str → Option Value} {base : Heap} {ad : Nat → Addr} {fd : Nat → FuncData}
theorem ok_law_bags (T : Tx K mg ad fd) : FnOk P w K mg base CX0 3 (ad 32) (fd 32) ["script", "limit"] (spF K 2 phBags) := by
  refine okF T.f32.F sc_law_bags fun cdv A outer s H E hr => ⟨_, (pss_one (ps_ret (pe_lc (own := [("k", 2)]) rfl sc_law_bags.nd (pi_range1 (by rfl) T.range (pa_cons (pe_callB (crK K rfl (cMax rfl)) (by rfl) T.max (by decide +kernel) (pa_cons pe_int (pa_cons (pe_callB (crK K rfl (cMin rfl)) (by rfl) T.min (by decide +kernel) (pa_cons (pv 1) (pa_cons (pe_callB (crK K rfl cLen) (by rfl) T.len (by decide +kernel) (pa_cons (pv 0) pa_nil)) pa_nil))) pa_nil))) pa_nil)) (blkOk_by (N := ["script", "limit", "k"]) (sc := defScope s_law_bags) (by decide +kernel)) (fun _ _ _ _ _ => (pg_name (i := 2) sc_law_bags.nd rfl (.inl rfl))) (fun _ _ _ _ _ => pts_nil) (fun _ _ _ _ _ => (pe_call (ok_law_bag T) (hr.mono (by decide)) (by rfl) T.f31.g T.f31.F.kp T.f31.b .nil pass0 (pa_cons (pv 0) (pa_cons (pv 2) pa_nil))))))), fun ds S q hl h => ?_⟩
  obtain ⟨ns, k, rfl, h1, h2, h3, hq⟩ := h
  walk_at "w0"
  walk_at "wx"
  refine WE.share ?_
  refine we_lc (keeps_name (by simp)) (wi_range1 ?_)
  walk_at "wx"
  refine .inl ⟨_, _, rfl, asQ_scr, ?_⟩
  rw [List.length_map]
  walk_at "wx"
  refine .inl ⟨_, _, rfl, ?_⟩
  walk_at "wx"
  refine .inl ⟨_, _, rfl, ?_⟩
  walk_at "wx"
  have hj : ∃ j : Int, (if (if (ns.length : Int) < k then (ns.length : Int) else k) > 1 then (if (ns.length : Int) < k then (ns.length : Int) else k) else 1) = j ∧ 0 ≤ j ∧ j ≤ 1000 := ⟨_, rfl, by split <;> split <;> omega, by split <;> split <;> omega⟩
  obtain ⟨j, ej, hj0, hj1⟩ := hj
  rw [ej]
  refine ⟨j, rfl, by omega, by omega, ?_⟩
  dsimp only
  refine ⟨by rw [List.length_map, List.length_range]; exact Nat.le_trans (show j.toNat ≤ 1000 by omega) (by decide), fun i acc S' => ∃ ps : List Addr, acc = ps.map D.ref ∧ ps.length ≤ i ∧ Bags S' ps ∧ Sub S S', ⟨[], rfl, Nat.le_refl _, (fun p hp => by simp at hp), Sub.refl S⟩, fun i d acc S' p hi hI hp => ?_, fun acc S' p hI hp => ?_⟩
  · obtain ⟨ps, rfl, hl, hb, hsb⟩ := hI
    have hd : d = .int (0 + (i : Nat)) := by
      rw [List.getElem?_map] at hi
      by_cases h : i < j.toNat
      · rw [List.getElem?_range h] at hi; cases hi; rfl
      · rw [List.getElem?_eq_none (by rw [List.length_range]; omega)] at hi; cases hi
    subst hd
    walk_at "wx"
    dsimp only [wipeE, List.set]
    walk_at "wx"
    refine ⟨rfl, ns, _, rfl, by omega, fun b ms hb2 hm => ?_⟩
    have hpb : p ≠ b := sne upd_at hb2
    refine ⟨S'.upd b (bagO ms 0), upd_comm hpb, ?_, ps ++ [b], by rw [List.map_append]; rfl, by rw [List.length_append]; simp; omega, fun x hx => ?_, ?_⟩
    · rw [upd_off hpb]; exact hp
    · rcases List.mem_append.mp hx with hx | hx
      · obtain ⟨ms', n', g⟩ := hb x hx
        refine ⟨ms', n', ?_, g.len, g.pos⟩
        have : x ≠ b := by
          intro e; subst e
          rw [upd_off (fun e => by subst e; exact absurd g.at' (by rw [hp]; simp)), g.at'] at hb2
          cases hb2
        rw [upd_off this]; exact g.at'
      · rw [List.mem_singleton] at hx
        subst hx
        exact ⟨ms, 0, upd_at, hm, Int.le_refl _⟩
    · exact hsb.trans (Sub.new (by rw [upd_off (Ne.symm hpb)] at hb2; exact hb2))
  · obtain ⟨ps, rfl, hl, hb, hsb⟩ := hI
    refine ⟨p, _, rfl, upd_at, ?_⟩
    rw [del_upd hp]
    rw [List.length_map, List.length_range] at hl
    exact hq ps S' (by omega) hb hsb

end
end Paid

set_option Elab.async false
set_option linter.all false
set_option maxRecDepth 100000
set_option maxHeartbeats 4000000
namespace Paid
open PySem PySem.Spec PyProof L2 RZ PL
local macro_rules | `(tactic| walk_at "in_list") => `(tactic| repeat (first | exact List.Mem.head _ | refine List.Mem.tail _ ?_))
local macro_rules | `(tactic| walk_at "wx1") => `(tactic| first
  | (with_reducible refine ws_seq ?_)
  | ((with_reducible refine' we_var ?hv ?_); (case hv => rfl))
  | (with_reducible refine we_int ?_)
  | (with_reducible refine we_op2 ?_)
  | (with_reducible refine add_int ?_)
  | (with_reducible refine sub_int ?_)
  | (with_reducible refine ws_set ?_)
  | (with_reducible refine ws_ret ?_)
  | (with_reducible refine ws_if ?_)
  | (with_reducible refine ws_next ?_)
  | (with_reducible refine we_cbA ?_)
  | (with_reducible refine wa_cons ?_)
  | (with_reducible refine wa_nil ?_)
  | (with_reducible refine we_call ?_)
  | (with_reducible refine we_callN ?_)
  | ((with_reducible refine' is_xc ?hc ?hm ?_); (case hc => assumption); (case hm => walk_at "in_list"))
  | (with_reducible refine we_ref ?_)
  | ((with_reducible refine' we_callX ?hE ?_); (case hE => assumption))
  | ((with_reducible refine' ws_raise ?hE ?_); (case hE => assumption))
  | (with_reducible refine wt_test ?_)
  | (with_reducible refine isB_mk ?_)
  | (with_reducible refine isI_mk ?_)
  | (with_reducible refine wt_B ?_)
  | (with_reducible refine wt_and ?_)
  | (with_reducible refine wt_or ?_)
  | (with_reducible refine wt_not ?_)
  | (with_reducible refine we_andV ?_)
  | (with_reducible refine we_orV ?_)
  | (with_reducible refine we_notV ?_)
  | (with_reducible refine we_if ?_)
  | (with_reducible refine we_chain2 ?_)
  | (with_reducible refine we_str ?_)
  | (with_reducible refine we_bl ?_)
  | (with_reducible refine we_non ?_)
  | (with_reducible refine we_ty ?_)
  | (with_reducible refine we_tup ?_)
  | (with_reducible refine we_key ?_)
  | ((with_reducible refine lz_mk ?hz ?_); (case hz => exact Nat.le_of_ble_eq_true rfl))
  | (with_reducible refine eq_int ?_)
  | (with_reducible refine eq_bl ?_)
  | (with_reducible refine ne_bl ?_)
  | (with_reducible refine ne_int ?_)
  | (with_reducible refine lt_int ?_)
  | (with_reducible refine le_int ?_)
  | (with_reducible refine gt_int ?_)
  | (with_reducible refine ge_int ?_)
  | ((with_reducible refine div_int ?h1 ?h2 ?_); (case h1 => omega); (case h2 => omega))
  | ((with_reducible refine mod_int ?h1 ?_); (case h1 => omega))
  | ((with_reducible refine mul_int ?h1 ?h2 ?_); (case h1 => omega); (case h2 => omega))
  | ((with_reducible refine mul_intR ?h1 ?h2 ?_); (case h1 => omega); (case h2 => omega))
  | (with_reducible refine ws_drop ?_)
  | (with_reducible refine ws_par ?_)
  | (with_reducible refine ws_asg ?_)
  | (with_reducible refine wg_name ?_)
  | ((with_reducible refine wg_tup ?hn ?_); (case hn => rfl))
  | ((with_reducible refine wg_key ?hn ?_); (case hn => rfl))
  | (with_reducible refine wgs_cons ?_)
  | (with_reducible refine wgs_nil ?_)
  | (with_reducible refine we_sl ?_)
  | (with_reducible refine wo_none ?_)
  | (with_reducible refine wo_some ?_)
  | (with_reducible refine wt_chainN ?_)
  | (with_reducible refine wk_cons ?_)
  | (with_reducible refine wk_last ?_)
  | (with_reducible refine we_lenSetD ?_)
  | (with_reducible refine we_revL ?_)
  | (with_reducible refine we_dget ?_)
  | (with_reducible refine wt_yes ?_)
  | (with_reducible refine isn_y ?_)
  | (with_reducible refine isn_tup ?_)
  | (with_reducible refine isn_lst ?_)
  | (with_reducible refine isn_int ?_)
  | (with_reducible refine isn_ref ?_)
  | (with_reducible refine nn_y ?_)
  | (with_reducible refine nn_tup ?_)
  | (with_reducible refine nn_lst ?_)
  | (with_reducible refine nn_int ?_)
  | (with_reducible refine nn_ref ?_)
  | (with_reducible refine is_non ?_)
  | (with_reducible refine neg_int ?_)
  | (with_reducible refine we_un1 ?_)
  | (with_reducible refine br_t ?_)
  | (with_reducible refine br_f ?_)
  | (with_reducible refine br_nt ?_)
  | (with_reducible refine br_nf ?_)
  | (with_reducible refine ws_retN ?_))
local macro_rules | `(tactic| walk_at "wx") => `(tactic| repeat walk_at "wx1")
local macro_rules | `(tactic| walk_at "w0") => `(tactic| dsimp only [cxOf, startE, List.map, List.length_cons, List.length_nil, List.replicate, List.cons_append, List.nil_append, List.append_nil, List.append_eq, HAppend.hAppend, Append.append, List.append, Nat.sub_self, Nat.reduceAdd, Nat.reduceSub])
local macro_rules | `(tactic| walk_at "wxS") => `(tactic| repeat first | (with_reducible refine we_lstS ?_) | walk_at "wx1")
local macro_rules | `(tactic| walk_at "kin") => `(tactic| (walk_at "wxS"; refine ne_dat rfl rfl (by decide +kernel) (by decide +kernel) (c := true) (by decide +kernel) ?_; walk_at "wx"))
section
variable {P : Program} {w : World} {K : PySem.W.Frag} {mg : Str → Option Value} {base : Heap} {ad : Nat → Addr} {fd : Nat → FuncData}
theorem ok_law_take (T : Tx K mg ad fd) : FnOk P w K mg base CX0 1 (ad 33) (fd 33) ["bag", "many"] (spF K 2 phTake) := by
  refine okF T.f33.F sc_law_take fun cdv A outer s H E hr => ⟨_, (pss_cons (ps_asg (pe_op (opK K rfl opAdd) (pe_ix (ixK K rfl ixR) (pv 0) pe_int (fun _ _ => rfl)) pe_int) (pg_sub (pv 0) pe_int set_list))
    (pss_one (ps_ret (pe_op (opK K rfl opMod) (pe_ix (ixK K rfl ixR) (pe_ix (ixK K rfl ixR) (pv 0) pe_int (fun _ _ => rfl)) (pe_op (opK K rfl opMod) (pe_ix (ixK K rfl ixR) (pv 0) pe_int (fun _ _ => rfl)) (pe_callB (crK K rfl cLen) (by rfl) T.len (by decide +kernel) (pa_cons (pe_ix (ixK K rfl ixR) (pv 0) pe_int (fun _ _ => rfl)) pa_nil))) (fun _ _ => rfl)) (pv 1))))), fun ds S q hl h => ?_⟩
  obtain ⟨b, ns, n, m, rfl, ⟨h1, h2, h3⟩, h4, hq⟩ := h
  have hb : ∀ k, (S.upd b (bagO ns k)) b = some (.lst [.lst (ns.map D.int), .int k]) := fun k => upd_at
  obtain ⟨r, hr1⟩ : ∃ r, ns[((n + 1) % (ns.length : Int)).toNat]? = some r := ⟨_, List.getElem?_eq_getElem (by have := Int.emod_lt_of_pos (n + 1) (show 0 < (ns.length : Int) by omega); have := Int.emod_nonneg (n + 1) (show (ns.length : Int) ≠ 0 by omega); omega)⟩
  have hr2 : atI (ns.map D.int) ((n + 1) % (ns.length : Int)) = some (.int r) := by
    have e : ((n + 1) % (ns.length : Int)) = ((((n + 1) % (ns.length : Int)).toNat : Nat) : Int) := by have := Int.emod_nonneg (n + 1) (show (ns.length : Int) ≠ 0 by omega); omega
    rw [e]
    exact atI_nat (by rw [List.getElem?_map, hr1]; rfl)
  walk_at "w0"
  walk_at "wx"
  refine ix_q (asQ_ref h1) rfl ?_
  walk_at "wx"
  refine wg_sub ?_
  walk_at "wx"
  refine ⟨b, _, 1, 1, rfl, rfl, h1, rfl, ?_⟩
  show WS ⟨K, _⟩ _ _ (S.upd b (bagO ns (n + 1))) _
  walk_at "wx"
  refine ix_q (asQ_ref (hb _)) rfl ?_
  walk_at "wx"
  refine ix_q (asQ_ref (hb _)) rfl ?_
  walk_at "wx"
  refine ix_q (asQ_ref (hb _)) rfl ?_
  walk_at "wx"
  refine .inl ⟨_, _, rfl, asQ_lst, ?_⟩
  rw [List.length_map]
  walk_at "wx"
  refine ix_q asQ_lst hr2 ?_
  walk_at "wx"
  exact hq _ (Int.emod_nonneg _ (by omega)) (Int.emod_lt_of_pos _ h4)

end
end Paid

set_option Elab.async false
set_option linter.all false
set_option maxRecDepth 100000
set_option maxHeartbeats 4000000
namespace Paid
open PySem PySem.Spec PyProof L2 RZ PL
local macro_rules | `(tactic| walk_at "in_list") => `(tactic| repeat (first | exact List.Mem.head _ | refine List.Mem.tail _ ?_))
local macro_rules | `(tactic| walk_at "wx1") => `(tactic| first
  | (with_reducible refine ws_seq ?_)
  | ((with_reducible refine' we_var ?hv ?_); (case hv => rfl))
  | (with_reducible refine we_int ?_)
  | (with_reducible refine we_op2 ?_)
  | (with_reducible refine add_int ?_)
  | (with_reducible refine sub_int ?_)
  | (with_reducible refine ws_set ?_)
  | (with_reducible refine ws_ret ?_)
  | (with_reducible refine ws_if ?_)
  | (with_reducible refine ws_next ?_)
  | (with_reducible refine we_cbA ?_)
  | (with_reducible refine wa_cons ?_)
  | (with_reducible refine wa_nil ?_)
  | (with_reducible refine we_call ?_)
  | (with_reducible refine we_callN ?_)
  | ((with_reducible refine' is_xc ?hc ?hm ?_); (case hc => assumption); (case hm => walk_at "in_list"))
  | (with_reducible refine we_ref ?_)
  | ((with_reducible refine' we_callX ?hE ?_); (case hE => assumption))
  | ((with_reducible refine' ws_raise ?hE ?_); (case hE => assumption))
  | (with_reducible refine wt_test ?_)
  | (with_reducible refine isB_mk ?_)
  | (with_reducible refine isI_mk ?_)
  | (with_reducible refine wt_B ?_)
  | (with_reducible refine wt_and ?_)
  | (with_reducible refine wt_or ?_)
  | (with_reducible refine wt_not ?_)
  | (with_reducible refine we_andV ?_)
  | (with_reducible refine we_orV ?_)
  | (with_reducible refine we_notV ?_)
  | (with_reducible refine we_if ?_)
  | (with_reducible refine we_chain2 ?_)
  | (with_reducible refine we_str ?_)
  | (with_reducible refine we_bl ?_)
  | (with_reducible refine we_non ?_)
  | (with_reducible refine we_ty ?_)
  | (with_reducible refine we_tup ?_)
  | (with_reducible refine we_key ?_)
  | ((with_reducible refine lz_mk ?hz ?_); (case hz => exact Nat.le_of_ble_eq_true rfl))
  | (with_reducible refine eq_int ?_)
  | (with_reducible refine eq_bl ?_)
  | (with_reducible refine ne_bl ?_)
  | (with_reducible refine ne_int ?_)
  | (with_reducible refine lt_int ?_)
  | (with_reducible refine le_int ?_)
  | (with_reducible refine gt_int ?_)
  | (with_reducible refine ge_int ?_)
  | ((with_reducible refine div_int ?h1 ?h2 ?_); (case h1 => omega); (case h2 => omega))
  | ((with_reducible refine mod_int ?h1 ?_); (case h1 => omega))
  | ((with_reducible refine mul_int ?h1 ?h2 ?_); (case h1 => omega); (case h2 => omega))
  | ((with_reducible refine mul_intR ?h1 ?h2 ?_); (case h1 => omega); (case h2 => omega))
  | (with_reducible refine ws_drop ?_)
  | (with_reducible refine ws_par ?_)
  | (with_reducible refine ws_asg ?_)
  | (with_reducible refine wg_name ?_)
  | ((with_reducible refine wg_tup ?hn ?_); (case hn => rfl))
  | ((with_reducible refine wg_key ?hn ?_); (case hn => rfl))
  | (with_reducible refine wgs_cons ?_)
  | (with_reducible refine wgs_nil ?_)
  | (with_reducible refine we_sl ?_)
  | (with_reducible refine wo_none ?_)
  | (with_reducible refine wo_some ?_)
  | (with_reducible refine wt_chainN ?_)
  | (with_reducible refine wk_cons ?_)
  | (with_reducible refine wk_last ?_)
  | (with_reducible refine we_lenSetD ?_)
  | (with_reducible refine we_revL ?_)
  | (with_reducible refine we_dget ?_)
  | (with_reducible refine wt_yes ?_)
  | (with_reducible refine isn_y ?_)
  | (with_reducible refine isn_tup ?_)
  | (with_reducible refine isn_lst ?_)
  | (with_reducible refine isn_int ?_)
  | (with_reducible refine isn_ref ?_)
  | (with_reducible refine nn_y ?_)
  | (with_reducible refine nn_tup ?_)
  | (with_reducible refine nn_lst ?_)
  | (with_reducible refine nn_int ?_)
  | (with_reducible refine nn_ref ?_)
  | (with_reducible refine is_non ?_)
  | (with_reducible refine neg_int ?_)
  | (with_reducible refine we_un1 ?_)
  | (with_reducible refine br_t ?_)
  | (with_reducible refine br_f ?_)
  | (with_reducible refine br_nt ?_)
  | (with_reducible refine br_nf ?_)
  | (with_reducible refine ws_retN ?_))
local macro_rules | `(tactic| walk_at "wx") => `(tactic| repeat walk_at "wx1")
local macro_rules | `(tactic| walk_at "w0") => `(tactic| dsimp only [cxOf, startE, List.map, List.length_cons, List.length_nil, List.replicate, List.cons_append, List.nil_append, List.append_nil, List.append_eq, HAppend.hAppend, Append.append, List.append, Nat.sub_self, Nat.reduceAdd, Nat.reduceSub])
local macro_rules | `(tactic| walk_at "wxS") => `(tactic| repeat first | (with_reducible refine we_lstS ?_) | walk_at "wx1")
local macro_rules | `(tactic| walk_at "kin") => `(tactic| (walk_at "wxS"; refine ne_dat rfl rfl (by decide +kernel) (by decide +kernel) (c := true) (by decide +kernel) ?_; walk_at "wx"))
section
variable {P : Program} {w : World} {K : PySem.W.Frag} {mg : Str → Option Value} {base : Heap} {ad : Nat → Addr} {fd : Nat → FuncData}
theorem ok_law_far_draw (T : Tx K mg ad fd) : FnOk P w K mg base CX0 2 (ad 34) (fd 34) ["bag", "many"] (spF K 2 phFarDraw) := by
  refine okF T.f34.F sc_law_far_draw fun cdv A outer s H E hr => ⟨_, (pss_cons (ps_par (i := 2) (j := 3) (by rfl) sc_law_far_draw.nd rfl rfl (by decide) rfl rfl (pa_cons pe_int (pa_cons (pv 1) pa_nil)) (by rfl))
    (pss_cons (ps_while PassesOwn.never (pt_cmpR (opK K rfl opGt) (pv 3) pe_int (nomark _)) (pss_one (ps_par (i := 2) (j := 3) (by rfl) sc_law_far_draw.nd rfl rfl (by decide) rfl rfl (pa_cons (pe_op (opK K rfl opAdd) (pe_op (opK K rfl opMul) pe_int (pv 2)) (pe_call (ok_law_take T) (hr.mono (by decide)) (by rfl) T.f33.g T.f33.F.kp T.f33.b .nil pass0 (pa_cons (pv 0) (pa_cons pe_int pa_nil)))) (pa_cons (pe_op (opK K rfl opDiv) (pv 3) pe_int) pa_nil)) (by rfl))))
    (pss_one (ps_ret (pe_ix (ixK K rfl ixR) (pe_lst (pa_cons (pe_op (opK K rfl opMod) (pv 2) (pv 1)) (pa_cons pe_int (pa_cons (pe_op (opK K rfl opSub) (pv 1) pe_int) (pa_cons (pe_op (opK K rfl opMod) (pv 2) (pv 1)) pa_nil))))) (pe_call (ok_law_take T) (hr.mono (by decide)) (by rfl) T.f33.g T.f33.F.kp T.f33.b .nil pass0 (pa_cons (pv 0) (pa_cons pe_int pa_nil))) (fun _ _ => rfl)))))), fun ds S q hl h => ?_⟩
  obtain ⟨b, ns, n, m, rfl, hb, hm, hq⟩ := h
  walk_at "w0"
  walk_at "wx"
  refine ⟨_, _, rfl, ?_⟩
  dsimp only [List.set]
  walk_at "wx"
  refine ws_while (fun k δ' S' => ∃ f mu n : Int, δ' = [some (.ref b), some (.int m), some (.int f), some (.int mu)] ∧ 0 ≤ mu ∧ k = mu.toNat ∧ 0 ≤ n ∧ BagAt S' b ns n ∧ Took S b ns S') m.toNat ⟨0, m, n, rfl, by omega, rfl, hb.pos, hb, ?_⟩ ?_
  · refine ⟨n, hb.pos, ?_⟩
    funext a
    by_cases e : a = b
    · subst e; rw [upd_at, hb.at']
    · rw [upd_off e]
  · rintro k δ' S' ⟨f, mu, n', rfl, h1, rfl, h2, hb', ht⟩
    walk_at "wx"
    refine br_p (fun h3 => ?_) fun h3 => ?_
    · walk_at "wx"
      refine ⟨rfl, b, ns, n', 1000, rfl, hb', by decide, fun r hr0 hr1 => ?_⟩
      walk_at "wx"
      refine ⟨_, _, rfl, ?_⟩
      dsimp only [List.set]
      refine ⟨(mu / 1000).toNat, by omega, _, _, n' + 1, rfl, by omega, rfl, by omega, ⟨upd_at, hb.len, by omega⟩, ht.trans (Took.one (by omega))⟩
    · walk_at "wx"
      refine we_lstS ?_
      walk_at "wx"
      refine ⟨rfl, b, ns, n', 4, rfl, hb', by decide, fun r hr0 hr1 => ?_⟩
      have ht2 := ht.trans (Took.one (S := S') (b := b) (ns := ns) (n := n' + 1) (by omega))
      have hf0 := Int.emod_nonneg f (show m ≠ 0 by omega)
      have hf1 := Int.emod_lt_of_pos f hm
      rcases (show r = 0 ∨ r = 1 ∨ r = 2 ∨ r = 3 by omega) with rfl | rfl | rfl | rfl
      · exact ix_q asQ_lst rfl (hq _ _ hf0 hf1 ht2)
      · exact ix_q asQ_lst rfl (hq _ _ (by omega) (by omega) ht2)
      · exact ix_q asQ_lst rfl (hq _ _ (by omega) (by omega) ht2)
      · exact ix_q asQ_lst rfl (hq _ _ hf0 hf1 ht2)

end
end Paid

set_option Elab.async false
set_option linter.all false
set_option maxRecDepth 100000
set_option maxHeartbeats 4000000
namespace Paid
open PySem PySem.Spec PyProof L2 RZ PL
local macro_rules | `(tactic| walk_at "in_list") => `(tactic| repeat (first | exact List.Mem.head _ | refine List.Mem.tail _ ?_))
local macro_rules | `(tactic| walk_at "wx1") => `(tactic| first
  | (with_reducible refine ws_seq ?_)
  | ((with_reducible refine' we_var ?hv ?_); (case hv => rfl))
  | (with_reducible refine we_int ?_)
  | (with_reducible refine we_op2 ?_)
  | (with_reducible refine add_int ?_)
  | (with_reducible refine sub_int ?_)
  | (with_reducible refine ws_set ?_)
  | (with_reducible refine ws_ret ?_)
  | (with_reducible refine ws_if ?_)
  | (with_reducible refine ws_next ?_)
  | (with_reducible refine we_cbA ?_)
  | (with_reducible refine wa_cons ?_)
  | (with_reducible refine wa_nil ?_)
  | (with_reducible refine we_call ?_)
  | (with_reducible refine we_callN ?_)
  | ((with_reducible refine' is_xc ?hc ?hm ?_); (case hc => assumption); (case hm => walk_at "in_list"))
  | (with_reducible refine we_ref ?_)
  | ((with_reducible refine' we_callX ?hE ?_); (case hE => assumption))
  | ((with_reducible refine' ws_raise ?hE ?_); (case hE => assumption))
  | (with_reducible refine wt_test ?_)
  | (with_reducible refine isB_mk ?_)
  | (with_reducible refine isI_mk ?_)
  | (with_reducible refine wt_B ?_)
  | (with_reducible refine wt_and ?_)
  | (with_reducible refine wt_or ?_)
  | (with_reducible refine wt_not ?_)
  | (with_reducible refine we_andV ?_)
  | (with_reducible refine we_orV ?_)
  | (with_reducible refine we_notV ?_)
  | (with_reducible refine we_if ?_)
  | (with_reducible refine we_chain2 ?_)
  | (with_reducible refine we_str ?_)
  | (with_reducible refine we_bl ?_)
  | (with_reducible refine we_non ?_)
  | (with_reducible refine we_ty ?_)
  | (with_reducible refine we_tup ?_)
  | (with_reducible refine we_key ?_)
  | ((with_reducible refine lz_mk ?hz ?_); (case hz => exact Nat.le_of_ble_eq_true rfl))
  | (with_reducible refine eq_int ?_)
  | (with_reducible refine eq_bl ?_)
  | (with_reducible refine ne_bl ?_)
  | (with_reducible refine ne_int ?_)
  | (with_reducible refine lt_int ?_)
  | (with_reducible refine le_int ?_)
  | (with_reducible refine gt_int ?_)
  | (with_reducible refine ge_int ?_)
  | ((with_reducible refine div_int ?h1 ?h2 ?_); (case h1 => omega); (case h2 => omega))
  | ((with_reducible refine mod_int ?h1 ?_); (case h1 => omega))
  | ((with_reducible refine mul_int ?h1 ?h2 ?_); (case h1 => omega); (case h2 => omega))
  | ((with_reducible refine mul_intR ?h1 ?h2 ?_); (case h1 => omega); (case h2 => omega))
  | (with_reducible refine ws_drop ?_)
  | (with_reducible refine ws_par ?_)
  | (with_reducible refine ws_asg ?_)
  | (with_reducible refine wg_name ?_)
  | ((with_reducible refine wg_tup ?hn ?_); (case hn => rfl))
  | ((with_reducible refine wg_key ?hn ?_); (case hn => rfl))
  | (with_reducible refine wgs_cons ?_)
  | (with_reducible refine wgs_nil ?_)
  | (with_reducible refine we_sl ?_)
  | (with_reducible refine wo_none ?_)
  | (with_reducible refine wo_some ?_)
  | (with_reducible refine wt_chainN ?_)
  | (with_reducible refine wk_cons ?_)
  | (with_reducible refine wk_last ?_)
  | (with_reducible refine we_lenSetD ?_)
  | (with_reducible refine we_revL ?_)
  | (with_reducible refine we_dget ?_)
  | (with_reducible refine wt_yes ?_)
  | (with_reducible refine isn_y ?_)
  | (with_reducible refine isn_tup ?_)
  | (with_reducible refine isn_lst ?_)
  | (with_reducible refine isn_int ?_)
  | (with_reducible refine isn_ref ?_)
  | (with_reducible refine nn_y ?_)
  | (with_reducible refine nn_tup ?_)
  | (with_reducible refine nn_lst ?_)
  | (with_reducible refine nn_int ?_)
  | (with_reducible refine nn_ref ?_)
  | (with_reducible refine is_non ?_)
  | (with_reducible refine neg_int ?_)
  | (with_reducible refine we_un1 ?_)
  | (with_reducible refine br_t ?_)
  | (with_reducible refine br_f ?_)
  | (with_reducible refine br_nt ?_)
  | (with_reducible refine br_nf ?_)
  | (with_reducible refine ws_retN ?_))
local macro_rules | `(tactic| walk_at "wx") => `(tactic| repeat walk_at "wx1")
local macro_rules | `(tactic| walk_at "w0") => `(tactic| dsimp only [cxOf, startE, List.map, List.length_cons, List.length_nil, List.replicate, List.cons_append, List.nil_append, List.append_nil, List.append_eq, HAppend.hAppend, Append.append, List.append, Nat.sub_self, Nat.reduceAdd, Nat.reduceSub])
local macro_rules | `(tactic| walk_at "wxS") => `(tactic| repeat first | (with_reducible refine we_lstS ?_) | walk_at "wx1")
local macro_rules | `(tactic| walk_at "kin") => `(tactic| (walk_at "wxS"; refine ne_dat rfl rfl (by decide +kernel) (by decide +kernel) (c := true) (by decide +kernel) ?_; walk_at "wx"))
section
variable {P : Program} {w : World} {K : PySem.W.Frag} {mg : Str → Option Value} {base : Heap} {ad : Nat → Addr} {fd : Nat → FuncData}
theorem ok_law_mixed (T : Tx K mg ad fd) : FnOk P w K mg base CX0 2 (ad 35) (fd 35) ["bag", "many"] (spF K 2 phMixed) := by
  refine okF T.f35.F sc_law_mixed fun cdv A outer s H E hr => ⟨_, (pss_cons (ps_set (i := 2) sc_law_mixed.nd rfl (.inl rfl) (pe_lst pa_nil))
    (pss_cons (ps_for PassesOwn.never rfl (pi_range2 (by rfl) T.range (pa_cons pe_int (pa_cons (pe_op (opK K rfl opAdd) (pv 1) pe_int) pa_nil))) (pg_name (i := 3) sc_law_mixed.nd rfl (.inl rfl)) (pss_one (ps_expr (pe_bm PySem.F.plainAttrs_list PySem.F.slot_list_insert PySem.F.type_list_insert (mmK K rfl mInsert) (pv 2) (pa_cons (pe_call (ok_law_take T) (hr.mono (by decide)) (by rfl) T.f33.g T.f33.F.kp T.f33.b .nil pass0 (pa_cons (pv 0) (pa_cons (pv 3) pa_nil))) (pa_cons (pv 3) pa_nil))))))
    (pss_one (ps_ret (pe_callTy (crK K rfl cTuple) (by rfl) T.tuple (by decide +kernel) (pa_cons (pv 2) pa_nil)))))), fun ds S q hl h => ?_⟩
  obtain ⟨b, ns, n, m, rfl, hb, hm, hq⟩ := h
  walk_at "w0"
  walk_at "wx"
  refine we_lst ?_
  walk_at "wx"
  intro p hp
  walk_at "wx"
  dsimp only [List.set]
  have hpb : b ≠ p := sne hb.at' hp
  refine ws_for (wi_range2 ?_)
  walk_at "wx"
  refine ⟨_, _, rfl, by omega, fun i δ' S' => ∃ (u : Option D) (acc : List Int) (n : Int), δ' = [some (.ref b), some (.int (m : Nat)), some (.ref p), u] ∧ 0 ≤ n ∧ acc.Perm ((List.range i).map fun i : Nat => (i : Int) + 1) ∧ S' = (S.upd b (bagO ns n)).upd p (.lst (acc.map D.int)), ⟨_, [], n, rfl, hb.pos, by simp, ?_⟩, fun i d δ' S' hi hI => ?_, fun δ' S' hI => ?_⟩
  · have e : S.upd b (bagO ns n) = S := by
      funext a
      by_cases e : a = b
      · subst e; rw [upd_at, hb.at']
      · rw [upd_off e]
    rw [e]; rfl
  · have hd : d = .int ((i : Int) + 1) ∧ i < m := by
      rw [List.getElem?_map] at hi
      by_cases h : i < ((m : Int) + 1 - 1).toNat
      · rw [List.getElem?_range h] at hi; cases hi; exact ⟨by rw [Int.add_comm], by omega⟩
      · rw [List.getElem?_eq_none (by rw [List.length_range]; omega)] at hi; cases hi
    obtain ⟨rfl, hi3⟩ := hd
    obtain ⟨u, acc, n', rfl, hn, hperm, rfl⟩ := hI
    have hl : acc.length = i := by rw [hperm.length_eq]; simp
    walk_at "wx"
    dsimp only [List.set]
    walk_at "wx"
    refine we_bm ?_
    walk_at "wx"
    refine ⟨.inl ⟨rfl, by rw [asL_ref upd_at]; simp⟩, ?_⟩
    walk_at "wx"
    refine ⟨rfl, b, ns, n', _, rfl, ⟨by rw [upd_off hpb]; exact upd_at, hb.len, hn⟩, by omega, fun r hr0 hr1 => ?_⟩
    walk_at "wx"
    have eS : ((S.upd b (bagO ns n')).upd p (.lst (acc.map D.int))).upd b (bagO ns (n' + 1)) = (S.upd b (bagO ns (n' + 1))).upd p (.lst (acc.map D.int)) := by
      rw [upd_comm hpb.symm, upd_twice]
    rw [eS]
    refine ⟨p, acc.map D.int, r, _, rfl, rfl, upd_at, by rw [List.length_map]; exact Nat.lt_of_lt_of_le (show acc.length < 1001 by omega) (by decide), hr0, by omega, ?_⟩
    rw [upd_twice]
    refine ⟨_, acc.take r.toNat ++ [(i : Int) + 1] ++ acc.drop r.toNat, n' + 1, rfl, by omega, ?_, by simp⟩
    rw [List.range_succ, List.map_append]
    refine List.Perm.trans ?_ (List.Perm.append_right _ hperm)
    rw [List.append_assoc]
    refine (List.perm_append_comm_assoc _ _ _).trans ?_
    rw [List.take_append_drop]
    exact List.perm_append_comm
  · obtain ⟨u, acc, n', rfl, hn, hperm, rfl⟩ := hI
    refine WS.freezeV 2 rfl upd_at ?_
    rw [del_upd (by rw [upd_off hpb.symm]; exact hp)]
    dsimp only [List.set]
    walk_at "wx"
    refine ⟨_, _, rfl, asQ_lst, .inr (by simp [asL]), ?_⟩
    refine hq acc _ ?_ ⟨n', hn, rfl⟩
    have e : (List.map (fun n => D.int (1 + ((n : Nat) : Int))) (List.range ((m : Int) + 1 - 1).toNat)).length = m := by simp
    rw [e] at hperm
    exact hperm

end
end Paid

set_option Elab.async false
set_option linter.all false
set_option maxRecDepth 100000
set_option maxHeartbeats 4000000
namespace Paid
open PySem PySem.Spec PyProof L2 RZ PL
local macro_rules | `(tactic| walk_at "in_list") => `(tactic| repeat (first | exact List.Mem.head _ | refine List.Mem.tail _ ?_))
local macro_rules | `(tactic| walk_at "wx1") => `(tactic| first
  | (with_reducible refine ws_seq ?_)
  | ((with_reducible refine' we_var ?hv ?_); (case hv => rfl))
  | (with_reducible refine we_int ?_)
  | (with_reducible refine we_op2 ?_)
  | (with_reducible refine add_int ?_)
  | (with_reducible refine sub_int ?_)
  | (with_reducible refine ws_set ?_)
  | (with_reducible refine ws_ret ?_)
  | (with_reducible refine ws_if ?_)
  | (with_reducible refine ws_next ?_)
  | (with_reducible refine we_cbA ?_)
  | (with_reducible refine wa_cons ?_)
  | (with_reducible refine wa_nil ?_)
  | (with_reducible refine we_call ?_)
  | (with_reducible refine we_callN ?_)
  | ((with_reducible refine' is_xc ?hc ?hm ?_); (case hc => assumption); (case hm => walk_at "in_list"))
  | (with_reducible refine we_ref ?_)
  | ((with_reducible refine' we_callX ?hE ?_); (case hE => assumption))
  | ((with_reducible refine' ws_raise ?hE ?_); (case hE => assumption))
  | (with_reducible refine wt_test ?_)
  | (with_reducible refine isB_mk ?_)
  | (with_reducible refine isI_mk ?_)
  | (with_reducible refine wt_B ?_)
  | (with_reducible refine wt_and ?_)
  | (with_reducible refine wt_or ?_)
  | (with_reducible refine wt_not ?_)
  | (with_reducible refine we_andV ?_)
  | (with_reducible refine we_orV ?_)
  | (with_reducible refine we_notV ?_)
  | (with_reducible refine we_if ?_)
  | (with_reducible refine we_chain2 ?_)
  | (with_reducible refine we_str ?_)
  | (with_reducible refine we_bl ?_)
  | (with_reducible refine we_non ?_)
  | (with_reducible refine we_ty ?_)
  | (with_reducible refine we_tup ?_)
  | (with_reducible refine we_key ?_)
  | ((with_reducible refine lz_mk ?hz ?_); (case hz => exact Nat.le_of_ble_eq_true rfl))
  | (with_reducible refine eq_int ?_)
  | (with_reducible refine eq_bl ?_)
  | (with_reducible refine ne_bl ?_)
  | (with_reducible refine ne_int ?_)
  | (with_reducible refine lt_int ?_)
  | (with_reducible refine le_int ?_)
  | (with_reducible refine gt_int ?_)
  | (with_reducible refine ge_int ?_)
  | ((with_reducible refine div_int ?h1 ?h2 ?_); (case h1 => omega); (case h2 => omega))
  | ((with_reducible refine mod_int ?h1 ?_); (case h1 => omega))
  | ((with_reducible refine mul_int ?h1 ?h2 ?_); (case h1 => omega); (case h2 => omega))
  | ((with_reducible refine mul_intR ?h1 ?h2 ?_); (case h1 => omega); (case h2 => omega))
  | (with_reducible refine ws_drop ?_)
  | (with_reducible refine ws_par ?_)
  | (with_reducible refine ws_asg ?_)
  | (with_reducible refine wg_name ?_)
  | ((with_reducible refine wg_tup ?hn ?_); (case hn => rfl))
  | ((with_reducible refine wg_key ?hn ?_); (case hn => rfl))
  | (with_reducible refine wgs_cons ?_)
  | (with_reducible refine wgs_nil ?_)
  | (with_reducible refine we_sl ?_)
  | (with_reducible refine wo_none ?_)
  | (with_reducible refine wo_some ?_)
  | (with_reducible refine wt_chainN ?_)
  | (with_reducible refine wk_cons ?_)
  | (with_reducible refine wk_last ?_)
  | (with_reducible refine we_lenSetD ?_)
  | (with_reducible refine we_revL ?_)
  | (with_reducible refine we_dget ?_)
  | (with_reducible refine wt_yes ?_)
  | (with_reducible refine isn_y ?_)
  | (with_reducible refine isn_tup ?_)
  | (with_reducible refine isn_lst ?_)
  | (with_reducible refine isn_int ?_)
  | (with_reducible refine isn_ref ?_)
  | (with_reducible refine nn_y ?_)
  | (with_reducible refine nn_tup ?_)
  | (with_reducible refine nn_lst ?_)
  | (with_reducible refine nn_int ?_)
  | (with_reducible refine nn_ref ?_)
  | (with_reducible refine is_non ?_)
  | (with_reducible refine neg_int ?_)
  | (with_reducible refine we_un1 ?_)
  | (with_reducible refine br_t ?_)
  | (with_reducible refine br_f ?_)
  | (with_reducible refine br_nt ?_)
  | (with_reducible refine br_nf ?_)
  | (with_reducible refine ws_retN ?_))
local macro_rules | `(tactic| walk_at "wx") => `(tactic| repeat walk_at "wx1")
local macro_rules | `(tactic| walk_at "w0") => `(tactic| dsimp only [cxOf, startE, List.map, List.length_cons, List.length_nil, List.replicate, List.cons_append, List.nil_append, List.append_nil, List.append_eq, HAppend.hAppend, Append.append, List.append, Nat.sub_self, Nat.reduceAdd, Nat.reduceSub])
local macro_rules | `(tactic| walk_at "wxS") => `(tactic| repeat first | (with_reducible refine we_lstS ?_) | walk_at "wx1")
local macro_rules | `(tactic| walk_at "kin") => `(tactic| (walk_at "wxS"; refine ne_dat rfl rfl (by decide +kernel) (by decide +kernel) (c := true) (by decide +kernel) ?_; walk_at "wx"))
section
variable {P : Program} {w : World} {K : PySem.W.Frag} {mg : Str → Option Value} {base : Heap} {ad : Nat → Addr} {fd : Nat → FuncData}
theorem ok_law_names (T : Tx K mg ad fd) : FnOk P w K mg base CX0 1 (ad 36) (fd 36) ["many"] (spF K 1 phNames) := by
  refine okF T.f36.F sc_law_names fun cdv A outer s H E hr => ⟨_, (pss_cons (ps_set (i := 1) sc_law_names.nd rfl (.inl rfl) (pe_lst (pa_cons pe_str (pa_cons pe_str (pa_cons pe_str (pa_cons pe_str (pa_cons pe_str (pa_cons pe_str (pa_cons pe_str (pa_cons pe_str (pa_cons pe_str (pa_cons pe_str pa_nil))))))))))))
    (pss_cons (ps_set (i := 2) sc_law_names.nd rfl (.inl rfl) pe_str)
    (pss_one (ps_ret (pe_slice (slK K rfl slR) (pe_op (opK K rfl opAdd) (pe_op (opK K rfl opAdd) (pv 1) (pe_lc (own := [("letter", 3)]) rfl sc_law_names.nd (pi_anyK K rfl (pv 2)) (blkOk_by (N := ["many", "first", "letters", "letter"]) (sc := defScope s_law_names) (by decide +kernel)) (fun _ _ _ _ _ => (pg_name (i := 3) sc_law_names.nd rfl (.inl rfl))) (fun _ _ _ _ _ => pts_nil) (fun _ _ _ _ _ => (pe_op (opK K rfl opAdd) pe_str (pv 3))))) (pe_lc (own := [("letter", 3)]) rfl sc_law_names.nd (pi_anyK K rfl (pv 2)) (blkOk_by (N := ["many", "first", "letters", "letter"]) (sc := defScope s_law_names) (by decide +kernel)) (fun _ _ _ _ _ => (pg_name (i := 3) sc_law_names.nd rfl (.inl rfl))) (fun _ _ _ _ _ => pts_nil) (fun _ _ _ _ _ => (pe_op (opK K rfl opAdd) pe_str (pv 3))))) po_none (po_some (pv 0))))))), fun ds S q hl h => ?_⟩
  obtain ⟨m, rfl, h1, hq⟩ := h
  walk_at "w0"
  walk_at "wx"
  refine we_lstS ?_
  walk_at "wx"
  dsimp only [List.set]
  walk_at "wx"
  refine we_lcm (α := Nat) (keeps_name (by simp)) (wi_any ?_)
  walk_at "wx"
  refine ⟨_, rfl, smallS.cps.toList, fun c => .str ⟨#[c]⟩, fun c => .str (xS ++ ⟨#[c]⟩), rfl, by decide +kernel, fun c hc S' hS => ?_, .inl ?_⟩
  · walk_at "wx"
    dsimp only [wipeE, List.set]
    walk_at "wx"
    refine add_str (show (2 : Nat) ≤ sizeLine by decide) ?_
    exact ⟨rfl, rfl⟩
  refine add_lst rfl rfl (by decide +kernel) ?_
  walk_at "wx"
  refine we_lcm (α := Nat) (keeps_name (by simp)) (wi_any ?_)
  walk_at "wx"
  refine ⟨_, rfl, smallS.cps.toList, fun c => .str ⟨#[c]⟩, fun c => .str (yS ++ ⟨#[c]⟩), rfl, by decide +kernel, fun c hc S' hS => ?_, .inl ?_⟩
  · walk_at "wx"
    dsimp only [wipeE, List.set]
    walk_at "wx"
    refine add_str (show (2 : Nat) ≤ sizeLine by decide) ?_
    exact ⟨rfl, rfl⟩
  refine add_lst rfl rfl (by decide +kernel) ?_
  walk_at "wx"
  refine .inr ⟨_, rfl, ?_⟩
  rw [cut_to]
  have e : ([D.str "ann", D.str "bo", D.str "cy", D.str "dee", D.str "eli", D.str "fay", D.str "gus", D.str "hal", D.str "ida", D.str "jo"] ++ smallS.cps.toList.map (fun c => D.str (xS ++ ⟨#[c]⟩)) ++ smallS.cps.toList.map (fun c => D.str (yS ++ ⟨#[c]⟩))) = allN.map D.str := by
    unfold allN lettered
    rw [List.map_append, List.map_append, List.map_map, List.map_map]
    rfl
  rw [e, ← List.map_take]
  exact hq

end
end Paid

set_option Elab.async false
set_option linter.all false
set_option maxRecDepth 100000
set_option maxHeartbeats 4000000
namespace Paid
open PySem PySem.Spec PyProof L2 RZ PL
local macro_rules | `(tactic| walk_at "in_list") => `(tactic| repeat (first | exact List.Mem.head _ | refine List.Mem.tail _ ?_))
local macro_rules | `(tactic| walk_at "wx1") => `(tactic| first
  | (with_reducible refine ws_seq ?_)
  | ((with_reducible refine' we_var ?hv ?_); (case hv => rfl))
  | (with_reducible refine we_int ?_)
  | (with_reducible refine we_op2 ?_)
  | (with_reducible refine add_int ?_)
  | (with_reducible refine sub_int ?_)
  | (with_reducible refine ws_set ?_)
  | (with_reducible refine ws_ret ?_)
  | (with_reducible refine ws_if ?_)
  | (with_reducible refine ws_next ?_)
  | (with_reducible refine we_cbA ?_)
  | (with_reducible refine wa_cons ?_)
  | (with_reducible refine wa_nil ?_)
  | (with_reducible refine we_call ?_)
  | (with_reducible refine we_callN ?_)
  | ((with_reducible refine' is_xc ?hc ?hm ?_); (case hc => assumption); (case hm => walk_at "in_list"))
  | (with_reducible refine we_ref ?_)
  | ((with_reducible refine' we_callX ?hE ?_); (case hE => assumption))
  | ((with_reducible refine' ws_raise ?hE ?_); (case hE => assumption))
  | (with_reducible refine wt_test ?_)
  | (with_reducible refine isB_mk ?_)
  | (with_reducible refine isI_mk ?_)
  | (with_reducible refine wt_B ?_)
  | (with_reducible refine wt_and ?_)
  | (with_reducible refine wt_or ?_)
  | (with_reducible refine wt_not ?_)
  | (with_reducible refine we_andV ?_)
  | (with_reducible refine we_orV ?_)
  | (with_reducible refine we_notV ?_)
  | (with_reducible refine we_if ?_)
  | (with_reducible refine we_chain2 ?_)
  | (with_reducible refine we_str ?_)
  | (with_reducible refine we_bl ?_)
  | (with_reducible refine we_non ?_)
  | (with_reducible refine we_ty ?_)
  | (with_reducible refine we_tup ?_)
  | (with_reducible refine we_key ?_)
  | ((with_reducible refine lz_mk ?hz ?_); (case hz => exact Nat.le_of_ble_eq_true rfl))
  | (with_reducible refine eq_int ?_)
  | (with_reducible refine eq_bl ?_)
  | (with_reducible refine ne_bl ?_)
  | (with_reducible refine ne_int ?_)
  | (with_reducible refine lt_int ?_)
  | (with_reducible refine le_int ?_)
  | (with_reducible refine gt_int ?_)
  | (with_reducible refine ge_int ?_)
  | ((with_reducible refine div_int ?h1 ?h2 ?_); (case h1 => omega); (case h2 => omega))
  | ((with_reducible refine mod_int ?h1 ?_); (case h1 => omega))
  | ((with_reducible refine mul_int ?h1 ?h2 ?_); (case h1 => omega); (case h2 => omega))
  | ((with_reducible refine mul_intR ?h1 ?h2 ?_); (case h1 => omega); (case h2 => omega))
  | (with_reducible refine ws_drop ?_)
  | (with_reducible refine ws_par ?_)
  | (with_reducible refine ws_asg ?_)
  | (with_reducible refine wg_name ?_)
  | ((with_reducible refine wg_tup ?hn ?_); (case hn => rfl))
  | ((with_reducible refine wg_key ?hn ?_); (case hn => rfl))
  | (with_reducible refine wgs_cons ?_)
  | (with_reducible refine wgs_nil ?_)
  | (with_reducible refine we_sl ?_)
  | (with_reducible refine wo_none ?_)
  | (with_reducible refine wo_some ?_)
  | (with_reducible refine wt_chainN ?_)
  | (with_reducible refine wk_cons ?_)
  | (with_reducible refine wk_last ?_)
  | (with_reducible refine we_lenSetD ?_)
  | (with_reducible refine we_revL ?_)
  | (with_reducible refine we_dget ?_)
  | (with_reducible refine wt_yes ?_)
  | (with_reducible refine isn_y ?_)
  | (with_reducible refine isn_tup ?_)
  | (with_reducible refine isn_lst ?_)
  | (with_reducible refine isn_int ?_)
  | (with_reducible refine isn_ref ?_)
  | (with_reducible refine nn_y ?_)
  | (with_reducible refine nn_tup ?_)
  | (with_reducible refine nn_lst ?_)
  | (with_reducible refine nn_int ?_)
  | (with_reducible refine nn_ref ?_)
  | (with_reducible refine is_non ?_)
  | (with_reducible refine neg_int ?_)
  | (with_reducible refine we_un1 ?_)
  | (with_reducible refine br_t ?_)
  | (with_reducible refine br_f ?_)
  | (with_reducible refine br_nt ?_)
  | (with_reducible refine br_nf ?_)
  | (with_reducible refine ws_retN ?_))
local macro_rules | `(tactic| walk_at "wx") => `(tactic| repeat walk_at "wx1")
local macro_rules | `(tactic| walk_at "w0") => `(tactic| dsimp only [cxOf, startE, List.map, List.length_cons, List.length_nil, List.replicate, List.cons_append, List.nil_append, List.append_nil, List.append_eq, HAppend.hAppend, Append.append, List.append, Nat.sub_self, Nat.reduceAdd, Nat.reduceSub])
local macro_rules | `(tactic| walk_at "wxS") => `(tactic| repeat first | (with_reducible refine we_lstS ?_) | walk_at "wx1")
local macro_rules | `(tactic| walk_at "kin") => `(tactic| (walk_at "wxS"; refine ne_dat rfl rfl (by decide +kernel) (by decide +kernel) (c := true) (by decide +kernel) ?_; walk_at "wx"))
section
variable {P : Program} {w : World} {K : PySem.W.Frag} {mg : Str → Option Value} {base : Heap} {ad : Nat → Addr} {fd : Nat → FuncData}
theorem ok_law_orders (T : Tx K mg ad fd) : FnOk P w K mg base CX0 1 (ad 39) (fd 39) ["names"] (spF K 1 phAllOrders) := by
  refine okF T.f39.F sc_law_orders fun cdv A outer s H E hr => ⟨_, (pss_cons (ps_set (i := 1) sc_law_orders.nd rfl (.inl rfl) (pe_lst (pa_cons (pe_tupC pa_nil) pa_nil)))
    (pss_cons (ps_for PassesOwn.never rfl (pi_anyK K rfl (pv 0)) (pg_name (i := 2) sc_law_orders.nd rfl (.inl rfl)) (pss_cons (ps_set (i := 3) sc_law_orders.nd rfl (.inl rfl) (pe_lst pa_nil))
      (pss_cons (ps_for PassesOwn.never rfl (pi_anyK K rfl (pv 1)) (pg_name (i := 4) sc_law_orders.nd rfl (.inr rfl)) (pss_one (ps_set (i := 3) sc_law_orders.nd rfl (.inl rfl) (pe_op (opK K rfl opAdd) (pv 3) (pe_lc (own := [("name", 5)]) rfl sc_law_orders.nd (pi_anyK K rfl (pv 0)) (blkOk_by (N := ["names", "found", "turn", "longer", "order", "name"]) (sc := defScope s_law_orders) (by decide +kernel)) (fun _ _ _ _ _ => (pg_name (i := 5) sc_law_orders.nd rfl (.inl rfl))) (fun _ _ _ _ _ => (pts_one (pt_cmpR (opK K rfl opNotIn) (pv 5) (pv 4) (by rfl)))) (fun _ _ _ _ _ => (pe_op (opK K rfl opAdd) (pv 4) (pe_tupC (pa_cons (pv 5) pa_nil)))))))))
      (pss_one (ps_set (i := 1) sc_law_orders.nd rfl (.inl rfl) (pv 3))))))
    (pss_one (ps_ret (pv 1))))), fun ds S q hl h => ?_⟩
  obtain ⟨N, rfl, hl, hq⟩ := h
  have hN6 : N.length ≤ sizeLine := Nat.le_trans hl (by decide)
  walk_at "w0"
  walk_at "wxS"
  try dsimp only [List.set]
  walk_at "wxS"
  refine ws_forL (α := Str) (wi_any ?_)
  walk_at "wx"
  refine ⟨_, rfl, N, D.str, fun pre δ' S' => (∃ u2 u3 u4 u5, δ' = [some (.tup (N.map D.str)), some (.lst ((ordN N pre.length).map strsD)), u2, u3, u4, u5]) ∧ S' = S, rfl, ⟨⟨_, _, _, _, rfl⟩, rfl⟩, fun pre t post δ' S' hx hI => ?_, fun δ' S' hI => ?_⟩
  · obtain ⟨⟨u2, u3, u4, u5, rfl⟩, rfl⟩ := hI
    have hpl : pre.length < N.length := by rw [hx]; simp
    have hO : (ordN N pre.length).length ≤ 7776 := Nat.le_trans (ordN_len N pre.length) (Nat.le_trans (Nat.pow_le_pow_left hl _) (Nat.pow_le_pow_right (by omega) (show pre.length ≤ 5 by omega)))
    walk_at "wxS"
    try dsimp only [List.set]
    walk_at "wxS"
    try dsimp only [List.set]
    refine ws_forL (α := List Str) (wi_any ?_)
    walk_at "wx"
    refine ⟨_, rfl, ordN N pre.length, strsD, fun pr δ' S2 => (∃ u4 u5, δ' = [some (.tup (N.map D.str)), some (.lst ((ordN N pre.length).map strsD)), some (.str t), some (.lst ((pr.flatMap (nextO N)).map strsD)), u4, u5]) ∧ S2 = S', rfl, ⟨⟨_, _, rfl⟩, rfl⟩, fun pr o post' δ' S2 hx2 hI => ?_, fun δ' S2 hI => ?_⟩
    · obtain ⟨⟨u4, u5, rfl⟩, rfl⟩ := hI
      have ho : o ∈ ordN N pre.length := by rw [hx2]; simp
      have hol : o.length ≤ 6 := by have := (ordN_mem.mp ho).1; omega
      have hprl : pr.length ≤ 7776 := by rw [hx2, List.length_append] at hO; omega
      clear hx2 ho
      walk_at "wx"
      try dsimp only [List.set]
      walk_at "wx"
      refine we_lcf (α := Str) (keeps_name (by simp)) (wi_any ?_)
      walk_at "wx"
      refine ⟨_, rfl, N, D.str, fun z => decide (z ∉ o), fun z => strsD (o ++ [z]), rfl, hN6, fun z hz S3 hS => ?_, .inl ?_⟩
      · unfold strsD
        walk_at "wx"
        dsimp only [wipeE, List.set]
        walk_at "wx"
        refine in_strs asQ_tup ?_
        rw [if_pos rfl]
        walk_at "wx"
        refine br_n (fun h => ?_) fun h => ?_
        · walk_at "wx"
          refine add_tup (by rw [List.length_map]; exact Nat.le_trans (show o.length + 1 ≤ 7 by omega) (by decide)) ?_
          exact ⟨rfl, decide_eq_true h, by rw [List.map_append]; rfl⟩
        · exact ⟨rfl, decide_eq_false (fun e => e h)⟩
      have en : ((N.filter fun z => decide (z ∉ o)).map fun z => strsD (o ++ [z])) = (nextO N o).map strsD := by unfold nextO; rw [List.map_map]; rfl
      rw [en]
      have f1 := flat_le (nextO N) N.length (nextO_len N) pr
      have f2 := nextO_len N o
      have f3 : pr.length * N.length ≤ 7776 * 6 := Nat.mul_le_mul hprl hl
      refine add_lst rfl rfl (by rw [List.length_map, List.length_map]; exact Nat.le_trans (show (pr.flatMap (nextO N)).length + (nextO N o).length ≤ 50000 by omega) (by decide)) ?_
      rw [← List.map_append]
      walk_at "wx"
      exact ⟨⟨some (strsD o), u5, by rw [List.flatMap_append, List.flatMap_singleton]⟩, rfl⟩
    obtain ⟨⟨u4, u5, rfl⟩, rfl⟩ := hI
    rw [← ordN_succ]
    walk_at "wx"
    exact ⟨⟨some (.str t), some (.lst ((ordN N (pre.length + 1)).map strsD)), u4, u5, by rw [List.length_append, List.length_singleton]; rfl⟩, rfl⟩
  obtain ⟨⟨u2, u3, u4, u5, rfl⟩, rfl⟩ := hI
  walk_at "wx"
  exact hq

end
end Paid

set_option Elab.async false
set_option linter.all false
set_option maxRecDepth 100000
set_option maxHeartbeats 4000000
namespace Paid
open PySem PySem.Spec PyProof L2 RZ PL
local macro_rules | `(tactic| walk_at "in_list") => `(tactic| repeat (first | exact List.Mem.head _ | refine List.Mem.tail _ ?_))
local macro_rules | `(tactic| walk_at "wx1") => `(tactic| first
  | (with_reducible refine ws_seq ?_)
  | ((with_reducible refine' we_var ?hv ?_); (case hv => rfl))
  | (with_reducible refine we_int ?_)
  | (with_reducible refine we_op2 ?_)
  | (with_reducible refine add_int ?_)
  | (with_reducible refine sub_int ?_)
  | (with_reducible refine ws_set ?_)
  | (with_reducible refine ws_ret ?_)
  | (with_reducible refine ws_if ?_)
  | (with_reducible refine ws_next ?_)
  | (with_reducible refine we_cbA ?_)
  | (with_reducible refine wa_cons ?_)
  | (with_reducible refine wa_nil ?_)
  | (with_reducible refine we_call ?_)
  | (with_reducible refine we_callN ?_)
  | ((with_reducible refine' is_xc ?hc ?hm ?_); (case hc => assumption); (case hm => walk_at "in_list"))
  | (with_reducible refine we_ref ?_)
  | ((with_reducible refine' we_callX ?hE ?_); (case hE => assumption))
  | ((with_reducible refine' ws_raise ?hE ?_); (case hE => assumption))
  | (with_reducible refine wt_test ?_)
  | (with_reducible refine isB_mk ?_)
  | (with_reducible refine isI_mk ?_)
  | (with_reducible refine wt_B ?_)
  | (with_reducible refine wt_and ?_)
  | (with_reducible refine wt_or ?_)
  | (with_reducible refine wt_not ?_)
  | (with_reducible refine we_andV ?_)
  | (with_reducible refine we_orV ?_)
  | (with_reducible refine we_notV ?_)
  | (with_reducible refine we_if ?_)
  | (with_reducible refine we_chain2 ?_)
  | (with_reducible refine we_str ?_)
  | (with_reducible refine we_bl ?_)
  | (with_reducible refine we_non ?_)
  | (with_reducible refine we_ty ?_)
  | (with_reducible refine we_tup ?_)
  | (with_reducible refine we_key ?_)
  | ((with_reducible refine lz_mk ?hz ?_); (case hz => exact Nat.le_of_ble_eq_true rfl))
  | (with_reducible refine eq_int ?_)
  | (with_reducible refine eq_bl ?_)
  | (with_reducible refine ne_bl ?_)
  | (with_reducible refine ne_int ?_)
  | (with_reducible refine lt_int ?_)
  | (with_reducible refine le_int ?_)
  | (with_reducible refine gt_int ?_)
  | (with_reducible refine ge_int ?_)
  | ((with_reducible refine div_int ?h1 ?h2 ?_); (case h1 => omega); (case h2 => omega))
  | ((with_reducible refine mod_int ?h1 ?_); (case h1 => omega))
  | ((with_reducible refine mul_int ?h1 ?h2 ?_); (case h1 => omega); (case h2 => omega))
  | ((with_reducible refine mul_intR ?h1 ?h2 ?_); (case h1 => omega); (case h2 => omega))
  | (with_reducible refine ws_drop ?_)
  | (with_reducible refine ws_par ?_)
  | (with_reducible refine ws_asg ?_)
  | (with_reducible refine wg_name ?_)
  | ((with_reducible refine wg_tup ?hn ?_); (case hn => rfl))
  | ((with_reducible refine wg_key ?hn ?_); (case hn => rfl))
  | (with_reducible refine wgs_cons ?_)
  | (with_reducible refine wgs_nil ?_)
  | (with_reducible refine we_sl ?_)
  | (with_reducible refine wo_none ?_)
  | (with_reducible refine wo_some ?_)
  | (with_reducible refine wt_chainN ?_)
  | (with_reducible refine wk_cons ?_)
  | (with_reducible refine wk_last ?_)
  | (with_reducible refine we_lenSetD ?_)
  | (with_reducible refine we_revL ?_)
  | (with_reducible refine we_dget ?_)
  | (with_reducible refine wt_yes ?_)
  | (with_reducible refine isn_y ?_)
  | (with_reducible refine isn_tup ?_)
  | (with_reducible refine isn_lst ?_)
  | (with_reducible refine isn_int ?_)
  | (with_reducible refine isn_ref ?_)
  | (with_reducible refine nn_y ?_)
  | (with_reducible refine nn_tup ?_)
  | (with_reducible refine nn_lst ?_)
  | (with_reducible refine nn_int ?_)
  | (with_reducible refine nn_ref ?_)
  | (with_reducible refine is_non ?_)
  | (with_reducible refine neg_int ?_)
  | (with_reducible refine we_un1 ?_)
  | (with_reducible refine br_t ?_)
  | (with_reducible refine br_f ?_)
  | (with_reducible refine br_nt ?_)
  | (with_reducible refine br_nf ?_)
  | (with_reducible refine ws_retN ?_))
local macro_rules | `(tactic| walk_at "wx") => `(tactic| repeat walk_at "wx1")
local macro_rules | `(tactic| walk_at "w0") => `(tactic| dsimp only [cxOf, startE, List.map, List.length_cons, List.length_nil, List.replicate, List.cons_append, List.nil_append, List.append_nil, List.append_eq, HAppend.hAppend, Append.append, List.append, Nat.sub_self, Nat.reduceAdd, Nat.reduceSub])
local macro_rules | `(tactic| walk_at "wxS") => `(tactic| repeat first | (with_reducible refine we_lstS ?_) | walk_at "wx1")
local macro_rules | `(tactic| walk_at "kin") => `(tactic| (walk_at "wxS"; refine ne_dat rfl rfl (by decide +kernel) (by decide +kernel) (c := true) (by decide +kernel) ?_; walk_at "wx"))
section
variable {P : Program} {w : World} {K : PySem.W.Frag} {mg : Str → Option Value} {base : Heap} {ad : Nat → Addr} {fd : Nat → FuncData}
theorem ok_law_refused (T : Tx K mg ad fd) : FnOk P w K mg base CX0 21 (ad 38) (fd 38) ["call", "one", "two", "three"] (spF K 4 (phRefused P w K mg base 20 [(ad 3, "NoCents"), (ad 10, "NoPaid")])) := by
  refine okF T.f38.F sc_law_refused fun cdv A outer s H E hr => ⟨_, (pss_cons (ps_set (i := 4) sc_law_refused.nd rfl (.inl rfl) (pe_lst pa_nil))
    (pss_cons (ps_tryVK (P := P) (w0 := w) (K := K) (mg := mg) (base := base) (k := 20) (i := 0) rfl rfl rfl rfl rfl rfl rfl (hr.mono (by decide)) rfl (.inl rfl) (fun pn xe => (pa_cons (pv 1) (pa_cons (pv 2) (pa_cons (pv 3) pa_nil)))) (clauses_asK (K := K) (i := 5) rfl rfl rfl sc_law_refused.nd rfl rfl ⟨(by rfl), (by decide), .inl T.nTwice⟩ (fun _ _ _ _ _ _ _ => PL.pss_never) (clauses_asK (K := K) (i := 5) rfl rfl rfl sc_law_refused.nd rfl rfl ⟨(by rfl), (by decide), .inl T.nNotIn⟩ (fun _ _ _ _ _ _ _ => PL.pss_never) (clauses_asK (K := K) (i := 5) rfl rfl rfl sc_law_refused.nd rfl rfl ⟨(by rfl), (by decide), .inl T.nClubError⟩ (fun a oe cls d pn hz hf => (pss_cons (ps_set (i := 6) sc_law_refused.nd rfl (.inl rfl) (pe_lst (pa_cons (pe_tupC (pa_cons pe_str (pa_cons (pe_callB (call_isXK (K := K) rfl hz hf) (by rfl) T.isinstance (by decide +kernel) (pa_cons (pv 5) (pa_cons (pe_glob (v := .ref (ad 2)) (by rfl) T.nNoState rfl) pa_nil))) pa_nil))) (pa_cons (pe_tupC (pa_cons pe_str (pa_cons (pe_callB (call_isXK (K := K) rfl hz hf) (by rfl) T.isinstance (by decide +kernel) (pa_cons (pv 5) (pa_cons (pe_glob (v := .ref (ad 3)) (by rfl) T.nNoCents rfl) pa_nil))) pa_nil))) pa_nil))))
      (pss_cons (ps_set (i := 6) sc_law_refused.nd rfl (.inl rfl) (pe_op (opK K rfl opAdd) (pv 6) (pe_lst (pa_cons (pe_tupC (pa_cons pe_str (pa_cons (pe_callB (call_isXK (K := K) rfl hz hf) (by rfl) T.isinstance (by decide +kernel) (pa_cons (pv 5) (pa_cons (pe_glob (v := .ref (ad 4)) (by rfl) T.nNoName rfl) pa_nil))) pa_nil))) pa_nil))))
      (pss_cons (ps_set (i := 6) sc_law_refused.nd rfl (.inl rfl) (pe_op (opK K rfl opAdd) (pv 6) (pe_lst (pa_cons (pe_tupC (pa_cons pe_str (pa_cons (pe_callB (call_isXK (K := K) rfl hz hf) (by rfl) T.isinstance (by decide +kernel) (pa_cons (pv 5) (pa_cons (pe_glob (v := .ref (ad 5)) (by rfl) T.nNoDeeds rfl) pa_nil))) pa_nil))) (pa_cons (pe_tupC (pa_cons pe_str (pa_cons (pe_callB (call_isXK (K := K) rfl hz hf) (by rfl) T.isinstance (by decide +kernel) (pa_cons (pv 5) (pa_cons (pe_glob (v := .ref (ad 6)) (by rfl) T.nNoTimes rfl) pa_nil))) pa_nil))) pa_nil)))))
      (pss_cons (ps_set (i := 6) sc_law_refused.nd rfl (.inl rfl) (pe_op (opK K rfl opAdd) (pv 6) (pe_lst (pa_cons (pe_tupC (pa_cons pe_str (pa_cons (pe_callB (call_isXK (K := K) rfl hz hf) (by rfl) T.isinstance (by decide +kernel) (pa_cons (pv 5) (pa_cons (pe_glob (v := .ref (ad 7)) (by rfl) T.nNoMany rfl) pa_nil))) pa_nil))) (pa_cons (pe_tupC (pa_cons pe_str (pa_cons (pe_callB (call_isXK (K := K) rfl hz hf) (by rfl) T.isinstance (by decide +kernel) (pa_cons (pv 5) (pa_cons (pe_glob (v := .ref (ad 8)) (by rfl) T.nNoPlace rfl) pa_nil))) pa_nil))) pa_nil)))))
      (pss_cons (ps_set (i := 6) sc_law_refused.nd rfl (.inl rfl) (pe_op (opK K rfl opAdd) (pv 6) (pe_lst (pa_cons (pe_tupC (pa_cons pe_str (pa_cons (pe_callB (call_isXK (K := K) rfl hz hf) (by rfl) T.isinstance (by decide +kernel) (pa_cons (pv 5) (pa_cons (pe_glob (v := .ref (ad 9)) (by rfl) T.nNoSeen rfl) pa_nil))) pa_nil))) (pa_cons (pe_tupC (pa_cons pe_str (pa_cons (pe_callB (call_isXK (K := K) rfl hz hf) (by rfl) T.isinstance (by decide +kernel) (pa_cons (pv 5) (pa_cons (pe_glob (v := .ref (ad 10)) (by rfl) T.nNoPaid rfl) pa_nil))) pa_nil))) pa_nil)))))
      (pss_cons (ps_set (i := 6) sc_law_refused.nd rfl (.inl rfl) (pe_op (opK K rfl opAdd) (pv 6) (pe_lst (pa_cons (pe_tupC (pa_cons pe_str (pa_cons (pe_callB (call_isXK (K := K) rfl hz hf) (by rfl) T.isinstance (by decide +kernel) (pa_cons (pv 5) (pa_cons (pe_glob (v := .ref (ad 13)) (by rfl) T.nFull rfl) pa_nil))) pa_nil))) pa_nil))))
      (pss_cons (ps_set (i := 6) sc_law_refused.nd rfl (.inl rfl) (pe_op (opK K rfl opAdd) (pv 6) (pe_lst (pa_cons (pe_tupC (pa_cons pe_str (pa_cons (pe_callB (call_isXK (K := K) rfl hz hf) (by rfl) T.isinstance (by decide +kernel) (pa_cons (pv 5) (pa_cons (pe_glob (v := .ref (ad 11)) (by rfl) T.nNobody rfl) pa_nil))) pa_nil))) (pa_cons (pe_tupC (pa_cons pe_str (pa_cons (pe_callB (call_isXK (K := K) rfl hz hf) (by rfl) T.isinstance (by decide +kernel) (pa_cons (pv 5) (pa_cons (pe_glob (v := .ref (ad 12)) (by rfl) T.nTooMuch rfl) pa_nil))) pa_nil))) pa_nil)))))
      (pss_cons (ps_set (i := 6) sc_law_refused.nd rfl (.inl rfl) (pe_op (opK K rfl opAdd) (pv 6) (pe_lst (pa_cons (pe_tupC (pa_cons pe_str (pa_cons (pe_callB (call_isXK (K := K) rfl hz hf) (by rfl) T.isinstance (by decide +kernel) (pa_cons (pv 5) (pa_cons (pe_glob (v := .ref (ad 14)) (by rfl) T.nLastOne rfl) pa_nil))) pa_nil))) (pa_cons (pe_tupC (pa_cons pe_str (pa_cons (pe_callB (call_isXK (K := K) rfl hz hf) (by rfl) T.isinstance (by decide +kernel) (pa_cons (pv 5) (pa_cons (pe_glob (v := .ref (ad 15)) (by rfl) T.nNothingLeft rfl) pa_nil))) pa_nil))) pa_nil)))))
      (pss_one (ps_set (i := 4) sc_law_refused.nd rfl (.inl rfl) (pe_op (opK K rfl opAdd) (pe_lcHotK (K := K) (own := [("word", 7), ("there", 8)]) rfl (hot_suite hz hf) sc_law_refused.nd (pv 6) (blkOk_by (N := ["call", "one", "two", "three", "kin", "e", "words", "word", "there"]) (sc := defScope s_law_refused) (by decide +kernel)) (fun _ _ _ _ _ hb => (pg_tupHK K (n := 2) rfl hb (pgs_cons (pg_name (i := 7) sc_law_refused.nd rfl (.inl rfl)) (pgs_cons (pg_name (i := 8) sc_law_refused.nd rfl (.inl rfl)) pgs_nil)))) (fun _ _ _ _ _ => (pts_one (pt_val (pv 8)))) (fun _ _ _ _ _ => (pv 7))) (pe_lst (pa_cons (pe_callB (call_isXK (K := K) rfl hz hf) (by rfl) T.isinstance (by decide +kernel) (pa_cons (pv 5) (pa_cons (pe_bltn (v := .ty "ValueError") (by rfl) T.ValueError (by decide +kernel) rfl) pa_nil))) pa_nil)))))))))))))) (clauses_nil rfl rfl takesNo)))))
    (pss_one (ps_ret (pv 4))))), fun ds S q hl h => ?_⟩
  obtain ⟨c, x, y, z, φ, rfl, hF, hD, h⟩ := h
  walk_at "w0"
  walk_at "wx"
  refine we_lstS ?_
  walk_at "wx"
  dsimp only [List.set]
  try refine ws_seq ?_
  refine ws_tryV (n := 3) (c := c) (φ := φ) rfl hF hD ?_
  walk_at "wx"
  refine ⟨rfl, h _ _ (fun d S' hq => ?_) fun cls zz S' hx => ?_⟩
  · walk_at "wx"
    exact hq
  · obtain ⟨rfl, C, n, rfl, hm, hq⟩ := hx
    simp only [List.mem_cons, Prod.mk.injEq, List.not_mem_nil, or_false] at hm
    rcases hm with ⟨rfl, rfl⟩ | ⟨rfl, rfl⟩
    · have hk := T.kNoCents
      refine wh_no (hk.cl (_, false) (by walk_at "in_list")) (wh_no (hk.cl (_, false) (by walk_at "in_list")) (wh_yes (hk.cl (_, true) (by walk_at "in_list")) rfl fun a ha => ?_))
      dsimp only [List.set]
      walk_at "wxS"
      refine add_lst rfl rfl (by decide +kernel) ?_
      dsimp only [List.set]
      walk_at "wxS"
      refine add_lst rfl rfl (by decide +kernel) ?_
      dsimp only [List.set]
      walk_at "wxS"
      refine add_lst rfl rfl (by decide +kernel) ?_
      dsimp only [List.set]
      walk_at "wxS"
      refine add_lst rfl rfl (by decide +kernel) ?_
      dsimp only [List.set]
      walk_at "wxS"
      refine add_lst rfl rfl (by decide +kernel) ?_
      dsimp only [List.set]
      walk_at "wxS"
      refine add_lst rfl rfl (by decide +kernel) ?_
      dsimp only [List.set]
      walk_at "wxS"
      refine add_lst rfl rfl (by decide +kernel) ?_
      dsimp only [List.set]
      walk_at "wxS"
      refine we_lcf (α := Str × Bool) (keeps_tup (keeps_cons (keeps_name (by simp)) (keeps_cons (keeps_name (by simp)) keeps_nil mono_name) mono_name)) (wi_ls ?_)
      walk_at "wx"
      refine ⟨_, rfl, [("NoState", false), ("NoCents", true), ("NoName", false), ("NoDeeds", false), ("NoTimes", false), ("NoMany", false), ("NoPlace", false), ("NoSeen", false), ("NoPaid", false), ("Full", false), ("Nobody", false), ("TooMuch", false), ("LastOne", false), ("NothingLeft", false)], encB, fun p => p.2, fun p => .str p.1, rfl, by decide +kernel, fun p hp S1 hS => ?_, .inl ?_⟩
      · unfold encB
        walk_at "wx"
        dsimp only [wipeE, List.set]
        walk_at "wx"
        refine ⟨fun e => ?_, fun e => ?_⟩
        · walk_at "wx"
          exact ⟨rfl, e, rfl⟩
        · exact ⟨rfl, e⟩
      walk_at "wxS"
      refine add_lst rfl rfl (by decide +kernel) ?_
      walk_at "wxS"
      exact hq
    · have hk := T.kNoPaid
      refine wh_no (hk.cl (_, false) (by walk_at "in_list")) (wh_no (hk.cl (_, false) (by walk_at "in_list")) (wh_yes (hk.cl (_, true) (by walk_at "in_list")) rfl fun a ha => ?_))
      dsimp only [List.set]
      walk_at "wxS"
      refine add_lst rfl rfl (by decide +kernel) ?_
      dsimp only [List.set]
      walk_at "wxS"
      refine add_lst rfl rfl (by decide +kernel) ?_
      dsimp only [List.set]
      walk_at "wxS"
      refine add_lst rfl rfl (by decide +kernel) ?_
      dsimp only [List.set]
      walk_at "wxS"
      refine add_lst rfl rfl (by decide +kernel) ?_
      dsimp only [List.set]
      walk_at "wxS"
      refine add_lst rfl rfl (by decide +kernel) ?_
      dsimp only [List.set]
      walk_at "wxS"
      refine add_lst rfl rfl (by decide +kernel) ?_
      dsimp only [List.set]
      walk_at "wxS"
      refine add_lst rfl rfl (by decide +kernel) ?_
      dsimp only [List.set]
      walk_at "wxS"
      refine we_lcf (α := Str × Bool) (keeps_tup (keeps_cons (keeps_name (by simp)) (keeps_cons (keeps_name (by simp)) keeps_nil mono_name) mono_name)) (wi_ls ?_)
      walk_at "wx"
      refine ⟨_, rfl, [("NoState", false), ("NoCents", false), ("NoName", false), ("NoDeeds", false), ("NoTimes", false), ("NoMany", false), ("NoPlace", false), ("NoSeen", false), ("NoPaid", true), ("Full", false), ("Nobody", false), ("TooMuch", false), ("LastOne", false), ("NothingLeft", false)], encB, fun p => p.2, fun p => .str p.1, rfl, by decide +kernel, fun p hp S1 hS => ?_, .inl ?_⟩
      · unfold encB
        walk_at "wx"
        dsimp only [wipeE, List.set]
        walk_at "wx"
        refine ⟨fun e => ?_, fun e => ?_⟩
        · walk_at "wx"
          exact ⟨rfl, e, rfl⟩
        · exact ⟨rfl, e⟩
      walk_at "wxS"
      refine add_lst rfl rfl (by decide +kernel) ?_
      walk_at "wxS"
      exact hq

end
end Paid

set_option Elab.async false
set_option linter.all false
set_option maxRecDepth 100000
set_option maxHeartbeats 4000000
namespace Paid
open PySem PySem.Spec PyProof L2 RZ PL
local macro_rules | `(tactic| walk_at "in_list") => `(tactic| repeat (first | exact List.Mem.head _ | refine List.Mem.tail _ ?_))
local macro_rules | `(tactic| walk_at "wx1") => `(tactic| first
  | (with_reducible refine ws_seq ?_)
  | ((with_reducible refine' we_var ?hv ?_); (case hv => rfl))
  | (with_reducible refine we_int ?_)
  | (with_reducible refine we_op2 ?_)
  | (with_reducible refine add_int ?_)
  | (with_reducible refine sub_int ?_)
  | (with_reducible refine ws_set ?_)
  | (with_reducible refine ws_ret ?_)
  | (with_reducible refine ws_if ?_)
  | (with_reducible refine ws_next ?_)
  | (with_reducible refine we_cbA ?_)
  | (with_reducible refine wa_cons ?_)
  | (with_reducible refine wa_nil ?_)
  | (with_reducible refine we_call ?_)
  | (with_reducible refine we_callN ?_)
  | ((with_reducible refine' is_xc ?hc ?hm ?_); (case hc => assumption); (case hm => walk_at "in_list"))
  | (with_reducible refine we_ref ?_)
  | ((with_reducible refine' we_callX ?hE ?_); (case hE => assumption))
  | ((with_reducible refine' ws_raise ?hE ?_); (case hE => assumption))
  | (with_reducible refine wt_test ?_)
  | (with_reducible refine isB_mk ?_)
  | (with_reducible refine isI_mk ?_)
  | (with_reducible refine wt_B ?_)
  | (with_reducible refine wt_and ?_)
  | (with_reducible refine wt_or ?_)
  | (with_reducible refine wt_not ?_)
  | (with_reducible refine we_andV ?_)
  | (with_reducible refine we_orV ?_)
  | (with_reducible refine we_notV ?_)
  | (with_reducible refine we_if ?_)
  | (with_reducible refine we_chain2 ?_)
  | (with_reducible refine we_str ?_)
  | (with_reducible refine we_bl ?_)
  | (with_reducible refine we_non ?_)
  | (with_reducible refine we_ty ?_)
  | (with_reducible refine we_tup ?_)
  | (with_reducible refine we_key ?_)
  | ((with_reducible refine lz_mk ?hz ?_); (case hz => exact Nat.le_of_ble_eq_true rfl))
  | (with_reducible refine eq_int ?_)
  | (with_reducible refine eq_bl ?_)
  | (with_reducible refine ne_bl ?_)
  | (with_reducible refine ne_int ?_)
  | (with_reducible refine lt_int ?_)
  | (with_reducible refine le_int ?_)
  | (with_reducible refine gt_int ?_)
  | (with_reducible refine ge_int ?_)
  | ((with_reducible refine div_int ?h1 ?h2 ?_); (case h1 => omega); (case h2 => omega))
  | ((with_reducible refine mod_int ?h1 ?_); (case h1 => omega))
  | ((with_reducible refine mul_int ?h1 ?h2 ?_); (case h1 => omega); (case h2 => omega))
  | ((with_reducible refine mul_intR ?h1 ?h2 ?_); (case h1 => omega); (case h2 => omega))
  | (with_reducible refine ws_drop ?_)
  | (with_reducible refine ws_par ?_)
  | (with_reducible refine ws_asg ?_)
  | (with_reducible refine wg_name ?_)
  | ((with_reducible refine wg_tup ?hn ?_); (case hn => rfl))
  | ((with_reducible refine wg_key ?hn ?_); (case hn => rfl))
  | (with_reducible refine wgs_cons ?_)
  | (with_reducible refine wgs_nil ?_)
  | (with_reducible refine we_sl ?_)
  | (with_reducible refine wo_none ?_)
  | (with_reducible refine wo_some ?_)
  | (with_reducible refine wt_chainN ?_)
  | (with_reducible refine wk_cons ?_)
  | (with_reducible refine wk_last ?_)
  | (with_reducible refine we_lenSetD ?_)
  | (with_reducible refine we_revL ?_)
  | (with_reducible refine we_dget ?_)
  | (with_reducible refine wt_yes ?_)
  | (with_reducible refine isn_y ?_)
  | (with_reducible refine isn_tup ?_)
  | (with_reducible refine isn_lst ?_)
  | (with_reducible refine isn_int ?_)
  | (with_reducible refine isn_ref ?_)
  | (with_reducible refine nn_y ?_)
  | (with_reducible refine nn_tup ?_)
  | (with_reducible refine nn_lst ?_)
  | (with_reducible refine nn_int ?_)
  | (with_reducible refine nn_ref ?_)
  | (with_reducible refine is_non ?_)
  | (with_reducible refine neg_int ?_)
  | (with_reducible refine we_un1 ?_)
  | (with_reducible refine br_t ?_)
  | (with_reducible refine br_f ?_)
  | (with_reducible refine br_nt ?_)
  | (with_reducible refine br_nf ?_)
  | (with_reducible refine ws_retN ?_))
local macro_rules | `(tactic| walk_at "wx") => `(tactic| repeat walk_at "wx1")
local macro_rules | `(tactic| walk_at "w0") => `(tactic| dsimp only [cxOf, startE, List.map, List.length_cons, List.length_nil, List.replicate, List.cons_append, List.nil_append, List.append_nil, List.append_eq, HAppend.hAppend, Append.append, List.append, Nat.sub_self, Nat.reduceAdd, Nat.reduceSub])
local macro_rules | `(tactic| walk_at "wxS") => `(tactic| repeat first | (with_reducible refine we_lstS ?_) | walk_at "wx1")
local macro_rules | `(tactic| walk_at "kin") => `(tactic| (walk_at "wxS"; refine ne_dat rfl rfl (by decide +kernel) (by decide +kernel) (c := true) (by decide +kernel) ?_; walk_at "wx"))
section
variable {P : Program} {w : World} {K : PySem.W.Frag} {mg : Str → Option Value} {base : Heap} {ad : Nat → Addr} {fd : Nat → FuncData}
theorem ok_law_shares (T : Tx K mg ad fd) : FnOk P w K mg base CX0 1 (ad 37) (fd 37) ["bills", "many"] (spF K 2 phShares) := by
  refine okF T.f37.F sc_law_shares fun cdv A outer s H E hr => ⟨_, (pss_cons (ps_if (pt_cmpR (opK K rfl (opEq hr.units)) (pv 1) pe_int (nomark _)) (pss_one (ps_ret (pe_lst pa_nil))) pss_nil)
    (pss_cons (ps_set (i := 2) sc_law_shares.nd rfl (.inr rfl) (pe_op (opK K rfl opMod) (pv 0) (pv 1)))
    (pss_one (ps_ret (pe_lc (own := [("place", 3)]) rfl sc_law_shares.nd (pi_range1 (by rfl) T.range (pa_cons (pv 1) pa_nil)) (blkOk_by (N := ["bills", "many", "over", "place"]) (sc := defScope s_law_shares) (by decide +kernel)) (fun _ _ _ _ _ => (pg_name (i := 3) sc_law_shares.nd rfl (.inl rfl))) (fun _ _ _ _ _ => pts_nil) (fun _ _ _ _ _ => (pe_op (opK K rfl opAdd) (pe_op (opK K rfl opDiv) (pe_op (opK K rfl opSub) (pv 0) (pv 2)) (pv 1)) (pe_callTy (crK K rfl cInt) (by rfl) T.int (by decide +kernel) (pa_cons (pe_cmpR (opK K rfl opLt) (pv 3) (pv 2) (nomark _)) pa_nil))))))))), fun ds S q hl h => ?_⟩
  obtain ⟨b, m, rfl, hb, hm, hq⟩ := h
  walk_at "w0"
  walk_at "wx"
  refine br_p (fun h => ?_) fun h => ?_
  · have h0 : m = 0 := by omega
    subst h0
    walk_at "wx"
    rcases hq with hq | hq
    · refine we_lstS ?_
      walk_at "wx"
      exact hq
    · refine we_lst ?_
      walk_at "wx"
      exact hq
  · have h0 : 0 < m := by omega
    walk_at "wx"
    dsimp only [List.set]
    walk_at "wx"
    refine we_lcm (α := Nat) (keeps_name (by simp)) (wi_range1 ?_)
    walk_at "wx"
    refine ⟨_, rfl, by omega, by omega, List.range m, fun i => .int (0 + (i : Nat)), fun i => .int (shareZ b (i : Nat) (m : Nat)), by rw [Int.toNat_natCast], by rw [List.length_range]; exact Nat.le_trans hm (by decide), fun i hi S' hS => ?_, ?_⟩
    · have hi := List.mem_range.mp hi
      walk_at "wx"
      dsimp only [wipeE, List.set]
      walk_at "wx"
      refine .inr ⟨_, rfl, ?_⟩
      rw [show (0 : Int) + (i : Nat) = (i : Nat) by omega]
      walk_at "wx"
      exact ⟨rfl, by rw [share_over hb hi]⟩
    · unfold sharesL at hq
      rw [List.map_map] at hq
      exact hq

end
end Paid

set_option Elab.async false
set_option linter.all false
set_option maxRecDepth 100000
set_option maxHeartbeats 4000000
namespace Paid
open PySem PySem.Spec PyProof L2 RZ PL
local macro_rules | `(tactic| walk_at "in_list") => `(tactic| repeat (first | exact List.Mem.head _ | refine List.Mem.tail _ ?_))
local macro_rules | `(tactic| walk_at "wx1") => `(tactic| first
  | (with_reducible refine ws_seq ?_)
  | ((with_reducible refine' we_var ?hv ?_); (case hv => rfl))
  | (with_reducible refine we_int ?_)
  | (with_reducible refine we_op2 ?_)
  | (with_reducible refine add_int ?_)
  | (with_reducible refine sub_int ?_)
  | (with_reducible refine ws_set ?_)
  | (with_reducible refine ws_ret ?_)
  | (with_reducible refine ws_if ?_)
  | (with_reducible refine ws_next ?_)
  | (with_reducible refine we_cbA ?_)
  | (with_reducible refine wa_cons ?_)
  | (with_reducible refine wa_nil ?_)
  | (with_reducible refine we_call ?_)
  | (with_reducible refine we_callN ?_)
  | ((with_reducible refine' is_xc ?hc ?hm ?_); (case hc => assumption); (case hm => walk_at "in_list"))
  | (with_reducible refine we_ref ?_)
  | ((with_reducible refine' we_callX ?hE ?_); (case hE => assumption))
  | ((with_reducible refine' ws_raise ?hE ?_); (case hE => assumption))
  | (with_reducible refine wt_test ?_)
  | (with_reducible refine isB_mk ?_)
  | (with_reducible refine isI_mk ?_)
  | (with_reducible refine wt_B ?_)
  | (with_reducible refine wt_and ?_)
  | (with_reducible refine wt_or ?_)
  | (with_reducible refine wt_not ?_)
  | (with_reducible refine we_andV ?_)
  | (with_reducible refine we_orV ?_)
  | (with_reducible refine we_notV ?_)
  | (with_reducible refine we_if ?_)
  | (with_reducible refine we_chain2 ?_)
  | (with_reducible refine we_str ?_)
  | (with_reducible refine we_bl ?_)
  | (with_reducible refine we_non ?_)
  | (with_reducible refine we_ty ?_)
  | (with_reducible refine we_tup ?_)
  | (with_reducible refine we_key ?_)
  | ((with_reducible refine lz_mk ?hz ?_); (case hz => exact Nat.le_of_ble_eq_true rfl))
  | (with_reducible refine eq_int ?_)
  | (with_reducible refine eq_bl ?_)
  | (with_reducible refine ne_bl ?_)
  | (with_reducible refine ne_int ?_)
  | (with_reducible refine lt_int ?_)
  | (with_reducible refine le_int ?_)
  | (with_reducible refine gt_int ?_)
  | (with_reducible refine ge_int ?_)
  | ((with_reducible refine div_int ?h1 ?h2 ?_); (case h1 => omega); (case h2 => omega))
  | ((with_reducible refine mod_int ?h1 ?_); (case h1 => omega))
  | ((with_reducible refine mul_int ?h1 ?h2 ?_); (case h1 => omega); (case h2 => omega))
  | ((with_reducible refine mul_intR ?h1 ?h2 ?_); (case h1 => omega); (case h2 => omega))
  | (with_reducible refine ws_drop ?_)
  | (with_reducible refine ws_par ?_)
  | (with_reducible refine ws_asg ?_)
  | (with_reducible refine wg_name ?_)
  | ((with_reducible refine wg_tup ?hn ?_); (case hn => rfl))
  | ((with_reducible refine wg_key ?hn ?_); (case hn => rfl))
  | (with_reducible refine wgs_cons ?_)
  | (with_reducible refine wgs_nil ?_)
  | (with_reducible refine we_sl ?_)
  | (with_reducible refine wo_none ?_)
  | (with_reducible refine wo_some ?_)
  | (with_reducible refine wt_chainN ?_)
  | (with_reducible refine wk_cons ?_)
  | (with_reducible refine wk_last ?_)
  | (with_reducible refine we_lenSetD ?_)
  | (with_reducible refine we_revL ?_)
  | (with_reducible refine we_dget ?_)
  | (with_reducible refine wt_yes ?_)
  | (with_reducible refine isn_y ?_)
  | (with_reducible refine isn_tup ?_)
  | (with_reducible refine isn_lst ?_)
  | (with_reducible refine isn_int ?_)
  | (with_reducible refine isn_ref ?_)
  | (with_reducible refine nn_y ?_)
  | (with_reducible refine nn_tup ?_)
  | (with_reducible refine nn_lst ?_)
  | (with_reducible refine nn_int ?_)
  | (with_reducible refine nn_ref ?_)
  | (with_reducible refine is_non ?_)
  | (with_reducible refine neg_int ?_)
  | (with_reducible refine we_un1 ?_)
  | (with_reducible refine br_t ?_)
  | (with_reducible refine br_f ?_)
  | (with_reducible refine br_nt ?_)
  | (with_reducible refine br_nf ?_)
  | (with_reducible refine ws_retN ?_))
local macro_rules | `(tactic| walk_at "wx") => `(tactic| repeat walk_at "wx1")
local macro_rules | `(tactic| walk_at "w0") => `(tactic| dsimp only [cxOf, startE, List.map, List.length_cons, List.length_nil, List.replicate, List.cons_append, List.nil_append, List.append_nil, List.append_eq, HAppend.hAppend, Append.append, List.append, Nat.sub_self, Nat.reduceAdd, Nat.reduceSub])
local macro_rules | `(tactic| walk_at "wxS") => `(tactic| repeat first | (with_reducible refine we_lstS ?_) | walk_at "wx1")
local macro_rules | `(tactic| walk_at "kin") => `(tactic| (walk_at "wxS"; refine ne_dat rfl rfl (by decide +kernel) (by decide +kernel) (c := true) (by decide +kernel) ?_; walk_at "wx"))
section
variable {P : Program} {w : World} {K : PySem.W.Frag} {mg : Str → Option Value} {base : Heap} {ad : Nat → Addr} {fd : Nat → FuncData}
theorem ok_is_name (T : Tx K mg ad fd) : FnOk P w K mg base CX0 1 (ad 22) (fd 22) ["thing"] (spF K 1 phIsName) := by
  refine okF T.f22.F sc_is_name fun cdv A outer s H E hr => ⟨_, (pss_one (ps_ret (pe_and (pe_callB (crK K rfl cIsi) (by rfl) T.isinstance (by decide +kernel) (pa_cons (pv 0) (pa_cons (pe_bltn (v := .ty "str") (by rfl) T.str (by decide +kernel) rfl) pa_nil))) (pe_and (pe_chain (opK K rfl opLe) (opK K rfl opLe) pe_int (pe_callB (crK K rfl cLen) (by rfl) T.len (by decide +kernel) (pa_cons (pv 0) pa_nil)) pe_int) (pe_one (pe_callB (crK K rfl (cAll rfl)) (by rfl) T.all (by decide +kernel) (pa_cons (pe_lc (own := [("sign", 1)]) rfl sc_is_name.nd (pi_anyK K rfl (pv 0)) (blkOk_by (N := ["thing", "sign"]) (sc := defScope s_is_name) (by decide +kernel)) (fun _ _ _ _ _ => (pg_name (i := 1) sc_is_name.nd rfl (.inl rfl))) (fun _ _ _ _ _ => pts_nil) (fun _ _ _ _ _ => (pe_cmpR (opK K rfl opIn) (pv 1) (pe_glob (v := .str "abcdefghijklmnopqrstuvwxyz") (by rfl) T.gSMALL.choose_spec ⟨_, rfl⟩) (by rfl)))) pa_nil))))))), fun ds S q hl h => ?_⟩
  obtain ⟨x, T0, rfl, hT, hs, hq⟩ := h
  have hI : kitB T0 "str" = some (decide (T0 = "str")) := by
    rcases tyN_in hT with e | e | e | e | e | e <;> (subst e; decide +kernel)
  walk_at "w0"
  walk_at "wx"
  refine .inl ⟨_, _, _, _, rfl, hT, hI, ?_⟩
  walk_at "wx"
  refine br_p (fun h1 => ?_) fun h1 => ?_
  · subst h1
    obtain ⟨z, rfl⟩ := tyN_str hT
    have hz : z.length ≤ 1000 := hs
    walk_at "wx"
    refine .inr ⟨z, rfl, Nat.le_trans hz (by decide), ?_⟩
    walk_at "wx"
    refine br_p (fun h2 => ?_) fun h2 => ?_
    · walk_at "wx"
      refine br_p (fun h3 => ?_) fun h3 => ?_
      · walk_at "wx"
        refine we_lcm (α := Nat) (keeps_name (by simp)) (wi_any ?_)
        walk_at "wx"
        refine ⟨_, rfl, z.cps.toList, fun c => .str ⟨#[c]⟩, fun c => .bl (decide (c ∈ smallS.cps.toList)), rfl, ?_, fun c hc S' hS => ?_, .inl ?_⟩
        · rw [Array.length_toList]; exact Nat.le_trans hz (by decide)
        · walk_at "wx"
          dsimp only [wipeE]
          walk_at "wx"
          refine .inl ⟨c, smallS, rfl, rfl, rfl, rfl⟩
        · walk_at "wx"
          refine ⟨_, z.cps.toList.map fun c => decide (c ∈ smallS.cps.toList), rfl, ?_, ?_⟩
          · rw [asL_lst]
            rw [List.map_map]
            rfl
          · have e : nameD (.str z) = ((z.cps.toList.map fun c => decide (c ∈ smallS.cps.toList)).all id) := by
              show nameOk z = _
              unfold nameOk
              rw [decide_eq_true (by omega), decide_eq_true (by omega), List.all_map]
              rfl
            rw [e] at hq
            exact hq
      · have e : nameD (.str z) = false := by
          show nameOk z = _
          unfold nameOk
          rw [decide_eq_false (show ¬ z.length ≤ 8 by omega)]
          simp
        rw [e] at hq
        exact hq
    · have e : nameD (.str z) = false := by
        show nameOk z = _
        unfold nameOk
        rw [decide_eq_false (show ¬ 1 ≤ z.length by omega)]
        simp
      rw [e] at hq
      walk_at "wx"
      exact hq
  · have e : nameD x = false := by
      cases x with
      | str i => cases hT; exact absurd rfl h1
      | _ => rfl
    rw [e] at hq
    exact hq

end
end Paid

set_option Elab.async false
set_option linter.all false
set_option maxRecDepth 100000
set_option maxHeartbeats 4000000
namespace Paid
open PySem PySem.Spec PyProof L2 RZ PL
local macro_rules | `(tactic| walk_at "in_list") => `(tactic| repeat (first | exact List.Mem.head _ | refine List.Mem.tail _ ?_))
local macro_rules | `(tactic| walk_at "wx1") => `(tactic| first
  | (with_reducible refine ws_seq ?_)
  | ((with_reducible refine' we_var ?hv ?_); (case hv => rfl))
  | (with_reducible refine we_int ?_)
  | (with_reducible refine we_op2 ?_)
  | (with_reducible refine add_int ?_)
  | (with_reducible refine sub_int ?_)
  | (with_reducible refine ws_set ?_)
  | (with_reducible refine ws_ret ?_)
  | (with_reducible refine ws_if ?_)
  | (with_reducible refine ws_next ?_)
  | (with_reducible refine we_cbA ?_)
  | (with_reducible refine wa_cons ?_)
  | (with_reducible refine wa_nil ?_)
  | (with_reducible refine we_call ?_)
  | (with_reducible refine we_callN ?_)
  | ((with_reducible refine' is_xc ?hc ?hm ?_); (case hc => assumption); (case hm => walk_at "in_list"))
  | (with_reducible refine we_ref ?_)
  | ((with_reducible refine' we_callX ?hE ?_); (case hE => assumption))
  | ((with_reducible refine' ws_raise ?hE ?_); (case hE => assumption))
  | (with_reducible refine wt_test ?_)
  | (with_reducible refine isB_mk ?_)
  | (with_reducible refine isI_mk ?_)
  | (with_reducible refine wt_B ?_)
  | (with_reducible refine wt_and ?_)
  | (with_reducible refine wt_or ?_)
  | (with_reducible refine wt_not ?_)
  | (with_reducible refine we_andV ?_)
  | (with_reducible refine we_orV ?_)
  | (with_reducible refine we_notV ?_)
  | (with_reducible refine we_if ?_)
  | (with_reducible refine we_chain2 ?_)
  | (with_reducible refine we_str ?_)
  | (with_reducible refine we_bl ?_)
  | (with_reducible refine we_non ?_)
  | (with_reducible refine we_ty ?_)
  | (with_reducible refine we_tup ?_)
  | (with_reducible refine we_key ?_)
  | ((with_reducible refine lz_mk ?hz ?_); (case hz => exact Nat.le_of_ble_eq_true rfl))
  | (with_reducible refine eq_int ?_)
  | (with_reducible refine eq_bl ?_)
  | (with_reducible refine ne_bl ?_)
  | (with_reducible refine ne_int ?_)
  | (with_reducible refine lt_int ?_)
  | (with_reducible refine le_int ?_)
  | (with_reducible refine gt_int ?_)
  | (with_reducible refine ge_int ?_)
  | ((with_reducible refine div_int ?h1 ?h2 ?_); (case h1 => omega); (case h2 => omega))
  | ((with_reducible refine mod_int ?h1 ?_); (case h1 => omega))
  | ((with_reducible refine mul_int ?h1 ?h2 ?_); (case h1 => omega); (case h2 => omega))
  | ((with_reducible refine mul_intR ?h1 ?h2 ?_); (case h1 => omega); (case h2 => omega))
  | (with_reducible refine ws_drop ?_)
  | (with_reducible refine ws_par ?_)
  | (with_reducible refine ws_asg ?_)
  | (with_reducible refine wg_name ?_)
  | ((with_reducible refine wg_tup ?hn ?_); (case hn => rfl))
  | ((with_reducible refine wg_key ?hn ?_); (case hn => rfl))
  | (with_reducible refine wgs_cons ?_)
  | (with_reducible refine wgs_nil ?_)
  | (with_reducible refine we_sl ?_)
  | (with_reducible refine wo_none ?_)
  | (with_reducible refine wo_some ?_)
  | (with_reducible refine wt_chainN ?_)
  | (with_reducible refine wk_cons ?_)
  | (with_reducible refine wk_last ?_)
  | (with_reducible refine we_lenSetD ?_)
  | (with_reducible refine we_revL ?_)
  | (with_reducible refine we_dget ?_)
  | (with_reducible refine wt_yes ?_)
  | (with_reducible refine isn_y ?_)
  | (with_reducible refine isn_tup ?_)
  | (with_reducible refine isn_lst ?_)
  | (with_reducible refine isn_int ?_)
  | (with_reducible refine isn_ref ?_)
  | (with_reducible refine nn_y ?_)
  | (with_reducible refine nn_tup ?_)
  | (with_reducible refine nn_lst ?_)
  | (with_reducible refine nn_int ?_)
  | (with_reducible refine nn_ref ?_)
  | (with_reducible refine is_non ?_)
  | (with_reducible refine neg_int ?_)
  | (with_reducible refine we_un1 ?_)
  | (with_reducible refine br_t ?_)
  | (with_reducible refine br_f ?_)
  | (with_reducible refine br_nt ?_)
  | (with_reducible refine br_nf ?_)
  | (with_reducible refine ws_retN ?_))
local macro_rules | `(tactic| walk_at "wx") => `(tactic| repeat walk_at "wx1")
local macro_rules | `(tactic| walk_at "w0") => `(tactic| dsimp only [cxOf, startE, List.map, List.length_cons, List.length_nil, List.replicate, List.cons_append, List.nil_append, List.append_nil, List.append_eq, HAppend.hAppend, Append.append, List.append, Nat.sub_self, Nat.reduceAdd, Nat.reduceSub])
local macro_rules | `(tactic| walk_at "wxS") => `(tactic| repeat first | (with_reducible refine we_lstS ?_) | walk_at "wx1")
local macro_rules | `(tactic| walk_at "kin") => `(tactic| (walk_at "wxS"; refine ne_dat rfl rfl (by decide +kernel) (by decide +kernel) (c := true) (by decide +kernel) ?_; walk_at "wx"))
section
variable {P : Program} {w : World} {K : PySem.W.Frag} {mg : Str → Option Value} {base : Heap} {ad : Nat → Addr} {fd : Nat → FuncData}
theorem ok_is_within (T : Tx K mg ad fd) : FnOk P w K mg base CX0 1 (ad 21) (fd 21) ["thing", "low", "high"] (spF K 3 phWithin) := by
  refine okF T.f21.F sc_is_within fun cdv A outer s H E hr => ⟨_, (pss_one (ps_ret (pe_and (pe_callB (crK K rfl cIsi) (by rfl) T.isinstance (by decide +kernel) (pa_cons (pv 0) (pa_cons (pe_bltn (v := .ty "int") (by rfl) T.int (by decide +kernel) rfl) pa_nil))) (pe_and (pe_not (pe_callB (crK K rfl cIsi) (by rfl) T.isinstance (by decide +kernel) (pa_cons (pv 0) (pa_cons (pe_bltn (v := .ty "bool") (by rfl) T.bool (by decide +kernel) rfl) pa_nil)))) (pe_one (pe_chain (opK K rfl opLe) (opK K rfl opLe) (pv 1) (pv 0) (pv 2))))))), fun ds S q hl h => ?_⟩
  obtain ⟨x, lo, hi, T, rfl, hT, hq⟩ := h
  have hI : kitB T "int" = some (decide (T = "int" ∨ T = "bool")) ∧ kitB T "bool" = some (decide (T = "bool")) := by
    rcases tyN_in hT with e | e | e | e | e | e <;> (subst e; exact ⟨by decide +kernel, by decide +kernel⟩)
  walk_at "w0"
  walk_at "wx"
  refine .inl ⟨_, _, _, _, rfl, hT, hI.1, ?_⟩
  walk_at "wx"
  refine br_p (fun h1 => ?_) fun h1 => ?_
  · walk_at "wx"
    refine .inl ⟨_, _, _, _, rfl, hT, hI.2, ?_⟩
    walk_at "wx"
    refine br_n (fun h2 => ?_) fun h2 => ?_
    · have h3 : T = "int" := h1.resolve_right h2
      subst h3
      obtain ⟨i, rfl⟩ := tyN_int hT
      walk_at "wx"
      refine br_p (fun h4 => ?_) fun h4 => ?_
      · walk_at "wx"
        rw [within_int, decide_eq_true h4, Bool.true_and] at hq
        exact hq
      · rw [within_int, decide_eq_false h4, Bool.false_and] at hq
        exact hq
    · subst h2
      obtain ⟨i, rfl⟩ := tyN_bool hT
      exact hq
  · have e : withinD x lo hi = false := by
      cases x with
      | int i => cases hT; exact absurd (.inl rfl) h1
      | _ => rfl
    rw [e] at hq
    exact hq

end
end Paid

set_option Elab.async false
set_option linter.all false
set_option maxRecDepth 100000
set_option maxHeartbeats 4000000
namespace Paid
open PySem PySem.Spec PyProof L2 RZ PL
local macro_rules | `(tactic| walk_at "in_list") => `(tactic| repeat (first | exact List.Mem.head _ | refine List.Mem.tail _ ?_))
local macro_rules | `(tactic| walk_at "wx1") => `(tactic| first
  | (with_reducible refine ws_seq ?_)
  | ((with_reducible refine' we_var ?hv ?_); (case hv => rfl))
  | (with_reducible refine we_int ?_)
  | (with_reducible refine we_op2 ?_)
  | (with_reducible refine add_int ?_)
  | (with_reducible refine sub_int ?_)
  | (with_reducible refine ws_set ?_)
  | (with_reducible refine ws_ret ?_)
  | (with_reducible refine ws_if ?_)
  | (with_reducible refine ws_next ?_)
  | (with_reducible refine we_cbA ?_)
  | (with_reducible refine wa_cons ?_)
  | (with_reducible refine wa_nil ?_)
  | (with_reducible refine we_call ?_)
  | (with_reducible refine we_callN ?_)
  | ((with_reducible refine' is_xc ?hc ?hm ?_); (case hc => assumption); (case hm => walk_at "in_list"))
  | (with_reducible refine we_ref ?_)
  | ((with_reducible refine' we_callX ?hE ?_); (case hE => assumption))
  | ((with_reducible refine' ws_raise ?hE ?_); (case hE => assumption))
  | (with_reducible refine wt_test ?_)
  | (with_reducible refine isB_mk ?_)
  | (with_reducible refine isI_mk ?_)
  | (with_reducible refine wt_B ?_)
  | (with_reducible refine wt_and ?_)
  | (with_reducible refine wt_or ?_)
  | (with_reducible refine wt_not ?_)
  | (with_reducible refine we_andV ?_)
  | (with_reducible refine we_orV ?_)
  | (with_reducible refine we_notV ?_)
  | (with_reducible refine we_if ?_)
  | (with_reducible refine we_chain2 ?_)
  | (with_reducible refine we_str ?_)
  | (with_reducible refine we_bl ?_)
  | (with_reducible refine we_non ?_)
  | (with_reducible refine we_ty ?_)
  | (with_reducible refine we_tup ?_)
  | (with_reducible refine we_key ?_)
  | ((with_reducible refine lz_mk ?hz ?_); (case hz => exact Nat.le_of_ble_eq_true rfl))
  | (with_reducible refine eq_int ?_)
  | (with_reducible refine eq_bl ?_)
  | (with_reducible refine ne_bl ?_)
  | (with_reducible refine ne_int ?_)
  | (with_reducible refine lt_int ?_)
  | (with_reducible refine le_int ?_)
  | (with_reducible refine gt_int ?_)
  | (with_reducible refine ge_int ?_)
  | ((with_reducible refine div_int ?h1 ?h2 ?_); (case h1 => omega); (case h2 => omega))
  | ((with_reducible refine mod_int ?h1 ?_); (case h1 => omega))
  | ((with_reducible refine mul_int ?h1 ?h2 ?_); (case h1 => omega); (case h2 => omega))
  | ((with_reducible refine mul_intR ?h1 ?h2 ?_); (case h1 => omega); (case h2 => omega))
  | (with_reducible refine ws_drop ?_)
  | (with_reducible refine ws_par ?_)
  | (with_reducible refine ws_asg ?_)
  | (with_reducible refine wg_name ?_)
  | ((with_reducible refine wg_tup ?hn ?_); (case hn => rfl))
  | ((with_reducible refine wg_key ?hn ?_); (case hn => rfl))
  | (with_reducible refine wgs_cons ?_)
  | (with_reducible refine wgs_nil ?_)
  | (with_reducible refine we_sl ?_)
  | (with_reducible refine wo_none ?_)
  | (with_reducible refine wo_some ?_)
  | (with_reducible refine wt_chainN ?_)
  | (with_reducible refine wk_cons ?_)
  | (with_reducible refine wk_last ?_)
  | (with_reducible refine we_lenSetD ?_)
  | (with_reducible refine we_revL ?_)
  | (with_reducible refine we_dget ?_)
  | (with_reducible refine wt_yes ?_)
  | (with_reducible refine isn_y ?_)
  | (with_reducible refine isn_tup ?_)
  | (with_reducible refine isn_lst ?_)
  | (with_reducible refine isn_int ?_)
  | (with_reducible refine isn_ref ?_)
  | (with_reducible refine nn_y ?_)
  | (with_reducible refine nn_tup ?_)
  | (with_reducible refine nn_lst ?_)
  | (with_reducible refine nn_int ?_)
  | (with_reducible refine nn_ref ?_)
  | (with_reducible refine is_non ?_)
  | (with_reducible refine neg_int ?_)
  | (with_reducible refine we_un1 ?_)
  | (with_reducible refine br_t ?_)
  | (with_reducible refine br_f ?_)
  | (with_reducible refine br_nt ?_)
  | (with_reducible refine br_nf ?_)
  | (with_reducible refine ws_retN ?_))
local macro_rules | `(tactic| walk_at "wx") => `(tactic| repeat walk_at "wx1")
local macro_rules | `(tactic| walk_at "w0") => `(tactic| dsimp only [cxOf, startE, List.map, List.length_cons, List.length_nil, List.replicate, List.cons_append, List.nil_append, List.append_nil, List.append_eq, HAppend.hAppend, Append.append, List.append, Nat.sub_self, Nat.reduceAdd, Nat.reduceSub])
local macro_rules | `(tactic| walk_at "wxS") => `(tactic| repeat first | (with_reducible refine we_lstS ?_) | walk_at "wx1")
local macro_rules | `(tactic| walk_at "kin") => `(tactic| (walk_at "wxS"; refine ne_dat rfl rfl (by decide +kernel) (by decide +kernel) (c := true) (by decide +kernel) ?_; walk_at "wx"))
section
variable {P : Program} {w : World} {K : PySem.W.Frag} {mg : Str → Option Value} {base : Heap} {ad : Nat → Addr} {fd : Nat → FuncData}
theorem ok_is_known (T : Tx K mg ad fd) : FnOk P w K mg base CX0 2 (ad 26) (fd 26) ["thing"] (spF K 1 phIsKnownX) := by
  refine okF T.f26.F sc_is_known fun cdv A outer s H E hr => ⟨_, (pss_cons (ps_if (PW.pt (pw_or (pt_not (pt_val (pe_callB (crK K rfl cIsi) (by rfl) T.isinstance (by decide +kernel) (pa_cons (pv 0) (pa_cons (pe_bltn (v := .ty "tuple") (by rfl) T.tuple (by decide +kernel) rfl) pa_nil))))) (pw_or1 (pt_not (pt_chain (opK K rfl opLe) (opK K rfl opLe) pe_int (pe_callB (crK K rfl cLen) (by rfl) T.len (by decide +kernel) (pa_cons (pv 0) pa_nil)) pe_int))))) (pss_one (ps_ret pe_bl)) pss_nil)
    (pss_cons (ps_for PassesOwn.never rfl (pi_anyK K rfl (pv 0)) (pg_name (i := 1) sc_is_known.nd rfl (.inl rfl)) (pss_one (ps_if (PW.pt (pw_or (pt_not (pt_val (pe_callB (crK K rfl cIsi) (by rfl) T.isinstance (by decide +kernel) (pa_cons (pv 1) (pa_cons (pe_bltn (v := .ty "tuple") (by rfl) T.tuple (by decide +kernel) rfl) pa_nil))))) (pw_or (pt_cmpR (opK K rfl (opNe hr.units)) (pe_callB (crK K rfl cLen) (by rfl) T.len (by decide +kernel) (pa_cons (pv 1) pa_nil)) pe_int (nomark _)) (pw_or (pt_not (pt_val (pe_call (ok_is_name T) (hr.mono (by decide)) (by rfl) T.f22.g T.f22.F.kp T.f22.b .nil pass0 (pa_cons (pe_ix (ixK K rfl ixR) (pv 1) pe_int (fun _ _ => rfl)) pa_nil)))) (pw_or1 (pt_not (pt_val (pe_call (ok_is_within T) (hr.mono (by decide)) (by rfl) T.f21.g T.f21.F.kp T.f21.b .nil pass0 (pa_cons (pe_ix (ixK K rfl ixR) (pv 1) pe_int (fun _ _ => rfl)) (pa_cons pe_int (pa_cons (pe_glob (v := .int 1000000000000000000) (by rfl) T.gFAR.choose_spec ⟨_, rfl⟩) pa_nil))))))))))) (pss_one (ps_ret pe_bl)) pss_nil)))
    (pss_one (ps_ret (pe_callB (crK K rfl (cAll rfl)) (by rfl) T.all (by decide +kernel) (pa_cons (pe_lc (own := [("one", 2), ("other", 3)]) rfl sc_is_known.nd (pi_zipK K rfl (by rfl) T.zip (pa_cons (pv 0) (pa_cons (pe_slice (slK K rfl slR) (pv 0) (po_some pe_int) po_none) pa_nil))) (blkOk_by (N := ["thing", "pair", "one", "other"]) (sc := defScope s_is_known) (by decide +kernel)) (fun _ _ _ _ _ => (pg_tupK K (n := 2) rfl rfl (pgs_cons (pg_name (i := 2) sc_is_known.nd rfl (.inl rfl)) (pgs_cons (pg_name (i := 3) sc_is_known.nd rfl (.inl rfl)) pgs_nil)))) (fun _ _ _ _ _ => pts_nil) (fun _ _ _ _ _ => (pe_cmpR (opK K rfl opLt) (pe_ix (ixK K rfl ixR) (pv 2) pe_int (fun _ _ => rfl)) (pe_ix (ixK K rfl ixR) (pv 3) pe_int (fun _ _ => rfl)) (nomark _)))) pa_nil)))))), fun ds S q hl h => ?_⟩
  obtain ⟨y, rfl, hf, hq⟩ := h
  have hqF : ¬ KnownD y → q (.bl false) S := fun hn => hq false ⟨fun e => (by cases e), fun hk => absurd hk hn⟩
  obtain ⟨Ty, hTy⟩ := fine_ty (S := S) hf
  have hI : kitB Ty "tuple" = some (decide (Ty = "tuple")) := by
    rcases tyN_in hTy with e | e | e | e | e | e <;> (subst e; decide +kernel)
  walk_at "w0"
  walk_at "wx"
  refine .inl ⟨_, _, _, _, rfl, hTy, hI, ?_⟩
  walk_at "wx"
  refine br_n (fun h1 => ?_) fun h1 => ?_
  · walk_at "wx"
    exact hqF (not_known fun xs e => h1 (by subst e; cases hTy; rfl))
  obtain ⟨xs, rfl⟩ := tyN_tup (by rw [hTy, h1]) hf
  have hfx : (decide (xs.length ≤ 1000) && fineL xs) = true := by unfold fineD at hf; exact hf
  rw [Bool.and_eq_true, decide_eq_true_eq] at hfx
  walk_at "wx"
  refine .inl ⟨_, _, rfl, asQ_tup, ?_⟩
  walk_at "wx"
  refine br_p (fun h2 => ?_) fun h2 => ?_
  rotate_left
  · walk_at "wx"
    exact hqF fun hk => by have := (known_all hk).2.1; omega
  walk_at "wx"
  refine br_n (fun h3 => ?_) fun h3 => ?_
  · walk_at "wx"
    exact hqF fun hk => by have := (known_all hk).2.2; omega
  walk_at "wx"
  refine ws_forL (α := D) (wi_any ?_)
  walk_at "wx"
  refine ⟨_, rfl, xs, id, fun pre δ' S' => (∃ u v w, δ' = [some (.tup xs), u, v, w]) ∧ S' = S ∧ pre.all pairB = true, by simp, ⟨⟨_, _, _, rfl⟩, rfl, rfl⟩, fun pre p post δ' S' hx hI => ?_, fun δ' S' hI => ?_⟩
  · obtain ⟨⟨u, v, w, rfl⟩, rfl, hpre⟩ := hI
    have hp : p ∈ xs := by rw [hx]; simp
    have hfp := fineL_mem hfx.2 hp
    have hno : pairB p = false → q (.bl false) S' := fun e => hqF fun hk => by
      have := List.all_eq_true.mp (known_all hk).1 p hp
      rw [e] at this; cases this
    obtain ⟨Tp, hTp⟩ := fine_ty (S := S') hfp
    have hIp : kitB Tp "tuple" = some (decide (Tp = "tuple")) := by
      rcases tyN_in hTp with e | e | e | e | e | e <;> (subst e; decide +kernel)
    walk_at "wx"
    dsimp only [List.set, id]
    walk_at "wx"
    refine .inl ⟨_, _, _, _, rfl, hTp, hIp, ?_⟩
    walk_at "wx"
    refine br_n (fun g1 => ?_) fun g1 => ?_
    · walk_at "wx"
      exact hno (pairB_no fun xs e => g1 (by subst e; cases hTp; rfl))
    obtain ⟨zs, rfl⟩ := tyN_tup (by rw [hTp, g1]) hfp
    walk_at "wx"
    refine .inl ⟨_, _, rfl, asQ_tup, ?_⟩
    walk_at "wx"
    refine br_n (fun g2 => ?_) fun g2 => ?_
    · walk_at "wx"
      exact hno (pairB_len fun e => g2 (by rw [e]; rfl))
    have g2 : zs.length = 2 := by omega
    obtain ⟨a, c, rfl⟩ : ∃ a c, zs = [a, c] := by
      match zs, g2 with
      | [a, c], _ => exact ⟨a, c, rfl⟩
    have hfac : fineD a = true ∧ fineD c = true := by
      simp [fineD, fineL] at hfp
      exact hfp
    obtain ⟨hfa, hfc⟩ := hfac
    obtain ⟨Ta, hTa⟩ := fine_ty (S := S') hfa
    obtain ⟨Tc, hTc⟩ := fine_ty (S := S') hfc
    have e2 : pairB (.tup [a, c]) = (nameD a && withinD c 0 farZ) := rfl
    walk_at "wx"
    refine ix_q asQ_tup rfl ?_
    walk_at "wx"
    refine ⟨rfl, _, _, rfl, hTa, fine_short hfa, ?_⟩
    walk_at "wx"
    cases ha : nameD a with
    | false =>
      walk_at "wx"
      exact hno (by rw [e2, ha]; rfl)
    | true =>
    walk_at "wx"
    refine ix_q asQ_tup rfl ?_
    walk_at "wx"
    refine ⟨rfl, _, _, _, _, rfl, hTc, ?_⟩
    walk_at "wx"
    refine ⟨fun e => ?_, fun e => ?_⟩
    · walk_at "wx"
      exact hno (by rw [e2, show withinD c 0 farZ = false from (show withinD c 0 1000000000000000000 = false by simpa using e), Bool.and_false])
    walk_at "wx"
    refine ⟨⟨_, _, _, rfl⟩, rfl, ?_⟩
    rw [List.all_append, hpre, List.all_cons, e2, ha, show withinD c 0 farZ = true from (show withinD c 0 1000000000000000000 = true by simpa using e)]
    rfl
  · obtain ⟨⟨u, v, w, rfl⟩, rfl, hall⟩ := hI
    obtain ⟨ps, rfl, hps⟩ := pairs_of hall
    rw [List.length_map] at h2 h3
    have hki := known_iff (ps := ps) (by omega) (by omega) hps
    walk_at "wx"
    refine we_lcm (α := (Str × Int) × (Str × Int)) (keeps_tup (keeps_cons (keeps_name (by simp)) (keeps_cons (keeps_name (by simp)) keeps_nil mono_name) mono_name)) (wi_zip ?_)
    walk_at "wx"
    refine sl_t ?_
    rw [cut_fromI (by decide), show (1 : Int).toNat = 1 from rfl, ← List.map_drop]
    walk_at "wx"
    refine ⟨_, _, .inr rfl, ps.zip (ps.drop 1), fun p => .key [pairD p.1, pairD p.2], fun p => .bl (decide (ltS p.1.1 p.2.1)), ?_, ?_, fun pr hpr S' hS => ?_, .inl ?_⟩
    · unfold zipD
      rw [List.zip_map, List.map_map]
      rfl
    · rw [List.length_zip]; exact Nat.le_trans (Nat.min_le_left _ _) (Nat.le_trans (show ps.length ≤ 8 by omega) (by decide))
    · unfold pairD
      walk_at "wx"
      dsimp only [wipeE, List.set]
      walk_at "wx"
      refine ix_q asQ_tup rfl ?_
      walk_at "wx"
      refine ix_q asQ_tup rfl ?_
      walk_at "wx"
      refine lt_str ?_
      exact ⟨rfl, rfl⟩
    · walk_at "wx"
      refine ⟨_, (ps.zip (ps.drop 1)).map fun p => decide (ltS p.1.1 p.2.1), rfl, by rw [asL_lst, List.map_map]; rfl, ?_⟩
      rw [List.all_map]
      exact hq _ hki

end
end Paid

set_option Elab.async false
set_option linter.all false
set_option maxRecDepth 100000
set_option maxHeartbeats 4000000
namespace Paid
open PySem PySem.Spec PyProof L2 RZ PL
local macro_rules | `(tactic| walk_at "in_list") => `(tactic| repeat (first | exact List.Mem.head _ | refine List.Mem.tail _ ?_))
local macro_rules | `(tactic| walk_at "wx1") => `(tactic| first
  | (with_reducible refine ws_seq ?_)
  | ((with_reducible refine' we_var ?hv ?_); (case hv => rfl))
  | (with_reducible refine we_int ?_)
  | (with_reducible refine we_op2 ?_)
  | (with_reducible refine add_int ?_)
  | (with_reducible refine sub_int ?_)
  | (with_reducible refine ws_set ?_)
  | (with_reducible refine ws_ret ?_)
  | (with_reducible refine ws_if ?_)
  | (with_reducible refine ws_next ?_)
  | (with_reducible refine we_cbA ?_)
  | (with_reducible refine wa_cons ?_)
  | (with_reducible refine wa_nil ?_)
  | (with_reducible refine we_call ?_)
  | (with_reducible refine we_callN ?_)
  | ((with_reducible refine' is_xc ?hc ?hm ?_); (case hc => assumption); (case hm => walk_at "in_list"))
  | (with_reducible refine we_ref ?_)
  | ((with_reducible refine' we_callX ?hE ?_); (case hE => assumption))
  | ((with_reducible refine' ws_raise ?hE ?_); (case hE => assumption))
  | (with_reducible refine wt_test ?_)
  | (with_reducible refine isB_mk ?_)
  | (with_reducible refine isI_mk ?_)
  | (with_reducible refine wt_B ?_)
  | (with_reducible refine wt_and ?_)
  | (with_reducible refine wt_or ?_)
  | (with_reducible refine wt_not ?_)
  | (with_reducible refine we_andV ?_)
  | (with_reducible refine we_orV ?_)
  | (with_reducible refine we_notV ?_)
  | (with_reducible refine we_if ?_)
  | (with_reducible refine we_chain2 ?_)
  | (with_reducible refine we_str ?_)
  | (with_reducible refine we_bl ?_)
  | (with_reducible refine we_non ?_)
  | (with_reducible refine we_ty ?_)
  | (with_reducible refine we_tup ?_)
  | (with_reducible refine we_key ?_)
  | ((with_reducible refine lz_mk ?hz ?_); (case hz => exact Nat.le_of_ble_eq_true rfl))
  | (with_reducible refine eq_int ?_)
  | (with_reducible refine eq_bl ?_)
  | (with_reducible refine ne_bl ?_)
  | (with_reducible refine ne_int ?_)
  | (with_reducible refine lt_int ?_)
  | (with_reducible refine le_int ?_)
  | (with_reducible refine gt_int ?_)
  | (with_reducible refine ge_int ?_)
  | ((with_reducible refine div_int ?h1 ?h2 ?_); (case h1 => omega); (case h2 => omega))
  | ((with_reducible refine mod_int ?h1 ?_); (case h1 => omega))
  | ((with_reducible refine mul_int ?h1 ?h2 ?_); (case h1 => omega); (case h2 => omega))
  | ((with_reducible refine mul_intR ?h1 ?h2 ?_); (case h1 => omega); (case h2 => omega))
  | (with_reducible refine ws_drop ?_)
  | (with_reducible refine ws_par ?_)
  | (with_reducible refine ws_asg ?_)
  | (with_reducible refine wg_name ?_)
  | ((with_reducible refine wg_tup ?hn ?_); (case hn => rfl))
  | ((with_reducible refine wg_key ?hn ?_); (case hn => rfl))
  | (with_reducible refine wgs_cons ?_)
  | (with_reducible refine wgs_nil ?_)
  | (with_reducible refine we_sl ?_)
  | (with_reducible refine wo_none ?_)
  | (with_reducible refine wo_some ?_)
  | (with_reducible refine wt_chainN ?_)
  | (with_reducible refine wk_cons ?_)
  | (with_reducible refine wk_last ?_)
  | (with_reducible refine we_lenSetD ?_)
  | (with_reducible refine we_revL ?_)
  | (with_reducible refine we_dget ?_)
  | (with_reducible refine wt_yes ?_)
  | (with_reducible refine isn_y ?_)
  | (with_reducible refine isn_tup ?_)
  | (with_reducible refine isn_lst ?_)
  | (with_reducible refine isn_int ?_)
  | (with_reducible refine isn_ref ?_)
  | (with_reducible refine nn_y ?_)
  | (with_reducible refine nn_tup ?_)
  | (with_reducible refine nn_lst ?_)
  | (with_reducible refine nn_int ?_)
  | (with_reducible refine nn_ref ?_)
  | (with_reducible refine is_non ?_)
  | (with_reducible refine neg_int ?_)
  | (with_reducible refine we_un1 ?_)
  | (with_reducible refine br_t ?_)
  | (with_reducible refine br_f ?_)
  | (with_reducible refine br_nt ?_)
  | (with_reducible refine br_nf ?_)
  | (with_reducible refine ws_retN ?_))
local macro_rules | `(tactic| walk_at "wx") => `(tactic| repeat walk_at "wx1")
local macro_rules | `(tactic| walk_at "w0") => `(tactic| dsimp only [cxOf, startE, List.map, List.length_cons, List.length_nil, List.replicate, List.cons_append, List.nil_append, List.append_nil, List.append_eq, HAppend.hAppend, Append.append, List.append, Nat.sub_self, Nat.reduceAdd, Nat.reduceSub])
local macro_rules | `(tactic| walk_at "wxS") => `(tactic| repeat first | (with_reducible refine we_lstS ?_) | walk_at "wx1")
local macro_rules | `(tactic| walk_at "kin") => `(tactic| (walk_at "wxS"; refine ne_dat rfl rfl (by decide +kernel) (by decide +kernel) (c := true) (by decide +kernel) ?_; walk_at "wx"))
section
variable {P : Program} {w : World} {K : PySem.W.Frag} {mg : Str → Option Value} {base : Heap} {ad : Nat → Addr} {fd : Nat → FuncData}
theorem ok_product (T : Tx K mg ad fd) : FnOk P w K mg base CX0 1 (ad 25) (fd 25) ["many"] (spF K 1 phProduct) := by
  refine okF T.f25.F sc_product fun cdv A outer s H E hr => ⟨_, (pss_cons (ps_set (i := 1) sc_product.nd rfl (.inl rfl) pe_int)
    (pss_cons (ps_for PassesOwn.never rfl (pi_range2 (by rfl) T.range (pa_cons pe_int (pa_cons (pe_op (opK K rfl opAdd) (pv 0) pe_int) pa_nil))) (pg_name (i := 2) sc_product.nd rfl (.inl rfl)) (pss_one (ps_set (i := 1) sc_product.nd rfl (.inl rfl) (pe_op (opK K rfl opMul) (pv 1) (pv 2)))))
    (pss_one (ps_ret (pv 1))))), fun ds S q hl h => ?_⟩
  obtain ⟨m, rfl, hm, hq⟩ := h
  walk_at "w0"
  walk_at "wx"
  dsimp only [List.set]
  refine ws_for (wi_range2 ?_)
  walk_at "wx"
  refine ⟨_, _, rfl, by omega, fun i δ' S' => ∃ u : Option D, δ' = [some (.int (m : Nat)), some (.int (fac (i + 1))), u] ∧ S' = S, ⟨_, rfl, rfl⟩, fun i d δ' S' hi hI => ?_, fun δ' S' hI => ?_⟩
  · have hd : d = .int ((i : Int) + 2) ∧ i + 1 < m := by
      rw [List.getElem?_map] at hi
      by_cases h : i < ((m : Int) + 1 - 2).toNat
      · rw [List.getElem?_range h] at hi; cases hi; exact ⟨by rw [Int.add_comm], by omega⟩
      · rw [List.getElem?_eq_none (by rw [List.length_range]; omega)] at hi; cases hi
    obtain ⟨rfl, hi3⟩ := hd
    obtain ⟨u, rfl, rfl⟩ := hI
    have h1 := fac_pos (i + 1)
    have h2 := fac_le (n := i + 1) (by omega)
    walk_at "wx"
    dsimp only [List.set]
    walk_at "wx"
    have e : fac (i + 1 + 1) = fac (i + 1) * ((i : Int) + 2) := by
      show fac (i + 1) * (((i + 1 : Nat) : Int) + 1) = _
      rw [show ((i + 1 : Nat) : Int) + 1 = (i : Int) + 2 by omega]
    exact ⟨some (.int ((i : Int) + 2)), by rw [e], rfl⟩
  · obtain ⟨u, rfl, rfl⟩ := hI
    walk_at "wx"
    have e : (List.map (fun n => D.int (2 + ((n : Nat) : Int))) (List.range ((m : Int) + 1 - 2).toNat)).length + 1 = m ∨ m = 0 := by
      simp; omega
    rcases e with e | rfl
    · rw [e]; exact hq
    · exact hq

end
end Paid

set_option Elab.async false
set_option linter.all false
set_option maxRecDepth 100000
set_option maxHeartbeats 4000000
namespace Paid
open PySem PySem.Spec PyProof L2 RZ PL
local macro_rules | `(tactic| walk_at "in_list") => `(tactic| repeat (first | exact List.Mem.head _ | refine List.Mem.tail _ ?_))
local macro_rules | `(tactic| walk_at "wx1") => `(tactic| first
  | (with_reducible refine ws_seq ?_)
  | ((with_reducible refine' we_var ?hv ?_); (case hv => rfl))
  | (with_reducible refine we_int ?_)
  | (with_reducible refine we_op2 ?_)
  | (with_reducible refine add_int ?_)
  | (with_reducible refine sub_int ?_)
  | (with_reducible refine ws_set ?_)
  | (with_reducible refine ws_ret ?_)
  | (with_reducible refine ws_if ?_)
  | (with_reducible refine ws_next ?_)
  | (with_reducible refine we_cbA ?_)
  | (with_reducible refine wa_cons ?_)
  | (with_reducible refine wa_nil ?_)
  | (with_reducible refine we_call ?_)
  | (with_reducible refine we_callN ?_)
  | ((with_reducible refine' is_xc ?hc ?hm ?_); (case hc => assumption); (case hm => walk_at "in_list"))
  | (with_reducible refine we_ref ?_)
  | ((with_reducible refine' we_callX ?hE ?_); (case hE => assumption))
  | ((with_reducible refine' ws_raise ?hE ?_); (case hE => assumption))
  | (with_reducible refine wt_test ?_)
  | (with_reducible refine isB_mk ?_)
  | (with_reducible refine isI_mk ?_)
  | (with_reducible refine wt_B ?_)
  | (with_reducible refine wt_and ?_)
  | (with_reducible refine wt_or ?_)
  | (with_reducible refine wt_not ?_)
  | (with_reducible refine we_andV ?_)
  | (with_reducible refine we_orV ?_)
  | (with_reducible refine we_notV ?_)
  | (with_reducible refine we_if ?_)
  | (with_reducible refine we_chain2 ?_)
  | (with_reducible refine we_str ?_)
  | (with_reducible refine we_bl ?_)
  | (with_reducible refine we_non ?_)
  | (with_reducible refine we_ty ?_)
  | (with_reducible refine we_tup ?_)
  | (with_reducible refine we_key ?_)
  | ((with_reducible refine lz_mk ?hz ?_); (case hz => exact Nat.le_of_ble_eq_true rfl))
  | (with_reducible refine eq_int ?_)
  | (with_reducible refine eq_bl ?_)
  | (with_reducible refine ne_bl ?_)
  | (with_reducible refine ne_int ?_)
  | (with_reducible refine lt_int ?_)
  | (with_reducible refine le_int ?_)
  | (with_reducible refine gt_int ?_)
  | (with_reducible refine ge_int ?_)
  | ((with_reducible refine div_int ?h1 ?h2 ?_); (case h1 => omega); (case h2 => omega))
  | ((with_reducible refine mod_int ?h1 ?_); (case h1 => omega))
  | ((with_reducible refine mul_int ?h1 ?h2 ?_); (case h1 => omega); (case h2 => omega))
  | ((with_reducible refine mul_intR ?h1 ?h2 ?_); (case h1 => omega); (case h2 => omega))
  | (with_reducible refine ws_drop ?_)
  | (with_reducible refine ws_par ?_)
  | (with_reducible refine ws_asg ?_)
  | (with_reducible refine wg_name ?_)
  | ((with_reducible refine wg_tup ?hn ?_); (case hn => rfl))
  | ((with_reducible refine wg_key ?hn ?_); (case hn => rfl))
  | (with_reducible refine wgs_cons ?_)
  | (with_reducible refine wgs_nil ?_)
  | (with_reducible refine we_sl ?_)
  | (with_reducible refine wo_none ?_)
  | (with_reducible refine wo_some ?_)
  | (with_reducible refine wt_chainN ?_)
  | (with_reducible refine wk_cons ?_)
  | (with_reducible refine wk_last ?_)
  | (with_reducible refine we_lenSetD ?_)
  | (with_reducible refine we_revL ?_)
  | (with_reducible refine we_dget ?_)
  | (with_reducible refine wt_yes ?_)
  | (with_reducible refine isn_y ?_)
  | (with_reducible refine isn_tup ?_)
  | (with_reducible refine isn_lst ?_)
  | (with_reducible refine isn_int ?_)
  | (with_reducible refine isn_ref ?_)
  | (with_reducible refine nn_y ?_)
  | (with_reducible refine nn_tup ?_)
  | (with_reducible refine nn_lst ?_)
  | (with_reducible refine nn_int ?_)
  | (with_reducible refine nn_ref ?_)
  | (with_reducible refine is_non ?_)
  | (with_reducible refine neg_int ?_)
  | (with_reducible refine we_un1 ?_)
  | (with_reducible refine br_t ?_)
  | (with_reducible refine br_f ?_)
  | (with_reducible refine br_nt ?_)
  | (with_reducible refine br_nf ?_)
  | (with_reducible refine ws_retN ?_))
local macro_rules | `(tactic| walk_at "wx") => `(tactic| repeat walk_at "wx1")
local macro_rules | `(tactic| walk_at "w0") => `(tactic| dsimp only [cxOf, startE, List.map, List.length_cons, List.length_nil, List.replicate, List.cons_append, List.nil_append, List.append_nil, List.append_eq, HAppend.hAppend, Append.append, List.append, Nat.sub_self, Nat.reduceAdd, Nat.reduceSub])
local macro_rules | `(tactic| walk_at "wxS") => `(tactic| repeat first | (with_reducible refine we_lstS ?_) | walk_at "wx1")
local macro_rules | `(tactic| walk_at "kin") => `(tactic| (walk_at "wxS"; refine ne_dat rfl rfl (by decide +kernel) (by decide +kernel) (c := true) (by decide +kernel) ?_; walk_at "wx"))
section
variable {P : Program} {w : World} {K : PySem.W.Frag} {mg : Str → Option Value} {base : Heap} {ad : Nat → Addr} {fd : Nat → FuncData}
theorem ok_share (T : Tx K mg ad fd) : FnOk P w K mg base CX0 1 (ad 23) (fd 23) ["bills", "place", "many"] (spF K 3 phShare) := by
  refine okF T.f23.F sc_share fun cdv A outer s H E hr => ⟨_, (pss_one (ps_ret (pe_callB (crK K rfl (cMax rfl)) (by rfl) T.max (by decide +kernel) (pa_cons pe_int (pa_cons (pe_op (opK K rfl opDiv) (pe_op (opK K rfl opSub) (pe_op (opK K rfl opAdd) (pe_op (opK K rfl opSub) (pv 0) (pv 1)) (pv 2)) pe_int) (pv 2)) pa_nil))))), fun ds S q hl h => ?_⟩
  obtain ⟨b, p, m, rfl, h1, h2, hq⟩ := h
  walk_at "w0"
  walk_at "wx"
  refine .inl ⟨_, _, rfl, hq⟩

end
end Paid

set_option Elab.async false
set_option linter.all false
set_option maxRecDepth 100000
set_option maxHeartbeats 4000000
namespace Paid
open PySem PySem.Spec PyProof L2 RZ PL
local macro_rules | `(tactic| walk_at "in_list") => `(tactic| repeat (first | exact List.Mem.head _ | refine List.Mem.tail _ ?_))
local macro_rules | `(tactic| walk_at "wx1") => `(tactic| first
  | (with_reducible refine ws_seq ?_)
  | ((with_reducible refine' we_var ?hv ?_); (case hv => rfl))
  | (with_reducible refine we_int ?_)
  | (with_reducible refine we_op2 ?_)
  | (with_reducible refine add_int ?_)
  | (with_reducible refine sub_int ?_)
  | (with_reducible refine ws_set ?_)
  | (with_reducible refine ws_ret ?_)
  | (with_reducible refine ws_if ?_)
  | (with_reducible refine ws_next ?_)
  | (with_reducible refine we_cbA ?_)
  | (with_reducible refine wa_cons ?_)
  | (with_reducible refine wa_nil ?_)
  | (with_reducible refine we_call ?_)
  | (with_reducible refine we_callN ?_)
  | ((with_reducible refine' is_xc ?hc ?hm ?_); (case hc => assumption); (case hm => walk_at "in_list"))
  | (with_reducible refine we_ref ?_)
  | ((with_reducible refine' we_callX ?hE ?_); (case hE => assumption))
  | ((with_reducible refine' ws_raise ?hE ?_); (case hE => assumption))
  | (with_reducible refine wt_test ?_)
  | (with_reducible refine isB_mk ?_)
  | (with_reducible refine isI_mk ?_)
  | (with_reducible refine wt_B ?_)
  | (with_reducible refine wt_and ?_)
  | (with_reducible refine wt_or ?_)
  | (with_reducible refine wt_not ?_)
  | (with_reducible refine we_andV ?_)
  | (with_reducible refine we_orV ?_)
  | (with_reducible refine we_notV ?_)
  | (with_reducible refine we_if ?_)
  | (with_reducible refine we_chain2 ?_)
  | (with_reducible refine we_str ?_)
  | (with_reducible refine we_bl ?_)
  | (with_reducible refine we_non ?_)
  | (with_reducible refine we_ty ?_)
  | (with_reducible refine we_tup ?_)
  | (with_reducible refine we_key ?_)
  | ((with_reducible refine lz_mk ?hz ?_); (case hz => exact Nat.le_of_ble_eq_true rfl))
  | (with_reducible refine eq_int ?_)
  | (with_reducible refine eq_bl ?_)
  | (with_reducible refine ne_bl ?_)
  | (with_reducible refine ne_int ?_)
  | (with_reducible refine lt_int ?_)
  | (with_reducible refine le_int ?_)
  | (with_reducible refine gt_int ?_)
  | (with_reducible refine ge_int ?_)
  | ((with_reducible refine div_int ?h1 ?h2 ?_); (case h1 => omega); (case h2 => omega))
  | ((with_reducible refine mod_int ?h1 ?_); (case h1 => omega))
  | ((with_reducible refine mul_int ?h1 ?h2 ?_); (case h1 => omega); (case h2 => omega))
  | ((with_reducible refine mul_intR ?h1 ?h2 ?_); (case h1 => omega); (case h2 => omega))
  | (with_reducible refine ws_drop ?_)
  | (with_reducible refine ws_par ?_)
  | (with_reducible refine ws_asg ?_)
  | (with_reducible refine wg_name ?_)
  | ((with_reducible refine wg_tup ?hn ?_); (case hn => rfl))
  | ((with_reducible refine wg_key ?hn ?_); (case hn => rfl))
  | (with_reducible refine wgs_cons ?_)
  | (with_reducible refine wgs_nil ?_)
  | (with_reducible refine we_sl ?_)
  | (with_reducible refine wo_none ?_)
  | (with_reducible refine wo_some ?_)
  | (with_reducible refine wt_chainN ?_)
  | (with_reducible refine wk_cons ?_)
  | (with_reducible refine wk_last ?_)
  | (with_reducible refine we_lenSetD ?_)
  | (with_reducible refine we_revL ?_)
  | (with_reducible refine we_dget ?_)
  | (with_reducible refine wt_yes ?_)
  | (with_reducible refine isn_y ?_)
  | (with_reducible refine isn_tup ?_)
  | (with_reducible refine isn_lst ?_)
  | (with_reducible refine isn_int ?_)
  | (with_reducible refine isn_ref ?_)
  | (with_reducible refine nn_y ?_)
  | (with_reducible refine nn_tup ?_)
  | (with_reducible refine nn_lst ?_)
  | (with_reducible refine nn_int ?_)
  | (with_reducible refine nn_ref ?_)
  | (with_reducible refine is_non ?_)
  | (with_reducible refine neg_int ?_)
  | (with_reducible refine we_un1 ?_)
  | (with_reducible refine br_t ?_)
  | (with_reducible refine br_f ?_)
  | (with_reducible refine br_nt ?_)
  | (with_reducible refine br_nf ?_)
  | (with_reducible refine ws_retN ?_))
local macro_rules | `(tactic| walk_at "wx") => `(tactic| repeat walk_at "wx1")
local macro_rules | `(tactic| walk_at "w0") => `(tactic| dsimp only [cxOf, startE, List.map, List.length_cons, List.length_nil, List.replicate, List.cons_append, List.nil_append, List.append_nil, List.append_eq, HAppend.hAppend, Append.append, List.append, Nat.sub_self, Nat.reduceAdd, Nat.reduceSub])
local macro_rules | `(tactic| walk_at "wxS") => `(tactic| repeat first | (with_reducible refine we_lstS ?_) | walk_at "wx1")
local macro_rules | `(tactic| walk_at "kin") => `(tactic| (walk_at "wxS"; refine ne_dat rfl rfl (by decide +kernel) (by decide +kernel) (c := true) (by decide +kernel) ?_; walk_at "wx"))
section
variable {P : Program} {w : World} {K : PySem.W.Frag} {mg : Str → Option Value} {base : Heap} {ad : Nat → Addr} {fd : Nat → FuncData}
theorem ok_orders (T : Tx K mg ad fd) : FnOk P w K mg base (L2N.CX P w) 3 (ad 27) (fd 27) ["bills", "known"] (spX K 2 (phOrdersX (ad 3) (ad 10))) := by
  refine okX T.f27.F sc_orders fun cdv A outer s H E hr => ⟨_, (pss_cons (ps_if (pt_not (pt_val (pe_call (ok_is_within (P := P) (w := w) (K := K) (mg := mg) (base := base) T) (hr.mono (by decide)) (by rfl) T.f21.g T.f21.F.kp T.f21.b .nil pass0 (pa_cons (pv 0) (pa_cons pe_int (pa_cons (pe_glob (v := .int 1000000000000000000) (by rfl) T.gFAR.choose_spec ⟨_, rfl⟩) pa_nil)))))) (pss_one (ps_raiseN T.cNoCents rfl takesX (by rfl))) pss_nil)
    (pss_cons (ps_if (pt_not (pt_val (pe_call (ok_is_known (P := P) (w := w) (K := K) (mg := mg) (base := base) T) (hr.mono (by decide)) (by rfl) T.f26.g T.f26.F.kp T.f26.b .nil pass0 (pa_cons (pv 1) pa_nil)))) (pss_one (ps_raiseN T.cNoPaid rfl takesX (by rfl))) pss_nil)
    (pss_cons (ps_setLc (i := 2) (own := [("place", 9)]) rfl sc_orders.nd rfl rfl (sw_true rfl rfl rfl (by decide +kernel)) (pi_range1 (by rfl) T.range (pa_cons (pe_callB (crK K rfl cLen) (by rfl) T.len (by decide +kernel) (pa_cons (pv 1) pa_nil)) pa_nil)) (blkOk_by (N := ["bills", "known", "shares", "cents", "names", "found", "most", "number", "order", "place", "name", "own"]) (sc := defScope s_orders) (by decide +kernel)) (fun _ _ _ _ _ => (pg_name (i := 9) sc_orders.nd rfl (.inl rfl))) (fun _ _ _ _ _ => pts_nil) (fun _ _ _ _ _ => (pe_call (ok_share (P := P) (w := w) (K := K) (mg := mg) (base := base) T) (hr.mono (by decide)) (by rfl) T.f23.g T.f23.F.kp T.f23.b .nil pass0 (pa_cons (pv 0) (pa_cons (pv 9) (pa_cons (pe_callB (crK K rfl cLen) (by rfl) T.len (by decide +kernel) (pa_cons (pv 1) pa_nil)) pa_nil))))))
    (pss_cons (ps_if (pt_cmpR (opK K rfl (opNe hr.units)) (pe_callB (crK K rfl (cSorted hr.units)) (by rfl) T.sorted (by decide +kernel) (pa_cons (pv 2) pa_nil)) (pe_callB (crK K rfl (cSorted hr.units)) (by rfl) T.sorted (by decide +kernel) (pa_cons (pe_lc (own := [("name", 10), ("cents", 3)]) rfl sc_orders.nd (pi_anyK K rfl (pv 1)) (blkOk_by (N := ["bills", "known", "shares", "cents", "names", "found", "most", "number", "order", "place", "name", "own"]) (sc := defScope s_orders) (by decide +kernel)) (fun _ _ _ _ _ => (pg_tupK K (n := 2) rfl rfl (pgs_cons (pg_name (i := 10) sc_orders.nd rfl (.inl rfl)) (pgs_cons (pg_name (i := 3) sc_orders.nd rfl (.inl rfl)) pgs_nil)))) (fun _ _ _ _ _ => pts_nil) (fun _ _ _ _ _ => (pv 3))) pa_nil)) (nomark _)) (pss_one (ps_ret (pe_tupC (pa_cons pe_int (pa_cons pe_non pa_nil))))) pss_nil)
    (pss_cons (ps_par (i := 5) (j := 6) (by rfl) sc_orders.nd rfl rfl (by decide) rfl rfl (pa_cons (pe_lst pa_nil) (pa_cons (pe_callB (crK K rfl (cMax rfl)) (by rfl) T.max (by decide +kernel) (pa_cons (pv 2) pa_nil)) pa_nil)) (by rfl))
    (pss_cons (ps_for PassesOwn.leaving rfl (pi_anyK K rfl (pe_ifExp (pt_cmpR (opK K rfl (opEq hr.units)) (pv 6) (pe_callB (crK K rfl (cMin rfl)) (by rfl) T.min (by decide +kernel) (pa_cons (pv 2) pa_nil)) (nomark _)) (pe_lst (pa_cons (pv 6) pa_nil)) (pe_lst (pa_cons (pv 6) (pa_cons (pe_callB (crK K rfl (cMin rfl)) (by rfl) T.min (by decide +kernel) (pa_cons (pv 2) pa_nil)) pa_nil))))) (pg_name (i := 3) sc_orders.nd rfl (.inr rfl)) (pss_one (ps_expr (pe_bm PySem.F.plainAttrs_list PySem.F.slot_list_append PySem.F.type_list_append (mmK K rfl mAppend) (pv 5) (pa_cons (pe_callTy (crK K rfl cTuple) (by rfl) T.tuple (by decide +kernel) (pa_cons (pe_lc (own := [("name", 10), ("own", 11)]) rfl sc_orders.nd (pi_anyK K rfl (pv 1)) (blkOk_by (N := ["bills", "known", "shares", "cents", "names", "found", "most", "number", "order", "place", "name", "own"]) (sc := defScope s_orders) (by decide +kernel)) (fun _ _ _ _ _ => (pg_tupK K (n := 2) rfl rfl (pgs_cons (pg_name (i := 10) sc_orders.nd rfl (.inl rfl)) (pgs_cons (pg_name (i := 11) sc_orders.nd rfl (.inl rfl)) pgs_nil)))) (fun _ _ _ _ _ => (pts_one (pt_cmpR (opK K rfl (opEq hr.units)) (pv 11) (pv 3) (nomark _)))) (fun _ _ _ _ _ => (pv 10))) pa_nil)) pa_nil)))))
    (pss_cons (ps_asg (pe_tupC (pa_cons pe_int (pa_cons (pe_tupC pa_nil) pa_nil))) (pg_tupK K (n := 2) rfl rfl (pgs_cons (pg_name (i := 7) sc_orders.nd rfl (.inl rfl)) (pgs_cons (pg_name (i := 8) sc_orders.nd rfl (.inl rfl)) pgs_nil))))
    (pss_cons (ps_for PassesOwn.leaving rfl (pi_anyK K rfl (pv 5)) (pg_name (i := 4) sc_orders.nd rfl (.inl rfl)) (pss_one (ps_par (i := 7) (j := 8) (by rfl) sc_orders.nd rfl rfl (by decide) rfl rfl (pa_cons (pe_op (opK K rfl opMul) (pv 7) (pe_call (ok_product (P := P) (w := w) (K := K) (mg := mg) (base := base) T) (hr.mono (by decide)) (by rfl) T.f25.g T.f25.F.kp T.f25.b .nil pass0 (pa_cons (pe_callB (crK K rfl cLen) (by rfl) T.len (by decide +kernel) (pa_cons (pv 4) pa_nil)) pa_nil))) (pa_cons (pe_op (opK K rfl opAdd) (pv 8) (pv 4)) pa_nil)) (by rfl))))
    (pss_one (ps_ret (pe_tupC (pa_cons (pv 7) (pa_cons (pv 8) pa_nil))))))))))))), fun ds S q x Hs0 hl hE h => ?_⟩
  obtain ⟨y1, y2, rfl, hf1, hf2, hx1, hrest⟩ := h
  obtain ⟨T1, hT1⟩ := fine_ty (S := S) hf1
  walk_at "w0"
  walk_at "wx"
  refine ⟨rfl, _, _, _, _, rfl, hT1, ?_⟩
  walk_at "wx"
  refine ⟨fun e => ?_, fun e => ?_⟩
  · walk_at "wx"
    exact hx1 (show withinD y1 0 1000000000000000000 = false by simpa using e)
  obtain ⟨b, rfl, hb, hb1⟩ := within_is (show withinD y1 0 1000000000000000000 = true by simpa using e)
  clear e hx1
  obtain ⟨hx2, hrest⟩ := hrest b rfl hb hb1
  walk_at "wx"
  refine ⟨rfl, _, rfl, hf2, fun r hr => ?_⟩
  walk_at "wx"
  cases r with
  | false =>
    walk_at "wx"
    exact hx2 fun hk => by cases hr.mpr hk
  | true =>
  obtain ⟨ps, rfl, hk⟩ := hr.mp rfl
  have hq := hrest ps rfl hk
  clear hr hx2 hrest
  have hb2 : b ≤ 1000000000000000000 := hb1
  have hlo := hk.lo
  have hhi := hk.hi
  walk_at "wx"
  refine we_lcm (α := Nat) (keeps_name (by simp)) (wi_range1 ?_)
  walk_at "wx"
  refine .inl ⟨_, _, rfl, asQ_tup, ?_⟩
  rw [List.length_map]
  walk_at "wx"
  refine ⟨_, rfl, by omega, by omega, List.range ps.length, fun i => .int (0 + (i : Nat)), fun i => .int (shareZ b (i : Nat) (ps.length : Nat)), by rw [Int.toNat_natCast], by rw [List.length_range]; exact Nat.le_trans hhi (by decide), fun i hi S' hS => ?_, .inl ?_⟩
  · have hi := List.mem_range.mp hi
    walk_at "wx"
    dsimp only [wipeE, List.set]
    walk_at "wx"
    refine .inl ⟨_, _, rfl, asQ_tup, ?_⟩
    rw [List.length_map]
    walk_at "wx"
    refine ⟨rfl, _, _, _, rfl, by omega, by omega, ?_⟩
    rw [show (0 : Int) + (i : Nat) = (i : Nat) by omega]
    exact ⟨rfl, rfl⟩
  have es : ((List.range ps.length).map fun i : Nat => D.int (shareZ b (i : Nat) (ps.length : Nat))) = (sharesL b ps.length).map D.int := by unfold sharesL; rw [List.map_map]; rfl
  rw [es]
  have hsl : (sharesL b ps.length).length = ps.length := by unfold sharesL; rw [List.length_map, List.length_range]
  walk_at "wx"
  dsimp only [List.set]
  walk_at "wx"
  refine sorted_i (ns := sharesL b ps.length) rfl (.inl ?_)
  walk_at "wx"
  refine we_lcm (α := Str × Int) (keeps_tup (keeps_cons (keeps_name (by simp)) (keeps_cons (keeps_name (by simp)) keeps_nil mono_name) mono_name)) (wi_any ?_)
  walk_at "wx"
  refine ⟨_, rfl, ps, pairD, fun p => .int p.2, rfl, Nat.le_trans hhi (by decide), fun p hp S' hS => ?_, .inl ?_⟩
  · unfold pairD
    walk_at "wx"
    dsimp only [wipeE, List.set]
    walk_at "wx"
    exact ⟨rfl, rfl⟩
  walk_at "wx"
  refine sorted_i (ns := ps.map (·.2)) (by rw [asL_lst, List.map_map]; rfl) (.inl ?_)
  walk_at "wx"
  refine ne_lstI (xs := sortI (sharesL b ps.length)) (ys := sortI (ps.map (·.2))) rfl rfl ?_
  walk_at "wx"
  refine br_n (fun he => ?_) fun he => ?_
  · walk_at "wx"
    unfold ordD at hq
    rw [if_neg he] at hq
    exact hq
  walk_at "wx"
  refine we_lst ?_
  walk_at "wx"
  intro p hp
  walk_at "wx"
  refine .inr ⟨_, sharesL b ps.length, rfl, rfl, by simp [asL], by omega, fun m hm1 hm2 => ?_⟩
  have hmax := shares_max hb (by omega) hm1 hm2
  walk_at "wx"
  refine ⟨_, _, rfl, ?_⟩
  dsimp only [List.set]
  walk_at "wx"
  refine ws_forL (α := Int) (wi_any (WE.imp (Q := fun x S1 => ∃ L : List Int, x = .lst (L.map D.int) ∧ S1 = S.upd p (.lst []) ∧ ((over b ps.length = 0 ∧ L = [b / (ps.length : Nat)]) ∨ (0 < over b ps.length ∧ L = [b / (ps.length : Nat) + 1, b / (ps.length : Nat)]))) ?_ fun x S1 ⟨L, hx, hS, hL⟩ => ?_))
  · walk_at "wx"
    refine .inr ⟨_, sharesL b ps.length, rfl, rfl, by simp [asL], by omega, fun m2 hm3 hm4 => ?_⟩
    have hmin := shares_min hb (by omega) hm3 hm4
    subst hmin
    walk_at "wx"
    refine br_p (fun h => ?_) fun h => ?_
    · walk_at "wx"
      refine we_lstS ?_
      walk_at "wx"
      exact ⟨[b / (ps.length : Nat)], by rw [h]; rfl, rfl, .inl ⟨by rcases hmax with ⟨e, _⟩ | ⟨_, e⟩ <;> omega, rfl⟩⟩
    · walk_at "wx"
      refine we_lstS ?_
      walk_at "wx"
      refine .inr ⟨_, sharesL b ps.length, rfl, rfl, by simp [asL], by omega, fun m3 hm5 hm6 => ?_⟩
      have hmin2 := shares_min hb (by omega) hm5 hm6
      subst hmin2
      walk_at "wx"
      rcases hmax with ⟨e1, e2⟩ | ⟨e1, e2⟩
      · exact absurd e2 h
      · exact ⟨[b / (ps.length : Nat) + 1, b / (ps.length : Nat)], by rw [e2]; rfl, rfl, .inr ⟨e1, rfl⟩⟩
  subst hx hS
  have hLl : L.length ≤ 2 := by rcases hL with ⟨_, e⟩ | ⟨_, e⟩ <;> rw [e] <;> simp
  refine ⟨_, rfl, L, D.int, fun pre δ' S' => ∃ u v w, δ' = [some (.int b), some (.tup (ps.map pairD)), some (.lst ((sharesL b ps.length).map D.int)), u, none, some (.ref p), some (.int m), none, none, none, v, w] ∧ S' = S.upd p (.lst (pre.map fun c => .tup ((whoP ps c).map D.str))), rfl, ⟨_, _, _, rfl, rfl⟩, fun pre c post δ' S' hx hI => ?_, fun δ' S' hI => ?_⟩
  · obtain ⟨u, v, w, rfl, rfl⟩ := hI
    have hpl := congrArg List.length hx
    rw [List.length_append, List.length_cons] at hpl
    walk_at "wx"
    dsimp only [List.set]
    walk_at "wx"
    refine we_bm ?_
    walk_at "wx"
    refine ⟨.inl ⟨rfl, by rw [asL_ref upd_at]; simp⟩, ?_⟩
    walk_at "wx"
    refine we_lcf (α := Str × Int) (keeps_tup (keeps_cons (keeps_name (by simp)) (keeps_cons (keeps_name (by simp)) keeps_nil mono_name) mono_name)) (wi_any ?_)
    walk_at "wx"
    refine ⟨_, rfl, ps, pairD, fun p => decide (p.2 = c), fun p => .str p.1, rfl, Nat.le_trans hhi (by decide), fun p hp S' hS => ?_, .inl ?_⟩
    · unfold pairD
      walk_at "wx"
      dsimp only [wipeE, List.set]
      walk_at "wx"
      refine br_mk (fun h2 => ?_) fun h2 => ?_
      · walk_at "wx"
        exact ⟨rfl, h2, rfl⟩
      · exact ⟨rfl, h2⟩
    have ew : ((ps.filter fun p => decide (p.2 = c)).map fun p => D.str p.1) = (whoP ps c).map D.str := by unfold whoP; rw [List.map_map]; rfl
    rw [ew]
    have hwl := who_len ps c
    walk_at "wx"
    refine ⟨_, _, rfl, asQ_lst, .inr (by simp [asL]), ?_⟩
    walk_at "wx"
    refine ⟨p, _, _, rfl, rfl, upd_at, ?_, ?_⟩
    · rw [List.length_map]; exact Nat.lt_of_lt_of_le (show pre.length < 3 by omega) (by decide)
    rw [upd_twice]
    exact ⟨_, _, _, rfl, by rw [List.map_append]; rfl⟩
  · obtain ⟨u, v, w, rfl, rfl⟩ := hI
    refine WS.freezeV 5 rfl upd_at ?_
    rw [del_upd hp]
    dsimp only [List.set]
    walk_at "wx"
    dsimp only [List.set]
    refine ws_forL (α := Int) (wi_any ?_)
    walk_at "wx"
    refine ⟨_, rfl, L, fun c => .tup ((whoP ps c).map D.str), fun pre δ' S' => ∃ u4, δ' = [some (.int b), some (.tup (ps.map pairD)), some (.lst ((sharesL b ps.length).map D.int)), u, u4, some (.lst (L.map fun c => .tup ((whoP ps c).map D.str))), some (.int m), some (.int (numL ps pre)), some (.tup ((ordL ps pre).map D.str)), none, v, w] ∧ S' = S, rfl, ⟨_, rfl, rfl⟩, fun pre c post δ' S' hx hI => ?_, fun δ' S' hI => ?_⟩
    · obtain ⟨u4, rfl, rfl⟩ := hI
      have hpl := congrArg List.length hx
      rw [List.length_append, List.length_cons] at hpl
      have hwl := who_len ps c
      have hn : 0 < numL ps pre ∧ numL ps pre ≤ 40320 ∧ (ordL ps pre).length ≤ 8 := by
        match pre, hpl with
        | [], _ => exact ⟨(show (0 : Int) < 1 by decide), (show (1 : Int) ≤ 40320 by decide), Nat.zero_le _⟩
        | [d], _ =>
          have e := numL_snoc ps [] d
          have e2 := ordL_snoc ps [] d
          have hd := who_len ps d
          have f1 := fac_pos (whoP ps d).length
          have f2 := fac_le (n := (whoP ps d).length) (by omega)
          rw [List.nil_append] at e e2
          rw [e, e2]
          show 0 < 1 * fac (whoP ps d).length ∧ 1 * fac (whoP ps d).length ≤ 40320 ∧ ([] ++ whoP ps d).length ≤ 8
          rw [Int.one_mul, List.nil_append]
          exact ⟨f1, f2, by omega⟩
        | _ :: _ :: _, h => exfalso; simp at h; omega
      obtain ⟨hn1, hn2, hn3⟩ := hn
      walk_at "wx"
      dsimp only [List.set]
      walk_at "wx"
      refine .inl ⟨_, _, rfl, asQ_tup, ?_⟩
      rw [List.length_map]
      walk_at "wx"
      refine ⟨rfl, _, rfl, by omega, ?_⟩
      walk_at "wx"
      refine add_tup (by rw [List.length_map, List.length_map]; exact Nat.le_trans (show (ordL ps pre).length + (whoP ps c).length ≤ 16 by omega) (by decide)) ?_
      walk_at "wx"
      refine ⟨_, _, rfl, ?_⟩
      exact ⟨some (.tup ((whoP ps c).map D.str)), by rw [numL_snoc, ordL_snoc, List.map_append], rfl⟩
    · obtain ⟨u4, rfl, rfl⟩ := hI
      walk_at "wx"
      rw [ord_of hb hk he hL] at hq
      exact hq

end
end Paid

set_option Elab.async false
set_option linter.all false
set_option maxRecDepth 100000
set_option maxHeartbeats 4000000
namespace Paid
open PySem PySem.Spec PyProof L2 RZ PL
local macro_rules | `(tactic| walk_at "in_list") => `(tactic| repeat (first | exact List.Mem.head _ | refine List.Mem.tail _ ?_))
local macro_rules | `(tactic| walk_at "wx1") => `(tactic| first
  | (with_reducible refine ws_seq ?_)
  | ((with_reducible refine' we_var ?hv ?_); (case hv => rfl))
  | (with_reducible refine we_int ?_)
  | (with_reducible refine we_op2 ?_)
  | (with_reducible refine add_int ?_)
  | (with_reducible refine sub_int ?_)
  | (with_reducible refine ws_set ?_)
  | (with_reducible refine ws_ret ?_)
  | (with_reducible refine ws_if ?_)
  | (with_reducible refine ws_next ?_)
  | (with_reducible refine we_cbA ?_)
  | (with_reducible refine wa_cons ?_)
  | (with_reducible refine wa_nil ?_)
  | (with_reducible refine we_call ?_)
  | (with_reducible refine we_callN ?_)
  | ((with_reducible refine' is_xc ?hc ?hm ?_); (case hc => assumption); (case hm => walk_at "in_list"))
  | (with_reducible refine we_ref ?_)
  | ((with_reducible refine' we_callX ?hE ?_); (case hE => assumption))
  | ((with_reducible refine' ws_raise ?hE ?_); (case hE => assumption))
  | (with_reducible refine wt_test ?_)
  | (with_reducible refine isB_mk ?_)
  | (with_reducible refine isI_mk ?_)
  | (with_reducible refine wt_B ?_)
  | (with_reducible refine wt_and ?_)
  | (with_reducible refine wt_or ?_)
  | (with_reducible refine wt_not ?_)
  | (with_reducible refine we_andV ?_)
  | (with_reducible refine we_orV ?_)
  | (with_reducible refine we_notV ?_)
  | (with_reducible refine we_if ?_)
  | (with_reducible refine we_chain2 ?_)
  | (with_reducible refine we_str ?_)
  | (with_reducible refine we_bl ?_)
  | (with_reducible refine we_non ?_)
  | (with_reducible refine we_ty ?_)
  | (with_reducible refine we_tup ?_)
  | (with_reducible refine we_key ?_)
  | ((with_reducible refine lz_mk ?hz ?_); (case hz => exact Nat.le_of_ble_eq_true rfl))
  | (with_reducible refine eq_int ?_)
  | (with_reducible refine eq_bl ?_)
  | (with_reducible refine ne_bl ?_)
  | (with_reducible refine ne_int ?_)
  | (with_reducible refine lt_int ?_)
  | (with_reducible refine le_int ?_)
  | (with_reducible refine gt_int ?_)
  | (with_reducible refine ge_int ?_)
  | ((with_reducible refine div_int ?h1 ?h2 ?_); (case h1 => omega); (case h2 => omega))
  | ((with_reducible refine mod_int ?h1 ?_); (case h1 => omega))
  | ((with_reducible refine mul_int ?h1 ?h2 ?_); (case h1 => omega); (case h2 => omega))
  | ((with_reducible refine mul_intR ?h1 ?h2 ?_); (case h1 => omega); (case h2 => omega))
  | (with_reducible refine ws_drop ?_)
  | (with_reducible refine ws_par ?_)
  | (with_reducible refine ws_asg ?_)
  | (with_reducible refine wg_name ?_)
  | ((with_reducible refine wg_tup ?hn ?_); (case hn => rfl))
  | ((with_reducible refine wg_key ?hn ?_); (case hn => rfl))
  | (with_reducible refine wgs_cons ?_)
  | (with_reducible refine wgs_nil ?_)
  | (with_reducible refine we_sl ?_)
  | (with_reducible refine wo_none ?_)
  | (with_reducible refine wo_some ?_)
  | (with_reducible refine wt_chainN ?_)
  | (with_reducible refine wk_cons ?_)
  | (with_reducible refine wk_last ?_)
  | (with_reducible refine we_lenSetD ?_)
  | (with_reducible refine we_revL ?_)
  | (with_reducible refine we_dget ?_)
  | (with_reducible refine wt_yes ?_)
  | (with_reducible refine isn_y ?_)
  | (with_reducible refine isn_tup ?_)
  | (with_reducible refine isn_lst ?_)
  | (with_reducible refine isn_int ?_)
  | (with_reducible refine isn_ref ?_)
  | (with_reducible refine nn_y ?_)
  | (with_reducible refine nn_tup ?_)
  | (with_reducible refine nn_lst ?_)
  | (with_reducible refine nn_int ?_)
  | (with_reducible refine nn_ref ?_)
  | (with_reducible refine is_non ?_)
  | (with_reducible refine neg_int ?_)
  | (with_reducible refine we_un1 ?_)
  | (with_reducible refine br_t ?_)
  | (with_reducible refine br_f ?_)
  | (with_reducible refine br_nt ?_)
  | (with_reducible refine br_nf ?_)
  | (with_reducible refine ws_retN ?_))
local macro_rules | `(tactic| walk_at "wx") => `(tactic| repeat walk_at "wx1")
local macro_rules | `(tactic| walk_at "w0") => `(tactic| dsimp only [cxOf, startE, List.map, List.length_cons, List.length_nil, List.replicate, List.cons_append, List.nil_append, List.append_nil, List.append_eq, HAppend.hAppend, Append.append, List.append, Nat.sub_self, Nat.reduceAdd, Nat.reduceSub])
local macro_rules | `(tactic| walk_at "wxS") => `(tactic| repeat first | (with_reducible refine we_lstS ?_) | walk_at "wx1")
local macro_rules | `(tactic| walk_at "kin") => `(tactic| (walk_at "wxS"; refine ne_dat rfl rfl (by decide +kernel) (by decide +kernel) (c := true) (by decide +kernel) ?_; walk_at "wx"))
section
variable {P : Program} {w : World} {K : PySem.W.Frag} {mg : Str → Option Value} {base : Heap} {ad : Nat → Addr} {fd : Nat → FuncData}
theorem ok_law (T : Tx K mg ad fd) (TB : TbT base mg ad) : FnOk P w K mg base CX0 22 (ad 40) (fd 40) ["script"] (spF K 1 (phLawT [(ad 2040, "law.<locals>.<lambda>")])) := by
  refine okFM T.f40.F T.m40 sc_law fun A outer s H E hr => ⟨_, (pss_cons (ps_for PassesOwn.never rfl (pi_anyK K rfl (pe_call (ok_law_bags (P := P) (w := w) (K := K) (mg := mg) (base := base) T) (hr.mono (by decide)) (by rfl) T.f32.g T.f32.F.kp T.f32.b .nil pass0 (pa_cons (pv 0) (pa_cons pe_int pa_nil)))) (pg_name (i := 1) sc_law.nd rfl (.inl rfl)) (pss_cons (ps_set (i := 8) sc_law.nd rfl (.inl rfl) (pe_op (opK K rfl opAdd) pe_int (pe_call (ok_law_take (P := P) (w := w) (K := K) (mg := mg) (base := base) T) (hr.mono (by decide)) (by rfl) T.f33.g T.f33.F.kp T.f33.b .nil pass0 (pa_cons (pv 1) (pa_cons pe_int pa_nil)))))
      (pss_cons (ps_set (i := 2) sc_law.nd rfl (.inr rfl) (pe_callTy (crK K rfl cTuple) (by rfl) T.tuple (by decide +kernel) (pa_cons (pe_callB (crK K rfl (cSorted hr.units)) (by rfl) T.sorted (by decide +kernel) (pa_cons (pe_lc (own := [("place", 16)]) rfl sc_law.nd (pi_anyK K rfl (pe_slice (slK K rfl slR) (pe_call (ok_law_mixed (P := P) (w := w) (K := K) (mg := mg) (base := base) T) (hr.mono (by decide)) (by rfl) T.f35.g T.f35.F.kp T.f35.b .nil pass0 (pa_cons (pv 1) (pa_cons pe_int pa_nil))) po_none (po_some (pv 8)))) (blkOk_by (N := ["script", "bag", "names", "eight", "bads", "bad", "nine", "odd", "many", "bills", "order", "table", "known", "good", "row", "name", "place", "cents"]) (sc := defScope s_law) (by decide +kernel)) (fun _ _ _ _ _ => (pg_name (i := 16) sc_law.nd rfl (.inl rfl))) (fun _ _ _ _ _ => pts_nil) (fun _ _ _ _ _ => (pe_ix (ixK K rfl ixR) (pe_call (ok_law_names (P := P) (w := w) (K := K) (mg := mg) (base := base) T) (hr.mono (by decide)) (by rfl) T.f36.g T.f36.F.kp T.f36.b .nil pass0 (pa_cons pe_int pa_nil)) (pe_op (opK K rfl opSub) (pv 16) pe_int) (fun _ _ => rfl)))) pa_nil)) pa_nil)))
      (pss_cons (ps_set (i := 9) sc_law.nd rfl (.inl rfl) (pe_ix (ixK K rfl ixR) (pe_lst (pa_cons (pe_call (ok_law_take (P := P) (w := w) (K := K) (mg := mg) (base := base) T) (hr.mono (by decide)) (by rfl) T.f33.g T.f33.F.kp T.f33.b .nil pass0 (pa_cons (pv 1) (pa_cons pe_int pa_nil))) (pa_cons (pe_call (ok_law_far_draw (P := P) (w := w) (K := K) (mg := mg) (base := base) T) (hr.mono (by decide)) (by rfl) T.f34.g T.f34.F.kp T.f34.b .nil pass0 (pa_cons (pv 1) (pa_cons (pe_powc (k := 1000000000000000000) ⟨by decide, by decide, by decide⟩ (by decide)) pa_nil))) pa_nil))) (pe_call (ok_law_take (P := P) (w := w) (K := K) (mg := mg) (base := base) T) (hr.mono (by decide)) (by rfl) T.f33.g T.f33.F.kp T.f33.b .nil pass0 (pa_cons (pv 1) (pa_cons pe_int pa_nil))) (fun _ _ => rfl)))
      (pss_cons (ps_setLc (i := 10) (own := [("place", 16)]) rfl sc_law.nd rfl rfl (sw_true rfl rfl rfl (by decide +kernel)) (pi_anyK K rfl (pe_call (ok_law_mixed (P := P) (w := w) (K := K) (mg := mg) (base := base) T) (hr.mono (by decide)) (by rfl) T.f35.g T.f35.F.kp T.f35.b .nil pass0 (pa_cons (pv 1) (pa_cons (pv 8) pa_nil)))) (blkOk_by (N := ["script", "bag", "names", "eight", "bads", "bad", "nine", "odd", "many", "bills", "order", "table", "known", "good", "row", "name", "place", "cents"]) (sc := defScope s_law) (by decide +kernel)) (fun _ _ _ _ _ => (pg_name (i := 16) sc_law.nd rfl (.inl rfl))) (fun _ _ _ _ _ => pts_nil) (fun _ _ _ _ _ => (pe_ix (ixK K rfl ixR) (pv 2) (pe_op (opK K rfl opSub) (pv 16) pe_int) (fun _ _ => rfl))))
      (pss_cons (ps_set (i := 11) sc_law.nd rfl (.inr rfl) (pe_dictZipK (K := K) rfl rfl (by rfl) T.dict (by rfl) T.zip (pa_cons (pv 10) (pa_cons (pe_call (ok_law_shares (P := P) (w := w) (K := K) (mg := mg) (base := base) T) (hr.mono (by decide)) (by rfl) T.f37.g T.f37.F.kp T.f37.b .nil pass0 (pa_cons (pv 9) (pa_cons (pv 8) pa_nil))) pa_nil))))
      (pss_cons (ps_if (pt_cmpR (opK K rfl (opEq hr.units)) (pe_call (ok_law_take (P := P) (w := w) (K := K) (mg := mg) (base := base) T) (hr.mono (by decide)) (by rfl) T.f33.g T.f33.F.kp T.f33.b .nil pass0 (pa_cons (pv 1) (pa_cons pe_int pa_nil))) pe_int (nomark _)) (pss_cons (ps_set (i := 15) sc_law.nd rfl (.inl rfl) (pe_ix (ixK K rfl ixR) (pv 2) (pe_call (ok_law_take (P := P) (w := w) (K := K) (mg := mg) (base := base) T) (hr.mono (by decide)) (by rfl) T.f33.g T.f33.F.kp T.f33.b .nil pass0 (pa_cons (pv 1) (pa_cons (pv 8) pa_nil))) (fun _ _ => rfl)))
        (pss_one (ps_dput (hu_of hr) (pv 11) (pv 15) (pe_callB (crK K rfl (cMax rfl)) (by rfl) T.max (by decide +kernel) (pa_cons pe_int (pa_cons (pe_op (opK K rfl opAdd) (pe_dget (hu_of hr) (pv 11) (pv 15) (fun _ _ => rfl)) (pe_ix (ixK K rfl ixR) (pe_lst (pa_cons pe_int (pa_cons (pe_negc (k := -1) (by decide)) pa_nil))) (pe_call (ok_law_take (P := P) (w := w) (K := K) (mg := mg) (base := base) T) (hr.mono (by decide)) (by rfl) T.f33.g T.f33.F.kp T.f33.b .nil pass0 (pa_cons (pv 1) (pa_cons pe_int pa_nil))) (fun _ _ => rfl))) pa_nil))) rfl))) pss_nil)
      (pss_cons (ps_set (i := 12) sc_law.nd rfl (.inl rfl) (pe_callTy (crK K rfl cTuple) (by rfl) T.tuple (by decide +kernel) (pa_cons (pe_lc (own := [("name", 15)]) rfl sc_law.nd (pi_anyK K rfl (pv 2)) (blkOk_by (N := ["script", "bag", "names", "eight", "bads", "bad", "nine", "odd", "many", "bills", "order", "table", "known", "good", "row", "name", "place", "cents"]) (sc := defScope s_law) (by decide +kernel)) (fun _ _ _ _ _ => (pg_name (i := 15) sc_law.nd rfl (.inl rfl))) (fun _ _ _ _ _ => pts_nil) (fun _ _ _ _ _ => (pe_tupC (pa_cons (pv 15) (pa_cons (pe_dget (hu_of hr) (pv 11) (pv 15) (fun _ _ => rfl)) pa_nil))))) pa_nil)))
      (pss_cons (ps_set (i := 13) sc_law.nd rfl (.inl rfl) (pe_lst pa_nil))
      (pss_cons (ps_for PassesOwn.never rfl (pi_anyK K rfl (pe_call (ok_law_orders (P := P) (w := w) (K := K) (mg := mg) (base := base) T) (hr.mono (by decide)) (by rfl) T.f39.g T.f39.F.kp T.f39.b .nil pass0 (pa_cons (pv 2) pa_nil))) (pg_name (i := 14) sc_law.nd rfl (.inl rfl)) (pss_one (ps_if (pt_cmpR (opK K rfl (opEq hr.units)) (pe_lc (own := [("name", 15), ("cents", 17)]) rfl sc_law.nd (pi_zipMK K rfl (by rfl) T.zip (pa_cons (pv 14) (pa_cons (pe_call (ok_law_shares (P := P) (w := w) (K := K) (mg := mg) (base := base) T) (hr.mono (by decide)) (by rfl) T.f37.g T.f37.F.kp T.f37.b .nil pass0 (pa_cons (pv 9) (pa_cons (pv 8) pa_nil))) pa_nil))) (blkOk_by (N := ["script", "bag", "names", "eight", "bads", "bad", "nine", "odd", "many", "bills", "order", "table", "known", "good", "row", "name", "place", "cents"]) (sc := defScope s_law) (by decide +kernel)) (fun _ _ _ _ _ => (pg_tupK K (n := 2) rfl rfl (pgs_cons (pg_name (i := 15) sc_law.nd rfl (.inl rfl)) (pgs_cons (pg_name (i := 17) sc_law.nd rfl (.inl rfl)) pgs_nil)))) (fun _ _ _ _ _ => (pts_one (pt_cmpR (opK K rfl (opNe hr.units)) (pe_dget (hu_of hr) (pv 11) (pv 15) (fun _ _ => rfl)) (pv 17) (nomark _)))) (fun _ _ _ _ _ => pe_int)) (pe_lst pa_nil) (nomark _)) (pss_one (ps_expr (pe_bm PySem.F.plainAttrs_list PySem.F.slot_list_append PySem.F.type_list_append (mmK K rfl mAppend) (pv 13) (pa_cons (pv 14) pa_nil)))) pss_nil)))
      (pss_one (ps_if (pt_cmpR (opK K rfl (opNe hr.units)) (pe_call (E := E0) (ok_orders (P := P) (w := w) (K := K) (mg := mg) (base := base) T) (hr.mono (by decide)) (by rfl) T.f27.g T.f27.F.kp T.f27.b .nil passN (pa_cons (pv 9) (pa_cons (pv 12) pa_nil))) (pe_tupC (pa_cons (pe_callB (crK K rfl cLen) (by rfl) T.len (by decide +kernel) (pa_cons (pv 13) pa_nil)) (pa_cons (pe_ix (ixK K rfl ixR) (pe_op (opK K rfl opAdd) (pe_callB (crK K rfl (cSorted hr.units)) (by rfl) T.sorted (by decide +kernel) (pa_cons (pv 13) pa_nil)) (pe_lst (pa_cons pe_non pa_nil))) pe_int (fun _ _ => rfl)) pa_nil))) (nomark _)) (pss_one (ps_ret pe_bl)) pss_nil))))))))))))
    (pss_cons (ps_set (i := 2) sc_law.nd rfl (.inr rfl) (pe_callB (crK K rfl (cSorted hr.units)) (by rfl) T.sorted (by decide +kernel) (pa_cons (pe_call (ok_law_names (P := P) (w := w) (K := K) (mg := mg) (base := base) T) (hr.mono (by decide)) (by rfl) T.f36.g T.f36.F.kp T.f36.b .nil pass0 (pa_cons pe_int pa_nil)) pa_nil)))
    (pss_cons (ps_set (i := 3) sc_law.nd rfl (.inl rfl) (pe_callTy (crK K rfl cTuple) (by rfl) T.tuple (by decide +kernel) (pa_cons (pe_lc (own := [("place", 16), ("name", 15)]) rfl sc_law.nd (pi_enumK K rfl (by rfl) T.enumerate (pa_cons (pv 2) pa_nil)) (blkOk_by (N := ["script", "bag", "names", "eight", "bads", "bad", "nine", "odd", "many", "bills", "order", "table", "known", "good", "row", "name", "place", "cents"]) (sc := defScope s_law) (by decide +kernel)) (fun _ _ _ _ _ => (pg_tupK K (n := 2) rfl rfl (pgs_cons (pg_name (i := 16) sc_law.nd rfl (.inl rfl)) (pgs_cons (pg_name (i := 15) sc_law.nd rfl (.inl rfl)) pgs_nil)))) (fun _ _ _ _ _ => pts_nil) (fun _ _ _ _ _ => (pe_tupC (pa_cons (pv 15) (pa_cons (pe_op (opK K rfl opAdd) pe_int (pe_callTy (crK K rfl cInt) (by rfl) T.int (by decide +kernel) (pa_cons (pe_cmpR (opK K rfl opGt) (pv 16) pe_int (nomark _)) pa_nil))) pa_nil))))) pa_nil)))
    (pss_cons (ps_if (pt_cmpR (opK K rfl (opNe hr.units)) (pe_call (E := E0) (ok_orders (P := P) (w := w) (K := K) (mg := mg) (base := base) T) (hr.mono (by decide)) (by rfl) T.f27.g T.f27.F.kp T.f27.b .nil passN (pa_cons pe_int (pa_cons (pv 3) pa_nil))) (pe_tupC (pa_cons pe_int (pa_cons (pe_callTy (crK K rfl cTuple) (by rfl) T.tuple (by decide +kernel) (pa_cons (pe_op (opK K rfl opAdd) (pe_slice (slK K rfl slR) (pv 2) (po_some pe_int) po_none) (pe_slice (slK K rfl slR) (pv 2) po_none (po_some pe_int))) pa_nil)) pa_nil))) (nomark _)) (pss_one (ps_ret pe_bl)) pss_nil)
    (pss_cons (ps_set (i := 4) sc_law.nd rfl (.inl rfl) (pe_lst (pa_cons pe_non (pa_cons (pe_tupC pa_nil) (pa_cons (pe_lst (pa_cons (pe_tupC (pa_cons pe_str (pa_cons pe_int pa_nil))) pa_nil)) (pa_cons (pe_tupC (pa_cons (pe_tupC (pa_cons pe_str (pa_cons pe_int pa_nil))) (pa_cons (pe_tupC (pa_cons pe_str (pa_cons pe_int pa_nil))) pa_nil))) (pa_cons (pe_tupC (pa_cons (pe_tupC (pa_cons pe_str (pa_cons pe_int pa_nil))) (pa_cons (pe_tupC (pa_cons pe_str (pa_cons pe_int pa_nil))) pa_nil))) (pa_cons (pe_tupC (pa_cons (pe_tupC (pa_cons pe_str (pa_cons pe_int pa_nil))) pa_nil)) pa_nil))))))))
    (pss_cons (ps_for PassesOwn.never rfl (pi_anyK K rfl (pe_op (opK K rfl opAdd) (pv 4) (pe_lst (pa_cons (pe_tupC (pa_cons (pe_tupC (pa_cons pe_str (pa_cons (pe_negc (k := -1) (by decide)) pa_nil))) pa_nil)) (pa_cons (pe_tupC (pa_cons (pe_tupC (pa_cons pe_str pa_nil)) pa_nil)) pa_nil))))) (pg_name (i := 5) sc_law.nd rfl (.inl rfl)) (pss_one (ps_if (pt_cmpR (opK K rfl (opNe hr.units)) (pe_call (ok_law_refused (P := P) (w := w) (K := K) (mg := mg) (base := base) T) (hr.mono (by decide)) (by rfl) T.f38.g T.f38.F.kp T.f38.b .nil pass0 (pa_cons (pe_lamK (q := "law.<locals>.<lambda>") TB.t40 rfl rfl (by decide +kernel) rfl rfl) (pa_cons pe_int (pa_cons (pv 5) (pa_cons pe_int pa_nil))))) (pe_lst (pa_cons pe_str (pa_cons pe_bl pa_nil))) (nomark _)) (pss_one (ps_ret pe_bl)) pss_nil)))
    (pss_cons (ps_set (i := 6) sc_law.nd rfl (.inl rfl) (pe_callTy (crK K rfl cTuple) (by rfl) T.tuple (by decide +kernel) (pa_cons (pe_lc (own := [("name", 15)]) rfl sc_law.nd (pi_anyK K rfl (pe_callB (crK K rfl (cSorted hr.units)) (by rfl) T.sorted (by decide +kernel) (pa_cons (pe_call (ok_law_names (P := P) (w := w) (K := K) (mg := mg) (base := base) T) (hr.mono (by decide)) (by rfl) T.f36.g T.f36.F.kp T.f36.b .nil pass0 (pa_cons pe_int pa_nil)) pa_nil))) (blkOk_by (N := ["script", "bag", "names", "eight", "bads", "bad", "nine", "odd", "many", "bills", "order", "table", "known", "good", "row", "name", "place", "cents"]) (sc := defScope s_law) (by decide +kernel)) (fun _ _ _ _ _ => (pg_name (i := 15) sc_law.nd rfl (.inl rfl))) (fun _ _ _ _ _ => pts_nil) (fun _ _ _ _ _ => (pe_tupC (pa_cons (pv 15) (pa_cons pe_int pa_nil))))) pa_nil)))
    (pss_cons (ps_for PassesOwn.never rfl (pi_anyK K rfl (pe_tupC (pa_cons (pe_negc (k := -1) (by decide)) (pa_cons (pe_op (opK K rfl opAdd) (pe_powc (k := 1000000000000000000) ⟨by decide, by decide, by decide⟩ (by decide)) pe_int) (pa_cons pe_bl (pa_cons pe_non pa_nil)))))) (pg_name (i := 7) sc_law.nd rfl (.inl rfl)) (pss_one (ps_if (pt_cmpR (opK K rfl (opNe hr.units)) (pe_call (ok_law_refused (P := P) (w := w) (K := K) (mg := mg) (base := base) T) (hr.mono (by decide)) (by rfl) T.f38.g T.f38.F.kp T.f38.b .nil pass0 (pa_cons (pe_lamK (q := "law.<locals>.<lambda>") TB.t40 rfl rfl (by decide +kernel) rfl rfl) (pa_cons (pv 7) (pa_cons pe_non (pa_cons pe_int pa_nil))))) (pe_lst (pa_cons pe_str (pa_cons pe_bl pa_nil))) (nomark _)) (pss_one (ps_ret pe_bl)) pss_nil)))
    (pss_cons (ps_if (pt_cmpR (opK K rfl (opNe hr.units)) (pe_call (ok_law_refused (P := P) (w := w) (K := K) (mg := mg) (base := base) T) (hr.mono (by decide)) (by rfl) T.f38.g T.f38.F.kp T.f38.b .nil pass0 (pa_cons (pe_lamK (q := "law.<locals>.<lambda>") TB.t40 rfl rfl (by decide +kernel) rfl rfl) (pa_cons pe_int (pa_cons (pv 6) (pa_cons pe_int pa_nil))))) (pe_lst (pa_cons pe_str (pa_cons pe_bl pa_nil))) (nomark _)) (pss_one (ps_ret pe_bl)) pss_nil)
    (pss_one (ps_ret (pe_cmpR (opK K rfl (opEq hr.units)) (pe_call (E := E0) (ok_orders (P := P) (w := w) (K := K) (mg := mg) (base := base) T) (hr.mono (by decide)) (by rfl) T.f27.g T.f27.F.kp T.f27.b .nil passN (pa_cons pe_int (pa_cons (pe_tupC (pa_cons (pe_tupC (pa_cons pe_str (pa_cons pe_int pa_nil))) pa_nil)) pa_nil))) (pe_tupC (pa_cons pe_int (pa_cons pe_non pa_nil))) (nomark _))))))))))))), fun ds S q hl h => ?_⟩
  obtain ⟨ns, rfl, h1, htabs, hq⟩ := h
  have ht2 : S (ad 2040) = some (.tab "law.<locals>.<lambda>") := htabs (_, _) (by walk_at "in_list")
  clear htabs
  walk_at "w0"
  walk_at "wx"
  refine ws_forL (α := Addr) (wi_any ?_)
  walk_at "wx"
  refine ⟨rfl, ns, 6, rfl, by omega, by omega, by omega, fun ps S1 hl hb hsub => ?_⟩
  refine ⟨_, rfl, ps, D.ref, fun pre δ' S' => (∃ u1 u2 u3 u4 u5 u6 u7 u8 u9 u10 u11 u12 u13 u14 u15 u16 u17, δ' = [some (.scr (ns.map D.int)), u1, u2, u3, u4, u5, u6, u7, u8, u9, u10, u11, u12, u13, u14, u15, u16, u17]) ∧ Bags S' ps ∧ S' (ad 2040) = some (.tab "law.<locals>.<lambda>"), rfl, ⟨⟨_, _, _, _, _, _, _, _, _, _, _, _, _, _, _, _, _, rfl⟩, hb, hsub _ _ ht2⟩, fun pre bag post δ' S0 hps hI => ?_, fun δ' S' hI => ?_⟩
  · obtain ⟨⟨u1, u2, u3, u4, u5, u6, u7, u8, u9, u10, u11, u12, u13, u14, u15, u16, u17, rfl⟩, hb0, ht2⟩ := hI
    have hbm : bag ∈ ps := by rw [hps]; simp
    obtain ⟨ms, n0, hbag⟩ := hb0 bag hbm
    walk_at "wx"
    try dsimp only [List.set]
    walk_at "wx"
    refine ⟨rfl, bag, ms, n0, _, rfl, hbag, by decide, fun r hr0 hr1 => ?_⟩
    have ht1 : Took S0 bag ms (S0.upd bag (bagO ms (n0 + 1))) := Took.one (by have := hbag.pos; omega)
    obtain ⟨n1, hbag1⟩ := ht1.bag hbag.len
    obtain ⟨m, hm, hm1, hm8⟩ : ∃ m : Nat, 1 + r = (m : Int) ∧ 1 ≤ m ∧ m ≤ 6 := ⟨(1 + r).toNat, by omega, by omega, by omega⟩
    walk_at "wx"
    rw [hm]
    try dsimp only [List.set]
    walk_at "wx"
    refine we_lcm (α := Int) (keeps_name (by simp)) (wi_any ?_)
    walk_at "wx"
    refine ⟨rfl, bag, ms, n1, 20, rfl, hbag1, by omega, fun qs S1 hqs ht2' => ?_⟩
    walk_at "wx"
    refine sl_t ?_
    rw [cut_to, ← List.map_take]
    refine ⟨_, rfl, qs.take m, D.int, fun i => .str (nameAt i), rfl, ?_, fun i hi S' hS => ?_, .inl ?_⟩
    · exact Nat.le_trans (List.length_take_le _ _) (Nat.le_trans (show m ≤ 1000 by omega) (by decide))
    · obtain ⟨h1, h2⟩ := mixed_mem hqs (List.mem_of_mem_take hi)
      walk_at "wx"
      dsimp only [wipeE, List.set]
      walk_at "wx"
      obtain ⟨j, hj⟩ : ∃ j : Nat, i - 1 = j := ⟨(i - 1).toNat, by omega⟩
      refine ⟨rfl, 20, rfl, by omega, .inl ?_⟩
      walk_at "wx"
      rw [hj]
      exact ix_qn asQ_lst (name_at20 hj (by omega)) ⟨rfl, rfl⟩
    have eL : ((qs.take m).map fun i => D.str (nameAt i)) = ((qs.take m).map nameAt).map D.str := by rw [List.map_map]; rfl
    rw [eL]
    have hqm : ∀ i ∈ qs, 1 ≤ i ∧ i ≤ 20 := fun i hi => mixed_mem hqs hi
    have hql : qs.length = 20 := by rw [hqs.length_eq]; simp
    have hNn : ((qs.take m).map nameAt).Nodup := mixed_nodup hqs (by omega) _
    have hNm : ∀ z ∈ (qs.take m).map nameAt, z ∈ allN := fun z hz => by
      obtain ⟨i, hi, rfl⟩ := List.mem_map.mp hz
      obtain ⟨g1, g2⟩ := hqm i (List.mem_of_mem_take hi)
      exact nameAt_mem g1 (by omega)
    have hNl : ((qs.take m).map nameAt).length = m := by rw [List.length_map, List.length_take]; omega
    revert hNn hNm hNl
    generalize (qs.take m).map nameAt = N0
    intro hNn hNm hNl
    walk_at "wx"
    refine sorted_s (xs := N0) rfl (.inl ?_)
    walk_at "wx"
    refine ⟨_, _, rfl, asQ_lst, .inr (by simp [asL]), ?_⟩
    have hpn := sortS_perm N0
    have hNs := sortS_fix N0
    have hNn := hpn.nodup_iff.mpr hNn
    have hNl := hpn.length_eq.trans hNl
    have hNk : ∀ z ∈ sortS N0, nameOk z = true := fun z hz => allN_ok z (hNm z (hpn.mem_iff.mp hz))
    clear hNm hpn eL hqm
    revert hNn hNk hNl hNs
    generalize sortS N0 = N
    intro hNs hNn hNl hNk
    have hN := sortS_step hNn hNs
    have ht2' := ht1.trans ht2'
    obtain ⟨n2, hbag2⟩ := ht2'.bag hbag.len
    walk_at "wx"
    try dsimp only [List.set]
    walk_at "wx"
    refine we_lstS ?_
    walk_at "wx"
    refine ⟨rfl, bag, ms, n2, _, rfl, hbag2, by omega, fun v hv0 hv1 => ?_⟩
    have ht3 := ht2'.trans (Took.one (b := bag) (ns := ms) (n := n2 + 1) (by have := hbag2.pos; omega))
    obtain ⟨n3, hbag3⟩ := ht3.bag hbag.len
    walk_at "wx"
    refine ⟨rfl, bag, ms, n3, _, rfl, hbag3, by omega, fun f S4 hg0 hg1 ht4 => ?_⟩
    have ht4 := ht3.trans ht4
    obtain ⟨n4, hbag4⟩ := ht4.bag hbag.len
    walk_at "wx"
    refine ⟨rfl, bag, ms, n4, _, rfl, hbag4, by omega, fun w hw0 hw1 => ?_⟩
    have ht5 := ht4.trans (Took.one (b := bag) (ns := ms) (n := n4 + 1) (by have := hbag4.pos; omega))
    have hc : ∃ c : Int, atI [D.int v, D.int f] w = some (.int c) ∧ 0 ≤ c ∧ c < 1000000000000000000 := by
      rcases (show w = 0 ∨ w = 1 by omega) with rfl | rfl
      · exact ⟨v, rfl, by omega, by omega⟩
      · exact ⟨f, rfl, by omega, by omega⟩
    obtain ⟨b, hb1, hb2, hb3⟩ := hc
    refine ix_q asQ_lst hb1 ?_
    have hfz : farZ = 1000000000000000000 := rfl
    clear ht1 hbag1 ht2' hbag2 ht3 hbag3 ht4 hbag4 hv0 hv1 hg0 hg1 hw0 hw1 hb1 hr0 hr1 hm hqs hql
    revert ht5
    generalize S4.upd bag (bagO ms (n4 + 1)) = S5
    intro ht5
    obtain ⟨n5, hbag5⟩ := ht5.bag hbag.len
    walk_at "wx"
    try dsimp only [List.set]
    walk_at "wx"
    refine we_lcm (α := Int) (keeps_name (by simp)) (wi_any ?_)
    walk_at "wx"
    refine ⟨rfl, bag, ms, n5, m, rfl, hbag5, by omega, fun os S6 hos ht6 => ?_⟩
    refine ⟨_, rfl, os, D.int, fun i => .str (pick N i), rfl, ?_, fun i hi S' hS => ?_, .inl ?_⟩
    · rw [hos.length_eq]; simp; exact Nat.le_trans hm8 (by decide)
    · obtain ⟨h1, h2⟩ := mixed_mem hos hi
      walk_at "wx"
      dsimp only [wipeE, List.set]
      walk_at "wx"
      obtain ⟨j, hj⟩ : ∃ j : Nat, i - 1 = j := ⟨(i - 1).toNat, by omega⟩
      rw [hj]
      exact ix_qn asQ_tup (pick_at hj (by omega)) ⟨rfl, rfl⟩
    have eo : (os.map fun i => D.str (pick N i)) = (os.map (pick N)).map D.str := by rw [List.map_map]; rfl
    rw [eo]
    have hpo := pick_perm hos hNl
    clear eo hos
    revert hpo
    generalize os.map (pick N) = o
    intro hpo
    have ht6 := ht5.trans ht6
    clear ht5 hbag5
    have hon := hpo.nodup_iff.mpr hNn
    have hol := hpo.length_eq.trans hNl
    have hb6 := ht6.bags hbag.len hb0
    have htb6 := ht6.tab hbag ht2
    have hbag6 := ht6.bag hbag.len
    clear ht6 hbag ht2 hb0
    walk_at "wx"
    try dsimp only [List.set]
    walk_at "wx"
    refine we_dictZip ?_
    walk_at "wx"
    refine ⟨rfl, b, m, rfl, hb2, by omega, .inl ?_⟩
    rw [show sharesL b m = o.map (own b o) by rw [own_list hon, hol]]
    walk_at "wx"
    refine ⟨_, _, o.map Sum.inr, (o.map (own b o)).map D.int, rfl, ?_, asQ_lst, by simp, fun p hp => ?_⟩
    · rw [asQ_lst, List.map_map]; rfl
    rw [tab_merge hon]
    have hT0 := tells_rows (b := b) hon fun z hz => hpo.mem_iff.mpr hz
    have hkl0 : (tabD (rowsN b o)).length ≤ 6 := by unfold tabD rowsN; rw [List.length_map, List.length_map]; omega
    have hv0 : ∀ z ∈ N, 0 ≤ own b o z ∧ own b o z ≤ b := fun z hz => by
      have hi := List.idxOf_lt_length_of_mem (hpo.mem_iff.mpr hz)
      exact ⟨share_nonneg, share_le hb2 (by omega) (by omega)⟩
    have hne := hb6.ne hp
    have hs7 : Sub S6 (S6.upd p (.dK (tabD (rowsN b o)))) := Sub.new hp
    have hb7 := hb6.sub hs7
    have htb7 := hs7 _ _ htb6
    obtain ⟨n6, hbag6⟩ := hbag6
    have hbag7 := hbag6.sub hs7
    have hp7 : (S6.upd p (.dK (tabD (rowsN b o)))) p = some (.dK (tabD (rowsN b o))) := upd_at
    revert hT0 hkl0 hv0 hb7 htb7 hbag7 hp7
    generalize S6.upd p (.dK (tabD (rowsN b o))) = S7
    generalize tabD (rowsN b o) = kvs
    generalize own b o = val
    intro hT0 hkl0 hv0 hb7 htb7 hbag7 hp7
    clear hs7 hb6 htb6 hbag6 hp hpo hol hon
    have hpb : bag ≠ p := hne bag hbm
    try dsimp only [List.set]
    refine ws_seq ?_
    refine ws_mid (fun δ' S' => ∃ (u15 : Option D) (val : Str → Int) (kvs : List (Key × D)) (n : Int), δ' = [some (.scr (ns.map D.int)), some (.ref bag), some (.tup (N.map D.str)), u3, u4, u5, u6, u7, some (.int (m : Nat)), some (.int b), some (.lst (o.map D.str)), some (.ref p), u12, u13, u14, u15, u16, u17] ∧ Bags S' ps ∧ S' (ad 2040) = some (.tab "law.<locals>.<lambda>") ∧ BagAt S' bag ms n ∧ S' p = some (.dK kvs) ∧ kvs.length ≤ 7 ∧ Tells kvs N val ∧ ∀ z ∈ N, 0 ≤ val z ∧ val z ≤ farZ) ?_ ?_
    · walk_at "wx"
      refine ⟨rfl, bag, ms, _, _, rfl, hbag7, by decide, fun r hr0 hr1 => ?_⟩
      have hk8 : Took S7 bag ms (S7.upd bag (bagO ms (n6 + 1))) := Took.one (by have := hbag7.pos; omega)
      have hb8 := hk8.bags hbag7.len hb7
      have htb8 := hk8.tab hbag7 htb7
      have hp8 := hk8.keep hp7 hpb.symm
      obtain ⟨n8, hbag8⟩ := hk8.bag hbag7.len
      revert hb8 htb8 hp8 hbag8
      generalize S7.upd bag (bagO ms (n6 + 1)) = S8
      intro hb8 htb8 hp8 hbag8
      clear hk8 hb7 htb7 hp7 hbag7
      walk_at "wx"
      refine br_p (fun h => ?_) fun h => ?_
      rotate_left
      · walk_at "wx"
        exact ⟨_, val, kvs, _, rfl, hb8, htb8, hbag8, hp8, by omega, hT0, fun z hz => ⟨(hv0 z hz).1, by have := (hv0 z hz).2; omega⟩⟩
      walk_at "wx"
      refine ⟨rfl, bag, ms, _, m, rfl, hbag8, by omega, fun j hj0 hj1 => ?_⟩
      have hk9 : Took S8 bag ms (S8.upd bag (bagO ms (n8 + 1))) := Took.one (by have := hbag8.pos; omega)
      have hb9 := hk9.bags hbag8.len hb8
      have htb9 := hk9.tab hbag8 htb8
      have hp9 := hk9.keep hp8 hpb.symm
      obtain ⟨n9, hbag9⟩ := hk9.bag hbag8.len
      revert hb9 htb9 hp9 hbag9
      generalize S8.upd bag (bagO ms (n8 + 1)) = S9
      intro hb9 htb9 hp9 hbag9
      clear hk9 hb8 htb8 hp8 hbag8
      obtain ⟨z, hz, hzj⟩ := name_any (N := N) hj0 (by omega)
      refine ix_q asQ_tup hzj ?_
      walk_at "wx"
      try dsimp only [List.set]
      refine ws_dput ?_
      walk_at "wx"
      refine ⟨p, _, rfl, tells_has hT0 hp9 hz, ?_⟩
      walk_at "wx"
      refine we_lstS ?_
      walk_at "wx"
      refine ⟨rfl, bag, ms, _, _, rfl, hbag9, by decide, fun t ht0 ht1 => ?_⟩
      have hk10 : Took S9 bag ms (S9.upd bag (bagO ms (n9 + 1))) := Took.one (by have := hbag9.pos; omega)
      have hb10 := hk10.bags hbag9.len hb9
      have htb10 := hk10.tab hbag9 htb9
      have hp10 := hk10.keep hp9 hpb.symm
      obtain ⟨n10, hbag10⟩ := hk10.bag hbag9.len
      revert hb10 htb10 hp10 hbag10
      generalize S9.upd bag (bagO ms (n9 + 1)) = S10
      intro hb10 htb10 hp10 hbag10
      clear hk10 hb9 htb9 hp9 hbag9
      have hd : ∃ c : Int, atI [D.int 1, D.int (-1)] t = some (.int c) ∧ -1 ≤ c ∧ c ≤ 1 := by
        rcases (show t = 0 ∨ t = 1 by omega) with rfl | rfl
        · exact ⟨1, rfl, by omega, by omega⟩
        · exact ⟨-1, rfl, by omega, by omega⟩
      obtain ⟨c, hc0, hc1, hc2⟩ := hd
      refine ix_q asQ_lst hc0 ?_
      walk_at "wx"
      refine .inl ⟨_, _, rfl, ?_⟩
      walk_at "wx"
      refine ⟨p, _, rfl, PutsD.k (.inr z) _ hp10 (Nat.lt_of_le_of_lt hkl0 (by decide)), ?_⟩
      have hl' := put_lenK (kvs := kvs) (k := .inr z) (v := .int (if val z + c > 0 then val z + c else 0))
      have hz0 := hv0 z hz
      refine ⟨_, _, _, n10, rfl, hb10.upd hne, by rw [upd_off (fun e => by rw [e, hp10] at htb10; cases htb10)]; exact htb10, ⟨by rw [upd_off hpb]; exact hbag10.at', hbag10.len, hbag10.pos⟩, upd_at, by omega, tells_put hT0, fun y hy => ?_⟩
      have hy0 := hv0 y hy
      show 0 ≤ (if y = z then _ else val y) ∧ (if y = z then _ else val y) ≤ farZ
      split
      · split <;> omega
      · omega
    clear hT0 hkl0 hv0 hb7 htb7 hbag7 hp7
    rintro δ' S' ⟨u15, val, kvs, n7, rfl, hb7, htb7, hbag7, hp7, hkl, hT, hv⟩
    walk_at "wx"
    refine we_lcm (α := Str) (keeps_name (by simp)) (wi_any ?_)
    walk_at "wx"
    refine ⟨_, rfl, N, D.str, fun z => pairD (z, val z), rfl, Nat.le_trans (show N.length ≤ 6 by omega) (by decide), fun z hz S2 hS => ?_, .inl ?_⟩
    · walk_at "wx"
      dsimp only [wipeE, List.set]
      walk_at "wx"
      refine ⟨p, _, rfl, tells_has hT (hS _ _ hp7) hz, ?_⟩
      walk_at "wx"
      exact ⟨rfl, rfl⟩
    rw [show (N.map fun z => pairD (z, val z)) = (rowsV N val).map pairD by unfold rowsV; rw [List.map_map]; rfl]
    walk_at "wx"
    refine ⟨_, _, rfl, asQ_lst, .inr (by simp [asL]), ?_⟩
    walk_at "wx"
    try dsimp only [List.set]
    walk_at "wx"
    refine we_lst ?_
    walk_at "wx"
    intro p2 hp2
    try dsimp only [List.set]
    have hpp : p ≠ p2 := fun e => by rw [e, hp2] at hp7; cases hp7
    have hon : (ordN N m).length ≤ 46656 := Nat.le_trans (ordN_len N m) (Nat.le_trans (Nat.pow_le_pow_left (show N.length ≤ 6 by omega) _) (Nat.pow_le_pow_right (by omega) hm8))
    walk_at "wx"
    refine ws_forL (α := List Str) (wi_any ?_)
    walk_at "wx"
    refine ⟨rfl, N, rfl, by omega, ?_⟩
    rw [hNl]
    refine ⟨_, rfl, ordN N m, strsD, fun pre δ' S2 => (∃ u14 u15 u16 u17, δ' = [some (.scr (ns.map D.int)), some (.ref bag), some (.tup (N.map D.str)), u3, u4, u5, u6, u7, some (.int (m : Nat)), some (.int b), some (.lst (o.map D.str)), some (.ref p), some (.tup ((rowsV N val).map pairD)), some (.ref p2), u14, u15, u16, u17]) ∧ S2 = S'.upd p2 (.lst ((pre.filter fun o => decide (o.map val = sharesL b m)).map strsD)), rfl, ⟨⟨_, _, _, _, rfl⟩, rfl⟩, fun pre o post δ' S2 hx hI => ?_, fun δ' S2 hI => ?_⟩
    · obtain ⟨⟨u14, u15, u16, u17, rfl⟩, rfl⟩ := hI
      have ho : o ∈ ordN N m := by rw [hx]; simp
      obtain ⟨g1, g2, g3⟩ := ordN_mem.mp ho
      have hpr : pre.length ≤ 46656 := by rw [hx, List.length_append] at hon; omega
      have hfl := List.length_filter_le (fun o => decide (o.map val = sharesL b m)) pre
      have hsl : (sharesL b m).length = m := by unfold sharesL; rw [List.length_map, List.length_range]
      have hp8 : (S'.upd p2 (.lst ((pre.filter fun o => decide (o.map val = sharesL b m)).map strsD))) p = some (.dK kvs) := by rw [upd_off hpp]; exact hp7
      have hfp : o.map val = sharesL b m → (pre ++ [o]).filter (fun o => decide (o.map val = sharesL b m)) = pre.filter (fun o => decide (o.map val = sharesL b m)) ++ [o] := fun h => by
        rw [List.filter_append]
        simp [h]
      have hfn : ¬ o.map val = sharesL b m → (pre ++ [o]).filter (fun o => decide (o.map val = sharesL b m)) = pre.filter (fun o => decide (o.map val = sharesL b m)) := fun h => by
        rw [List.filter_append]
        simp [h]
      clear hx ho
      walk_at "wx"
      try dsimp only [List.set]
      walk_at "wx"
      refine we_lcf (α := Str × Int) (keeps_tup (keeps_cons (keeps_name (by simp)) (keeps_cons (keeps_name (by simp)) keeps_nil mono_name) mono_name)) (wi_zipM ?_)
      walk_at "wx"
      refine ⟨rfl, b, m, rfl, hb2, by omega, .inl ?_⟩
      unfold strsD
      walk_at "wx"
      refine ⟨_, _, rfl, o.zip (sharesL b m), fun p => .key [.str p.1, .int p.2], fun p => !decide (val p.1 = p.2), fun _ => .int 1, ?_, ?_, fun pr hpr S3 hS => ?_, .inl ?_⟩
      · unfold zipD
        rw [List.zip_map, List.map_map]
        rfl
      · rw [List.length_zip]; exact Nat.le_trans (Nat.min_le_left _ _) (Nat.le_trans (show o.length ≤ 6 by omega) (by decide))
      · have hzN : pr.1 ∈ N := g3 _ (List.of_mem_zip hpr).1
        walk_at "wx"
        dsimp only [wipeE, List.set]
        walk_at "wx"
        refine ⟨p, _, rfl, tells_has hT (hS _ _ hp8) hzN, ?_⟩
        walk_at "wx"
        refine br_mk (fun h => ?_) fun h => ⟨rfl, h⟩
        walk_at "wx"
        exact ⟨rfl, h, rfl⟩
      walk_at "wx"
      refine we_lstS ?_
      walk_at "wx"
      refine eq_lstI (xs := ((o.zip (sharesL b m)).filter fun p => !decide (val p.1 = p.2)).map fun _ => (1 : Int)) (ys := []) (by rw [asL_lst, List.map_map]; rfl) rfl ?_
      rw [row_fits (o := o) (sh := sharesL b m) (g1.trans hsl.symm)]
      walk_at "wx"
      refine br_p (fun h => ?_) fun h => ?_
      · walk_at "wx"
        refine we_bm ?_
        walk_at "wx"
        refine ⟨.inl ⟨rfl, by rw [asL_ref upd_at]; simp⟩, ?_⟩
        walk_at "wx"
        refine ⟨p2, _, _, rfl, rfl, upd_at, ?_, ?_⟩
        · rw [List.length_map]; exact Nat.lt_of_le_of_lt (Nat.le_trans hfl hpr) (by decide)
        rw [upd_twice]
        exact ⟨⟨_, _, _, _, rfl⟩, by rw [hfp h, List.map_append]; rfl⟩
      · walk_at "wx"
        exact ⟨⟨_, _, _, _, rfl⟩, by rw [hfn h]⟩
    obtain ⟨⟨u14, u15, u16, u17, rfl⟩, rfl⟩ := hI
    have hgN : (ordN N m).filter (fun o => decide (o.map val = sharesL b m)) = goodN N val (sharesL b m) m := by
      unfold goodN
      rw [List.take_of_length_le (by unfold sharesL; rw [List.length_map, List.length_range]; exact Nat.le_refl _)]
    rw [hgN]
    have hgl : (goodN N val (sharesL b m) m).length ≤ 46656 := by rw [← hgN]; exact Nat.le_trans (List.length_filter_le ..) hon
    have hg0 : ∀ o ∈ goodN N val (sharesL b m) m, o ≠ [] := fun o ho e => by
      obtain ⟨_, _, q⟩ := paid_good hN hNl ho
      rw [e] at q
      have q : 0 = m := q
      omega
    obtain ⟨d, rr, hd1, hd2, hd3⟩ := orders_told (b := b) (N := N) (val := val) (n := m) hb2 (by omega) hN hNl
    have hkn := rows_known hN (by omega) (by omega) hNk hv
    have hdF : d = .non ∨ ∃ F : List Str, d = strsD F ∧ ∀ z ∈ F, okS z := by
      rcases hd3 with q | ⟨F, q, q2⟩
      · exact .inl q
      · exact .inr ⟨F, q, fun z hz => name_okS (hNk z (q2 z hz))⟩
    have hsl : (sortO (goodN N val (sharesL b m) m)).length = (goodN N val (sharesL b m) m).length := (List.mergeSort_perm _ _).length_eq
    clear hgN hon hd3
    revert hd1 hd2 hgl hg0 hsl
    generalize goodN N val (sharesL b m) m = G
    intro hgl hg0 hd1 hd2 hsl
    refine WS.freezeV 13 rfl upd_at ?_
    rw [del_upd hp2]
    try dsimp only [List.set]
    walk_at "wx"
    refine ⟨rfl, ordersX_yes hb2 (by omega) hkn ?_⟩
    rw [hd2]
    walk_at "wx"
    refine .inl ⟨_, _, rfl, asQ_lst, ?_⟩
    rw [List.length_map]
    walk_at "wx"
    refine sorted_os (os := G) rfl hg0 (.inl ?_)
    walk_at "wx"
    refine we_lstS ?_
    walk_at "wx"
    refine add_lst rfl rfl (by rw [List.length_map, hsl]; exact Nat.le_trans (show G.length + 1 ≤ 50000 by omega) (by decide)) ?_
    rw [hd1]
    walk_at "wx"
    refine ix_q asQ_lst (show atI (d :: rr) ((0 : Nat) : Int) = some d from atI_nat rfl) ?_
    walk_at "wx"
    refine ne_told hdF ?_
    walk_at "wx"
    exact ⟨⟨_, _, _, _, _, _, _, _, _, _, _, _, _, _, _, _, _, rfl⟩, hb7, htb7⟩
  obtain ⟨⟨u1, u2, u3, u4, u5, u6, u7, u8, u9, u10, u11, u12, u13, u14, u15, u16, u17, rfl⟩, hb0, ht2⟩ := hI
  clear hb hb0 hl hsub
  rename Sto => S2
  walk_at "wx"
  refine ⟨rfl, 8, rfl, by decide, .inl ?_⟩
  walk_at "wx"
  refine sorted_s (xs := n8) rfl (.inl ?_)
  rw [n8_sort]
  walk_at "wx"
  try dsimp only [List.set]
  walk_at "wx"
  refine we_lcm (α := Str × Nat) (keeps_tup (keeps_cons (keeps_name (by simp)) (keeps_cons (keeps_name (by simp)) keeps_nil mono_name) mono_name)) (wi_enum ?_)
  walk_at "wx"
  refine ⟨_, _, rfl, .inl rfl, n8.zipIdx, fun p => .key [.int (p.2 : Nat), .str p.1], fun p => .tup [.str p.1, .int (1 + if decide (5 < (p.2 : Int)) = true then 1 else 0)], enum_strs n8, by decide +kernel, fun p hp S' hS => ?_, .inl ?_⟩
  · walk_at "wx"
    dsimp only [wipeE, List.set]
    walk_at "wx"
    refine .inr ⟨_, rfl, ?_⟩
    walk_at "wx"
    exact ⟨rfl, rfl⟩
  rw [n8_rows]
  walk_at "wx"
  refine ⟨_, _, rfl, asQ_lst, .inr (by simp [asL]), ?_⟩
  walk_at "wx"
  try dsimp only [List.set]
  walk_at "wx"
  refine ⟨rfl, ordersX_yes (by decide) (by decide) n8_known ?_⟩
  rw [n8_ord]
  walk_at "wx"
  refine sl_l asL_lst ?_
  rw [cut_fromI (by decide), show (6 : Int).toNat = 6 from rfl, ← List.map_drop]
  walk_at "wx"
  refine sl_l asL_lst ?_
  rw [cut_toI (by decide), show (6 : Int).toNat = 6 from rfl, ← List.map_take]
  walk_at "wx"
  refine add_lst rfl rfl (by decide +kernel) ?_
  rw [← List.map_append]
  walk_at "wx"
  refine ⟨_, _, rfl, asQ_lst, .inr (by simp [asL]), ?_⟩
  walk_at "wx"
  refine ne_told (.inr ⟨n8.drop 6 ++ n8.take 6, rfl, fun z hz => name_okS (allN_ok z ?_)⟩) ?_
  · rcases List.mem_append.mp hz with q | q
    · exact List.mem_of_mem_take (List.mem_of_mem_drop q)
    · exact List.mem_of_mem_take (List.mem_of_mem_take q)
  walk_at "wxS"
  try dsimp only [List.set]
  walk_at "wxS"
  refine ws_forL (α := D) (wi_any ?_)
  walk_at "wxS"
  refine add_lst rfl rfl (show 8 ≤ sizeLine by decide) ?_
  refine ⟨_, rfl, [D.non, .tup [], .lst [.tup [.str "ann", .int 1]], .tup [.tup [.str "ann", .int 1], .tup [.str "ann", .int 1]], .tup [.tup [.str "bo", .int 1], .tup [.str "ann", .int 1]], .tup [.tup [.str "Ann", .int 1]], .tup [.tup [.str "ann", .int (-1)]], .tup [.tup [.str "ann"]]], id, fun pre δ' S' => (∃ v2 v3 v4 v5, δ' = [some (.scr (ns.map D.int)), u1, v2, v3, v4, v5, u6, u7, u8, u9, u10, u11, u12, u13, u14, u15, u16, u17]) ∧ S' (ad 2040) = some (.tab "law.<locals>.<lambda>"), rfl, ⟨⟨_, _, _, _, rfl⟩, ht2⟩, fun pre x post δ' S' hx hI => ?_, fun δ' S' hI => ?_⟩
  · obtain ⟨⟨v2, v3, v4, v5, rfl⟩, ht2⟩ := hI
    have key : ∀ y ∈ [D.non, .tup [], .lst [.tup [.str "ann", .int 1]], .tup [.tup [.str "ann", .int 1], .tup [.str "ann", .int 1]], .tup [.tup [.str "bo", .int 1], .tup [.str "ann", .int 1]], .tup [.tup [.str "Ann", .int 1]], .tup [.tup [.str "ann", .int (-1)]], .tup [.tup [.str "ann"]]], fineD y = true ∧ knownB y = false := by decide +kernel
    have hfx := key x (by rw [hx]; simp)
    clear hx key
    walk_at "wx"
    dsimp only [List.set, id]
    walk_at "wx"
    refine we_lam ht2 fun pm c ctv => ?_
    walk_at "wx"
    refine ⟨rfl, _, _, _, _, phL2 (phOrdersX (ad 3) (ad 10)), rfl, isFn_lam rfl, ?_, fun q' x' _ hx => ⟨_, _, _, rfl, ordersX_paid (by decide) (by decide) hfx.1 (unknown hfx.2) (hx _ _ _ ⟨rfl, _, "NoPaid", rfl, by walk_at "in_list", ?_⟩)⟩⟩
    · refine does_lam (k := 19) (ps := ["a", "b", "c"]) (φ := _) ⟨rfl, rfl, rfl, by decide +kernel, rfl, by decide +kernel, by decide +kernel⟩ rfl (fun us hl => match us, hl with | [_, _, _], _ => rfl) fun f A outer s H E hr => ⟨_, (pe_callS (E := fun _ => E) (ok_orders (P := P) (w := w) (K := K) (mg := mg) (base := base) T) (hr.mono (by decide)) (by rfl) T.f27.g T.f27.F.kp T.f27.b (fun σ => L2N.passAt takesX σ) (pa_cons (pv 0) (pa_cons (pv 1) pa_nil))), fun ds S q x Hs0 hl hE h => ?_⟩
      obtain ⟨a1, a2, a3, rfl, h⟩ := h
      walk_at "w0"
      walk_at "wx"
      exact ⟨rfl, h⟩
    walk_at "kin"
    exact ⟨⟨_, _, _, _, rfl⟩, ht2⟩
  obtain ⟨⟨v2, v3, v4, v5, rfl⟩, ht2⟩ := hI
  rename Sto => S3
  walk_at "wx"
  refine we_lcm (α := Str) (keeps_name (by simp)) (wi_any ?_)
  walk_at "wx"
  refine ⟨rfl, 9, rfl, by decide, .inl ?_⟩
  walk_at "wx"
  refine sorted_s (xs := n9) rfl (.inl ?_)
  rw [n9_sort]
  refine ⟨_, rfl, n9, D.str, fun z => pairD (z, 1), rfl, by decide +kernel, fun z hz S' hS => ?_, .inl ?_⟩
  · walk_at "wx"
    dsimp only [wipeE, List.set]
    walk_at "wx"
    exact ⟨rfl, rfl⟩
  rw [show (n9.map fun z => pairD (z, 1)) = (rowsV n9 fun _ => 1).map pairD by unfold rowsV; rw [List.map_map]; rfl]
  walk_at "wx"
  refine ⟨_, _, rfl, asQ_lst, .inr (by simp [asL]), ?_⟩
  walk_at "wx"
  try dsimp only [List.set]
  walk_at "wx"
  refine ws_forL (α := D) (wi_any ?_)
  walk_at "wx"
  refine ⟨_, rfl, [D.int (-1), .int (1000000000000000000 + 1), .bl true, .non], id, fun pre δ' S' => (∃ w2 w3 w4 w5 w7, δ' = [some (.scr (ns.map D.int)), u1, w2, w3, w4, w5, some (.tup ((rowsV n9 fun _ => 1).map pairD)), w7, u8, u9, u10, u11, u12, u13, u14, u15, u16, u17]) ∧ S' (ad 2040) = some (.tab "law.<locals>.<lambda>"), rfl, ⟨⟨_, _, _, _, _, rfl⟩, ht2⟩, fun pre x post δ' S' hx hI => ?_, fun δ' S' hI => ?_⟩
  · obtain ⟨⟨w2, w3, w4, w5, w7, rfl⟩, ht2⟩ := hI
    have key : ∀ y ∈ [D.int (-1), .int (1000000000000000000 + 1), .bl true, .non], fineD y = true ∧ withinD y 0 farZ = false := by decide +kernel
    have hfx := key x (by rw [hx]; simp)
    clear hx key
    walk_at "wx"
    dsimp only [List.set, id]
    walk_at "wx"
    refine we_lam ht2 fun pm c ctv => ?_
    walk_at "wx"
    refine ⟨rfl, _, _, _, _, phL2 (phOrdersX (ad 3) (ad 10)), rfl, isFn_lam rfl, ?_, fun q' x' _ hx => ⟨_, _, _, rfl, ordersX_cents hfx.1 rfl hfx.2 (hx _ _ _ ⟨rfl, _, "NoCents", rfl, by walk_at "in_list", ?_⟩)⟩⟩
    · refine does_lam (k := 19) (ps := ["a", "b", "c"]) (φ := _) ⟨rfl, rfl, rfl, by decide +kernel, rfl, by decide +kernel, by decide +kernel⟩ rfl (fun us hl => match us, hl with | [_, _, _], _ => rfl) fun f A outer s H E hr => ⟨_, (pe_callS (E := fun _ => E) (ok_orders (P := P) (w := w) (K := K) (mg := mg) (base := base) T) (hr.mono (by decide)) (by rfl) T.f27.g T.f27.F.kp T.f27.b (fun σ => L2N.passAt takesX σ) (pa_cons (pv 0) (pa_cons (pv 1) pa_nil))), fun ds S q x Hs0 hl hE h => ?_⟩
      obtain ⟨a1, a2, a3, rfl, h⟩ := h
      walk_at "w0"
      walk_at "wx"
      exact ⟨rfl, h⟩
    walk_at "kin"
    exact ⟨⟨_, _, _, _, _, rfl⟩, ht2⟩
  obtain ⟨⟨w2, w3, w4, w5, w7, rfl⟩, ht2⟩ := hI
  rename Sto => S4
  walk_at "wx"
  refine we_lam ht2 fun pm c ctv => ?_
  walk_at "wx"
  refine ⟨rfl, _, _, _, _, phL2 (phOrdersX (ad 3) (ad 10)), rfl, isFn_lam rfl, ?_, fun q' x' _ hx => ⟨_, _, _, rfl, ordersX_paid (by decide) (by decide) n9_fine n9_not (hx _ _ _ ⟨rfl, _, "NoPaid", rfl, by walk_at "in_list", ?_⟩)⟩⟩
  · refine does_lam (k := 19) (ps := ["a", "b", "c"]) (φ := _) ⟨rfl, rfl, rfl, by decide +kernel, rfl, by decide +kernel, by decide +kernel⟩ rfl (fun us hl => match us, hl with | [_, _, _], _ => rfl) fun f A outer s H E hr => ⟨_, (pe_callS (E := fun _ => E) (ok_orders (P := P) (w := w) (K := K) (mg := mg) (base := base) T) (hr.mono (by decide)) (by rfl) T.f27.g T.f27.F.kp T.f27.b (fun σ => L2N.passAt takesX σ) (pa_cons (pv 0) (pa_cons (pv 1) pa_nil))), fun ds S q x Hs0 hl hE h => ?_⟩
    obtain ⟨a1, a2, a3, rfl, h⟩ := h
    walk_at "w0"
    walk_at "wx"
    exact ⟨rfl, h⟩
  walk_at "kin"
  walk_at "wxS"
  refine ⟨rfl, ordersX_yes (ps := [(("ann" : Str), (0 : Int))]) (by decide) (by decide) one_known ?_⟩
  rw [one_ord]
  walk_at "wx"
  refine eq_dat rfl rfl (by decide +kernel) (by decide +kernel) (c := true) (by decide +kernel) ?_
  exact hq _

end
end Paid

set_option Elab.async false
set_option linter.all false
set_option maxRecDepth 100000
set_option maxHeartbeats 4000000
namespace Paid
open PySem PySem.Spec PyProof L2 RZ PL
theorem all_mk {l : PySem.W.OpenLaw} {w : World} {K : PySem.W.Frag} {h : Heap} {mg : Str → Option Value} {fa : Addr} (X : K.In h) (G : h.Ns mainGlobals mg) (hfa : mg "law" = some (.ref fa))
    {f21 : Addr} {od21 an21 : Option Addr} {sl21 : Array (Option Value)} {oc21 kV21 dc21 pm21 cd21 ct21 : Value}
    {f22 : Addr} {od22 an22 : Option Addr} {sl22 : Array (Option Value)} {oc22 kV22 dc22 pm22 cd22 ct22 : Value}
    {f23 : Addr} {od23 an23 : Option Addr} {sl23 : Array (Option Value)} {oc23 kV23 dc23 pm23 cd23 ct23 : Value}
    {f25 : Addr} {od25 an25 : Option Addr} {sl25 : Array (Option Value)} {oc25 kV25 dc25 pm25 cd25 ct25 : Value}
    {f26 : Addr} {od26 an26 : Option Addr} {sl26 : Array (Option Value)} {oc26 kV26 dc26 pm26 cd26 ct26 : Value}
    {f27 : Addr} {od27 an27 : Option Addr} {sl27 : Array (Option Value)} {oc27 kV27 dc27 pm27 cd27 ct27 : Value}
    {f29 : Addr} {od29 an29 : Option Addr} {sl29 : Array (Option Value)} {oc29 kV29 dc29 pm29 cd29 ct29 : Value}
    {f30 : Addr} {od30 an30 : Option Addr} {sl30 : Array (Option Value)} {oc30 kV30 dc30 pm30 cd30 ct30 : Value}
    {f31 : Addr} {od31 an31 : Option Addr} {sl31 : Array (Option Value)} {oc31 kV31 dc31 pm31 cd31 ct31 : Value}
    {f32 : Addr} {od32 an32 : Option Addr} {sl32 : Array (Option Value)} {oc32 kV32 dc32 pm32 cd32 ct32 : Value}
    {f33 : Addr} {od33 an33 : Option Addr} {sl33 : Array (Option Value)} {oc33 kV33 dc33 pm33 cd33 ct33 : Value}
    {f34 : Addr} {od34 an34 : Option Addr} {sl34 : Array (Option Value)} {oc34 kV34 dc34 pm34 cd34 ct34 : Value}
    {f35 : Addr} {od35 an35 : Option Addr} {sl35 : Array (Option Value)} {oc35 kV35 dc35 pm35 cd35 ct35 : Value}
    {f36 : Addr} {od36 an36 : Option Addr} {sl36 : Array (Option Value)} {oc36 kV36 dc36 pm36 cd36 ct36 : Value}
    {f37 : Addr} {od37 an37 : Option Addr} {sl37 : Array (Option Value)} {oc37 kV37 dc37 pm37 cd37 ct37 : Value}
    {f38 : Addr} {od38 an38 : Option Addr} {sl38 : Array (Option Value)} {oc38 kV38 dc38 pm38 cd38 ct38 : Value}
    {f39 : Addr} {od39 an39 : Option Addr} {sl39 : Array (Option Value)} {oc39 kV39 dc39 pm39 cd39 ct39 : Value}
    {f40 : Addr} {od40 an40 : Option Addr} {sl40 : Array (Option Value)} {oc40 kV40 dc40 pm40 ct40 : Value}
    {t_FAR : Nat}
    {t_SMALL : Nat}
    {c40X P40X : Addr} {o40X : Value} {q40X : Option Addr} {v40X : Array Value} {s40X : Array (Option Value)}
    {k1 : Addr}
    {k2 : Addr}
    {k3 : Addr}
    {k4 : Addr}
    {k5 : Addr}
    {k6 : Addr}
    {k7 : Addr}
    {k8 : Addr}
    {k9 : Addr}
    {k10 : Addr}
    {k11 : Addr}
    {k12 : Addr}
    {k13 : Addr}
    {k14 : Addr}
    {k15 : Addr}
    {k16 : Addr}
    {k17 : Addr}
    (a21 : PySem.W.nsIn K mainGlobals "is_within" = some (some (.ref f21))) (l21 : K.lookup f21 = some ⟨oc21, od21, .func (PySem.W.fnOf "is_within" "is_within" (defArgs s_is_within) (defBody s_is_within) (defScope s_is_within) .none kV21 dc21 pm21 an21 cd21 ct21), sl21⟩) (c21 : PySem.W.codeIn K cd21 "is_within" = true) (k21 : PySem.W.keepIn K (.ref f21) = true)
    (a22 : PySem.W.nsIn K mainGlobals "is_name" = some (some (.ref f22))) (l22 : K.lookup f22 = some ⟨oc22, od22, .func (PySem.W.fnOf "is_name" "is_name" (defArgs s_is_name) (defBody s_is_name) (defScope s_is_name) .none kV22 dc22 pm22 an22 cd22 ct22), sl22⟩) (c22 : PySem.W.codeIn K cd22 "is_name" = true) (k22 : PySem.W.keepIn K (.ref f22) = true)
    (a23 : PySem.W.nsIn K mainGlobals "share" = some (some (.ref f23))) (l23 : K.lookup f23 = some ⟨oc23, od23, .func (PySem.W.fnOf "share" "share" (defArgs s_share) (defBody s_share) (defScope s_share) .none kV23 dc23 pm23 an23 cd23 ct23), sl23⟩) (c23 : PySem.W.codeIn K cd23 "share" = true) (k23 : PySem.W.keepIn K (.ref f23) = true)
    (a25 : PySem.W.nsIn K mainGlobals "product" = some (some (.ref f25))) (l25 : K.lookup f25 = some ⟨oc25, od25, .func (PySem.W.fnOf "product" "product" (defArgs s_product) (defBody s_product) (defScope s_product) .none kV25 dc25 pm25 an25 cd25 ct25), sl25⟩) (c25 : PySem.W.codeIn K cd25 "product" = true) (k25 : PySem.W.keepIn K (.ref f25) = true)
    (a26 : PySem.W.nsIn K mainGlobals "is_known" = some (some (.ref f26))) (l26 : K.lookup f26 = some ⟨oc26, od26, .func (PySem.W.fnOf "is_known" "is_known" (defArgs s_is_known) (defBody s_is_known) (defScope s_is_known) .none kV26 dc26 pm26 an26 cd26 ct26), sl26⟩) (c26 : PySem.W.codeIn K cd26 "is_known" = true) (k26 : PySem.W.keepIn K (.ref f26) = true)
    (a27 : PySem.W.nsIn K mainGlobals "orders" = some (some (.ref f27))) (l27 : K.lookup f27 = some ⟨oc27, od27, .func (PySem.W.fnOf "orders" "orders" (defArgs s_orders) (defBody s_orders) (defScope s_orders) .none kV27 dc27 pm27 an27 cd27 ct27), sl27⟩) (c27 : PySem.W.codeIn K cd27 "orders" = true) (k27 : PySem.W.keepIn K (.ref f27) = true)
    (a29 : PySem.W.nsIn K mainGlobals "_law_cell_at" = some (some (.ref f29))) (l29 : K.lookup f29 = some ⟨oc29, od29, .func (PySem.W.fnOf "_law_cell_at" "_law_cell_at" (defArgs s_law_cell_at) (defBody s_law_cell_at) (defScope s_law_cell_at) .none kV29 dc29 pm29 an29 cd29 ct29), sl29⟩) (c29 : PySem.W.codeIn K cd29 "_law_cell_at" = true) (k29 : PySem.W.keepIn K (.ref f29) = true)
    (a30 : PySem.W.nsIn K mainGlobals "_law_draws" = some (some (.ref f30))) (l30 : K.lookup f30 = some ⟨oc30, od30, .func (PySem.W.fnOf "_law_draws" "_law_draws" (defArgs s_law_draws) (defBody s_law_draws) (defScope s_law_draws) .none kV30 dc30 pm30 an30 cd30 ct30), sl30⟩) (c30 : PySem.W.codeIn K cd30 "_law_draws" = true) (k30 : PySem.W.keepIn K (.ref f30) = true)
    (a31 : PySem.W.nsIn K mainGlobals "_law_bag" = some (some (.ref f31))) (l31 : K.lookup f31 = some ⟨oc31, od31, .func (PySem.W.fnOf "_law_bag" "_law_bag" (defArgs s_law_bag) (defBody s_law_bag) (defScope s_law_bag) .none kV31 dc31 pm31 an31 cd31 ct31), sl31⟩) (c31 : PySem.W.codeIn K cd31 "_law_bag" = true) (k31 : PySem.W.keepIn K (.ref f31) = true)
    (a32 : PySem.W.nsIn K mainGlobals "_law_bags" = some (some (.ref f32))) (l32 : K.lookup f32 = some ⟨oc32, od32, .func (PySem.W.fnOf "_law_bags" "_law_bags" (defArgs s_law_bags) (defBody s_law_bags) (defScope s_law_bags) .none kV32 dc32 pm32 an32 cd32 ct32), sl32⟩) (c32 : PySem.W.codeIn K cd32 "_law_bags" = true) (k32 : PySem.W.keepIn K (.ref f32) = true)
    (a33 : PySem.W.nsIn K mainGlobals "_law_take" = some (some (.ref f33))) (l33 : K.lookup f33 = some ⟨oc33, od33, .func (PySem.W.fnOf "_law_take" "_law_take" (defArgs s_law_take) (defBody s_law_take) (defScope s_law_take) .none kV33 dc33 pm33 an33 cd33 ct33), sl33⟩) (c33 : PySem.W.codeIn K cd33 "_law_take" = true) (k33 : PySem.W.keepIn K (.ref f33) = true)
    (a34 : PySem.W.nsIn K mainGlobals "_law_far_draw" = some (some (.ref f34))) (l34 : K.lookup f34 = some ⟨oc34, od34, .func (PySem.W.fnOf "_law_far_draw" "_law_far_draw" (defArgs s_law_far_draw) (defBody s_law_far_draw) (defScope s_law_far_draw) .none kV34 dc34 pm34 an34 cd34 ct34), sl34⟩) (c34 : PySem.W.codeIn K cd34 "_law_far_draw" = true) (k34 : PySem.W.keepIn K (.ref f34) = true)
    (a35 : PySem.W.nsIn K mainGlobals "_law_mixed" = some (some (.ref f35))) (l35 : K.lookup f35 = some ⟨oc35, od35, .func (PySem.W.fnOf "_law_mixed" "_law_mixed" (defArgs s_law_mixed) (defBody s_law_mixed) (defScope s_law_mixed) .none kV35 dc35 pm35 an35 cd35 ct35), sl35⟩) (c35 : PySem.W.codeIn K cd35 "_law_mixed" = true) (k35 : PySem.W.keepIn K (.ref f35) = true)
    (a36 : PySem.W.nsIn K mainGlobals "_law_names" = some (some (.ref f36))) (l36 : K.lookup f36 = some ⟨oc36, od36, .func (PySem.W.fnOf "_law_names" "_law_names" (defArgs s_law_names) (defBody s_law_names) (defScope s_law_names) .none kV36 dc36 pm36 an36 cd36 ct36), sl36⟩) (c36 : PySem.W.codeIn K cd36 "_law_names" = true) (k36 : PySem.W.keepIn K (.ref f36) = true)
    (a37 : PySem.W.nsIn K mainGlobals "_law_shares" = some (some (.ref f37))) (l37 : K.lookup f37 = some ⟨oc37, od37, .func (PySem.W.fnOf "_law_shares" "_law_shares" (defArgs s_law_shares) (defBody s_law_shares) (defScope s_law_shares) .none kV37 dc37 pm37 an37 cd37 ct37), sl37⟩) (c37 : PySem.W.codeIn K cd37 "_law_shares" = true) (k37 : PySem.W.keepIn K (.ref f37) = true)
    (a38 : PySem.W.nsIn K mainGlobals "_law_refused" = some (some (.ref f38))) (l38 : K.lookup f38 = some ⟨oc38, od38, .func (PySem.W.fnOf "_law_refused" "_law_refused" (defArgs s_law_refused) (defBody s_law_refused) (defScope s_law_refused) .none kV38 dc38 pm38 an38 cd38 ct38), sl38⟩) (c38 : PySem.W.codeIn K cd38 "_law_refused" = true) (k38 : PySem.W.keepIn K (.ref f38) = true)
    (a39 : PySem.W.nsIn K mainGlobals "_law_orders" = some (some (.ref f39))) (l39 : K.lookup f39 = some ⟨oc39, od39, .func (PySem.W.fnOf "_law_orders" "_law_orders" (defArgs s_law_orders) (defBody s_law_orders) (defScope s_law_orders) .none kV39 dc39 pm39 an39 cd39 ct39), sl39⟩) (c39 : PySem.W.codeIn K cd39 "_law_orders" = true) (k39 : PySem.W.keepIn K (.ref f39) = true)
    (a40 : PySem.W.nsIn K mainGlobals "law" = some (some (.ref f40))) (l40 : K.lookup f40 = some ⟨oc40, od40, .func (PySem.W.fnOf "law" "law" (defArgs s_law) (defBody s_law) (defScope s_law) .none kV40 dc40 pm40 an40 (.ref c40X) ct40), sl40⟩) (c40 : PySem.W.codeIn K (.ref c40X) "law" = true) (k40 : PySem.W.keepIn K (.ref f40) = true)
    (z_all : PySem.W.nsIn K mainGlobals "all" = some none)
    (z_bool : PySem.W.nsIn K mainGlobals "bool" = some none)
    (z_dict : PySem.W.nsIn K mainGlobals "dict" = some none)
    (z_enumerate : PySem.W.nsIn K mainGlobals "enumerate" = some none)
    (z_int : PySem.W.nsIn K mainGlobals "int" = some none)
    (z_isinstance : PySem.W.nsIn K mainGlobals "isinstance" = some none)
    (z_len : PySem.W.nsIn K mainGlobals "len" = some none)
    (z_max : PySem.W.nsIn K mainGlobals "max" = some none)
    (z_min : PySem.W.nsIn K mainGlobals "min" = some none)
    (z_range : PySem.W.nsIn K mainGlobals "range" = some none)
    (z_sorted : PySem.W.nsIn K mainGlobals "sorted" = some none)
    (z_str : PySem.W.nsIn K mainGlobals "str" = some none)
    (z_tuple : PySem.W.nsIn K mainGlobals "tuple" = some none)
    (z_zip : PySem.W.nsIn K mainGlobals "zip" = some none)
    (z_FAR : PySem.W.nsIn K mainGlobals "FAR" = some (some (.int 1000000000000000000 t_FAR)))
    (z_SMALL : PySem.W.nsIn K mainGlobals "SMALL" = some (some (.str "abcdefghijklmnopqrstuvwxyz" t_SMALL)))
    (x40 : K.lookup c40X = some ⟨o40X, q40X, .fields v40X, s40X⟩) (y40 : v40X[11]? = some (.ref P40X)) (w40 : PySem.W.codeHdIn K c40X P40X = true) (n40 : K.lookup P40X = none) (g40 : h.get? P40X = some { cls := .none, data := .fields #[] })
    (u1 : PySem.W.nsIn K mainGlobals "ClubError" = some (some (.ref k1)))
    (u2 : PySem.W.nsIn K mainGlobals "NoState" = some (some (.ref k2)))
    (u3 : PySem.W.nsIn K mainGlobals "NoCents" = some (some (.ref k3)))
    (u4 : PySem.W.nsIn K mainGlobals "NoName" = some (some (.ref k4)))
    (u5 : PySem.W.nsIn K mainGlobals "NoDeeds" = some (some (.ref k5)))
    (u6 : PySem.W.nsIn K mainGlobals "NoTimes" = some (some (.ref k6)))
    (u7 : PySem.W.nsIn K mainGlobals "NoMany" = some (some (.ref k7)))
    (u8 : PySem.W.nsIn K mainGlobals "NoPlace" = some (some (.ref k8)))
    (u9 : PySem.W.nsIn K mainGlobals "NoSeen" = some (some (.ref k9)))
    (u10 : PySem.W.nsIn K mainGlobals "NoPaid" = some (some (.ref k10)))
    (u11 : PySem.W.nsIn K mainGlobals "Nobody" = some (some (.ref k11)))
    (u12 : PySem.W.nsIn K mainGlobals "TooMuch" = some (some (.ref k12)))
    (u13 : PySem.W.nsIn K mainGlobals "Full" = some (some (.ref k13)))
    (u14 : PySem.W.nsIn K mainGlobals "LastOne" = some (some (.ref k14)))
    (u15 : PySem.W.nsIn K mainGlobals "NothingLeft" = some (some (.ref k15)))
    (u16 : PySem.W.nsIn K mainGlobals "Twice" = some (some (.ref k16)))
    (u17 : PySem.W.nsIn K mainGlobals "NotIn" = some (some (.ref k17)))
    (uVE : PySem.W.nsIn K mainGlobals "ValueError" = some none)
    (xe3 : PySem.W.excIn K k3 [.type "ValueError", .type "Exception", .type "BaseException", .type "object"] "ValueError.__new__" = true)
    (xk3 : PySem.W.keepIn K (.ref k3) = true)
    (xs3 : PySem.W.subIn K (.ref k3) (.type "BaseException") = some true)
    (xt3 : PySem.W.typeIn K (.ref k3) = some (.type "type"))
    (xg3 : PySem.W.findIn K (.ref k3) "__getattribute__" = some (some (.builtin "BaseException.__getattribute__")))
    (xa3 : PySem.W.findIn K (.ref k3) "__getattr__" = some none)
    (xd3 : PySem.W.hasDictIn K k3 = true)
    (xc3 : PySem.W.findIn K (.ref k3) "__class__" = some (some (.builtin "object.__class__")))
    (xm3 : PySem.W.mroIn K k3 (.type "object") = some true)
    (xi3 : PL.asksB K k3 [(.ref k2, false), (.ref k3, true), (.ref k4, false), (.ref k5, false), (.ref k6, false), (.ref k7, false), (.ref k8, false), (.ref k9, false), (.ref k10, false), (.ref k13, false), (.ref k11, false), (.ref k12, false), (.ref k14, false), (.ref k15, false), (.ty "ValueError", true)] = true)
    (xl3 : PL.clsB K k3 [(.ref k16, false), (.ref k17, false), (.ref k1, true)] = true)
    (xe10 : PySem.W.excIn K k10 [.type "ValueError", .type "Exception", .type "BaseException", .type "object"] "ValueError.__new__" = true)
    (xk10 : PySem.W.keepIn K (.ref k10) = true)
    (xs10 : PySem.W.subIn K (.ref k10) (.type "BaseException") = some true)
    (xt10 : PySem.W.typeIn K (.ref k10) = some (.type "type"))
    (xg10 : PySem.W.findIn K (.ref k10) "__getattribute__" = some (some (.builtin "BaseException.__getattribute__")))
    (xa10 : PySem.W.findIn K (.ref k10) "__getattr__" = some none)
    (xd10 : PySem.W.hasDictIn K k10 = true)
    (xc10 : PySem.W.findIn K (.ref k10) "__class__" = some (some (.builtin "object.__class__")))
    (xm10 : PySem.W.mroIn K k10 (.type "object") = some true)
    (xi10 : PL.asksB K k10 [(.ref k2, false), (.ref k3, false), (.ref k4, false), (.ref k5, false), (.ref k6, false), (.ref k7, false), (.ref k8, false), (.ref k9, false), (.ref k10, true), (.ref k13, false), (.ref k11, false), (.ref k12, false), (.ref k14, false), (.ref k15, false), (.ty "ValueError", true)] = true)
    (xl10 : PL.clsB K k10 [(.ref k16, false), (.ref k17, false), (.ref k1, true)] = true)
    (sg : PySem.W.specialIn K (.builtin "object.__class__") "__get__" = some (some (.builtin "getset_descriptor.__get__"))) (st : PySem.W.takesIn K (.builtin "object.__class__") = some true)
    (dT : ([P40X] : List Addr).Nodup)
    : LamX.LawAtS l w K CX0 22 63 "script" mg fa h := by
  have e := hfa.symm.trans (PySem.W.mg_of X G a40)
  cases e
  have F21 := fun_mk (st := s_is_within) l21 c21 k21
  have b21 := F21.binds (ps := ["thing", "low", "high"]) fun _ _ _ _ _ _ us hl => match us, hl with | [_, _, _], _ => rfl
  have F22 := fun_mk (st := s_is_name) l22 c22 k22
  have b22 := F22.binds (ps := ["thing"]) fun _ _ _ _ _ _ us hl => match us, hl with | [_], _ => rfl
  have F23 := fun_mk (st := s_share) l23 c23 k23
  have b23 := F23.binds (ps := ["bills", "place", "many"]) fun _ _ _ _ _ _ us hl => match us, hl with | [_, _, _], _ => rfl
  have F25 := fun_mk (st := s_product) l25 c25 k25
  have b25 := F25.binds (ps := ["many"]) fun _ _ _ _ _ _ us hl => match us, hl with | [_], _ => rfl
  have F26 := fun_mk (st := s_is_known) l26 c26 k26
  have b26 := F26.binds (ps := ["thing"]) fun _ _ _ _ _ _ us hl => match us, hl with | [_], _ => rfl
  have F27 := fun_mk (st := s_orders) l27 c27 k27
  have b27 := F27.binds (ps := ["bills", "known"]) fun _ _ _ _ _ _ us hl => match us, hl with | [_, _], _ => rfl
  have F29 := fun_mk (st := s_law_cell_at) l29 c29 k29
  have b29 := F29.binds (ps := ["script", "k"]) fun _ _ _ _ _ _ us hl => match us, hl with | [_, _], _ => rfl
  have F30 := fun_mk (st := s_law_draws) l30 c30 k30
  have b30 := F30.binds (ps := ["cell", "many", "size"]) fun _ _ _ _ _ _ us hl => match us, hl with | [_, _, _], _ => rfl
  have F31 := fun_mk (st := s_law_bag) l31 c31 k31
  have b31 := F31.binds (ps := ["script", "k"]) fun _ _ _ _ _ _ us hl => match us, hl with | [_, _], _ => rfl
  have F32 := fun_mk (st := s_law_bags) l32 c32 k32
  have b32 := F32.binds (ps := ["script", "limit"]) fun _ _ _ _ _ _ us hl => match us, hl with | [_, _], _ => rfl
  have F33 := fun_mk (st := s_law_take) l33 c33 k33
  have b33 := F33.binds (ps := ["bag", "many"]) fun _ _ _ _ _ _ us hl => match us, hl with | [_, _], _ => rfl
  have F34 := fun_mk (st := s_law_far_draw) l34 c34 k34
  have b34 := F34.binds (ps := ["bag", "many"]) fun _ _ _ _ _ _ us hl => match us, hl with | [_, _], _ => rfl
  have F35 := fun_mk (st := s_law_mixed) l35 c35 k35
  have b35 := F35.binds (ps := ["bag", "many"]) fun _ _ _ _ _ _ us hl => match us, hl with | [_, _], _ => rfl
  have F36 := fun_mk (st := s_law_names) l36 c36 k36
  have b36 := F36.binds (ps := ["many"]) fun _ _ _ _ _ _ us hl => match us, hl with | [_], _ => rfl
  have F37 := fun_mk (st := s_law_shares) l37 c37 k37
  have b37 := F37.binds (ps := ["bills", "many"]) fun _ _ _ _ _ _ us hl => match us, hl with | [_, _], _ => rfl
  have F38 := fun_mk (st := s_law_refused) l38 c38 k38
  have b38 := F38.binds (ps := ["call", "one", "two", "three"]) fun _ _ _ _ _ _ us hl => match us, hl with | [_, _, _, _], _ => rfl
  have F39 := fun_mk (st := s_law_orders) l39 c39 k39
  have b39 := F39.binds (ps := ["names"]) fun _ _ _ _ _ _ us hl => match us, hl with | [_], _ => rfl
  have F40 := fun_mk (st := s_law) l40 c40 k40
  have b40 := F40.binds (ps := ["script"]) fun _ _ _ _ _ _ us hl => match us, hl with | [_], _ => rfl
  let ad : Nat → Addr := fun n => match n with | 21 => f21 | 22 => f22 | 23 => f23 | 25 => f25 | 26 => f26 | 27 => f27 | 29 => f29 | 30 => f30 | 31 => f31 | 32 => f32 | 33 => f33 | 34 => f34 | 35 => f35 | 36 => f36 | 37 => f37 | 38 => f38 | 39 => f39 | 40 => fa | 1 => k1 | 2 => k2 | 3 => k3 | 4 => k4 | 5 => k5 | 6 => k6 | 7 => k7 | 8 => k8 | 9 => k9 | 10 => k10 | 11 => k11 | 12 => k12 | 13 => k13 | 14 => k14 | 15 => k15 | 16 => k16 | 17 => k17 | 1040 => c40X | 2040 => P40X | _ => fa
  let fd : Nat → FuncData := fun n => match n with | 21 => PySem.W.fnOf "is_within" "is_within" (defArgs s_is_within) (defBody s_is_within) (defScope s_is_within) .none kV21 dc21 pm21 an21 cd21 ct21 | 22 => PySem.W.fnOf "is_name" "is_name" (defArgs s_is_name) (defBody s_is_name) (defScope s_is_name) .none kV22 dc22 pm22 an22 cd22 ct22 | 23 => PySem.W.fnOf "share" "share" (defArgs s_share) (defBody s_share) (defScope s_share) .none kV23 dc23 pm23 an23 cd23 ct23 | 25 => PySem.W.fnOf "product" "product" (defArgs s_product) (defBody s_product) (defScope s_product) .none kV25 dc25 pm25 an25 cd25 ct25 | 26 => PySem.W.fnOf "is_known" "is_known" (defArgs s_is_known) (defBody s_is_known) (defScope s_is_known) .none kV26 dc26 pm26 an26 cd26 ct26 | 27 => PySem.W.fnOf "orders" "orders" (defArgs s_orders) (defBody s_orders) (defScope s_orders) .none kV27 dc27 pm27 an27 cd27 ct27 | 29 => PySem.W.fnOf "_law_cell_at" "_law_cell_at" (defArgs s_law_cell_at) (defBody s_law_cell_at) (defScope s_law_cell_at) .none kV29 dc29 pm29 an29 cd29 ct29 | 30 => PySem.W.fnOf "_law_draws" "_law_draws" (defArgs s_law_draws) (defBody s_law_draws) (defScope s_law_draws) .none kV30 dc30 pm30 an30 cd30 ct30 | 31 => PySem.W.fnOf "_law_bag" "_law_bag" (defArgs s_law_bag) (defBody s_law_bag) (defScope s_law_bag) .none kV31 dc31 pm31 an31 cd31 ct31 | 32 => PySem.W.fnOf "_law_bags" "_law_bags" (defArgs s_law_bags) (defBody s_law_bags) (defScope s_law_bags) .none kV32 dc32 pm32 an32 cd32 ct32 | 33 => PySem.W.fnOf "_law_take" "_law_take" (defArgs s_law_take) (defBody s_law_take) (defScope s_law_take) .none kV33 dc33 pm33 an33 cd33 ct33 | 34 => PySem.W.fnOf "_law_far_draw" "_law_far_draw" (defArgs s_law_far_draw) (defBody s_law_far_draw) (defScope s_law_far_draw) .none kV34 dc34 pm34 an34 cd34 ct34 | 35 => PySem.W.fnOf "_law_mixed" "_law_mixed" (defArgs s_law_mixed) (defBody s_law_mixed) (defScope s_law_mixed) .none kV35 dc35 pm35 an35 cd35 ct35 | 36 => PySem.W.fnOf "_law_names" "_law_names" (defArgs s_law_names) (defBody s_law_names) (defScope s_law_names) .none kV36 dc36 pm36 an36 cd36 ct36 | 37 => PySem.W.fnOf "_law_shares" "_law_shares" (defArgs s_law_shares) (defBody s_law_shares) (defScope s_law_shares) .none kV37 dc37 pm37 an37 cd37 ct37 | 38 => PySem.W.fnOf "_law_refused" "_law_refused" (defArgs s_law_refused) (defBody s_law_refused) (defScope s_law_refused) .none kV38 dc38 pm38 an38 cd38 ct38 | 39 => PySem.W.fnOf "_law_orders" "_law_orders" (defArgs s_law_orders) (defBody s_law_orders) (defScope s_law_orders) .none kV39 dc39 pm39 an39 cd39 ct39 | 40 => PySem.W.fnOf "law" "law" (defArgs s_law) (defBody s_law) (defScope s_law) .none kV40 dc40 pm40 an40 (.ref c40X) ct40 | _ => PySem.W.fnOf "law" "law" (defArgs s_law) (defBody s_law) (defScope s_law) .none kV40 dc40 pm40 an40 (.ref c40X) ct40
  have T : Tx K mg ad fd := ⟨⟨F21, b21, PySem.W.mg_of X G a21⟩, ⟨F22, b22, PySem.W.mg_of X G a22⟩, ⟨F23, b23, PySem.W.mg_of X G a23⟩, ⟨F25, b25, PySem.W.mg_of X G a25⟩, ⟨F26, b26, PySem.W.mg_of X G a26⟩, ⟨F27, b27, PySem.W.mg_of X G a27⟩, ⟨F29, b29, PySem.W.mg_of X G a29⟩, ⟨F30, b30, PySem.W.mg_of X G a30⟩, ⟨F31, b31, PySem.W.mg_of X G a31⟩, ⟨F32, b32, PySem.W.mg_of X G a32⟩, ⟨F33, b33, PySem.W.mg_of X G a33⟩, ⟨F34, b34, PySem.W.mg_of X G a34⟩, ⟨F35, b35, PySem.W.mg_of X G a35⟩, ⟨F36, b36, PySem.W.mg_of X G a36⟩, ⟨F37, b37, PySem.W.mg_of X G a37⟩, ⟨F38, b38, PySem.W.mg_of X G a38⟩, ⟨F39, b39, PySem.W.mg_of X G a39⟩, ⟨F40, b40, PySem.W.mg_of X G a40⟩, PySem.W.mg_none_of X G z_all, PySem.W.mg_none_of X G z_bool, PySem.W.mg_none_of X G z_dict, PySem.W.mg_none_of X G z_enumerate, PySem.W.mg_none_of X G z_int, PySem.W.mg_none_of X G z_isinstance, PySem.W.mg_none_of X G z_len, PySem.W.mg_none_of X G z_max, PySem.W.mg_none_of X G z_min, PySem.W.mg_none_of X G z_range, PySem.W.mg_none_of X G z_sorted, PySem.W.mg_none_of X G z_str, PySem.W.mg_none_of X G z_tuple, PySem.W.mg_none_of X G z_zip, rfl, PySem.W.mg_of X G u1, PySem.W.mg_of X G u2, PySem.W.mg_of X G u3, PySem.W.mg_of X G u4, PySem.W.mg_of X G u5, PySem.W.mg_of X G u6, PySem.W.mg_of X G u7, PySem.W.mg_of X G u8, PySem.W.mg_of X G u9, PySem.W.mg_of X G u10, PySem.W.mg_of X G u11, PySem.W.mg_of X G u12, PySem.W.mg_of X G u13, PySem.W.mg_of X G u14, PySem.W.mg_of X G u15, PySem.W.mg_of X G u16, PySem.W.mg_of X G u17, PySem.W.mg_none_of X G uVE, ⟨⟨xg3, xa3, xs3, xd3, xc3, sg, st, xm3⟩, PL.asks_of xi3, PL.cls_of xl3⟩, ⟨⟨xg10, xa10, xs10, xd10, xc10, sg, st, xm10⟩, PL.asks_of xi10, PL.cls_of xl10⟩, ⟨PySem.W.mg_of X G u3, xe3, xk3, xs3, xt3⟩, ⟨PySem.W.mg_of X G u10, xe10, xk10, xs10, xt10⟩, ⟨_, PySem.W.mg_of X G z_FAR⟩, ⟨_, PySem.W.mg_of X G z_SMALL⟩⟩
  refine ⟨PySem.W.fnOf "law" "law" (defArgs s_law) (defBody s_law) (defScope s_law) .none kV40 dc40 pm40 an40 (.ref c40X) ct40, [(c40X, P40X)], spF K 1 (phLawT [(P40X, "law.<locals>.<lambda>")]),  (List.forall_mem_cons.mpr ⟨g40, (fun _ h => nomatch h)⟩),  (List.forall_mem_cons.mpr ⟨n40, (fun _ h => nomatch h)⟩),  (List.forall_mem_cons.mpr ⟨PySem.W.codeHd_of_K X w40, (fun _ h => nomatch h)⟩), fun s v => .of_eq rfl, fun H a ns hl _ hT hS => ?_, fun base _ _ hTB => ok_law T ⟨hTB (c40X, P40X) (List.Mem.head _)⟩⟩
  have hT2 : ∀ p ∈ ([(P40X, "law.<locals>.<lambda>")] : List (Addr × Str)), H p.1 = some (.tbl #[]) :=  (List.forall_mem_cons.mpr ⟨hT (c40X, P40X) (List.Mem.head _), (fun _ h => nomatch h)⟩)
  exact ⟨rfl, PL.hideT H [(P40X, "law.<locals>.<lambda>")], PL.tabsS [(P40X, "law.<locals>.<lambda>")], [.scr (ns.map D.int)], fun d _ => d = .bl true, PL.rep_tabs hT2, .cons (.scr (PL.sqL_tabs hT2 hS) (datA_ints ns)) .nil, ⟨ns, rfl, hl, PL.tabsS_at dT, fun _ => rfl⟩, fun v d Hs1 H1 S1 _ _ r e => by subst e; cases r; rfl⟩
end Paid
open PySem PySem.W PyProof.Rows in
set_option maxRecDepth 100000 in
set_option maxHeartbeats 0 in
theorem PySem.Challenge.cw_paidback_k10_orders_told_back_holds : PySem.Challenge.rw_paidback_k10_orders_told_back.Holds := by
  w_on; o_law; k_head; (case hw => w_witness2)
  k_fill
  refine LamX.walk_ofTs (k := 22) (x := "script") (CX := fun _ => L2.CX0) rfl (by decide) rfl ⟨rfl, by decide, by decide⟩ (fun w h Y => PySem.W.km_in_of Y) ?F (fun _ _ _ _ _ z => z)
  case F =>
    intro w mg fa h Y KX G hmg
    have hT8 := PySem.W.km_tabs_of Y
    refine' Paid.all_mk KX G hmg ?a21 ?l21 ?c21 ?k21 ?a22 ?l22 ?c22 ?k22 ?a23 ?l23 ?c23 ?k23 ?a25 ?l25 ?c25 ?k25 ?a26 ?l26 ?c26 ?k26 ?a27 ?l27 ?c27 ?k27 ?a29 ?l29 ?c29 ?k29 ?a30 ?l30 ?c30 ?k30 ?a31 ?l31 ?c31 ?k31 ?a32 ?l32 ?c32 ?k32 ?a33 ?l33 ?c33 ?k33 ?a34 ?l34 ?c34 ?k34 ?a35 ?l35 ?c35 ?k35 ?a36 ?l36 ?c36 ?k36 ?a37 ?l37 ?c37 ?k37 ?a38 ?l38 ?c38 ?k38 ?a39 ?l39 ?c39 ?k39 ?a40 ?l40 ?c40 ?k40 ?z_all ?z_bool ?z_dict ?z_enumerate ?z_int ?z_isinstance ?z_len ?z_max ?z_min ?z_range ?z_sorted ?z_str ?z_tuple ?z_zip ?z_FAR ?z_SMALL ?x40 ?y40 ?w40 ?n40 ?g40 ?u1 ?u2 ?u3 ?u4 ?u5 ?u6 ?u7 ?u8 ?u9 ?u10 ?u11 ?u12 ?u13 ?u14 ?u15 ?u16 ?u17 ?uVE ?xe3 ?xk3 ?xs3 ?xt3 ?xg3 ?xa3 ?xd3 ?xc3 ?xm3 ?xi3 ?xl3 ?xe10 ?xk10 ?xs10 ?xt10 ?xg10 ?xa10 ?xd10 ?xc10 ?xm10 ?xi10 ?xl10 ?sg ?st ?dT
    (case a21 => k_is)
    (case l21 => k_is)
    (case c21 => k_is)
    (case k21 => k_is)
    (case a22 => k_is)
    (case l22 => k_is)
    (case c22 => k_is)
    (case k22 => k_is)
    (case a23 => k_is)
    (case l23 => k_is)
    (case c23 => k_is)
    (case k23 => k_is)
    (case a25 => k_is)
    (case l25 => k_is)
    (case c25 => k_is)
    (case k25 => k_is)
    (case a26 => k_is)
    (case l26 => k_is)
    (case c26 => k_is)
    (case k26 => k_is)
    (case a27 => k_is)
    (case l27 => k_is)
    (case c27 => k_is)
    (case k27 => k_is)
    (case a29 => k_is)
    (case l29 => k_is)
    (case c29 => k_is)
    (case k29 => k_is)
    (case a30 => k_is)
    (case l30 => k_is)
    (case c30 => k_is)
    (case k30 => k_is)
    (case a31 => k_is)
    (case l31 => k_is)
    (case c31 => k_is)
    (case k31 => k_is)
    (case a32 => k_is)
    (case l32 => k_is)
    (case c32 => k_is)
    (case k32 => k_is)
    (case a33 => k_is)
    (case l33 => k_is)
    (case c33 => k_is)
    (case k33 => k_is)
    (case a34 => k_is)
    (case l34 => k_is)
    (case c34 => k_is)
    (case k34 => k_is)
    (case a35 => k_is)
    (case l35 => k_is)
    (case c35 => k_is)
    (case k35 => k_is)
    (case a36 => k_is)
    (case l36 => k_is)
    (case c36 => k_is)
    (case k36 => k_is)
    (case a37 => k_is)
    (case l37 => k_is)
    (case c37 => k_is)
    (case k37 => k_is)
    (case a38 => k_is)
    (case l38 => k_is)
    (case c38 => k_is)
    (case k38 => k_is)
    (case a39 => k_is)
    (case l39 => k_is)
    (case c39 => k_is)
    (case k39 => k_is)
    (case a40 => k_is)
    (case l40 => k_is)
    (case c40 => k_is)
    (case k40 => k_is)
    (case z_all => k_is)
    (case z_bool => k_is)
    (case z_dict => k_is)
    (case z_enumerate => k_is)
    (case z_int => k_is)
    (case z_isinstance => k_is)
    (case z_len => k_is)
    (case z_max => k_is)
    (case z_min => k_is)
    (case z_range => k_is)
    (case z_sorted => k_is)
    (case z_str => k_is)
    (case z_tuple => k_is)
    (case z_zip => k_is)
    (case z_FAR => k_is)
    (case z_SMALL => k_is)
    (case x40 => k_is)
    (case y40 => rfl)
    (case w40 => kernel_rfl)
    (case n40 => kernel_rfl)
    (case g40 => exact hT8 _ (by k_mem))
    (case u1 => k_is)
    (case u2 => k_is)
    (case u3 => k_is)
    (case u4 => k_is)
    (case u5 => k_is)
    (case u6 => k_is)
    (case u7 => k_is)
    (case u8 => k_is)
    (case u9 => k_is)
    (case u10 => k_is)
    (case u11 => k_is)
    (case u12 => k_is)
    (case u13 => k_is)
    (case u14 => k_is)
    (case u15 => k_is)
    (case u16 => k_is)
    (case u17 => k_is)
    (case uVE => k_is)
    (case xe3 => k_exc)
    (case xk3 => k_is)
    (case xs3 => k_is)
    (case xt3 => k_is)
    (case xg3 => k_is)
    (case xa3 => k_is)
    (case xd3 => k_is)
    (case xc3 => k_is)
    (case xm3 => k_is)
    (case xi3 => kernel_rfl)
    (case xl3 => kernel_rfl)
    (case xe10 => k_exc)
    (case xk10 => k_is)
    (case xs10 => k_is)
    (case xt10 => k_is)
    (case xg10 => k_is)
    (case xa10 => k_is)
    (case xd10 => k_is)
    (case xc10 => k_is)
    (case xm10 => k_is)
    (case xi10 => kernel_rfl)
    (case xl10 => kernel_rfl)
    (case sg => k_is)
    (case st => k_is)
    (case dT => decide +kernel)
#print axioms PySem.Challenge.cw_paidback_k10_orders_told_back_holds

