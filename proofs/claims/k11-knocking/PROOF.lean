import PyProof.Rows.All
import Wide.All
import OpenK.AllK
import Wide.FinOn
import PySem.Challenge.RW_phonehall_k11_knocking_taking_exchanging
import HandS.ForMost
import HandS.ForExc
import HandS.IsInst
import HandS.Deep
import HandS.Lambda
import HandS.TupAny
import KE.KAssignIn
import HandS.RaiseMore
import HandS.TupMul
import HandS.SortInts
import PyProof.DictUpdate
import HandS.Conv
import HandS.Zip
import HandS.Text
import HandS.HeadHook3
import KE.SortData
import HandS.Remove
import HandS.Iter
import HandS.More
import KE.DataFind
import HandS.OwnEq
import KE.KRevSl
import HandS.ExcIs
import HandS.EndTab
import HandS.SetFor
import HandS.ExcBuiltin
import PyProof.Rows.CountFlat
import HandS.TryOnly
import PySem.Challenge.RW_phonehall_k11_knocking_taking_exchanging
set_option Elab.async false
set_option linter.all false
set_option maxRecDepth 100000
set_option maxHeartbeats 2000000
set_option pp.maxSteps 700
namespace AM
open PySem PySem.Spec PyProof.Rows L2
-- E0_k11
set_option maxHeartbeats 0 in
open PySem PySem.W PyProof.Rows in
open_top head_of for PySem.Challenge.rw_phonehall_k11_knocking_taking_exchanging

-- AM1
/-! AM: an abstract state over the hand layer: values W, a store of mutable objects by number, environments by slot. -/

/-- abstract values: scalars, tuples, lists that nobody changes, the k-th mutable object, any other thing -/
inductive W where
  | non | bl (b : Bool) | int (i : Int) | str (x : Str)
  | tup (xs : List W) | lst (xs : List W)
  | ref (k : Nat) | raw (v : V) | scr (K : PySem.W.Frag) (ns : List Int)
/-- mutable objects -/
inductive O where
  | lst (xs : List W) | dk (kvs : List (Key × W)) | dt (kvs : List (List Key × W)) | ins (C : Addr) (fs : List (Str × W))
  /-- the law's row of draws: the script, a place, a number -/
  | row (K : PySem.W.Frag)
  /-- not told -/
  | any
  /-- the table of code objects of a def: where it stands, the name that its lambdas bear -/
  | tab (P : Addr) (q : Str)
abbrev Sto := List O
abbrev AEnv := List (Option W)

/-- where the mutable objects stand, by number; and the hidden ones -/
structure Lay where
  m : List Addr
  h : List Addr
def Lay.out (L : Lay) (a : Addr) : Prop := a ∉ L.m ∧ a ∉ L.h
abbrev Lay.add (L : Lay) (p : Addr) : Lay := ⟨L.m ++ [p], L.h⟩
abbrev Lay.hid (L : Lay) (p : Addr) : Lay := ⟨L.m, p :: L.h⟩
/-- a tuple, a list that nobody changes: tracked, and none of the mutable ones -/
def TQ (M : Lay) (H : Hp) (a : Addr) (xs : List V) : Prop := H a = some (.tup xs) ∧ M.out a
def LQ (M : Lay) (H : Hp) (a : Addr) (xs : List V) : Prop := H a = some (.lst xs) ∧ M.out a
/-- the script -/
def SQ (K : PySem.W.Frag) (M : Lay) (H : Hp) (a : Addr) (ns : List Int) : Prop :=
  (Rd H a (.lst (ns.map V.int)) ∧ M.out a) ∨ ∃ (o : Obj) (its : Array Value) (n : Nat), K.lookup a = some o ∧ o.cls = .type "list" ∧ o.dict = none ∧ o.data = .seq its n ∧ its.size ≤ sizeLine ∧ Vals (ns.map V.int) its.toList
theorem TQ.sq {K : PySem.W.Frag} {M : Lay} {H : Hp} {a : Addr} {xs : List V} (h : TQ M H a xs) : SqT K H a xs := SqT.of h.1
theorem LQ.sq {K : PySem.W.Frag} {M : Lay} {H : Hp} {a : Addr} {xs : List V} (h : LQ M H a xs) : SqL K H a xs := SqL.of h.1
theorem SQ.sq {K : PySem.W.Frag} {M : Lay} {H : Hp} {a : Addr} {ns : List Int} (h : SQ K M H a ns) : SqL K H a (ns.map V.int) := by
  rcases h with ⟨h, _⟩ | h
  · exact .inl h
  · exact .inr h
theorem SQ.of {K : PySem.W.Frag} {M : Lay} {H : Hp} {a : Addr} {ns : List Int} (h : SqL K H a (ns.map V.int)) (o : M.out a) : SQ K M H a ns := by
  rcases h with h | h
  · exact .inl ⟨h, o⟩
  · exact .inr h

mutual
inductive VW (M : Lay) (H : Hp) : V → W → Prop
  | non : VW M H .non .non
  | bl (b : Bool) : VW M H (.bl b) (.bl b)
  | int (i : Int) : VW M H (.int i) (.int i)
  | str (x : Str) : VW M H (.str x) (.str x)
  | tup {a : Addr} {xs : List V} {ws : List W} : TQ M H a xs → VWs M H xs ws → VW M H (.ref a) (.tup ws)
  | lst {a : Addr} {xs : List V} {ws : List W} : LQ M H a xs → VWs M H xs ws → VW M H (.ref a) (.lst ws)
  | ref {a : Addr} {k : Nat} : M.m[k]? = some a → VW M H (.ref a) (.ref k)
  | raw (v : V) : VW M H v (.raw v)
  | scr {K : PySem.W.Frag} {a : Addr} {ns : List Int} : SQ K M H a ns → VW M H (.ref a) (.scr K ns)
inductive VWs (M : Lay) (H : Hp) : List V → List W → Prop
  | nil : VWs M H [] []
  | cons {v : V} {vs : List V} {w : W} {ws : List W} : VW M H v w → VWs M H vs ws → VWs M H (v :: vs) (w :: ws)
end

/-- what a step of the code leaves: the mutable objects known before are known still, new ones are new; all else stands -/
structure Step (M : Lay) (H : Hp) (M2 : Lay) (H2 : Hp) : Prop where
  pre : M.m <+: M2.m
  new : ∀ p, ¬ M2.out p → M.out p → H p = none
  keep : ∀ a o, H a = some o → (∀ ps, o ≠ .tbl ps) → a ∉ M.m → H2 a = some o
  tbl : ∀ a ps, a ∉ M.m → H a = some (.tbl ps) → ∃ ps', H2 a = some (.tbl ps')
  there : ∀ a, a ∈ M.m → H a ≠ none → H2 a ≠ none
  /-- the hidden ones stay hidden, and are not among the mutable ones -/
  old : ∀ a, a ∈ M2.m → a ∈ M.h → a ∈ M.m
  hold : M2.h = M.h
theorem Step.refl (M : Lay) (H : Hp) : Step M H M H :=
  ⟨List.prefix_refl _, fun _ h n => absurd n h, fun _ _ h _ _ => h, fun _ ps _ h => ⟨ps, h⟩, fun _ _ h => h, fun _ h _ => h, rfl⟩
theorem Step.alive {M M2 : Lay} {H H2 : Hp} (s : Step M H M2 H2) {a : Addr} (h : H a ≠ none) : H2 a ≠ none := by
  by_cases m : a ∈ M.m
  · exact s.there a m h
  · cases e : H a with
    | none => exact absurd e h
    | some o =>
      by_cases t : ∃ ps, o = .tbl ps
      · obtain ⟨ps, rfl⟩ := t
        obtain ⟨ps', e'⟩ := s.tbl a ps m e
        rw [e']; exact fun z => nomatch z
      · rw [s.keep a o e (fun ps z => t ⟨ps, z⟩) m]; exact fun z => nomatch z
theorem Step.out {M M2 : Lay} {H H2 : Hp} (s : Step M H M2 H2) {a : Addr} (h : H a ≠ none) (m : M.out a) : M2.out a := Classical.byContradiction fun z => h (s.new a z m)
theorem Step.trans {M M1 M2 : Lay} {H H1 H2 : Hp} (s : Step M H M1 H1) (t : Step M1 H1 M2 H2) : Step M H M2 H2 where
  pre := List.IsPrefix.trans s.pre t.pre
  new := fun p h n => by
    by_cases m : M1.out p
    · have e := t.new p h m
      cases q : H p with
      | none => rfl
      | some o => exact absurd e (s.alive (by rw [q]; exact fun z => nomatch z))
    · exact s.new p m n
  keep := fun a o h nt m => by
    have e := s.keep a o h nt m
    refine t.keep a o e nt fun m1 => ?_
    by_cases hh : a ∈ M.h
    · exact m (s.old a m1 hh)
    · rw [s.new a (fun z => z.1 m1) ⟨m, hh⟩] at h
      cases h
  tbl := fun a ps m h => by
    obtain ⟨ps', e⟩ := s.tbl a ps m h
    refine t.tbl a ps' (fun m1 => ?_) e
    by_cases hh : a ∈ M.h
    · exact m (s.old a m1 hh)
    · rw [s.new a (fun z => z.1 m1) ⟨m, hh⟩] at h
      cases h
  there := fun a m h => t.alive (s.there a m h)
  old := fun a m hh => by
    by_cases q : a ∈ M1.h
    · exact s.old a (t.old a m q) hh
    · exact absurd (by rw [s.hold]; exact hh) q
  hold := t.hold.trans s.hold

theorem Step.old' {M M2 : Lay} {H H2 : Hp} (s : Step M H M2 H2) {a : Addr} (n : a ∉ M.m) (h : H a ≠ none) : a ∉ M2.m := fun m => by
  by_cases hh : a ∈ M.h
  · exact n (s.old a m hh)
  · exact h (s.new a (fun z => z.1 m) ⟨n, hh⟩)
theorem get_pre {α : Type} {l l2 : List α} (h : l <+: l2) {k : Nat} {a : α} (e : l[k]? = some a) : l2[k]? = some a := by
  obtain ⟨t, rfl⟩ := h
  rw [List.getElem?_append_left (List.getElem?_eq_some_iff.mp e).1]
  exact e
section
variable {K : PySem.W.Frag} {M M2 : Lay} {H H2 : Hp}
theorem rd_some {a : Addr} {u : HO} (h : Rd H a u) : H a ≠ none := by
  rcases h with h | ⟨o, h⟩ <;> (rw [h]; exact fun z => nomatch z)
theorem rd_step (s : Step M H M2 H2) {a : Addr} {u : HO} (h : Rd H a u) (nt : ∀ ps, u ≠ .tbl ps) (m : M.out a) : Rd H2 a u := by
  rcases h with h | ⟨o, h⟩
  · exact .inl (s.keep a _ h nt m.1)
  · exact .inr ⟨o, s.keep a _ h (fun ps z => nomatch z) m.1⟩
theorem TQ.step (s : Step M H M2 H2) {a : Addr} {xs : List V} (h : TQ M H a xs) : TQ M2 H2 a xs :=
  ⟨s.keep a _ h.1 (fun ps z => nomatch z) h.2.1, s.out (by rw [h.1]; exact fun z => nomatch z) h.2⟩
theorem LQ.step (s : Step M H M2 H2) {a : Addr} {xs : List V} (h : LQ M H a xs) : LQ M2 H2 a xs :=
  ⟨s.keep a _ h.1 (fun ps z => nomatch z) h.2.1, s.out (by rw [h.1]; exact fun z => nomatch z) h.2⟩
theorem SQ.step (s : Step M H M2 H2) {a : Addr} {ns : List Int} (h : SQ K M H a ns) : SQ K M2 H2 a ns := by
  rcases h with ⟨h, o⟩ | h
  · exact .inl ⟨rd_step s h (fun ps z => nomatch z) o, s.out (rd_some h) o⟩
  · exact .inr h
mutual
theorem VW.step (s : Step M H M2 H2) : ∀ (w : W) (v : V), VW M H v w → VW M2 H2 v w
  | .non, _, h => by cases h; exact .non
  | .bl b, _, h => by cases h; exact .bl b
  | .int i, _, h => by cases h; exact .int i
  | .str x, _, h => by cases h; exact .str x
  | .tup ws, _, h => by
    cases h with
    | tup q r => exact .tup (q.step s) (VWs.step s ws _ r)
  | .lst ws, _, h => by
    cases h with
    | lst q r => exact .lst (q.step s) (VWs.step s ws _ r)
  | .ref k, _, h => by
    cases h with
    | ref q => exact .ref (get_pre s.pre q)
  | .raw v, _, h => by cases h; exact .raw v
  | .scr _ ns, _, h => by
    cases h with
    | scr q => exact .scr (q.step s)
theorem VWs.step (s : Step M H M2 H2) : ∀ (ws : List W) (vs : List V), VWs M H vs ws → VWs M2 H2 vs ws
  | [], _, h => by cases h; exact .nil
  | w :: ws, _, h => by
    cases h with
    | cons a b => exact .cons (VW.step s w _ a) (VWs.step s ws _ b)
end
theorem VWs.length : ∀ {ws : List W} {vs : List V}, VWs M H vs ws → vs.length = ws.length
  | [], _, h => by cases h; rfl
  | w :: ws, _, h => by
    cases h with
    | cons a b => simp [VWs.length b]
theorem VWs.get : ∀ {ws : List W} {vs : List V} {i : Nat} {w : W}, VWs M H vs ws → ws[i]? = some w → ∃ v, vs[i]? = some v ∧ VW M H v w
  | [], _, _, _, h, e => by simp at e
  | w :: ws, _, 0, x, h, e => by
    cases h with
    | cons a b => simp at e; subst e; exact ⟨_, rfl, a⟩
  | w :: ws, _, i + 1, x, h, e => by
    cases h with
    | cons a b => exact VWs.get (i := i) b (by simpa using e)
theorem VWs.append : ∀ {ws : List W} {vs : List V} {ws' : List W} {vs' : List V}, VWs M H vs ws → VWs M H vs' ws' → VWs M H (vs ++ vs') (ws ++ ws')
  | [], _, _, _, h, h' => by cases h; exact h'
  | w :: ws, _, _, _, h, h' => by
    cases h with
    | cons a b => exact .cons a (VWs.append b h')
theorem VWs.set : ∀ {ws : List W} {vs : List V} {w : W} {v : V} (i : Nat), VWs M H vs ws → VW M H v w → VWs M H (vs.set i v) (ws.set i w)
  | [], _, _, _, _, h, h' => by cases h; exact .nil
  | w :: ws, _, _, _, 0, h, h' => by
    cases h with
    | cons a b => exact .cons h' b
  | w :: ws, _, _, _, i + 1, h, h' => by
    cases h with
    | cons a b => exact .cons a (VWs.set i b h')
theorem VWs.take : ∀ {ws : List W} {vs : List V} (n : Nat), VWs M H vs ws → VWs M H (vs.take n) (ws.take n)
  | _, _, 0, _ => by simp; exact .nil
  | [], _, _ + 1, h => by cases h; exact .nil
  | w :: ws, _, n + 1, h => by
    cases h with
    | cons a b => exact .cons a (VWs.take n b)
theorem VWs.drop : ∀ {ws : List W} {vs : List V} (n : Nat), VWs M H vs ws → VWs M H (vs.drop n) (ws.drop n)
  | _, _, 0, h => h
  | [], _, _ + 1, h => by cases h; exact .nil
  | w :: ws, _, n + 1, h => by
    cases h with
    | cons a b => exact VWs.drop n b
/-- pairs: a key and a value -/
abbrev PVW (M : Lay) (H : Hp) {κ : Type} : List (κ × V) → List (κ × W) → Prop := Paired fun (p : κ × V) (q : κ × W) => p.1 = q.1 ∧ VW M H p.2 q.2
theorem PVW.step (s : Step M H M2 H2) {κ : Type} {xs : List (κ × V)} {ws : List (κ × W)} (h : PVW M H xs ws) : PVW M2 H2 xs ws := Paired.mapP h fun _ _ r => ⟨r.1, VW.step s _ _ r.2⟩

/-! ### the store -/
def rowO (K : PySem.W.Frag) (M : Lay) (H : Hp) (xs : List V) : Prop :=
  ∃ (v : V) (ns : List Int) (i z : Int), xs = [v, .int i, .int z] ∧ VW M H v (.scr K ns) ∧ ns.length ≤ 63 ∧ 0 ≤ i ∧ 0 ≤ z ∧ z < 2147483647
inductive Ob (M : Lay) (H : Hp) : HO → O → Prop
  | lst {xs ws} : VWs M H xs ws → Ob M H (.lst xs) (.lst ws)
  | dk {kvs kws} : PVW M H kvs kws → Ob M H (.dK kvs) (.dk kws)
  | dt {kvs kws} : PVW M H kvs kws → Ob M H (.dT kvs) (.dt kws)
  | ins {C dx fs ws} : PVW M H fs ws → Ob M H (.ins C dx fs) (.ins C ws)
  | row {K xs} : rowO K M H xs → Ob M H (.lst xs) (.row K)
  | any {ho} : Mut (some ho) → (∀ f, ho ≠ .ext f) → Ob M H ho .any
  | tab {ps P q} : TriplesOk ps.toList → (∀ (pos : Pos) (cv : Value), codeAmong pos ps.toList = some cv → ∃ c, cv = .ref c ∧ c ∉ M.m ∧ H c = some (LamX.CodeO c q)) → Ob M H (.tbl ps) (.tab P q)
theorem Ob.step (s : Step M H M2 H2) {ho : HO} {o : O} (h : Ob M H ho o) : Ob M2 H2 ho o := by
  cases h with
  | lst r => exact .lst (VWs.step s _ _ r)
  | dk r => exact .dk (PVW.step s r)
  | dt r => exact .dt (PVW.step s r)
  | ins r => exact .ins (PVW.step s r)
  | row r =>
    obtain ⟨v, ns, i, z, e, r, q⟩ := r
    exact .row ⟨v, ns, i, z, e, VW.step s _ _ r, q⟩
  | any m n => exact .any m n
  | tab t q =>
    refine .tab t fun pos cv e => ?_
    obtain ⟨c, h1, h2, h3⟩ := q pos cv e
    exact ⟨c, h1, fun m => s.old' h2 (by rw [h3]; exact fun z => nomatch z) m, s.keep c _ h3 LamX.codeO_ne h2⟩
structure Rep (M : Lay) (H : Hp) (S : Sto) : Prop where
  nd : M.m.Nodup
  len : M.m.length = S.length
  at_ : ∀ (k : Nat) p o, M.m[k]? = some p → S[k]? = some o → ∃ ho, H p = some ho ∧ Ob M H ho o
  hid : ∀ p, p ∈ M.h → H p ≠ none ∧ p ∉ M.m
  tb : ∀ (k : Nat) P q, S[k]? = some (.tab P q) → M.m[k]? = some P
theorem Rep.alive {S : Sto} (r : Rep M H S) {p : Addr} (h : ¬ M.out p) : H p ≠ none := by
  by_cases q : p ∈ M.h
  · exact (r.hid p q).1
  · have h : p ∈ M.m := Classical.byContradiction fun z => h ⟨z, q⟩
    obtain ⟨k, hk, e⟩ := List.mem_iff_getElem.mp h
    have hs : k < S.length := by rw [← r.len]; exact hk
    obtain ⟨ho, h1, _⟩ := r.at_ k p S[k] (by rw [List.getElem?_eq_getElem hk, e]) (List.getElem?_eq_getElem hs)
    rw [h1]; exact fun z => nomatch z
theorem Rep.free {S : Sto} (r : Rep M H S) {p : Addr} (h : H p = none) : M.out p := Classical.byContradiction fun z => r.alive z h
theorem Rep.at' {S : Sto} (r : Rep M H S) {k : Nat} {o : O} (h : S[k]? = some o) : ∃ p ho, M.m[k]? = some p ∧ H p = some ho ∧ Ob M H ho o := by
  have hk : k < M.m.length := by rw [r.len]; exact (List.getElem?_eq_some_iff.mp h).1
  obtain ⟨ho, h1, h2⟩ := r.at_ k M.m[k] o (List.getElem?_eq_getElem hk) h
  exact ⟨M.m[k], ho, List.getElem?_eq_getElem hk, h1, h2⟩
/-- a new object that is not told of -/
theorem step_tmp {S : Sto} (r : Rep M H S) {p : Addr} {ho : HO} (hp : H p = none) : Step M H M (upd H p ho) where
  pre := List.prefix_refl _
  new := fun _ h n => absurd n h
  keep := fun a o h _ _ => by rw [upd_ne (ne_of_none h hp)]; exact h
  tbl := fun a ps _ h => ⟨ps, by rw [upd_ne (ne_of_none h hp)]; exact h⟩
  there := fun a _ h => by
    by_cases e : a = p
    · subst e; exact absurd hp h
    · rw [upd_ne e]; exact h
  old := fun _ h _ => h
  hold := rfl
theorem Rep.tmp {S : Sto} (r : Rep M H S) {p : Addr} {ho : HO} (hp : H p = none) : Rep M (upd H p ho) S :=
  ⟨r.nd, r.len, fun k q o h1 h2 => by
    obtain ⟨hq, e, b⟩ := r.at_ k q o h1 h2
    exact ⟨hq, by rw [upd_ne (ne_of_none e hp)]; exact e, b.step (step_tmp r hp)⟩, fun q hq => ⟨(step_tmp r (ho := ho) hp).alive (r.hid q hq).1, (r.hid q hq).2⟩, r.tb⟩
/-- a new object, told of as the last one -/
theorem step_new {S : Sto} (r : Rep M H S) {p : Addr} {ho : HO} (hp : H p = none) : Step M H (M.add p) (upd H p ho) where
  pre := List.prefix_append M.m [p]
  new := fun q h n => by
    have e : q = p := Classical.byContradiction fun z => h ⟨fun m => by
      rcases List.mem_append.mp m with m | m
      · exact n.1 m
      · exact z (List.mem_singleton.mp m), n.2⟩
    rw [e]; exact hp
  keep := fun a o h _ _ => by rw [upd_ne (ne_of_none h hp)]; exact h
  tbl := fun a ps _ h => ⟨ps, by rw [upd_ne (ne_of_none h hp)]; exact h⟩
  there := fun a _ h => by
    by_cases e : a = p
    · subst e; exact absurd hp h
    · rw [upd_ne e]; exact h
  old := fun a h hh => by
    rcases List.mem_append.mp h with h | h
    · exact h
    · rw [List.mem_singleton.mp h] at hh
      exact absurd hp (r.hid p hh).1
  hold := rfl
theorem Rep.new {S : Sto} (r : Rep M H S) {p : Addr} {ho : HO} {o : O} (hp : H p = none) (b : Ob (M.add p) (upd H p ho) ho o) (nt : ∀ P q, o ≠ O.tab P q := by intro _ _ z; cases z) : Rep (M.add p) (upd H p ho) (S ++ [o]) := by
  refine ⟨?_, by simp [r.len], fun k q u h1 h2 => ?_, fun q hq => ⟨(step_new r (ho := ho) hp).alive (r.hid q hq).1, fun m => ?_⟩, fun k P q e => ?_⟩
  · refine List.nodup_append.mpr ⟨r.nd, by simp, fun a ha b hb e => ?_⟩
    rw [List.mem_singleton.mp hb] at e
    subst e
    exact r.alive (fun z => z.1 ha) hp
  · have h1 : (M.m ++ [p])[k]? = some q := h1
    by_cases hk : k < M.m.length
    · rw [List.getElem?_append_left hk] at h1
      rw [List.getElem?_append_left (by rw [← r.len]; exact hk)] at h2
      obtain ⟨hq, e, b'⟩ := r.at_ k q u h1 h2
      exact ⟨hq, by rw [upd_ne (ne_of_none e hp)]; exact e, b'.step (step_new r hp)⟩
    · rw [List.getElem?_append_right (by omega)] at h1
      rw [List.getElem?_append_right (by rw [← r.len]; omega)] at h2
      have e0 : k - M.m.length = 0 := by
        have q := (List.getElem?_eq_some_iff.mp h1).1
        simp at q; omega
      have e1 : k - S.length = 0 := by rw [← r.len]; exact e0
      rw [e0] at h1; rw [e1] at h2
      simp at h1 h2
      subst h1; subst h2
      exact ⟨ho, upd_same, b⟩
  · rcases List.mem_append.mp m with m | m
    · exact (r.hid q hq).2 m
    · rw [List.mem_singleton.mp m] at hq
      exact (r.hid p hq).1 hp
  · by_cases hk : k < S.length
    · rw [List.getElem?_append_left hk] at e
      exact (List.getElem?_append_left (by rw [r.len]; exact hk)).trans (r.tb k P q e)
    · rw [List.getElem?_append_right (by omega)] at e
      have z := List.mem_of_getElem? e
      exact absurd (List.mem_singleton.mp z).symm (nt P q)
/-- the k-th object is written -/
theorem step_set {S : Sto} (r : Rep M H S) {k : Nat} {p : Addr} {ho : HO} (hp : M.m[k]? = some p) : Step M H M (upd H p ho) where
  pre := List.prefix_refl _
  new := fun _ h n => absurd n h
  keep := fun a o h _ m => by
    rw [upd_ne (fun e => m (by rw [e]; exact List.mem_of_getElem? hp))]; exact h
  tbl := fun a ps m h => ⟨ps, by rw [upd_ne (fun e => m (by rw [e]; exact List.mem_of_getElem? hp))]; exact h⟩
  there := fun a _ h => by
    by_cases e : a = p
    · subst e; rw [upd_same]; exact fun z => nomatch z
    · rw [upd_ne e]; exact h
  old := fun _ h _ => h
  hold := rfl
theorem nd_at {l : List Addr} (hN : l.Nodup) {i j : Nat} {x : Addr} (a : l[i]? = some x) (b : l[j]? = some x) : i = j := by
  obtain ⟨h1, e1⟩ := List.getElem?_eq_some_iff.mp a
  obtain ⟨h2, e2⟩ := List.getElem?_eq_some_iff.mp b
  exact (List.getElem_inj hN).mp (e1.trans e2.symm)
theorem Rep.set {S : Sto} (r : Rep M H S) {k : Nat} {p : Addr} {ho : HO} {o : O} (hp : M.m[k]? = some p) (b : Ob M (upd H p ho) ho o) (nt : ∀ P q, o ≠ O.tab P q := by intro _ _ z; cases z) : Rep M (upd H p ho) (S.set k o) := by
  have tb' : ∀ (j : Nat) P q, (S.set k o)[j]? = some (.tab P q) → M.m[j]? = some P := fun j P q e => by
    by_cases z : k = j
    · subst z
      have hk : k < S.length := by
        have z := (List.getElem?_eq_some_iff.mp e).1
        simpa using z
      rw [List.getElem?_set_self hk] at e
      exact absurd (Option.some.inj e) (nt P q)
    · rw [List.getElem?_set_ne z] at e
      exact r.tb j P q e
  refine ⟨r.nd, by simp [r.len], fun j q u h1 h2 => ?_, fun q hq => ⟨(step_set r (ho := ho) hp).alive (r.hid q hq).1, (r.hid q hq).2⟩, tb'⟩
  by_cases e : j = k
  · subst e
    rw [hp] at h1; cases h1
    have hk : j < S.length := by
      have z := (List.getElem?_eq_some_iff.mp h2).1
      simpa using z
    rw [List.getElem?_set_self hk] at h2; cases h2
    exact ⟨ho, upd_same, b⟩
  · rw [List.getElem?_set_ne (fun z => e z.symm)] at h2
    obtain ⟨hq, e1, b'⟩ := r.at_ j q u h1 h2
    refine ⟨hq, ?_, b'.step (step_set r hp)⟩
    rw [upd_ne (fun z => e (nd_at r.nd h1 (by rw [z]; exact hp)))]
    exact e1
/-! a hidden object: laid, written, shown -/
/-- what stands behind a hiding -/
theorem hid_vw {S : Sto} (r : Rep M H S) {p : Addr} {ho : HO} (hp : H p = none) : ∀ {w v}, VW M H v w → VW (M.hid p) (upd H p ho) v w := by
  intro w v h
  have o : ∀ {a : Addr}, H a ≠ none → M.out a → (M.hid p).out a := fun hn z => ⟨z.1, fun m => by
    rcases List.mem_cons.mp m with m | m
    · subst m; exact hn hp
    · exact z.2 m⟩
  refine VW.rec (motive_1 := fun v w _ => VW (M.hid p) (upd H p ho) v w) (motive_2 := fun v w _ => VWs (M.hid p) (upd H p ho) v w) .non .bl .int .str ?_ ?_ ?_ .raw ?_ .nil ?_ h
  · intro a xs ws q _ ih
    exact .tup ⟨by rw [upd_ne (ne_of_none q.1 hp)]; exact q.1, o (by rw [q.1]; exact fun z => nomatch z) q.2⟩ ih
  · intro a xs ws q _ ih
    exact .lst ⟨by rw [upd_ne (ne_of_none q.1 hp)]; exact q.1, o (by rw [q.1]; exact fun z => nomatch z) q.2⟩ ih
  · intro a k q
    exact .ref q
  · intro K a ns q
    refine .scr ?_
    rcases q with ⟨q, qo⟩ | q
    · refine .inl ⟨?_, o (rd_some q) qo⟩
      rcases q with z | ⟨u, z⟩
      · exact .inl (by rw [upd_ne (ne_of_none z hp)]; exact z)
      · exact .inr ⟨u, by rw [upd_ne (ne_of_none z hp)]; exact z⟩
    · exact .inr q
  · intro v vs w ws _ _ i1 i2
    exact .cons i1 i2
theorem hid_vws {S : Sto} (r : Rep M H S) {p : Addr} {ho : HO} (hp : H p = none) : ∀ {ws vs}, VWs M H vs ws → VWs (M.hid p) (upd H p ho) vs ws := by
  intro ws
  induction ws with
  | nil => intro vs h; cases h; exact .nil
  | cons w ws ih =>
    intro vs h
    cases h with
    | cons a b => exact .cons (hid_vw r hp a) (ih b)
/-- a step behind a hiding, told without it -/
theorem step_behind {M3 : Lay} {H3 : Hp} {h : List Addr} {m2 : List Addr} {D : Addr} (s : Step M H ⟨m2, h⟩ H2) (hD : H D = none) (t : Step ⟨m2, D :: h⟩ H2 M3 H3) : Step M H ⟨M3.m, h⟩ H3 where
  pre := List.IsPrefix.trans s.pre t.pre
  new := fun p hn n => by
    by_cases e : p = D
    · rw [e]; exact hD
    · by_cases m : p ∈ m2
      · exact s.new p (fun z => z.1 m) n
      · have hh : p ∉ h := by have := s.hold; simp only at this; rw [this]; exact n.2
        have q := t.new p (fun z => hn ⟨z.1, hh⟩) ⟨m, fun z => by
          rcases List.mem_cons.mp z with z | z
          · exact e z
          · exact hh z⟩
        cases r : H p with
        | none => rfl
        | some o => exact absurd q (s.alive (by rw [r]; exact fun z => nomatch z))
  keep := fun a o ha nt m => by
    have e := s.keep a o ha nt m
    refine t.keep a o e nt fun m1 => ?_
    by_cases hh : a ∈ M.h
    · exact m (s.old a m1 hh)
    · rw [s.new a (fun z => z.1 m1) ⟨m, hh⟩] at ha
      cases ha
  tbl := fun a ps m h => by
    obtain ⟨ps', e⟩ := s.tbl a ps m h
    refine t.tbl a ps' (fun m1 => ?_) e
    by_cases hh : a ∈ M.h
    · exact m (s.old a m1 hh)
    · rw [s.new a (fun z => z.1 m1) ⟨m, hh⟩] at h
      cases h
  there := fun a m h => t.alive (s.there a m h)
  old := fun a m hh => by
    have e := s.hold
    simp only at e
    by_cases q : a ∈ m2
    · exact s.old a q hh
    · have z := t.old a m (List.mem_cons_of_mem _ (by rw [e]; exact hh))
      exact s.old a z hh
  hold := s.hold
/-- an address that was free ahead is written -/
theorem step_free {D : Addr} {ho : HO} (s : Step M H M2 H2) (hD : H D = none) : Step M H M2 (upd H2 D ho) where
  pre := s.pre
  new := s.new
  keep := fun a o h nt m => by rw [upd_ne (ne_of_none h hD)]; exact s.keep a o h nt m
  tbl := fun a ps m h => by rw [upd_ne (ne_of_none h hD)]; exact s.tbl a ps m h
  there := fun a m h => by
    by_cases e : a = D
    · subst e; exact absurd hD h
    · rw [upd_ne e]; exact s.there a m h
  old := s.old
  hold := s.hold
theorem Rep.hide {S : Sto} (r : Rep M H S) {p : Addr} {ho : HO} (hp : H p = none) : Rep (M.hid p) (upd H p ho) S :=
  ⟨r.nd, r.len, fun k q o h1 h2 => by
    obtain ⟨hq, e, b⟩ := r.at_ k q o h1 h2
    refine ⟨hq, by rw [upd_ne (ne_of_none e hp)]; exact e, ?_⟩
    have fp : ∀ {κ : Type} {xs : List (κ × V)} {ws : List (κ × W)}, PVW M H xs ws → PVW (M.hid p) (upd H p ho) xs ws := fun h => Paired.mapP h fun _ _ z => ⟨z.1, hid_vw r hp z.2⟩
    cases b with
    | lst a => exact .lst (hid_vws r hp a)
    | dk a => exact .dk (fp a)
    | dt a => exact .dt (fp a)
    | ins a => exact .ins (fp a)
    | row a =>
      obtain ⟨v, ns, i, z, e, a, q⟩ := a
      exact .row ⟨v, ns, i, z, e, hid_vw r hp a, q⟩
    | any m n => exact .any m n
    | tab t q =>
      refine .tab t fun pos cv e => ?_
      obtain ⟨c, h1, h2, h3⟩ := q pos cv e
      exact ⟨c, h1, h2, by rw [upd_ne (ne_of_none h3 hp)]; exact h3⟩, fun q hq => by
    rcases List.mem_cons.mp hq with e | hq
    · subst e
      exact ⟨(by rw [upd_same]; exact fun z => nomatch z), fun m => r.alive (fun z => z.1 m) hp⟩
    · exact ⟨(step_tmp r (ho := ho) hp).alive (r.hid q hq).1, (r.hid q hq).2⟩, r.tb⟩
/-- what stands but for one address that no value reads -/
theorem step_over {S : Sto} (r : Rep M H S) {p : Addr} {u ho : HO} (hp : p ∈ M.h) (hu : H p = some u) (nt : (∀ ps, u ≠ .tbl ps) ∧ ∀ f, u ≠ .ext f) :
    (∀ w v, VW M H v w → VW M (upd H p ho) v w) ∧ Rep M (upd H p ho) S := by
  have e1 : ∀ {a : Addr}, M.out a → a ≠ p := fun o z => o.2 (z ▸ hp)
  have f : ∀ w v, VW M H v w → VW M (upd H p ho) v w := by
    intro w v h
    refine VW.rec (motive_1 := fun v w _ => VW M (upd H p ho) v w) (motive_2 := fun v w _ => VWs M (upd H p ho) v w) .non .bl .int .str ?_ ?_ ?_ .raw ?_ .nil ?_ h
    · intro a xs ws q _ ih
      exact .tup ⟨by rw [upd_ne (e1 q.2)]; exact q.1, q.2⟩ ih
    · intro a xs ws q _ ih
      exact .lst ⟨by rw [upd_ne (e1 q.2)]; exact q.1, q.2⟩ ih
    · intro a k q
      exact .ref q
    · intro K a ns q
      refine .scr ?_
      rcases q with ⟨q, qo⟩ | q
      · refine .inl ⟨?_, qo⟩
        rcases q with z | ⟨o, z⟩
        · exact .inl (by rw [upd_ne (e1 qo)]; exact z)
        · exact .inr ⟨o, by rw [upd_ne (e1 qo)]; exact z⟩
      · exact .inr q
    · intro v vs w ws _ _ i1 i2
      exact .cons i1 i2
  have fs : ∀ {ws vs}, VWs M H vs ws → VWs M (upd H p ho) vs ws := by
    intro ws
    induction ws with
    | nil => intro vs h; cases h; exact .nil
    | cons w ws ih =>
      intro vs h
      cases h with
      | cons a b => exact .cons (f _ _ a) (ih b)
  have fp : ∀ {κ : Type} {xs : List (κ × V)} {ws : List (κ × W)}, PVW M H xs ws → PVW M (upd H p ho) xs ws := fun h => Paired.mapP h fun _ _ r => ⟨r.1, f _ _ r.2⟩
  refine ⟨f, ⟨r.nd, r.len, fun k q o h1 h2 => ?_, fun q hq => ⟨?_, (r.hid q hq).2⟩, r.tb⟩⟩
  · obtain ⟨hq, e, b⟩ := r.at_ k q o h1 h2
    have nq : q ≠ p := fun z => (r.hid p hp).2 (by rw [← z]; exact List.mem_of_getElem? h1)
    refine ⟨hq, by rw [upd_ne nq]; exact e, ?_⟩
    cases b with
    | lst a => exact .lst (fs a)
    | dk a => exact .dk (fp a)
    | dt a => exact .dt (fp a)
    | ins a => exact .ins (fp a)
    | row a =>
      obtain ⟨v, ns, i, z, e, a, q⟩ := a
      exact .row ⟨v, ns, i, z, e, f _ _ a, q⟩
    | any m n => exact .any m n
    | tab t q =>
      refine .tab t fun pos cv e => ?_
      obtain ⟨c, h1, h2, h3⟩ := q pos cv e
      have nc : c ≠ p := fun z => by
        rw [z, hu] at h3
        exact nt.2 _ (Option.some.inj h3)
      exact ⟨c, h1, h2, by rw [upd_ne nc]; exact h3⟩
  · by_cases z : q = p
    · subst z; rw [upd_same]; exact fun z => nomatch z
    · rw [upd_ne z]; exact (r.hid q hq).1
/-- the hidden one is shown: it is a list that nobody changes from now on -/
theorem vw_show {p : Addr} : ∀ {w v}, VW (M.hid p) H v w → VW M H v w := by
  intro w v h
  have o : ∀ {a : Addr}, (M.hid p).out a → M.out a := fun z => ⟨z.1, fun m => z.2 (List.mem_cons_of_mem _ m)⟩
  refine VW.rec (motive_1 := fun v w _ => VW M H v w) (motive_2 := fun v w _ => VWs M H v w) .non .bl .int .str ?_ ?_ ?_ .raw ?_ .nil ?_ h
  · intro a xs ws q _ ih
    exact .tup ⟨q.1, o q.2⟩ ih
  · intro a xs ws q _ ih
    exact .lst ⟨q.1, o q.2⟩ ih
  · intro a k q
    exact .ref q
  · intro K a ns q
    refine .scr ?_
    rcases q with ⟨q, qo⟩ | q
    · exact .inl ⟨q, o qo⟩
    · exact .inr q
  · intro v vs w ws _ _ i1 i2
    exact .cons i1 i2
theorem vws_show {p : Addr} : ∀ {ws vs}, VWs (M.hid p) H vs ws → VWs M H vs ws := by
  intro ws
  induction ws with
  | nil => intro vs h; cases h; exact .nil
  | cons w ws ih =>
    intro vs h
    cases h with
    | cons a b => exact .cons (vw_show a) (ih b)
theorem Rep.show {S : Sto} {p : Addr} (r : Rep (M.hid p) H S) : Rep M H S :=
  ⟨r.nd, r.len, fun k q o h1 h2 => by
    obtain ⟨hq, e, b⟩ := r.at_ k q o h1 h2
    refine ⟨hq, e, ?_⟩
    have fp : ∀ {κ : Type} {xs : List (κ × V)} {ws : List (κ × W)}, PVW (M.hid p) H xs ws → PVW M H xs ws := fun h => Paired.mapP h fun _ _ r => ⟨r.1, vw_show r.2⟩
    cases b with
    | lst a => exact .lst (vws_show a)
    | dk a => exact .dk (fp a)
    | dt a => exact .dt (fp a)
    | ins a => exact .ins (fp a)
    | row a =>
      obtain ⟨v, ns, i, z, e, a, q⟩ := a
      exact .row ⟨v, ns, i, z, e, vw_show a, q⟩
    | any m n => exact .any m n
    | tab t q =>
      refine .tab t fun pos cv e => ?_
      obtain ⟨c, h1, h2, h3⟩ := q pos cv e
      exact ⟨c, h1, h2, h3⟩, fun q hq => r.hid q (List.mem_cons_of_mem _ hq), r.tb⟩
/-! ### slots -/
def EvOk (M : Lay) (H : Hp) (σ : L2.St) (E : AEnv) : Prop :=
  σ.length = E.length ∧ ∀ (i : Nat) w, E[i]? = some (some w) → ∃ v, σ[i]? = some (some v) ∧ VW M H v w
theorem EvOk.step (s : Step M H M2 H2) {σ : L2.St} {E : AEnv} (e : EvOk M H σ E) : EvOk M2 H2 σ E :=
  ⟨e.1, fun i w h => by
    obtain ⟨v, h1, h2⟩ := e.2 i w h
    exact ⟨v, h1, VW.step s _ _ h2⟩⟩
theorem EvOk.set {σ : L2.St} {E : AEnv} (e : EvOk M H σ E) {v : V} {w : W} (h : VW M H v w) (i : Nat) : EvOk M H (σ.set i (some v)) (E.set i (some w)) :=
  ⟨by simp [e.1], fun j u hj => by
    by_cases q : j = i
    · subst q
      have hl : j < E.length := by
        have z := (List.getElem?_eq_some_iff.mp hj).1
        simpa using z
      rw [List.getElem?_set_self hl] at hj
      cases hj
      exact ⟨v, List.getElem?_set_self (by rw [e.1]; exact hl), h⟩
    · rw [List.getElem?_set_ne (fun z => q z.symm)] at hj
      obtain ⟨x, h1, h2⟩ := e.2 j u hj
      exact ⟨x, by rw [List.getElem?_set_ne (fun z => q z.symm)]; exact h1, h2⟩⟩
end

-- AM2

/-! ### judgements -/
/-- what is wanted of an exception: its class, its own fields, the slots, the store -/
abbrev AX := Value → List (Str × W) → AEnv → Sto → Prop
abbrev nox : AX := fun _ _ _ _ => False
def Xd (M : Lay) (H : Hp) : Option Addr → List (Str × W) → Prop
  | none, fs => fs = []
  | some d, fs => fs ≠ [] ∧ ∃ kvs, H d = some (.xd kvs) ∧ PVW M H kvs fs
def ExcOk (X : Cx) (M : Lay) (H : Hp) (Ψ : AX) : Prop :=
  ∃ Wx : WX, Takes X Wx ∧ ∀ cls fs E2 S2 M2 H2 d σ2, Ψ cls fs E2 S2 → Rep M2 H2 S2 → EvOk M2 H2 σ2 E2 → Xd M2 H2 d fs → Step M H M2 H2 → Wx cls d σ2 H2
theorem ExcOk.step {X : Cx} {M M2 : Lay} {H H2 : Hp} {Ψ : AX} (x : ExcOk X M H Ψ) (s : Step M H M2 H2) : ExcOk X M2 H2 Ψ := by
  obtain ⟨Wx, t, h⟩ := x
  exact ⟨Wx, t, fun cls fs E2 S2 M3 H3 d σ2 p r e xd s2 => h cls fs E2 S2 M3 H3 d σ2 p r e xd (s.trans s2)⟩
theorem ExcOk.none {X : Cx} {M : Lay} {H : Hp} : ExcOk X M H nox := ⟨_, takes0, fun _ _ _ _ _ _ _ _ p => p.elim⟩
def Got (M : Lay) (H : Hp) (Φ : W → Sto → Prop) (Q : VK) : Prop :=
  ∀ v w M2 S2 H2, Φ w S2 → Rep M2 H2 S2 → VW M2 H2 v w → Step M H M2 H2 → Q v H2
def GotS (M : Lay) (H : Hp) (Φ : List W → Sto → Prop) (Q : List V → Hp → Prop) : Prop :=
  ∀ vs ws M2 S2 H2, Φ ws S2 → Rep M2 H2 S2 → VWs M2 H2 vs ws → Step M H M2 H2 → Q vs H2
def GotT (M : Lay) (H : Hp) (Φ : Bool → Sto → Prop) (Q : Bool → Hp → Prop) : Prop :=
  ∀ k M2 S2 H2, Φ k S2 → Rep M2 H2 S2 → Step M H M2 H2 → Q k H2

def sem (X : Cx) (e : Expr) : TE := fun σ H Q => ∀ pins s, Inv X pins σ H s → wpAny (model X.prog X.w) X.A (eval e X.env) (EP X pins σ Q) X.xe s
def semT (X : Cx) (e : Expr) : TT := fun σ H Q => ∀ pins s, Inv X pins σ H s → wpAny (model X.prog X.w) X.A (isTrue e X.env (eval e X.env)) (TP X pins σ Q) X.xe s
def semW (X : Cx) (e : Expr) : TT := fun σ H Q => ∀ (whole : Sem Value) pins s, Inv X pins σ H s → wpAny (model X.prog X.w) X.A (isTrue e X.env whole) (TP X pins σ Q) X.xe s
def semA (X : Cx) (es : List Expr) : TA := fun σ H Q => ∀ (pos : Pos) pins s, Inv X pins σ H s → wpAny (model X.prog X.w) X.A (spliced (backTo pos (starEach es X.env))) (AP X pins σ Q) X.xe s
def semS (X : Cx) (st : Stmt) : TS := fun D σ H => ∀ pins s, Inv X pins σ H s → wpAny (model X.prog X.w) X.A (exec st X.env) (SP X pins D) X.xe s
def semB (X : Cx) (st : List Stmt) : TS := fun D σ H => ∀ pins s, Inv X pins σ H s → wpAny (model X.prog X.w) X.A (execs st X.env) (SP X pins D) X.xe s
section
variable {X : Cx} {e : Expr} {es : List Expr} {st : Stmt} {sts : List Stmt}
theorem pe_sem : PE X e (sem X e) := ⟨fun pins s _ _ _ I h => h pins s I⟩
theorem pt_sem : PT X e (semT X e) := ⟨fun pins s _ _ _ I h => h pins s I⟩
theorem pw_sem : L2.PW X e (semW X e) := ⟨fun w pins s _ _ _ I h => h w pins s I⟩
theorem pa_sem : PA X es (semA X es) := ⟨fun p pins s _ _ _ I h => h p pins s I⟩
theorem ps_sem : PS X st (semS X st) := ⟨fun pins s _ _ _ I h => h pins s I⟩
theorem pss_sem : PSs X sts (semB X sts) := ⟨fun pins s _ _ _ I h => h pins s I⟩
end

structure wE (X : Cx) (Ψ : AX) (e : Expr) (E : AEnv) (S : Sto) (Φ : W → Sto → Prop) : Prop where
  run : ∀ M σ H, Rep M H S → EvOk M H σ E → ExcOk X M H Ψ → ∀ Q : VK, Got M H Φ Q → sem X e σ H Q
structure wT (X : Cx) (Ψ : AX) (e : Expr) (E : AEnv) (S : Sto) (Φ : Bool → Sto → Prop) : Prop where
  run : ∀ M σ H, Rep M H S → EvOk M H σ E → ExcOk X M H Ψ → ∀ Q, GotT M H Φ Q → semT X e σ H Q
structure wW (X : Cx) (Ψ : AX) (e : Expr) (E : AEnv) (S : Sto) (Φ : Bool → Sto → Prop) : Prop where
  run : ∀ M σ H, Rep M H S → EvOk M H σ E → ExcOk X M H Ψ → ∀ Q, GotT M H Φ Q → semW X e σ H Q
structure wA (X : Cx) (Ψ : AX) (es : List Expr) (E : AEnv) (S : Sto) (Φ : List W → Sto → Prop) : Prop where
  run : ∀ M σ H, Rep M H S → EvOk M H σ E → ExcOk X M H Ψ → ∀ Q, GotS M H Φ Q → semA X es σ H Q
/-- ends of statements -/
structure AE where
  nx : AEnv → Sto → Prop
  rt : W → Sto → Prop
  bk : AEnv → Sto → Prop := fun _ _ => False
  ct : AEnv → Sto → Prop := fun _ _ => False
structure GotB (M : Lay) (H : Hp) (A : AE) (D : Ends) : Prop where
  nx : ∀ σ E M2 S2 H2, A.nx E S2 → Rep M2 H2 S2 → EvOk M2 H2 σ E → Step M H M2 H2 → D.nx σ H2
  rt : Got M H A.rt D.rt
  bk : ∀ σ E M2 S2 H2, A.bk E S2 → Rep M2 H2 S2 → EvOk M2 H2 σ E → Step M H M2 H2 → D.bk σ H2
  ct : ∀ σ E M2 S2 H2, A.ct E S2 → Rep M2 H2 S2 → EvOk M2 H2 σ E → Step M H M2 H2 → D.ct σ H2
structure wS (X : Cx) (Ψ : AX) (st : Stmt) (E : AEnv) (S : Sto) (A : AE) : Prop where
  run : ∀ M σ H, Rep M H S → EvOk M H σ E → ExcOk X M H Ψ → ∀ D, GotB M H A D → semS X st D σ H
structure wB (X : Cx) (Ψ : AX) (st : List Stmt) (E : AEnv) (S : Sto) (A : AE) : Prop where
  run : ∀ M σ H, Rep M H S → EvOk M H σ E → ExcOk X M H Ψ → ∀ D, GotB M H A D → semB X st D σ H
theorem Got.step {M M2 : Lay} {H H2 : Hp} {Φ : W → Sto → Prop} {Q : VK} (g : Got M H Φ Q) (s : Step M H M2 H2) : Got M2 H2 Φ Q :=
  fun v w M3 S3 H3 p r a t => g v w M3 S3 H3 p r a (s.trans t)
theorem GotT.step {M M2 : Lay} {H H2 : Hp} {Φ : Bool → Sto → Prop} {Q : Bool → Hp → Prop} (g : GotT M H Φ Q) (s : Step M H M2 H2) : GotT M2 H2 Φ Q :=
  fun k M3 S3 H3 p r t => g k M3 S3 H3 p r (s.trans t)
theorem GotS.step {M M2 : Lay} {H H2 : Hp} {Φ : List W → Sto → Prop} {Q : List V → Hp → Prop} (g : GotS M H Φ Q) (s : Step M H M2 H2) : GotS M2 H2 Φ Q :=
  fun v w M3 S3 H3 p r a t => g v w M3 S3 H3 p r a (s.trans t)
theorem GotB.step {M M2 : Lay} {H H2 : Hp} {A : AE} {D : Ends} (g : GotB M H A D) (s : Step M H M2 H2) : GotB M2 H2 A D :=
  ⟨fun σ E M3 S3 H3 p r e t => g.nx σ E M3 S3 H3 p r e (s.trans t), g.rt.step s, fun σ E M3 S3 H3 p r e t => g.bk σ E M3 S3 H3 p r e (s.trans t), fun σ E M3 S3 H3 p r e t => g.ct σ E M3 S3 H3 p r e (s.trans t)⟩

section
variable {X : Cx} {Ψ : AX} {a b e : Expr} {es : List Expr} {E : AEnv} {S : Sto} {Φ : W → Sto → Prop} {ΦT : Bool → Sto → Prop} {ΦS : List W → Sto → Prop} {pos : Pos}
theorem wE.of {t : TE} (h : PE X e t) (g : ∀ M σ H, Rep M H S → EvOk M H σ E → ExcOk X M H Ψ → ∀ Q : VK, Got M H Φ Q → t σ H Q) : wE X Ψ e E S Φ :=
  ⟨fun M σ H r ev x Q q pins s I => h.run pins s σ H Q I (g M σ H r ev x Q q)⟩
theorem wT.of {t : TT} (h : PT X e t) (g : ∀ M σ H, Rep M H S → EvOk M H σ E → ExcOk X M H Ψ → ∀ Q, GotT M H ΦT Q → t σ H Q) : wT X Ψ e E S ΦT :=
  ⟨fun M σ H r ev x Q q pins s I => h.run pins s σ H Q I (g M σ H r ev x Q q)⟩
theorem wW.of {t : TT} (h : L2.PW X e t) (g : ∀ M σ H, Rep M H S → EvOk M H σ E → ExcOk X M H Ψ → ∀ Q, GotT M H ΦT Q → t σ H Q) : wW X Ψ e E S ΦT :=
  ⟨fun M σ H r ev x Q q w pins s I => h.run w pins s σ H Q I (g M σ H r ev x Q q)⟩
theorem wA.of {t : TA} (h : PA X es t) (g : ∀ M σ H, Rep M H S → EvOk M H σ E → ExcOk X M H Ψ → ∀ Q, GotS M H ΦS Q → t σ H Q) : wA X Ψ es E S ΦS :=
  ⟨fun M σ H r ev x Q q p pins s I => h.run p pins s σ H Q I (g M σ H r ev x Q q)⟩
theorem wS.of {st : Stmt} {t : TS} {A : AE} (h : PS X st t) (g : ∀ M σ H, Rep M H S → EvOk M H σ E → ExcOk X M H Ψ → ∀ D, GotB M H A D → t D σ H) : wS X Ψ st E S A :=
  ⟨fun M σ H r ev x D q pins s I => h.run pins s σ H D I (g M σ H r ev x D q)⟩
theorem wB.of {st : List Stmt} {t : TS} {A : AE} (h : PSs X st t) (g : ∀ M σ H, Rep M H S → EvOk M H σ E → ExcOk X M H Ψ → ∀ D, GotB M H A D → t D σ H) : wB X Ψ st E S A :=
  ⟨fun M σ H r ev x D q pins s I => h.run pins s σ H D I (g M σ H r ev x D q)⟩
theorem wE.imp {Φ' : W → Sto → Prop} (h : wE X Ψ e E S Φ) (g : ∀ w S', Φ w S' → Φ' w S') : wE X Ψ e E S Φ' :=
  ⟨fun M σ H r ev x Q q => h.run M σ H r ev x Q fun v w M2 S2 H2 p => q v w M2 S2 H2 (g _ _ p)⟩
theorem wT.imp {Φ' : Bool → Sto → Prop} (h : wT X Ψ e E S ΦT) (g : ∀ w S', ΦT w S' → Φ' w S') : wT X Ψ e E S Φ' :=
  ⟨fun M σ H r ev x Q q => h.run M σ H r ev x Q fun w M2 S2 H2 p => q w M2 S2 H2 (g _ _ p)⟩
theorem wB.imp {st : List Stmt} {A A' : AE} (h : wB X Ψ st E S A) (g1 : ∀ w S', A.nx w S' → A'.nx w S') (g2 : ∀ w S', A.rt w S' → A'.rt w S') (g3 : ∀ w S', A.bk w S' → A'.bk w S') (g4 : ∀ w S', A.ct w S' → A'.ct w S') : wB X Ψ st E S A' :=
  ⟨fun M σ H r ev x D q => h.run M σ H r ev x D ⟨fun σ E M2 S2 H2 p => q.nx σ E M2 S2 H2 (g1 _ _ p), fun v w M2 S2 H2 p => q.rt v w M2 S2 H2 (g2 _ _ p), fun σ E M2 S2 H2 p => q.bk σ E M2 S2 H2 (g3 _ _ p), fun σ E M2 S2 H2 p => q.ct σ E M2 S2 H2 (g4 _ _ p)⟩⟩

/-! ### names, constants -/
theorem wE_name {x : Str} {w : W} (i : Nat) (he : E[i]? = some (some w)) (h : Φ w S) (hN : X.N[i]? = some x := by rfl) (hv : Vis X.env.scope x := by first | exact Or.inl rfl | exact Or.inr (Or.inl rfl) | exact Or.inr (Or.inr rfl))
    (hd : (x == ("__debug__" : Str)) = false := by decide) (hcd : (x == ("__classdict__" : Str)) = false := by decide) : wE X Ψ (.Name x pos) E S Φ :=
  wE.of (pe_var (i := i) hN hv hd hcd) fun M σ H r ev _ Q q => by
    obtain ⟨v, h1, h2⟩ := ev.2 i w he
    exact ⟨v, h1, q v w M S H h r h2 (Step.refl M H)⟩
theorem wE_int {i j} (h : Φ (.int i) S) : wE X Ψ (.Constant (.int i) j pos) E S Φ := wE.of pe_int fun M σ H r _ _ Q q => q _ _ M S H h r (.int i) (Step.refl M H)
theorem wE_bl {i j} (h : Φ (.bl i) S) : wE X Ψ (.Constant (.bool i) j pos) E S Φ := wE.of pe_bl fun M σ H r _ _ Q q => q _ _ M S H h r (.bl i) (Step.refl M H)
theorem wE_non {j} (h : Φ .non S) : wE X Ψ (.Constant .none j pos) E S Φ := wE.of pe_non fun M σ H r _ _ Q q => q _ _ M S H h r .non (Step.refl M H)
theorem wE_str {x j} (h : Φ (.str x) S) : wE X Ψ (.Constant (.str x) j pos) E S Φ := wE.of pe_str fun M σ H r _ _ Q q => q _ _ M S H h r (.str x) (Step.refl M H)
/-- a module's constant, an int, a text; a def, a class -/
def cW : W → Option V
  | .non => some .non | .bl b => some (.bl b) | .int i => some (.int i) | .str x => some (.str x) | .raw v => some v | _ => none
theorem vw_c {M : Lay} {H : Hp} {w : W} {v : V} (h : cW w = some v) : VW M H v w := by
  cases w <;> simp [cW] at h <;> subst h
  · exact .non
  · exact .bl _
  · exact .int _
  · exact .str _
  · exact .raw _
theorem wE_glob {x : Str} {v : V} {u : Value} {w : W} (hm : X.mg x = some u) (r : RelV v u) (hw : cW w = some v) (h : Φ w S) (hg : Gl X x := by rfl) (hd : (x == ("__debug__" : Str)) = false := by decide) : wE X Ψ (.Name x pos) E S Φ :=
  wE.of (pe_glob hg hm r hd) fun M σ H r _ _ Q q => q _ _ M S H h r (vw_c hw) (Step.refl M H)
theorem wE_bltn {x : Str} {v : V} {u : Value} (hm : X.mg x = none) (hv : bootBuiltins x = some u) (r : RelV v u) (h : Φ (.raw v) S) (hg : Gl X x := by rfl) (hn : x ≠ "__name__" := by decide) (hd : (x == ("__debug__" : Str)) = false := by decide) : wE X Ψ (.Name x pos) E S Φ :=
  wE.of (pe_bltn hg hm hv r hn hd) fun M σ H r _ _ Q q => q _ _ M S H h r (.raw _) (Step.refl M H)

/-! ### lists of arguments, displays -/
theorem wA_nil (h : ΦS [] S) : wA X Ψ [] E S ΦS := wA.of pa_nil fun M σ H r _ _ Q q => q _ _ M S H h r .nil (Step.refl M H)
theorem wA_cons (h : wE X Ψ e E S fun w S1 => wA X Ψ es E S1 fun ws S2 => ΦS (w :: ws) S2) (hs : starEach (e :: es) X.env = (false, eval e X.env) :: starEach es X.env := by rfl) : wA X Ψ (e :: es) E S ΦS :=
  wA.of (pa_cons pe_sem pa_sem hs) fun M σ H r ev x Q q =>
    h.run M σ H r ev x _ fun v w M1 S1 H1 p r1 a1 s1 => p.run M1 σ H1 r1 (ev.step s1) (x.step s1) _ fun vs ws M2 S2 H2 p2 r2 a2 s2 =>
      q _ _ M2 S2 H2 p2 r2 (.cons (VW.step s2 _ _ a1) a2) (s1.trans s2)
theorem tq_new {M : Lay} {H : Hp} {S : Sto} (r : Rep M H S) {p : Addr} {xs : List V} {ws : List W} (hp : H p = none) (a : VWs M H xs ws) : VW M (upd H p (.tup xs)) (.ref p) (.tup ws) :=
  .tup ⟨upd_same, r.free hp⟩ (VWs.step (step_tmp r hp) _ _ a)
theorem lq_new {M : Lay} {H : Hp} {S : Sto} (r : Rep M H S) {p : Addr} {xs : List V} {ws : List W} (hp : H p = none) (a : VWs M H xs ws) : VW M (upd H p (.lst xs)) (.ref p) (.lst ws) :=
  .lst ⟨upd_same, r.free hp⟩ (VWs.step (step_tmp r hp) _ _ a)
theorem lst_new {M : Lay} {H : Hp} {S : Sto} (r : Rep M H S) {p : Addr} {xs : List V} {ws : List W} (hp : H p = none) (a : VWs M H xs ws) : Rep (M.add p) (upd H p (.lst xs)) (S ++ [.lst ws]) ∧ VW (M.add p) (upd H p (.lst xs)) (.ref p) (.ref S.length) :=
  ⟨r.new hp (.lst (VWs.step (step_new r hp) _ _ a)), .ref (by show (M.m ++ [p])[S.length]? = some p; rw [← r.len, List.getElem?_append_right (Nat.le_refl _)]; simp)⟩
theorem wE_tup {x1} (h : wA X Ψ es E S fun ws S1 => ws.length ≤ 100000 ∧ Φ (.tup ws) S1) : wE X Ψ (.Tuple es x1 pos) E S Φ :=
  wE.of (pe_tup pa_sem) fun M σ H r ev x Q q => h.run M σ H r ev x _ fun vs ws M1 S1 H1 p r1 a1 s1 =>
    ⟨Nat.le_trans (by rw [a1.length]; exact p.1) (by decide), fun ad hp => q _ _ M1 S1 _ p.2 (r1.tmp hp) (tq_new r1 hp a1) (s1.trans (step_tmp r1 hp))⟩
/-- a list that nobody will change -/
theorem wE_lst (h : wA X Ψ es E S fun ws S1 => ws.length ≤ 100000 ∧ Φ (.lst ws) S1) : wE X Ψ (.List es pos) E S Φ :=
  wE.of (pe_lst pa_sem) fun M σ H r ev x Q q => h.run M σ H r ev x _ fun vs ws M1 S1 H1 p r1 a1 s1 =>
    ⟨Nat.le_trans (by rw [a1.length]; exact p.1) (by decide), fun ad hp => q _ _ M1 S1 _ p.2 (r1.tmp hp) (lq_new r1 hp a1) (s1.trans (step_tmp r1 hp))⟩
/-- a list of one's own -/
theorem wE_lstN (h : wA X Ψ es E S fun ws S1 => ws.length ≤ 100000 ∧ Φ (.ref S1.length) (S1 ++ [.lst ws])) : wE X Ψ (.List es pos) E S Φ :=
  wE.of (pe_lst pa_sem) fun M σ H r ev x Q q => h.run M σ H r ev x _ fun vs ws M1 S1 H1 p r1 a1 s1 =>
    ⟨Nat.le_trans (by rw [a1.length]; exact p.1) (by decide), fun ad hp => q _ _ _ _ _ p.2 (lst_new r1 hp a1).1 (lst_new r1 hp a1).2 (s1.trans (step_new r1 hp))⟩

/-! ### two-place operations -/
/-- what an operation on values does with abstract ones -/
def OpW (X : Cx) (r : R2) (g : W → W → Sto → (W → Sto → Prop) → Prop) : Prop :=
  ∀ M H S v u x y Φ, Rep M H S → VW M H v x → VW M H u y → g x y S Φ → ∀ Q, Got M H Φ Q → r v u H Q
theorem two {r : R2} {g : W → W → Sto → (W → Sto → Prop) → Prop} (hw : OpW X r g) (h : wE X Ψ a E S fun x S1 => wE X Ψ b E S1 fun y S2 => g x y S2 Φ)
    {M σ H} (r1 : Rep M H S) (ev : EvOk M H σ E) (x : ExcOk X M H Ψ) {Q} (q : Got M H Φ Q) : tOp r (sem X a) (sem X b) σ H Q :=
  h.run M σ H r1 ev x _ fun v w M1 S1 H1 p1 r1 a1 s1 => p1.run M1 σ H1 r1 (ev.step s1) (x.step s1) _ fun u w2 M2 S2 H2 p2 r2 a2 s2 =>
    hw M2 H2 S2 v u w w2 Φ r2 (VW.step s2 _ _ a1) a2 p2 Q (q.step (s1.trans s2))
theorem wE_op {op : Operator} {r : R2} {g : W → W → Sto → (W → Sto → Prop) → Prop} (ho : OpR X (binaryOp op) r) (hw : OpW X r g) (h : wE X Ψ a E S fun x S1 => wE X Ψ b E S1 fun y S2 => g x y S2 Φ) : wE X Ψ (.BinOp a op b pos) E S Φ :=
  wE.of (pe_op ho pe_sem pe_sem) fun M σ H r1 ev x Q q => two hw h r1 ev x q
/-- .. that changes nothing -/
theorem opw_pure {r : R2} {g : W → W → Sto → (W → Sto → Prop) → Prop} (h : ∀ M H S v u x y Φ, Rep M H S → VW M H v x → VW M H u y → g x y S Φ → ∀ Q : VK, (∀ z w, Φ w S → VW M H z w → Q z H) → r v u H Q) : OpW X r g :=
  fun M H S v u x y Φ r a1 a2 gg Q q => h M H S v u x y Φ r a1 a2 gg Q fun z w p az => q z w M S H p r az (Step.refl M H)
def gI (C : Int → Int → Prop) (f : Int → Int → W) : W → W → Sto → (W → Sto → Prop) → Prop := fun x y S Φ => ∃ i j, x = .int i ∧ y = .int j ∧ C i j ∧ Φ (f i j) S
theorem opw_I {C : Int → Int → Prop} {f : Int → Int → Int} : OpW X (rI C fun i j => .int (f i j)) (gI C fun i j => .int (f i j)) := opw_pure fun M H S v u x y Φ r a1 a2 gg Q q => by
  obtain ⟨i, j, rfl, rfl, c, p⟩ := gg
  cases a1; cases a2
  exact ⟨i, j, rfl, rfl, c, q _ _ p (.int _)⟩
theorem opw_I0 {f : Int → Int → Int} : OpW X (rI0 fun i j => .int (f i j)) (gI (fun _ _ => True) fun i j => .int (f i j)) := opw_pure fun M H S v u x y Φ r a1 a2 gg Q q => by
  obtain ⟨i, j, rfl, rfl, _, p⟩ := gg
  cases a1; cases a2
  exact ⟨i, j, rfl, rfl, q _ _ p (.int _)⟩
theorem opw_B0 {f : Int → Int → Bool} : OpW X (rI0 fun i j => .bl (f i j)) (gI (fun _ _ => True) fun i j => .bl (f i j)) := opw_pure fun M H S v u x y Φ r a1 a2 gg Q q => by
  obtain ⟨i, j, rfl, rfl, _, p⟩ := gg
  cases a1; cases a2
  exact ⟨i, j, rfl, rfl, q _ _ p (.bl _)⟩
theorem wE_sub (h : wE X Ψ a E S fun x S1 => wE X Ψ b E S1 fun y S2 => ∃ i j, x = .int i ∧ y = .int j ∧ True ∧ Φ (.int (i - j)) S2) : wE X Ψ (.BinOp a .Sub b pos) E S Φ := wE_op op_sub opw_I0 h
theorem wE_mul (h : wE X Ψ a E S fun x S1 => wE X Ψ b E S1 fun y S2 => ∃ i j, x = .int i ∧ y = .int j ∧ CMul i j ∧ Φ (.int (i * j)) S2) : wE X Ψ (.BinOp a .Mult b pos) E S Φ := wE_op op_mul opw_I h
theorem wE_mod (h : wE X Ψ a E S fun x S1 => wE X Ψ b E S1 fun y S2 => ∃ i j, x = .int i ∧ y = .int j ∧ 0 < j ∧ Φ (.int (i % j)) S2) : wE X Ψ (.BinOp a .Mod b pos) E S Φ := wE_op op_mod opw_I h
theorem wE_fdiv (h : wE X Ψ a E S fun x S1 => wE X Ψ b E S1 fun y S2 => ∃ i j, x = .int i ∧ y = .int j ∧ CDiv i j ∧ Φ (.int (i / j)) S2) : wE X Ψ (.BinOp a .FloorDiv b pos) E S Φ := wE_op op_fdiv opw_I h
end

-- AM3

/-! ### data -/
mutual
def W.d : W → PyData
  | .non => .none | .bl b => .bool b | .int i => .int i | .str x => .str x
  | .tup ws => .tuple (W.ds ws) | .lst ws => .list (W.ds ws) | .ref _ => .none | .raw _ => .none | .scr _ _ => .none
def W.ds : List W → List PyData
  | [] => []
  | w :: ws => w.d :: W.ds ws
end
mutual
def W.ok : W → Nat → Bool
  | .non, _ => true | .bl _, _ => true | .int _, _ => true | .str x, _ => PyData.strOk x
  | .tup ws, n => match n with
    | 0 => false
    | n + 1 => W.oks ws n
  | .lst ws, n => match n with
    | 0 => false
    | n + 1 => W.oks ws n
  | .ref _, _ => false | .raw _, _ => false | .scr _ _, _ => false
def W.oks : List W → Nat → Bool
  | [], _ => true
  | w :: ws, n => w.ok n && W.oks ws n
end
theorem W.oks_all {ws : List W} {n : Nat} : W.oks ws n = ws.all (fun w => w.ok n) := by
  induction ws with
  | nil => rfl
  | cons w ws ih => simp [W.oks, ih]
theorem W.ds_map {ws : List W} : W.ds ws = ws.map W.d := by
  induction ws with
  | nil => rfl
  | cons w ws ih => simp [W.ds, ih]
mutual
theorem W.ok_mono : ∀ (w : W) {n m : Nat}, n ≤ m → w.ok n = true → w.ok m = true
  | .non, _, _, _, _ => by simp [W.ok]
  | .bl _, _, _, _, _ => by simp [W.ok]
  | .int _, _, _, _, _ => by simp [W.ok]
  | .str _, _, _, _, q => by simpa [W.ok] using q
  | .tup ws, n, m, h, q => by
    cases n with
    | zero => simp [W.ok] at q
    | succ n => cases m with
      | zero => omega
      | succ m => simp only [W.ok] at q ⊢; exact W.oks_mono ws (by omega) q
  | .lst ws, n, m, h, q => by
    cases n with
    | zero => simp [W.ok] at q
    | succ n => cases m with
      | zero => omega
      | succ m => simp only [W.ok] at q ⊢; exact W.oks_mono ws (by omega) q
  | .ref _, _, _, _, q => by simp [W.ok] at q
  | .raw _, _, _, _, q => by simp [W.ok] at q
  | .scr _ _, _, _, _, q => by simp [W.ok] at q
theorem W.oks_mono : ∀ (ws : List W) {n m : Nat}, n ≤ m → W.oks ws n = true → W.oks ws m = true
  | [], _, _, _, _ => rfl
  | w :: ws, n, m, h, q => by
    simp only [W.oks, Bool.and_eq_true] at q ⊢
    exact ⟨W.ok_mono w h q.1, W.oks_mono ws h q.2⟩
end
mutual
theorem W.lay : ∀ (w : W) (n : Nat), w.ok n = true → w.d.canLay0 = true ∧ w.d.depth ≤ n + 1
  | .non, n, _ => by simp [W.d, PyData.canLay0, PyData.depth]
  | .bl _, n, _ => by simp [W.d, PyData.canLay0, PyData.depth]
  | .int _, n, _ => by simp [W.d, PyData.canLay0, PyData.depth]
  | .str _, n, q => by simpa [W.d, PyData.canLay0, PyData.depth, W.ok] using q
  | .tup ws, n, q => by
    cases n with
    | zero => simp [W.ok] at q
    | succ n =>
      simp only [W.ok] at q
      have h := W.lays ws n q
      simp only [W.d, PyData.canLay0, PyData.depth]
      exact ⟨h.1, by omega⟩
  | .lst ws, n, q => by
    cases n with
    | zero => simp [W.ok] at q
    | succ n =>
      simp only [W.ok] at q
      have h := W.lays ws n q
      simp only [W.d, PyData.canLay0, PyData.depth]
      exact ⟨h.1, by omega⟩
  | .ref _, _, q => by simp [W.ok] at q
  | .raw _, _, q => by simp [W.ok] at q
  | .scr _ _, _, q => by simp [W.ok] at q
theorem W.lays : ∀ (ws : List W) (n : Nat), W.oks ws n = true → PyData.canLayAll0 (W.ds ws) = true ∧ PyData.depthAll (W.ds ws) ≤ n + 1
  | [], n, _ => by simp [W.ds, PyData.canLayAll0, PyData.depthAll]
  | w :: ws, n, q => by
    simp only [W.oks, Bool.and_eq_true] at q
    have h1 := W.lay w n q.1
    have h2 := W.lays ws n q.2
    simp only [W.ds, PyData.canLayAll0, PyData.depthAll, Bool.and_eq_true]
    exact ⟨⟨h1.1, h2.1⟩, by omega⟩
end
theorem W.shaped {w : W} {n : Nat} (h : w.ok n = true) (hn : n ≤ 60) : SeqAt.shaped w.d = true := by
  have q := W.lay w n h
  show (w.d.canLay0 && decide (w.d.depth ≤ 64)) = true
  rw [q.1, Bool.true_and]
  exact decide_eq_true (by omega)
/- what a value is, the mutable lists looked up -/
mutual
inductive Den (S : Sto) : W → PyData → Prop
  | non : Den S .non .none
  | bl (b : Bool) : Den S (.bl b) (.bool b)
  | int (i : Int) : Den S (.int i) (.int i)
  | str (x : Str) : Den S (.str x) (.str x)
  | tup {ws ds} : DenAll S ws ds → Den S (.tup ws) (.tuple ds)
  | lst {ws ds} : DenAll S ws ds → Den S (.lst ws) (.list ds)
  | ref {k ws ds} : S[k]? = some (.lst ws) → DenAll S ws ds → Den S (.ref k) (.list ds)
inductive DenAll (S : Sto) : List W → List PyData → Prop
  | nil : DenAll S [] []
  | cons {w ws d ds} : Den S w d → DenAll S ws ds → DenAll S (w :: ws) (d :: ds)
end
mutual
theorem Den.of {S : Sto} : ∀ (w : W) (n : Nat), w.ok n = true → Den S w w.d
  | .non, _, _ => .non
  | .bl b, _, _ => .bl b
  | .int i, _, _ => .int i
  | .str x, _, _ => .str x
  | .tup ws, n, q => by
    cases n with
    | zero => simp [W.ok] at q
    | succ n => exact .tup (DenAll.of ws n (by simpa [W.ok] using q))
  | .lst ws, n, q => by
    cases n with
    | zero => simp [W.ok] at q
    | succ n => exact .lst (DenAll.of ws n (by simpa [W.ok] using q))
  | .ref _, _, q => by simp [W.ok] at q
  | .raw _, _, q => by simp [W.ok] at q
  | .scr _ _, _, q => by simp [W.ok] at q
theorem DenAll.of {S : Sto} : ∀ (ws : List W) (n : Nat), W.oks ws n = true → DenAll S ws (W.ds ws)
  | [], _, _ => .nil
  | w :: ws, n, q => by
    simp only [W.oks, Bool.and_eq_true] at q
    exact .cons (Den.of w n q.1) (DenAll.of ws n q.2)
end
section
variable {K : PySem.W.Frag} {M : Lay} {H : Hp} {S : Sto}
theorem Rep.lst (r : Rep M H S) {k : Nat} {ws : List W} (h : S[k]? = some (.lst ws)) : ∃ p xs, M.m[k]? = some p ∧ H p = some (.lst xs) ∧ VWs M H xs ws := by
  obtain ⟨p, ho, h1, h2, b⟩ := r.at' h
  cases b with
  | lst a => exact ⟨p, _, h1, h2, a⟩
mutual
theorem VW.dp (r : Rep M H S) : ∀ (d : PyData) (w : W) (v : V), VW M H v w → Den S w d → Dp K H v d
  | .none, _, _, a, b => by cases b; cases a; exact .non
  | .bool _, _, _, a, b => by cases b; cases a; exact .bl _
  | .int _, _, _, a, b => by cases b; cases a; exact .int _
  | .str _, _, _, a, b => by cases b; cases a; exact .str _
  | .tuple ds, _, _, a, b => by
    cases b with
    | tup b => cases a with
      | tup q a => exact .tup q.sq (VWs.dp r ds _ _ a b)
  | .list ds, _, _, a, b => by
    cases b with
    | lst b => cases a with
      | lst q a => exact .lst q.sq (VWs.dp r ds _ _ a b)
    | ref hk b => cases a with
      | ref hm =>
        obtain ⟨p, xs, h1, h2, h3⟩ := r.lst hk
        rw [hm] at h1; cases h1
        exact .lst (SqL.of h2) (VWs.dp r ds _ _ h3 b)
  | .dict _, _, _, a, b => by cases b
theorem VWs.dp (r : Rep M H S) : ∀ (ds : List PyData) (ws : List W) (vs : List V), VWs M H vs ws → DenAll S ws ds → DpAll K H vs ds
  | [], _, _, a, b => by cases b; cases a; exact .nil
  | d :: ds, _, _, a, b => by
    cases b with
    | cons b1 b2 => cases a with
      | cons a1 a2 => exact .cons (VW.dp r d _ _ a1 b1) (VWs.dp r ds _ _ a2 b2)
end
end
def eqW (x y : W) : Bool := PyData.eqv x.d y.d
def inW (x : W) (ws : List W) : Bool := ws.any fun z => eqW z x

/-! ### comparisons -/
section
variable {X : Cx} {Ψ : AX} {a b c e : Expr} {es : List Expr} {E : AEnv} {S : Sto} {Φ : W → Sto → Prop} {ΦT : Bool → Sto → Prop} {ΦS : List W → Sto → Prop} {pos : Pos}
theorem wE_cmp {op : CmpOp} {r : R2} {g : W → W → Sto → (W → Sto → Prop) → Prop} (ho : OpR X (compareOp op) r) (hw : OpW X r g) (h : wE X Ψ a E S fun x S1 => wE X Ψ b E S1 fun y S2 => g x y S2 Φ) (hm : behindInMarks op b = false := by first | exact nomark _ | rfl) : wE X Ψ (.Compare a [op] [b] pos) E S Φ :=
  wE.of (pe_cmpR ho pe_sem pe_sem hm) fun M σ H r1 ev x Q q => two hw h r1 ev x q
theorem wT_cmp {op : CmpOp} {r : R2} {g : W → W → Sto → (W → Sto → Prop) → Prop} (ho : OpR X (compareOp op) r) (hw : OpW X r g) (h : wE X Ψ a E S fun x S1 => wE X Ψ b E S1 fun y S2 => g x y S2 fun w S3 => ∃ k, w = .bl k ∧ ΦT k S3) (hm : behindInMarks op b = false := by first | exact nomark _ | rfl) : wT X Ψ (.Compare a [op] [b] pos) E S ΦT :=
  wT.of (pt_cmpR ho pe_sem pe_sem hm) fun M σ H r1 ev x Q q => two hw h r1 ev x fun z w M2 S2 H2 p r2 a2 s2 => by
    obtain ⟨k, rfl, p⟩ := p
    cases a2
    exact ⟨k, rfl, q k M2 S2 H2 p r2 s2⟩
abbrev G2 := W → W → Sto → (W → Sto → Prop) → Prop
abbrev gEq : G2 := fun x y S Φ => x.ok 60 = true ∧ y.ok 60 = true ∧ Φ (.bl (eqW x y)) S
abbrev gNe : G2 := fun x y S Φ => x.ok 60 = true ∧ y.ok 60 = true ∧ Φ (.bl (!eqW x y)) S
abbrev gEqD : G2 := fun x y S Φ => ∃ d e, Den S x d ∧ Den S y e ∧ SeqAt.shaped d = true ∧ SeqAt.shaped e = true ∧ Φ (.bl (PyData.eqv d e)) S
abbrev gNeD : G2 := fun x y S Φ => ∃ d e, Den S x d ∧ Den S y e ∧ SeqAt.shaped d = true ∧ SeqAt.shaped e = true ∧ Φ (.bl (!PyData.eqv d e)) S
theorem opw_eqD : OpW X (rEqD X.K) gEqD := opw_pure fun M H S v u x y Φ r a1 a2 ⟨d, e, h1, h2, h3, h4, p⟩ Q q => ⟨d, e, VW.dp r _ _ _ a1 h1, VW.dp r _ _ _ a2 h2, h3, h4, q _ _ p (.bl _)⟩
theorem opw_neD : OpW X (rNeD X.K) gNeD := opw_pure fun M H S v u x y Φ r a1 a2 ⟨d, e, h1, h2, h3, h4, p⟩ Q q => ⟨d, e, VW.dp r _ _ _ a1 h1, VW.dp r _ _ _ a2 h2, h3, h4, q _ _ p (.bl _)⟩
theorem opw_eq : OpW X (rEqD X.K) gEq := fun M H S v u x y Φ r a1 a2 ⟨h1, h2, p⟩ Q q => opw_eqD (X := X) M H S v u x y Φ r a1 a2 ⟨_, _, Den.of x _ h1, Den.of y _ h2, W.shaped h1 (Nat.le_refl _), W.shaped h2 (Nat.le_refl _), p⟩ Q q
theorem opw_ne : OpW X (rNeD X.K) gNe := fun M H S v u x y Φ r a1 a2 ⟨h1, h2, p⟩ Q q => opw_neD (X := X) M H S v u x y Φ r a1 a2 ⟨_, _, Den.of x _ h1, Den.of y _ h2, W.shaped h1 (Nat.le_refl _), W.shaped h2 (Nat.le_refl _), p⟩ Q q
abbrev gLt : G2 := gI (fun _ _ => True) fun i j => .bl (decide (i < j))
/-- is None, of any thing -/
def isNonW : W → Option Bool
  | .non => some true | .raw .non => some true | .raw _ => some false | _ => some false
abbrev gIsN : G2 := fun x y S Φ => y = .non ∧ ∃ k, isNonW x = some k ∧ Φ (.bl k) S
abbrev gNotN : G2 := fun x y S Φ => y = .non ∧ ∃ k, isNonW x = some k ∧ Φ (.bl (!k)) S
theorem isNon_ok {M : Lay} {H : Hp} {v : V} {x : W} {k : Bool} (a : VW M H v x) (h : isNonW x = some k) : decide (v = .non) = k := by
  cases a with
  | raw v => cases v <;> simp [isNonW] at h <;> simp [h]
  | _ => simp [isNonW] at h <;> simp [h]
theorem opw_isN : OpW X (fun x y H Q => y = .non ∧ Q (.bl (decide (x = .non))) H) gIsN := opw_pure fun M H S v u x y Φ r a1 a2 ⟨e, k, hk, p⟩ Q q => by
  subst e
  cases a2
  refine ⟨rfl, ?_⟩
  rw [isNon_ok a1 hk]
  exact q _ _ p (.bl _)
theorem opw_notN : OpW X (fun x y H Q => y = .non ∧ Q (.bl (!decide (x = .non))) H) gNotN := opw_pure fun M H S v u x y Φ r a1 a2 ⟨e, k, hk, p⟩ Q q => by
  subst e
  cases a2
  refine ⟨rfl, ?_⟩
  rw [isNon_ok a1 hk]
  exact q _ _ p (.bl _)
/-- low <= x <= high -/
theorem wE_chainI {f g : Int → Int → Bool} {op op' : CmpOp} (ho : OpR X (compareOp op) (rI0 fun i j => .bl (f i j))) (ho' : OpR X (compareOp op') (rI0 fun i j => .bl (g i j)))
    (h : wE X Ψ a E S fun x S1 => wE X Ψ b E S1 fun y S2 => ∃ i j, x = .int i ∧ y = .int j ∧ if f i j = true then wE X Ψ c E S2 (fun z S3 => ∃ k, z = .int k ∧ Φ (.bl (g j k)) S3) else Φ (.bl false) S2)
    (hm : lastMarks [op, op'] [b, c] = false := by with_unfolding_all rfl) : wE X Ψ (.Compare a [op, op'] [b, c] pos) E S Φ :=
  wE.of (pe_chain ho ho' pe_sem pe_sem pe_sem hm) fun M σ H r1 ev x Q q => h.run M σ H r1 ev x _ fun v w M1 S1 H1 p1 r1 a1 s1 => p1.run M1 σ H1 r1 (ev.step s1) (x.step s1) _ fun u w2 M2 S2 H2 p2 r2 a2 s2 => by
    obtain ⟨i, j, rfl, rfl, p2⟩ := p2
    have a1' := VW.step s2 _ _ a1
    cases a1'; cases a2
    refine ⟨i, j, rfl, rfl, f i j, rfl, ?_⟩
    cases hf : f i j with
    | true =>
      rw [hf] at p2
      refine L2.iteT ((show wE X Ψ c E S2 _ from p2).run M2 σ H2 r2 ((ev.step s1).step s2) ((x.step s1).step s2) _ fun t w3 M3 S3 H3 p3 r3 a3 s3 => ?_)
      obtain ⟨k, rfl, p3⟩ := p3
      cases a3
      exact ⟨j, k, rfl, rfl, q _ _ M3 S3 H3 p3 r3 (.bl _) ((s1.trans s2).trans s3)⟩
    | false =>
      rw [hf] at p2
      exact L2.iteF (q _ _ M2 S2 H2 p2 r2 (.bl _) (s1.trans s2))
end

-- AM4

section
variable {X : Cx} {Ψ : AX} {a b c e o : Expr} {es rest : List Expr} {E : AEnv} {S : Sto} {Φ : W → Sto → Prop} {ΦT : Bool → Sto → Prop} {ΦS : List W → Sto → Prop} {pos : Pos}
theorem wE_cmpEq (hu : X.A.units + 65 < cLine) (h : wE X Ψ a E S fun x S1 => wE X Ψ b E S1 fun y S2 => gEq x y S2 Φ) : wE X Ψ (.Compare a [.Eq] [b] pos) E S Φ := wE_cmp (op_eqD (by omega)) opw_eq h
theorem wE_cmpNe (hu : X.A.units + 65 < cLine) (h : wE X Ψ a E S fun x S1 => wE X Ψ b E S1 fun y S2 => gNe x y S2 Φ) : wE X Ψ (.Compare a [.NotEq] [b] pos) E S Φ := wE_cmp (op_neD (by omega)) opw_ne h
theorem wT_cmpEq (hu : X.A.units + 65 < cLine) (h : wE X Ψ a E S fun x S1 => wE X Ψ b E S1 fun y S2 => x.ok 60 = true ∧ y.ok 60 = true ∧ ΦT (eqW x y) S2) : wT X Ψ (.Compare a [.Eq] [b] pos) E S ΦT :=
  wT_cmp (op_eqD (by omega)) opw_eq (h.imp fun w S1 q => q.imp fun y S2 p => ⟨p.1, p.2.1, _, rfl, p.2.2⟩)
theorem wT_cmpNe (hu : X.A.units + 65 < cLine) (h : wE X Ψ a E S fun x S1 => wE X Ψ b E S1 fun y S2 => x.ok 60 = true ∧ y.ok 60 = true ∧ ΦT (!eqW x y) S2) : wT X Ψ (.Compare a [.NotEq] [b] pos) E S ΦT :=
  wT_cmp (op_neD (by omega)) opw_ne (h.imp fun w S1 q => q.imp fun y S2 p => ⟨p.1, p.2.1, _, rfl, p.2.2⟩)
theorem wT_cmpNeD (hu : X.A.units + 65 < cLine) (h : wE X Ψ a E S fun x S1 => wE X Ψ b E S1 fun y S2 => ∃ d e, Den S2 x d ∧ Den S2 y e ∧ SeqAt.shaped d = true ∧ SeqAt.shaped e = true ∧ ΦT (!PyData.eqv d e) S2) : wT X Ψ (.Compare a [.NotEq] [b] pos) E S ΦT :=
  wT_cmp (op_neD (by omega)) opw_neD (h.imp fun w S1 q => q.imp fun y S2 ⟨d, e, p1, p2, p3, p4, p⟩ => ⟨d, e, p1, p2, p3, p4, _, rfl, p⟩)
theorem wT_cmpI {op : CmpOp} {f : Int → Int → Bool} (ho : OpR X (compareOp op) (rI0 fun i j => .bl (f i j))) (h : wE X Ψ a E S fun x S1 => wE X Ψ b E S1 fun y S2 => ∃ i j, x = .int i ∧ y = .int j ∧ ΦT (f i j) S2) (hm : behindInMarks op b = false := by first | exact nomark _ | rfl) : wT X Ψ (.Compare a [op] [b] pos) E S ΦT :=
  wT_cmp ho opw_B0 (h.imp fun w S1 q => q.imp fun y S2 ⟨i, j, e1, e2, p⟩ => ⟨i, j, e1, e2, True.intro, _, rfl, p⟩) hm
theorem wE_cmpI {op : CmpOp} {f : Int → Int → Bool} (ho : OpR X (compareOp op) (rI0 fun i j => .bl (f i j))) (h : wE X Ψ a E S fun x S1 => wE X Ψ b E S1 fun y S2 => ∃ i j, x = .int i ∧ y = .int j ∧ Φ (.bl (f i j)) S2) (hm : behindInMarks op b = false := by first | exact nomark _ | rfl) : wE X Ψ (.Compare a [op] [b] pos) E S Φ :=
  wE_cmp ho opw_B0 (h.imp fun w S1 q => q.imp fun y S2 ⟨i, j, e1, e2, p⟩ => ⟨i, j, e1, e2, True.intro, p⟩) hm
theorem wT_isN (h : wE X Ψ a E S fun x S1 => ∃ k, isNonW x = some k ∧ ΦT k S1) {j pos'} : wT X Ψ (.Compare a [.Is] [.Constant .none j pos'] pos) E S ΦT :=
  wT_cmp op_isN opw_isN (h.imp fun w S1 ⟨k, e, p⟩ => wE_non ⟨rfl, k, e, _, rfl, p⟩)
theorem wT_notN (h : wE X Ψ a E S fun x S1 => ∃ k, isNonW x = some k ∧ ΦT (!k) S1) {j pos'} : wT X Ψ (.Compare a [.IsNot] [.Constant .none j pos'] pos) E S ΦT :=
  wT_cmp op_notN opw_notN (h.imp fun w S1 ⟨k, e, p⟩ => wE_non ⟨rfl, k, e, _, rfl, p⟩)
theorem wE_isN (h : wE X Ψ a E S fun x S1 => ∃ k, isNonW x = some k ∧ Φ (.bl k) S1) {j pos'} : wE X Ψ (.Compare a [.Is] [.Constant .none j pos'] pos) E S Φ :=
  wE_cmp op_isN opw_isN (h.imp fun w S1 ⟨k, e, p⟩ => wE_non ⟨rfl, k, e, p⟩)
theorem wE_notN (h : wE X Ψ a E S fun x S1 => ∃ k, isNonW x = some k ∧ Φ (.bl (!k)) S1) {j pos'} : wE X Ψ (.Compare a [.IsNot] [.Constant .none j pos'] pos) E S Φ :=
  wE_cmp op_notN opw_notN (h.imp fun w S1 ⟨k, e, p⟩ => wE_non ⟨rfl, k, e, p⟩)

/-! ### in -/
def rInTD (K : PySem.W.Frag) (neg : Bool) : R2 := fun x y H Q => ∃ d ds, Dp K H x d ∧ Dp K H y (.tuple ds) ∧ SeqAt.shaped d = true ∧ SeqAt.shaped (.tuple ds) = true ∧ Q (.bl (if neg then !ds.any fun z => PyData.eqv z d else ds.any fun z => PyData.eqv z d)) H
theorem op_inTD (hu : X.A.units + 65 < cLine) : OpR X (compareOp .In) (rInTD X.K false) := by
  intro pins s σ H x y v u Q I rx ry h
  obtain ⟨d, ds, hd, he, sd, se, q⟩ := h
  obtain ⟨as, r1⟩ := Dp.reads I d x v hd rx
  obtain ⟨bs, r2⟩ := Dp.reads I (.tuple ds) y u he ry
  exact SeqAt.in_tuple_reads r2 r1 (SeqAt.canLay_of_shaped se) (SeqAt.canLay_of_shaped sd) (room_in_shaped sd hu) ⟨.bl _, H, I, rfl, q⟩
theorem op_notInTD (hu : X.A.units + 65 < cLine) : OpR X (compareOp .NotIn) (rInTD X.K true) := by
  intro pins s σ H x y v u Q I rx ry h
  obtain ⟨d, ds, hd, he, sd, se, q⟩ := h
  obtain ⟨as, r1⟩ := Dp.reads I d x v hd rx
  obtain ⟨bs, r2⟩ := Dp.reads I (.tuple ds) y u he ry
  exact SeqAt.notIn_tuple_reads r2 r1 (SeqAt.canLay_of_shaped se) (SeqAt.canLay_of_shaped sd) (room_in_shaped sd hu) ⟨.bl _, H, I, rfl, q⟩
/-- the items of a list or a tuple -/
def itemsW (S : Sto) : W → Option (List W)
  | .tup ws => some ws | .lst ws => some ws
  | .ref k => match S[k]? with
    | some (.lst ws) => some ws
    | _ => none
  | _ => none
theorem items_ref {S : Sto} {k : Nat} {ws : List W} (h : itemsW S (.ref k) = some ws) : S[k]? = some (.lst ws) := by
  have e : itemsW S (.ref k) = (match S[k]? with
    | some (.lst ws) => some ws
    | _ => none) := rfl
  rw [e] at h
  split at h
  · rename_i ws' hk
    cases h
    exact hk
  · cases h
theorem any_ds {x : W} {ws : List W} : ((W.ds ws).any fun z => PyData.eqv z x.d) = inW x ws := by
  rw [W.ds_map, List.any_map]
  rfl
def rInAny (K : PySem.W.Frag) (neg : Bool) : R2 := fun x y H Q => (if neg then rNotInD K x y H Q else rInD K x y H Q) ∨ rInTD K neg x y H Q
abbrev gIn (neg : Bool) : G2 := fun x y S Φ => ∃ ws, itemsW S y = some ws ∧ x.ok 59 = true ∧ W.oks ws 59 = true ∧ Φ (.bl (if neg then !inW x ws else inW x ws)) S
theorem op_inAny (hu : X.A.units + 65 < cLine) : OpR X (compareOp .In) (rInAny X.K false) := OpR.or (op_inD hu) (op_inTD hu)
theorem op_notInAny (hu : X.A.units + 65 < cLine) : OpR X (compareOp .NotIn) (rInAny X.K true) := OpR.or (op_notInD hu) (op_notInTD hu)
theorem opw_in {neg : Bool} : OpW X (rInAny X.K neg) (gIn neg) := opw_pure fun M H S v u x y Φ r a1 a2 ⟨ws, hi, h1, h2, p⟩ Q q => by
  have dx := VW.dp (K := X.K) r _ _ _ a1 (Den.of x _ h1)
  have sx := W.shaped h1 (by decide)
  have sl : SeqAt.shaped (.list (W.ds ws)) = true := W.shaped (w := .lst ws) (n := 60) h2 (Nat.le_refl _)
  have st : SeqAt.shaped (.tuple (W.ds ws)) = true := W.shaped (w := .tup ws) (n := 60) h2 (Nat.le_refl _)
  have dy : Dp X.K H u (.list (W.ds ws)) ∨ Dp X.K H u (.tuple (W.ds ws)) := by
    cases y with
    | tup ws' => cases hi; exact .inr (VW.dp r _ _ _ a2 (.tup (DenAll.of ws _ h2)))
    | lst ws' => cases hi; exact .inl (VW.dp r _ _ _ a2 (.lst (DenAll.of ws _ h2)))
    | ref k => exact .inl (VW.dp r _ _ _ a2 (.ref (items_ref hi) (DenAll.of ws _ h2)))
    | _ => cases hi
  have e := any_ds (x := x) (ws := ws)
  rcases dy with dy | dy
  · left
    cases neg with
    | true => exact ⟨_, _, dx, dy, sx, sl, by rw [e]; exact q _ _ p (.bl _)⟩
    | false => exact ⟨_, _, dx, dy, sx, sl, by rw [e]; exact q _ _ p (.bl _)⟩
  · right
    cases neg with
    | true => exact ⟨_, _, dx, dy, sx, st, by rw [e]; exact q _ _ p (.bl _)⟩
    | false => exact ⟨_, _, dx, dy, sx, st, by rw [e]; exact q _ _ p (.bl _)⟩
theorem wT_in (hu : X.A.units + 65 < cLine) (h : wE X Ψ a E S fun x S1 => wE X Ψ b E S1 fun y S2 => ∃ ws, itemsW S2 y = some ws ∧ x.ok 59 = true ∧ W.oks ws 59 = true ∧ ΦT (inW x ws) S2) (hm : behindInMarks .In b = false := by rfl) : wT X Ψ (.Compare a [.In] [b] pos) E S ΦT :=
  wT_cmp (op_inAny hu) opw_in (h.imp fun w S1 q => q.imp fun y S2 ⟨ws, p1, p2, p3, p⟩ => ⟨ws, p1, p2, p3, _, rfl, p⟩) hm
theorem wT_notIn (hu : X.A.units + 65 < cLine) (h : wE X Ψ a E S fun x S1 => wE X Ψ b E S1 fun y S2 => ∃ ws, itemsW S2 y = some ws ∧ x.ok 59 = true ∧ W.oks ws 59 = true ∧ ΦT (!inW x ws) S2) (hm : behindInMarks .NotIn b = false := by rfl) : wT X Ψ (.Compare a [.NotIn] [b] pos) E S ΦT :=
  wT_cmp (op_notInAny hu) opw_in (h.imp fun w S1 q => q.imp fun y S2 ⟨ws, p1, p2, p3, p⟩ => ⟨ws, p1, p2, p3, _, rfl, p⟩) hm
theorem wE_in (hu : X.A.units + 65 < cLine) (h : wE X Ψ a E S fun x S1 => wE X Ψ b E S1 fun y S2 => ∃ ws, itemsW S2 y = some ws ∧ x.ok 59 = true ∧ W.oks ws 59 = true ∧ Φ (.bl (inW x ws)) S2) (hm : behindInMarks .In b = false := by rfl) : wE X Ψ (.Compare a [.In] [b] pos) E S Φ :=
  wE_cmp (op_inAny hu) opw_in h hm
theorem wE_notIn (hu : X.A.units + 65 < cLine) (h : wE X Ψ a E S fun x S1 => wE X Ψ b E S1 fun y S2 => ∃ ws, itemsW S2 y = some ws ∧ x.ok 59 = true ∧ W.oks ws 59 = true ∧ Φ (.bl (!inW x ws)) S2) (hm : behindInMarks .NotIn b = false := by rfl) : wE X Ψ (.Compare a [.NotIn] [b] pos) E S Φ :=
  wE_cmp (op_notInAny hu) opw_in h hm
/-! ### tests, and, or, not, if -/
theorem wT_val (h : wE X Ψ e E S fun w S1 => ∃ k, w = .bl k ∧ ΦT k S1) (he : ∀ whole, isTrue e X.env whole = (do let v ← whole; standAt e.pos; holding [v] (truthy v)) := by intro _; rfl) : wT X Ψ e E S ΦT :=
  wT.of (pt_val pe_sem he) fun M σ H r ev x Q q => h.run M σ H r ev x _ fun v w M1 S1 H1 ⟨k, e1, p⟩ r1 a1 s1 => by
    subst e1; cases a1
    exact ⟨k, rfl, q k M1 S1 H1 p r1 s1⟩
theorem wT_not (h : wT X Ψ e E S fun k S1 => ΦT (!k) S1) : wT X Ψ (.UnaryOp .Not e pos) E S ΦT :=
  wT.of (pt_not pt_sem) fun M σ H r ev x Q q => h.run M σ H r ev x _ fun k M1 S1 H1 p r1 s1 => q _ M1 S1 H1 p r1 s1
theorem wW_and1 (h : wT X Ψ a E S ΦT) : wW X Ψ (.BoolOp .And [a] pos) E S ΦT := wW.of (pw_and1 pt_sem) fun M σ H r ev x Q q => h.run M σ H r ev x Q q
theorem wW_or1 (h : wT X Ψ a E S ΦT) : wW X Ψ (.BoolOp .Or [a] pos) E S ΦT := wW.of (pw_or1 pt_sem) fun M σ H r ev x Q q => h.run M σ H r ev x Q q
theorem wW_and (h : wT X Ψ a E S fun k S1 => if k = true then wW X Ψ (.BoolOp .And (b :: rest) pos) E S1 ΦT else ΦT false S1) : wW X Ψ (.BoolOp .And (a :: b :: rest) pos) E S ΦT :=
  wW.of (pw_and pt_sem pw_sem) fun M σ H r ev x Q q => h.run M σ H r ev x _ fun k M1 S1 H1 p r1 s1 => by
    cases k with
    | true => exact iteT ((show wW X Ψ _ E S1 ΦT from p).run M1 σ H1 r1 (ev.step s1) (x.step s1) Q (q.step s1))
    | false => exact iteF (q false M1 S1 H1 p r1 s1)
theorem wW_or (h : wT X Ψ a E S fun k S1 => if k = true then ΦT true S1 else wW X Ψ (.BoolOp .Or (b :: rest) pos) E S1 ΦT) : wW X Ψ (.BoolOp .Or (a :: b :: rest) pos) E S ΦT :=
  wW.of (pw_or pt_sem pw_sem) fun M σ H r ev x Q q => h.run M σ H r ev x _ fun k M1 S1 H1 p r1 s1 => by
    cases k with
    | true => exact iteT (q true M1 S1 H1 p r1 s1)
    | false => exact iteF ((show wW X Ψ _ E S1 ΦT from p).run M1 σ H1 r1 (ev.step s1) (x.step s1) Q (q.step s1))
theorem wT_bool (h : wW X Ψ e E S ΦT) : wT X Ψ e E S ΦT := wT.of pw_sem.pt fun M σ H r ev x Q q => h.run M σ H r ev x Q q
theorem wE_one {op} (h : wE X Ψ a E S Φ) : wE X Ψ (.BoolOp op [a] pos) E S Φ := wE.of (pe_one pe_sem) fun M σ H r ev x Q q => h.run M σ H r ev x Q q
theorem wE_and (h : wE X Ψ a E S fun w S1 => ∃ k, w = .bl k ∧ if k = true then wE X Ψ (.BoolOp .And (b :: rest) pos) E S1 Φ else Φ (.bl false) S1) : wE X Ψ (.BoolOp .And (a :: b :: rest) pos) E S Φ :=
  wE.of (pe_and pe_sem pe_sem) fun M σ H r ev x Q q => h.run M σ H r ev x _ fun v w M1 S1 H1 ⟨k, e1, p⟩ r1 a1 s1 => by
    subst e1; cases a1
    refine ⟨k, rfl, ?_⟩
    cases k with
    | true => exact iteT ((show wE X Ψ _ E S1 Φ from p).run M1 σ H1 r1 (ev.step s1) (x.step s1) Q (q.step s1))
    | false => exact iteF (q _ _ M1 S1 H1 p r1 (.bl _) s1)
theorem wE_or (h : wE X Ψ a E S fun w S1 => ∃ k, w = .bl k ∧ if k = true then Φ (.bl true) S1 else wE X Ψ (.BoolOp .Or (b :: rest) pos) E S1 Φ) : wE X Ψ (.BoolOp .Or (a :: b :: rest) pos) E S Φ :=
  wE.of (pe_or pe_sem pe_sem) fun M σ H r ev x Q q => h.run M σ H r ev x _ fun v w M1 S1 H1 ⟨k, e1, p⟩ r1 a1 s1 => by
    subst e1; cases a1
    refine ⟨k, rfl, ?_⟩
    cases k with
    | true => exact iteT (q _ _ M1 S1 H1 p r1 (.bl _) s1)
    | false => exact iteF ((show wE X Ψ _ E S1 Φ from p).run M1 σ H1 r1 (ev.step s1) (x.step s1) Q (q.step s1))
theorem wE_not (h : wE X Ψ a E S fun w S1 => ∃ k, w = .bl k ∧ Φ (.bl (!k)) S1) : wE X Ψ (.UnaryOp .Not a pos) E S Φ :=
  wE.of (pe_not pe_sem) fun M σ H r ev x Q q => h.run M σ H r ev x _ fun v w M1 S1 H1 ⟨k, e1, p⟩ r1 a1 s1 => by
    subst e1; cases a1
    exact ⟨k, rfl, q _ _ M1 S1 H1 p r1 (.bl _) s1⟩
theorem wE_if (h : wT X Ψ c E S fun k S1 => if k = true then wE X Ψ a E S1 Φ else wE X Ψ b E S1 Φ) : wE X Ψ (.IfExp c a b pos) E S Φ :=
  wE.of (pe_ifExp pt_sem pe_sem pe_sem) fun M σ H r ev x Q q => h.run M σ H r ev x _ fun k M1 S1 H1 p r1 s1 => by
    cases k with
    | true => exact iteT ((show wE X Ψ a E S1 Φ from p).run M1 σ H1 r1 (ev.step s1) (x.step s1) Q (q.step s1))
    | false => exact iteF ((show wE X Ψ b E S1 Φ from p).run M1 σ H1 r1 (ev.step s1) (x.step s1) Q (q.step s1))

/-! ### places, slices, fields -/
theorem atI_vw {M : Lay} {H : Hp} {xs : List V} {ws : List W} {i : Int} {w : W} (r : VWs M H xs ws) (h : atI ws i = some w) : ∃ v, atI xs i = some v ∧ VW M H v w := by
  unfold atI at h ⊢
  rw [r.length]
  cases e : ixN ws.length i with
  | none => rw [e] at h; cases h
  | some j =>
    rw [e] at h
    obtain ⟨v, h1, h2⟩ := r.get (show ws[j]? = some w from h)
    exact ⟨v, h1, h2⟩
/-- a tracked list or tuple of some items -/
theorem seq_of {K : PySem.W.Frag} {M : Lay} {H : Hp} {S : Sto} (r : Rep M H S) {u : V} {y : W} {ws : List W} (a : VW M H u y) (h : itemsW S y = some ws) : ∃ p xs, u = .ref p ∧ VWs M H xs ws ∧ ((SqL K H p xs ∧ H p = some (.lst xs)) ∨ (SqT K H p xs ∧ ∃ ws', y = .tup ws')) := by
  cases y with
  | tup ws' =>
    cases h
    cases a with
    | tup q a => exact ⟨_, _, rfl, a, .inr ⟨q.sq, _, rfl⟩⟩
  | lst ws' =>
    cases h
    cases a with
    | lst q a => exact ⟨_, _, rfl, a, .inl ⟨q.sq, q.1⟩⟩
  | ref k =>
    cases a with
    | ref hm =>
      obtain ⟨p, xs, h1, h2, h3⟩ := r.lst (items_ref h)
      rw [hm] at h1; cases h1
      exact ⟨_, _, rfl, h3, .inl ⟨SqL.of h2, h2⟩⟩
  | _ => cases h
theorem wE_ix (h : wE X Ψ a E S fun x S1 => wE X Ψ b E S1 fun y S2 => ∃ ws i w, itemsW S2 x = some ws ∧ y = .int i ∧ atI ws i = some w ∧ Φ w S2) (hs : PlainIx b := by exact fun _ _ => rfl) : wE X Ψ (.Subscript a b pos) E S Φ :=
  wE.of (pe_ix ix_seq pe_sem pe_sem hs) fun M σ H r ev x Q q => two (r := rIx X.K) (g := fun x y S Φ => ∃ ws i w, itemsW S x = some ws ∧ y = .int i ∧ atI ws i = some w ∧ Φ w S)
    (opw_pure (X := X) fun M H S v u x y Φ r a1 a2 ⟨ws, i, w, h1, h2, h3, p⟩ Q q => by
      subst h2
      cases a2
      obtain ⟨ad, xs, rfl, rv, k⟩ := seq_of (K := X.K) r a1 h1
      obtain ⟨v', e1, e2⟩ := atI_vw rv h3
      rcases k with ⟨k, _⟩ | ⟨k, _⟩
      · exact .inl ⟨ad, xs, i, v', rfl, rfl, k, e1, q _ _ p e2⟩
      · exact .inr (.inl ⟨ad, xs, i, v', rfl, rfl, k, e1, q _ _ p e2⟩)) h r ev x q
/-- a part of a slice -/
def wO (X : Cx) (Ψ : AX) (e : Option Expr) (E : AEnv) (S : Sto) (Φ : Option Int → Sto → Prop) : Prop :=
  match e with
  | none => Φ none S
  | some e => wE X Ψ e E S fun w S1 => ∃ i, w = .int i ∧ Φ (some i) S1
def cutW (ws : List W) (lo hi : Option Int) : List W := (ws.drop (HT.sIx ws.length 0 lo)).take (HT.sIx ws.length ws.length hi - HT.sIx ws.length 0 lo)
theorem cut_vw {M : Lay} {H : Hp} {xs : List V} {ws : List W} {lo hi : Option Int} (r : VWs M H xs ws) : VWs M H (cutV xs lo hi) (cutW ws lo hi) := by
  unfold cutV cutW
  rw [r.length]
  exact (r.drop _).take _
def semO (X : Cx) (e : Option Expr) : TO := match e with
  | none => tNoPart
  | some e => tPart (sem X e)
theorem po_sem {e : Option Expr} : PO X e (semO X e) := by
  cases e with
  | none => exact po_none
  | some e => exact po_some pe_sem
theorem wO_run {e : Option Expr} {Φ : Option Int → Sto → Prop} (h : wO X Ψ e E S Φ) {M σ H} (r : Rep M H S) (ev : EvOk M H σ E) (x : ExcOk X M H Ψ) {Q : Option Int → Hp → Prop} (q : ∀ k M2 S2 H2, Φ k S2 → Rep M2 H2 S2 → Step M H M2 H2 → Q k H2) : semO X e σ H Q := by
  cases e with
  | none => exact q none M S H h r (Step.refl M H)
  | some e =>
    refine (show wE X Ψ e E S _ from h).run M σ H r ev x _ fun v w M1 S1 H1 ⟨i, e1, p⟩ r1 a1 s1 => ?_
    subst e1; cases a1
    exact ⟨i, rfl, q _ M1 S1 H1 p r1 s1⟩
theorem wE_slice {rr : V → Option Int → Option Int → Hp → VK → Prop} {g : W → Option Int → Option Int → Sto → (W → Sto → Prop) → Prop} {lo hi : Option Expr} {p2 : Pos} (hr : SlR X rr)
    (hw : ∀ M H S v x l u Φ, Rep M H S → VW M H v x → g x l u S Φ → ∀ Q, Got M H Φ Q → rr v l u H Q)
    (h : wE X Ψ a E S fun x S1 => wO X Ψ lo E S1 fun l S2 => wO X Ψ hi E S2 fun u S3 => g x l u S3 Φ) : wE X Ψ (.Subscript a (.Slice lo hi none p2) pos) E S Φ :=
  wE.of (pe_slice hr pe_sem po_sem po_sem) fun M σ H r ev x Q q => h.run M σ H r ev x _ fun v w M1 S1 H1 p1 r1 a1 s1 => wO_run p1 r1 (ev.step s1) (x.step s1) fun l M2 S2 H2 p2 r2 s2 => wO_run p2 r2 ((ev.step s1).step s2) ((x.step s1).step s2) fun u M3 S3 H3 p3 r3 s3 =>
    hw M3 H3 S3 v w l u Φ r3 (VW.step s3 _ _ (VW.step s2 _ _ a1)) p3 Q (q.step ((s1.trans s2).trans s3))
theorem wE_slT {lo hi : Option Expr} {p2 : Pos} (h : wE X Ψ a E S fun x S1 => wO X Ψ lo E S1 fun l S2 => wO X Ψ hi E S2 fun u S3 => ∃ ws, x = .tup ws ∧ Φ (.tup (cutW ws l u)) S3) : wE X Ψ (.Subscript a (.Slice lo hi none p2) pos) E S Φ :=
  wE_slice (g := fun x l u S Φ => ∃ ws, x = .tup ws ∧ Φ (.tup (cutW ws l u)) S) sl_tupA (fun M H S v x l u Φ r a1 ⟨ws, e1, p⟩ Q q => by
    subst e1
    cases a1 with
    | @tup ad xs _ k a =>
      refine ⟨ad, xs, rfl, k.sq, fun hc => ?_, fun _ p' hp => q _ _ M S _ p (r.tmp hp) (tq_new r hp (cut_vw a)) (step_tmp r hp)⟩
      have e : cutV xs l u = xs := by unfold cutV; rw [hc.1, hc.2]; simp
      have e2 : VWs M H xs (cutW ws l u) := by rw [← e]; exact cut_vw a
      exact q _ _ M S H p r (.tup k e2) (Step.refl M H)) h
theorem look_vw {M : Lay} {H : Hp} : ∀ {fs : List (Str × V)} {ws : List (Str × W)} {f : Str}, PVW M H fs ws → (∀ w, ws.lookup f = some w → ∃ v, fs.lookup f = some v ∧ VW M H v w) ∧ (ws.lookup f = none → fs.lookup f = none)
  | _, _, f, .nil => ⟨fun w h => by simp at h, fun _ => rfl⟩
  | _, _, f, .cons (a := p) (b := q) r t => by
    have ih := look_vw (f := f) t
    obtain ⟨k, v⟩ := p
    obtain ⟨k', w'⟩ := q
    have e : k = k' := r.1
    subst e
    by_cases h : f = k
    · subst h
      refine ⟨fun w hw => ?_, fun hn => ?_⟩
      · simp [List.lookup] at hw
        subst hw
        exact ⟨v, by simp [List.lookup], r.2⟩
      · simp [List.lookup] at hn
    · have hb : (f == k) = false := by simpa using h
      refine ⟨fun w hw => ?_, fun hn => ?_⟩
      · simp only [List.lookup, hb] at hw ⊢
        exact ih.1 w hw
      · simp only [List.lookup, hb] at hn ⊢
        exact ih.2 hn
theorem Rep.inst {M : Lay} {H : Hp} {S : Sto} (r : Rep M H S) {k : Nat} {C : Addr} {ws : List (Str × W)} (h : S[k]? = some (.ins C ws)) : ∃ p dx fs, M.m[k]? = some p ∧ H p = some (.ins C dx fs) ∧ PVW M H fs ws := by
  obtain ⟨p, ho, h1, h2, b⟩ := r.at' h
  cases b with
  | ins a => exact ⟨p, _, _, h1, h2, a⟩
theorem wE_fld {f : Str} (h : wE X Ψ a E S fun x S1 => ∃ k C ws w, x = .ref k ∧ S1[k]? = some (.ins C ws) ∧ Cls X.K C ∧ NoAttr X.K C f ∧ ws.lookup f = some w ∧ Φ w S1) (hb : attributeBase a f X.env (eval a X.env) = eval a X.env := by rfl) : wE X Ψ (.Attribute a f pos) E S Φ :=
  wE.of (pe_fld pe_sem hb) fun M σ H r ev x Q q => h.run M σ H r ev x _ fun v w M1 S1 H1 ⟨k, C, ws, w', e1, hk, hc, hn, hl, p⟩ r1 a1 s1 => by
    subst e1
    cases a1 with
    | ref hm =>
      obtain ⟨ad, dx, fs, h1, h2, h3⟩ := r1.inst hk
      rw [hm] at h1; cases h1
      obtain ⟨v', e1, e2⟩ := (look_vw h3).1 _ hl
      exact ⟨_, C, dx, fs, v', rfl, h2, hc, hn, e1, q _ _ M1 S1 H1 p r1 e2 s1⟩

/-! ### dicts -/
def keyW : W → Option Key
  | .int i => some (.inl i) | .str x => some (.inr x) | _ => none
def keysW : List W → Option (List Key)
  | [] => some []
  | w :: ws => match keyW w, keysW ws with
    | some k, some ks => some (k :: ks)
    | _, _ => none
theorem key_vw {M : Lay} {H : Hp} {v : V} {w : W} {k : Key} (a : VW M H v w) (h : keyW w = some k) : v = kV k := by
  cases w <;> simp [keyW] at h <;> subst h <;> cases a <;> rfl
theorem keys_vw {M : Lay} {H : Hp} : ∀ {ws : List W} {vs : List V} {ks : List Key}, VWs M H vs ws → keysW ws = some ks → vs = ks.map kV
  | [], _, ks, a, h => by cases a; simp [keysW] at h; subst h; rfl
  | w :: ws, _, ks, a, h => by
    cases a with
    | cons a b =>
      unfold keysW at h
      split at h
      · rename_i k ks' h1 h2
        cases h
        rw [key_vw a h1, keys_vw b h2, List.map_cons]
      · cases h
def valW {κ : Type} [DecidableEq κ] (kvs : List (κ × W)) (k : κ) : Option W := (kvs.find? fun kv => decide (kv.1 = k)).map (·.2)
def putW {κ : Type} [DecidableEq κ] (kvs : List (κ × W)) (k : κ) (w : W) : List (κ × W) :=
  if kvs.any (fun kv => decide (kv.1 = k)) then kvs.map (fun kv => if kv.1 = k then (kv.1, w) else kv) else kvs ++ [(k, w)]
theorem valW_neg {κ : Type} [DecidableEq κ] {k : κ} {q : κ × W} {r : List (κ × W)} (h : ¬ q.1 = k) : valW (q :: r) k = valW r k := by simp [valW, List.find?_cons, h]
theorem val_vw {κ : Type} [DecidableEq κ] {M : Lay} {H : Hp} {k : κ} : ∀ {kvs : List (κ × V)} {kws : List (κ × W)}, PVW M H kvs kws → (∀ w, valW kws k = some w → ∃ v, valV kvs k = some v ∧ VW M H v w) ∧ (valW kws k = none → valV kvs k = none)
  | _, _, .nil => ⟨fun w h => by simp [valW] at h, fun _ => rfl⟩
  | _, _, .cons (a := p) (b := q) r t => by
    have ih := val_vw (k := k) t
    by_cases h : q.1 = k
    · refine ⟨fun w hw => ?_, fun hn => ?_⟩
      · simp [valW, List.find?_cons, h] at hw
        subst hw
        exact ⟨p.2, by simp [valV, List.find?_cons, r.1, h], r.2⟩
      · simp [valW, List.find?_cons, h] at hn
    · refine ⟨fun w hw => ?_, fun hn => ?_⟩
      · rw [valW_neg h] at hw
        obtain ⟨v, h1, h2⟩ := ih.1 w hw
        exact ⟨v, by rw [valV_neg (by rw [r.1]; exact h)]; exact h1, h2⟩
      · rw [valW_neg h] at hn
        rw [valV_neg (by rw [r.1]; exact h)]
        exact ih.2 hn
theorem pvw_any {κ : Type} [DecidableEq κ] {M : Lay} {H : Hp} {k : κ} {kvs : List (κ × V)} {kws : List (κ × W)} (r : PVW M H kvs kws) : (kvs.any fun kv => decide (kv.1 = k)) = kws.any fun kv => decide (kv.1 = k) := by
  induction r with
  | nil => rfl
  | cons h t ih => rw [List.any_cons, List.any_cons, ih, h.1]
theorem pvw_repl {κ : Type} [DecidableEq κ] {M : Lay} {H : Hp} {k : κ} {v : V} {w : W} {kvs : List (κ × V)} {kws : List (κ × W)} (r : PVW M H kvs kws) (a : VW M H v w) : PVW M H (kvs.map fun kv => if kv.1 = k then (kv.1, v) else kv) (kws.map fun kv => if kv.1 = k then (kv.1, w) else kv) := by
  induction r with
  | nil => exact .nil
  | @cons p q ps qs h t ih =>
    rw [List.map_cons, List.map_cons]
    refine .cons ?_ ih
    by_cases e : q.1 = k
    · rw [if_pos e, if_pos (by rw [h.1]; exact e)]
      exact ⟨h.1, a⟩
    · rw [if_neg e, if_neg (by rw [h.1]; exact e)]
      exact h
theorem pvw_app {κ : Type} {M : Lay} {H : Hp} {kvs : List (κ × V)} {kws : List (κ × W)} {kv kw} (r : PVW M H kvs kws) (h : PVW M H kv kw) : PVW M H (kvs ++ kv) (kws ++ kw) := by
  induction r with
  | nil => exact h
  | cons a t ih => exact .cons a ih
theorem put_vw {κ : Type} [DecidableEq κ] {M : Lay} {H : Hp} {k : κ} {v : V} {w : W} {kvs : List (κ × V)} {kws : List (κ × W)} (r : PVW M H kvs kws) (a : VW M H v w) : PVW M H (putK kvs k v) (putW kws k w) := by
  unfold putK putW
  rw [pvw_any r]
  split
  · exact pvw_repl r a
  · exact pvw_app r (.cons ⟨rfl, a⟩ .nil)
theorem PVW.length {κ : Type} {M : Lay} {H : Hp} {kvs : List (κ × V)} {kws : List (κ × W)} (r : PVW M H kvs kws) : kvs.length = kws.length := Paired.length r
/-- what a dict of the store holds at a key -/
def dgetW (S : Sto) (k : Nat) (y : W) : Option (Option W) :=
  match S[k]? with
  | some (.dk kws) => (keyW y).map fun key => valW kws key
  | some (.dt kws) => match y with
    | .tup ws => (keysW ws).map fun key => valW kws key
    | _ => none
  | _ => none
theorem dget_vw {M : Lay} {H : Hp} {S : Sto} (r : Rep M H S) {x y : W} {v u : V} {k : Nat} {o : Option W} (a1 : VW M H v (.ref k)) (a2 : VW M H u y) (h : dgetW S k y = some o) :
    ∃ p o', v = .ref p ∧ DGet H p u o' ∧ (∀ w, o = some w → ∃ z, o' = some z ∧ VW M H z w) ∧ (o = none → o' = none) := by
  cases a1 with
  | @ref p _ hm =>
    unfold dgetW at h
    split at h
    · rename_i kws hk
      obtain ⟨q, ho, h1, h2, b⟩ := r.at' hk
      rw [hm] at h1; cases h1
      cases b with
      | dk b =>
        cases e : keyW y with
        | none => rw [e] at h; cases h
        | some key =>
          rw [e] at h
          cases h
          rw [key_vw a2 e]
          exact ⟨p, _, rfl, DGet.k h2, (val_vw b).1, (val_vw b).2⟩
    · rename_i kws hk
      obtain ⟨q, ho, h1, h2, b⟩ := r.at' hk
      rw [hm] at h1; cases h1
      cases b with
      | dt b =>
        split at h
        · rename_i ws
          cases e : keysW ws with
          | none => rw [e] at h; cases h
          | some key =>
            rw [e] at h
            cases h
            cases a2 with
            | tup q a =>
              exact ⟨p, _, rfl, DGet.t h2 (by rw [q.1, keys_vw a e]), (val_vw b).1, (val_vw b).2⟩
        · cases h
    · cases h
theorem wE_dget (hu : X.A.units + 65 < cLine) (h : wE X Ψ a E S fun x S1 => wE X Ψ b E S1 fun y S2 => ∃ k w, x = .ref k ∧ dgetW S2 k y = some (some w) ∧ Φ w S2) (hs : NoSl b := by exact fun _ _ => rfl) : wE X Ψ (.Subscript a b pos) E S Φ :=
  wE.of (pe_dget (by omega) pe_sem pe_sem hs) fun M σ H r ev x Q q => h.run M σ H r ev x _ fun v w M1 S1 H1 p1 r1 a1 s1 => p1.run M1 σ H1 r1 (ev.step s1) (x.step s1) _ fun u y M2 S2 H2 ⟨k, w2, e1, hg, p⟩ r2 a2 s2 => by
    subst e1
    obtain ⟨ad, o', rfl, g, h1, _⟩ := dget_vw (x := .non) r2 (VW.step s2 _ _ a1) a2 hg
    obtain ⟨z, rfl, az⟩ := h1 _ rfl
    exact ⟨ad, z, rfl, g, q _ _ M2 S2 H2 p r2 az (s1.trans s2)⟩
theorem wT_din (hu : X.A.units + 65 < cLine) (h : wE X Ψ a E S fun y S1 => wE X Ψ b E S1 fun x S2 => ∃ k o, x = .ref k ∧ dgetW S2 k y = some o ∧ ΦT o.isSome S2) (hm : behindInMarks .In b = false := by rfl) : wT X Ψ (.Compare a [.In] [b] pos) E S ΦT :=
  wT.of (pt_cmp (pc_din (by omega) pe_sem pe_sem) hm) fun M σ H r ev x Q q => h.run M σ H r ev x _ fun v w M1 S1 H1 p1 r1 a1 s1 => p1.run M1 σ H1 r1 (ev.step s1) (x.step s1) _ fun u y M2 S2 H2 ⟨k, o, e1, hg, p⟩ r2 a2 s2 => by
    subst e1
    obtain ⟨ad, o', rfl, g, h1, h2⟩ := dget_vw (x := .non) r2 a2 (VW.step s2 _ _ a1) hg
    refine ⟨ad, o', rfl, g, _, rfl, ?_⟩
    have e : o'.isSome = o.isSome := by
      cases o with
      | none => rw [h2 rfl]; rfl
      | some w => obtain ⟨z, rfl, _⟩ := h1 w rfl; rfl
    rw [e]
    exact q _ M2 S2 H2 p r2 (s1.trans s2)
theorem wE_din (hu : X.A.units + 65 < cLine) (h : wE X Ψ a E S fun y S1 => wE X Ψ b E S1 fun x S2 => ∃ k o, x = .ref k ∧ dgetW S2 k y = some o ∧ Φ (.bl o.isSome) S2) (hm : behindInMarks .In b = false := by rfl) : wE X Ψ (.Compare a [.In] [b] pos) E S Φ :=
  wE.of (pe_cmp (pc_din (by omega) pe_sem pe_sem) hm) fun M σ H r ev x Q q => h.run M σ H r ev x _ fun v w M1 S1 H1 p1 r1 a1 s1 => p1.run M1 σ H1 r1 (ev.step s1) (x.step s1) _ fun u y M2 S2 H2 ⟨k, o, e1, hg, p⟩ r2 a2 s2 => by
    subst e1
    obtain ⟨ad, o', rfl, g, h1, h2⟩ := dget_vw (x := .non) r2 a2 (VW.step s2 _ _ a1) hg
    refine ⟨ad, o', rfl, g, ?_⟩
    have e : o'.isSome = o.isSome := by
      cases o with
      | none => rw [h2 rfl]; rfl
      | some w => obtain ⟨z, rfl, _⟩ := h1 w rfl; rfl
    rw [e]
    exact q _ _ M2 S2 H2 p r2 (.bl _) (s1.trans s2)
end

-- AM5

/-! ### targets -/
def semG (X : Cx) (tg : Expr) : TG := fun v σ H Q => ∀ pins s u, Inv X pins σ H s → RelV v u → wpAny (model X.prog X.w) X.A (assign tg X.env u) (fun _ s' => ∃ σ' H', Inv X pins σ' H' s' ∧ Q σ' H') X.xe s
theorem pg_sem {X : Cx} {tg : Expr} : PG X tg (semG X tg) := ⟨fun pins s _ _ _ u _ I r h => h pins s u I r⟩
def GotE (M : Lay) (H : Hp) (Φ : AEnv → Sto → Prop) (Q : L2.St → Hp → Prop) : Prop :=
  ∀ σ E M2 S2 H2, Φ E S2 → Rep M2 H2 S2 → EvOk M2 H2 σ E → Step M H M2 H2 → Q σ H2
theorem GotE.step {M M2 : Lay} {H H2 : Hp} {Φ : AEnv → Sto → Prop} {Q : L2.St → Hp → Prop} (g : GotE M H Φ Q) (s : Step M H M2 H2) : GotE M2 H2 Φ Q :=
  fun σ E M3 S3 H3 p r e t => g σ E M3 S3 H3 p r e (s.trans t)
structure wG (X : Cx) (Ψ : AX) (tg : Expr) (w : W) (E : AEnv) (S : Sto) (Φ : AEnv → Sto → Prop) : Prop where
  run : ∀ M σ H v, Rep M H S → EvOk M H σ E → ExcOk X M H Ψ → VW M H v w → ∀ Q, GotE M H Φ Q → semG X tg v σ H Q
section
variable {X : Cx} {Ψ : AX} {a b c e o tg iter : Expr} {es rest : List Expr} {E : AEnv} {S : Sto} {Φ : W → Sto → Prop} {ΦE : AEnv → Sto → Prop} {ΦT : Bool → Sto → Prop} {ΦS : List W → Sto → Prop} {pos : Pos} {w : W}
theorem wG.of {t : TG} (h : PG X tg t) (g : ∀ M σ H v, Rep M H S → EvOk M H σ E → ExcOk X M H Ψ → VW M H v w → ∀ Q, GotE M H ΦE Q → t v σ H Q) : wG X Ψ tg w E S ΦE :=
  ⟨fun M σ H v r ev x a Q q pins s u I ru => h.run pins s σ H v u Q I ru (g M σ H v r ev x a Q q)⟩
theorem wG_name {x : Str} (i : Nat) (hN : X.N.Nodup) (h : ΦE (E.set i (some w)) S) (hi : X.N[i]? = some x := by rfl) (hx : Loc X.env.scope x := by first | exact Or.inl rfl | exact Or.inr rfl) (hf : X.fn x = true ∨ X.env.scope.names.lookup x = some .local := by first | exact .inl rfl | exact .inr rfl) : wG X Ψ (.Name x pos) w E S ΦE :=
  wG.of (pg_name hN hi hx hf) fun M σ H v r ev _ a Q q => q _ _ M S H h r (ev.set a i) (Step.refl M H)
/-- several targets, one after another -/
def wGs (X : Cx) (Ψ : AX) : List Expr → List W → AEnv → Sto → (AEnv → Sto → Prop) → Prop
  | [], [], E, S, Φ => Φ E S
  | t :: ts, w :: ws, E, S, Φ => wG X Ψ t w E S fun E2 S2 => wGs X Ψ ts ws E2 S2 Φ
  | _, _, _, _, _ => False
def semGs (X : Cx) (tgs : List Expr) : TGs := fun vs σ H Q => ∀ pins s us, Inv X pins σ H s → Vals vs us → wpAny (model X.prog X.w) X.A (assignInOrder ((assignEach tgs X.env).map (·.2)) us) (fun _ s' => ∃ σ' H', Inv X pins σ' H' s' ∧ Q σ' H') X.xe s
theorem pgs_sem {X : Cx} {tgs : List Expr} : PGs X tgs (semGs X tgs) := ⟨fun pins s _ _ _ us _ I r h => h pins s us I r⟩
/-- each target is told by itself -/
inductive Each (X : Cx) : List Expr → Prop
  | nil : Each X []
  | cons {t ts} (h : (assignEach (t :: ts) X.env).map (·.2) = assign t X.env :: (assignEach ts X.env).map (·.2)) (r : Each X ts) : Each X (t :: ts)
theorem wGs_run : ∀ {ts : List Expr} {ws : List W} {vs : List V} {E : AEnv} {S : Sto}, Each X ts → wGs X Ψ ts ws E S ΦE → ∀ {M σ H}, Rep M H S → EvOk M H σ E → ExcOk X M H Ψ → VWs M H vs ws → ∀ {Q}, GotE M H ΦE Q → semGs X ts vs σ H Q
  | [], [], _, E, S, _, h, M, σ, H, r, ev, x, a, Q, q => by
    cases a
    intro pins s us I ru
    exact pgs_nil.run pins s σ H [] us Q I ru ⟨rfl, q _ _ M S H h r ev (Step.refl M H)⟩
  | [], _ :: _, _, _, _, _, h, _, _, _, _, _, _, _, _, _ => h.elim
  | _ :: _, [], _, _, _, _, h, _, _, _, _, _, _, _, _, _ => h.elim
  | t :: ts, w :: ws, _, E, S, he, h, M, σ, H, r, ev, x, a, Q, q => by
    cases he with
    | cons hs he =>
      cases a with
      | cons a1 a2 =>
        intro pins s us I ru
        refine (pgs_cons pg_sem pgs_sem hs).run pins s σ H _ us Q I ru ⟨_, _, rfl, ?_⟩
        refine (show wG X Ψ t w E S _ from h).run M σ H _ r ev x a1 _ fun σ2 E2 M2 S2 H2 p r2 ev2 s2 => ?_
        exact wGs_run he p r2 ev2 (x.step s2) (VWs.step s2 _ _ a2) (q.step s2)
theorem wG_tup {k : Nat} (hc : X.calm = true) (he : Each X es) (h : ∃ ws, w = .tup ws ∧ ws.length = es.length ∧ wGs X Ψ es ws E S ΦE) (hn : (assignEach es X.env).length = es.length := by rfl) (hst : (assignEach es X.env).findIdx? (·.1) = none := by rfl) : wG X Ψ (.Tuple es k pos) w E S ΦE :=
  wG.of (pg_tup hc pgs_sem hn hst) fun M σ H v r ev x a Q q => by
    obtain ⟨ws, rfl, hl, h⟩ := h
    cases a with
    | @tup ad xs _ kk a => exact ⟨ad, xs, rfl, kk.sq, by rw [a.length]; exact hl, wGs_run he h r ev x a q⟩
/-- a list in a tuple's place: a, b = [..] -/
theorem set_lst {M : Lay} {H : Hp} {S : Sto} (r : Rep M H S) {k : Nat} {p : Addr} {xs : List V} {ws : List W} (hp : M.m[k]? = some p) (a : VWs M H xs ws) : Rep M (upd H p (.lst xs)) (S.set k (.lst ws)) ∧ Step M H M (upd H p (.lst xs)) :=
  ⟨r.set hp (.lst (VWs.step (step_set r hp) _ _ a)), step_set r hp⟩
/-- o[i] = v, by values -/
def SetW (X : Cx) (t : TSet) (g : W → W → W → Sto → (Sto → Prop) → Prop) : Prop :=
  ∀ M H S vo vi vv x y z (Φ : Sto → Prop), Rep M H S → VW M H vo x → VW M H vi y → VW M H vv z → g x y z S Φ → ∀ Q : Hp → Prop, (∀ M2 S2 H2, Φ S2 → Rep M2 H2 S2 → Step M H M2 H2 → Q H2) → t vo vi vv H Q
abbrev gSetL : W → W → W → Sto → (Sto → Prop) → Prop := fun x y z S Φ => ∃ k ws i j, x = .ref k ∧ S[k]? = some (.lst ws) ∧ y = .int i ∧ ixN ws.length i = some j ∧ Φ (S.set k (.lst (ws.set j z)))
theorem setw_list : SetW X rSetL gSetL := fun M H S vo vi vv x y z Φ r a1 a2 a3 ⟨k, ws, i, j, e1, hk, e2, hj, p⟩ Q q => by
  subst e1; subst e2
  cases a1 with
  | ref hm =>
    cases a2
    obtain ⟨ad, xs, h1, h2, h3⟩ := r.lst hk
    rw [hm] at h1; cases h1
    have rr := set_lst r hm (h3.set j a3)
    exact ⟨_, xs, i, j, rfl, rfl, h2, by rw [h3.length]; exact hj, q M _ _ p rr.1 rr.2⟩
/-- the store behind d[y] = z -/
def dputW (S : Sto) (k : Nat) (y z : W) : Option Sto :=
  match S[k]? with
  | some (.dk kws) => (keyW y).map fun key => S.set k (.dk (putW kws key z))
  | some (.dt kws) => match y with
    | .tup ws => (keysW ws).map fun key => S.set k (.dt (putW kws key z))
    | _ => none
  | _ => none
def dlenW (S : Sto) (k : Nat) : Nat := match S[k]? with
  | some (.dk kws) => kws.length
  | some (.dt kws) => kws.length
  | _ => 0
theorem dput_vw {M : Lay} {H : Hp} {S S' : Sto} (r : Rep M H S) {y z : W} {v u t : V} {k : Nat} (a1 : VW M H v (.ref k)) (a2 : VW M H u y) (a3 : VW M H t z) (hl : dlenW S k ≤ 100000) (h : dputW S k y z = some S') :
    ∃ p H', v = .ref p ∧ DPut H p u t H' ∧ Rep M H' S' ∧ Step M H M H' := by
  have hsz : ∀ n : Nat, n ≤ 100000 → n < sizeLine := fun n q => Nat.lt_of_le_of_lt q (by decide)
  cases a1 with
  | @ref p _ hm =>
    unfold dputW at h
    unfold dlenW at hl
    split at h
    · rename_i kws hk
      rw [hk] at hl
      obtain ⟨q, ho, h1, h2, b⟩ := r.at' hk
      rw [hm] at h1; cases h1
      cases b with
      | dk b =>
        cases e : keyW y with
        | none => rw [e] at h; cases h
        | some key =>
          rw [e] at h
          cases h
          rw [key_vw a2 e]
          exact ⟨p, _, rfl, DPut.k h2 (by rw [b.length]; exact hsz _ hl), r.set hm (.dk (PVW.step (step_set r hm) (put_vw b a3))), step_set r hm⟩
    · rename_i kws hk
      rw [hk] at hl
      obtain ⟨q, ho, h1, h2, b⟩ := r.at' hk
      rw [hm] at h1; cases h1
      cases b with
      | dt b =>
        split at h
        · rename_i ws
          cases e : keysW ws with
          | none => rw [e] at h; cases h
          | some key =>
            rw [e] at h
            cases h
            cases a2 with
            | tup q a =>
              exact ⟨p, _, rfl, DPut.t h2 (by rw [q.1, keys_vw a e]) (by rw [b.length]; exact hsz _ hl), r.set hm (.dt (PVW.step (step_set r hm) (put_vw b a3))), step_set r hm⟩
        · cases h
    · cases h
abbrev gSetD : W → W → W → Sto → (Sto → Prop) → Prop := fun x y z S Φ => ∃ k S', x = .ref k ∧ dlenW S k ≤ 100000 ∧ dputW S k y z = some S' ∧ Φ S'
theorem wG_sub {t : TSet} {g : W → W → W → Sto → (Sto → Prop) → Prop} (hs : PSet X t) (hw : SetW X t g) (h : wE X Ψ o E S fun x S1 => wE X Ψ a E S1 fun y S2 => g x y w S2 fun S3 => ΦE E S3)
    (ha : ∀ v, assign (.Subscript o a pos) X.env v = (do
      let ov ← holding [v] (eval o X.env)
      let iv ← holding [v, ov] (eval a X.env)
      standAt pos
      holding [v, ov, iv] (setItem ov iv v)
      release [v, ov, iv] []) := by intro _; rfl) : wG X Ψ (.Subscript o a pos) w E S ΦE :=
  wG.of (pg_sub pe_sem pe_sem hs ha) fun M σ H v r ev x av Q q => h.run M σ H r ev x _ fun vo x1 M1 S1 H1 p1 r1 a1 s1 => p1.run M1 σ H1 r1 (ev.step s1) (x.step s1) _ fun vi y M2 S2 H2 p2 r2 a2 s2 =>
    hw M2 H2 S2 vo vi v x1 y w _ r2 (VW.step s2 _ _ a1) a2 (VW.step s2 _ _ (VW.step s1 _ _ av)) p2 _ fun M3 S3 H3 p3 r3 s3 => q σ E M3 S3 H3 p3 r3 (((ev.step s1).step s2).step s3) ((s1.trans s2).trans s3)
/-- a field's value: in its place, or at the end -/
def putFW (f : Str) (w : W) : List (Str × W) → List (Str × W)
  | [] => [(f, w)]
  | (g, u) :: r => if g = f then (g, w) :: r else (g, u) :: putFW f w r
theorem putF_vw {M : Lay} {H : Hp} {f : Str} {v : V} {w : W} (a : VW M H v w) : ∀ {fs : List (Str × V)} {ws : List (Str × W)}, PVW M H fs ws → PVW M H (putF f v fs) (putFW f w ws)
  | _, _, .nil => .cons ⟨rfl, a⟩ .nil
  | _, _, .cons (a := p) (b := q) r t => by
    obtain ⟨k, x⟩ := p
    obtain ⟨k', y⟩ := q
    have e : k = k' := r.1
    subst e
    unfold putF putFW
    by_cases h : k = f
    · rw [if_pos h, if_pos h]
      exact .cons ⟨rfl, a⟩ t
    · rw [if_neg h, if_neg h]
      exact .cons r (putF_vw a t)
/-- the store behind o.f = w -/
def fputW (S : Sto) (k : Nat) (f : Str) (w : W) : Option (Addr × Sto) := match S[k]? with
  | some (.ins C ws) => if ws.length < 1000 then some (C, S.set k (.ins C (putFW f w ws))) else none
  | _ => none
theorem fput_vw {M : Lay} {H : Hp} {S S' : Sto} (r : Rep M H S) {w : W} {v t : V} {k : Nat} {C : Addr} {f : Str} (a1 : VW M H v (.ref k)) (a3 : VW M H t w) (h : fputW S k f w = some (C, S')) :
    ∃ p dx fs, v = .ref p ∧ H p = some (.ins C dx fs) ∧ fs.length < 1000 ∧ Rep M (upd H p (.ins C dx (putF f t fs))) S' ∧ Step M H M (upd H p (.ins C dx (putF f t fs))) := by
  cases a1 with
  | @ref p _ hm =>
    unfold fputW at h
    split at h
    · rename_i C' ws hk
      split at h
      · rename_i hl
        cases h
        obtain ⟨q, dx, fs, h1, h2, b⟩ := r.inst hk
        rw [hm] at h1; cases h1
        exact ⟨p, dx, fs, rfl, h2, by rw [PVW.length b]; exact hl, r.set hm (.ins (PVW.step (step_set r hm) (putF_vw a3 b))), step_set r hm⟩
      · cases h
    · cases h
def gFld (K : PySem.W.Frag) (to : TE) (f : Str) : TG := fun v σ H Q => to σ H fun x H2 => ∃ a C dx fs, x = .ref a ∧ H2 a = some (.ins C dx fs) ∧ Cls K C ∧ NoAttr K C f ∧ fs.length < 1000 ∧ Q σ (upd H2 a (.ins C dx (putF f v fs)))
theorem pg_fld {f : Str} {to : TE} (ho : PE X o to) : PG X (.Attribute o f pos) (gFld X.K to f) := by
  refine ⟨fun pins s σ H v u Q I r h => ?_⟩
  refine PySem.W.kas_attr (thn (ho.run pins s σ H _ I h) fun ov s1 ⟨x, H1, I1, rx, a, C, dx, fs, ex, ea, c, n, l, q⟩ => ?_)
  subst ex
  obtain rfl : ov = Value.ref a := rx
  exact setattr_ok I1 ea c n l r fun s3 I3 => ⟨σ, _, I3, q⟩
theorem wG_fld {f : Str} (h : wE X Ψ o E S fun x S1 => ∃ k C S2, x = .ref k ∧ fputW S1 k f w = some (C, S2) ∧ Cls X.K C ∧ NoAttr X.K C f ∧ ΦE E S2) : wG X Ψ (.Attribute o f pos) w E S ΦE :=
  wG.of (pg_fld pe_sem) fun M σ H v r ev x av Q q => h.run M σ H r ev x _ fun vo x1 M1 S1 H1 ⟨k, C, S2, e1, hf, hc, hn, p⟩ r1 a1 s1 => by
    subst e1
    obtain ⟨ad, dx, fs, rfl, h1, hl, r2, s2⟩ := fput_vw r1 a1 (VW.step s1 _ _ av) hf
    exact ⟨ad, C, dx, fs, rfl, h1, hc, hn, hl, q σ E M1 S2 _ p r2 ((ev.step s1).step s2) (s1.trans s2)⟩

/-! ### what is walked -/
structure ItW (J : It) (vs : List V) (ys ws : List W) (still : Sto → Prop) : Prop where
  go : ∀ M H S i, VWs M H vs ys → Rep M H S → still S → i < ws.length → J.go i H
  yld : ∀ M H S i x H', VWs M H vs ys → Rep M H S → still S → J.yld i H x H' → i < ws.length → ∃ w, ws[i]? = some w ∧ VW M H' x w ∧ Rep M H' S ∧ Step M H M H'
  stop : ∀ M H S i, VWs M H vs ys → Rep M H S → still S → ws.length ≤ i → J.stop i H
def semI (X : Cx) (tg iter : Expr) : TI := fun σ H R => ∀ pins s, Inv X pins σ H s → wpAny (model X.prog X.w) X.A (eval iter X.env) (fun v s1 => wpAny (model X.prog X.w) X.A (pyIter v) (PIE X pins σ tg R) X.xe s1) X.xe s
theorem pi_sem : PI X tg iter (semI X tg iter) := ⟨fun pins s _ _ _ I h => h pins s I⟩
def GotI (M : Lay) (H : Hp) (Φ : List W → (Sto → Prop) → Sto → Prop) (R : It → Hp → Prop) : Prop :=
  ∀ J vs ys ws still M2 S2 H2, Φ ws still S2 → still S2 → Rep M2 H2 S2 → Step M H M2 H2 → VWs M2 H2 vs ys → ItW J vs ys ws still → R J H2
structure wI (X : Cx) (Ψ : AX) (tg iter : Expr) (E : AEnv) (S : Sto) (Φ : List W → (Sto → Prop) → Sto → Prop) : Prop where
  run : ∀ M σ H, Rep M H S → EvOk M H σ E → ExcOk X M H Ψ → ∀ R, GotI M H Φ R → semI X tg iter σ H R
variable {ΦI : List W → (Sto → Prop) → Sto → Prop}
theorem wI.of {t : TI} (h : PI X tg iter t) (g : ∀ M σ H, Rep M H S → EvOk M H σ E → ExcOk X M H Ψ → ∀ R, GotI M H ΦI R → t σ H R) : wI X Ψ tg iter E S ΦI :=
  ⟨fun M σ H r ev x R q pins s I => h.run pins s σ H R I (g M σ H r ev x R q)⟩
/-- how a list that is walked stands still -/
def stillW : W → List W → Sto → Prop
  | .ref k, ws, S => S[k]? = some (.lst ws)
  | _, _, _ => True
theorem vws_one {M : Lay} {H : Hp} {v : V} {y : W} (h : VWs M H [v] [y]) : VW M H v y := by
  cases h with
  | cons a b => exact a
theorem itw_list {K : PySem.W.Frag} {u : Addr} {y : W} {ws : List W} (nt : ∀ z, y ≠ .tup z) (hi : ∃ S, itemsW S y = some ws) : ItW (Itl K u) [.ref u] [y] ws (stillW y ws) := by
  have key : ∀ M' H' S', VWs M' H' [.ref u] [y] → Rep M' H' S' → stillW y ws S' → ∃ xs, SqL K H' u xs ∧ VWs M' H' xs ws := by
    intro M' H' S' a r' hs
    obtain ⟨S, hi⟩ := hi
    have hi' : itemsW S' y = some ws := by
      cases y with
      | ref k =>
        show (match S'[k]? with
          | some (.lst ws) => some ws
          | _ => none) = some ws
        rw [show S'[k]? = some (.lst ws) from hs]
      | lst z => exact hi
      | tup z => exact absurd rfl (nt z)
      | _ => cases hi
    obtain ⟨p, xs, e, rv, k⟩ := seq_of (K := K) r' (vws_one a) hi'
    cases e
    rcases k with ⟨k, _⟩ | ⟨_, z, k⟩
    · exact ⟨xs, k, rv⟩
    · exact absurd k (nt z)
  refine ⟨fun M' H' S' i a r' hs hl => ?_, fun M' H' S' i x H2 a r' hs hy hl => ?_, fun M' H' S' i a r' hs hl => ?_⟩
  · obtain ⟨xs, k, rv⟩ := key M' H' S' a r' hs
    obtain ⟨v, h1, _⟩ := rv.get (List.getElem?_eq_getElem hl)
    exact ⟨xs, v, k, h1⟩
  · obtain ⟨xs, k, rv⟩ := key M' H' S' a r' hs
    obtain ⟨e, h⟩ := hy
    subst e
    obtain ⟨v, h1, h2⟩ := rv.get (List.getElem?_eq_getElem hl)
    have e := h xs k
    rw [h1] at e; cases e
    exact ⟨_, List.getElem?_eq_getElem hl, h2, r', Step.refl _ _⟩
  · obtain ⟨xs, k, rv⟩ := key M' H' S' a r' hs
    exact ⟨xs, k, by rw [rv.length]; exact hl⟩
theorem itw_tup {K : PySem.W.Frag} {u : Addr} {ws : List W} : ItW (Itt K u) [.ref u] [.tup ws] ws (fun _ => True) := by
  have key : ∀ M' H' , VWs M' H' [.ref u] [.tup ws] → ∃ xs, SqT K H' u xs ∧ VWs M' H' xs ws := by
    intro M' H' a
    cases vws_one a with
    | tup q a => exact ⟨_, q.sq, a⟩
  refine ⟨fun M' H' S' i a r' hs hl => ?_, fun M' H' S' i x H2 a r' hs hy hl => ?_, fun M' H' S' i a r' hs hl => ?_⟩
  · obtain ⟨xs, k, rv⟩ := key M' H' a
    obtain ⟨v, h1, _⟩ := rv.get (List.getElem?_eq_getElem hl)
    exact ⟨xs, v, k, h1⟩
  · obtain ⟨xs, k, rv⟩ := key M' H' a
    obtain ⟨e, h⟩ := hy
    subst e
    obtain ⟨v, h1, h2⟩ := rv.get (List.getElem?_eq_getElem hl)
    have e := h xs k
    rw [h1] at e; cases e
    exact ⟨_, List.getElem?_eq_getElem hl, h2, r', Step.refl _ _⟩
  · obtain ⟨xs, k, rv⟩ := key M' H' a
    exact ⟨xs, k, by rw [rv.length]; exact hl⟩
/-- the ints lo, lo + 1, .. -/
def rangeW (lo : Int) (n : Nat) : List W := (List.range n).map fun i => W.int (lo + (i : Nat))
theorem range_get {lo : Int} {n i : Nat} (h : i < n) : (rangeW lo n)[i]? = some (.int (lo + i)) := by
  unfold rangeW
  rw [List.getElem?_map, List.getElem?_range h]
  rfl
theorem range_len {lo : Int} {n : Nat} : (rangeW lo n).length = n := by simp [rangeW]
theorem itw_range {lo : Int} {n : Nat} : ItW (Itr lo n) [] [] (rangeW lo n) (fun _ => True) := by
  refine ⟨fun M' H' S' i st r' hs hl => ?_, fun M' H' S' i x H2 st r' hs hy hl => ?_, fun M' H' S' i st r' hs hl => ?_⟩
  · rw [range_len] at hl
    exact hl
  · rw [range_len] at hl
    obtain ⟨e, h⟩ := hy
    subst e
    subst h
    exact ⟨_, range_get hl, .int _, r', Step.refl _ _⟩
  · rw [range_len] at hl
    exact hl
theorem wI_list (h : wE X Ψ iter E S fun y S1 => ∃ ws, itemsW S1 y = some ws ∧ (∀ z, y ≠ .tup z) ∧ ΦI ws (stillW y ws) S1) : wI X Ψ tg iter E S ΦI :=
  wI.of (pi_list pe_sem) fun M σ H r ev x R q => h.run M σ H r ev x _ fun v y M1 S1 H1 ⟨ws, hi, nt, p⟩ r1 a1 s1 => by
    obtain ⟨ad, xs, rfl, rv, k⟩ := seq_of (K := X.K) r1 a1 hi
    rcases k with ⟨k, _⟩ | ⟨_, z, k⟩
    · refine ⟨ad, rfl, ⟨xs, k⟩, q _ _ _ ws _ M1 S1 H1 p ?_ r1 s1 (.cons a1 .nil) (itw_list nt ⟨S1, hi⟩)⟩
      cases y with
      | ref k => exact items_ref hi
      | _ => trivial
    · exact absurd k (nt z)
theorem wI_tup (h : wE X Ψ iter E S fun y S1 => ∃ ws, y = .tup ws ∧ ΦI ws (fun _ => True) S1) : wI X Ψ tg iter E S ΦI :=
  wI.of (pi_tup pe_sem) fun M σ H r ev x R q => h.run M σ H r ev x _ fun v y M1 S1 H1 ⟨ws, e, p⟩ r1 a1 s1 => by
    subst e
    cases id a1 with
    | @tup ad xs _ k a => exact ⟨ad, rfl, ⟨xs, k.sq⟩, q _ _ _ ws _ M1 S1 H1 p True.intro r1 s1 (.cons a1 .nil) itw_tup⟩
theorem wI_range1 {p : Pos} (hm : X.mg "range" = none) (h : wE X Ψ a E S fun y S1 => ∃ j, y = .int j ∧ -(2 ^ 62) ≤ j ∧ j < 2 ^ 62 ∧ ΦI (rangeW 0 j.toNat) (fun _ => True) S1) (hg : Gl X "range" := by rfl) (hs : starEach [a] X.env = [(false, eval a X.env)] := by rfl) : wI X Ψ tg (.Call (.Name "range" p) [a] [] pos) E S ΦI :=
  wI.of (pi_range1 hg hm (pa_cons pe_sem pa_nil hs) hs) fun M σ H r ev x R q => h.run M σ H r ev x _ fun v y M1 S1 H1 ⟨j, e, h1, h2, p⟩ r1 a1 s1 => by
    subst e
    cases a1
    exact ⟨j, rfl, h1, h2, q _ _ _ _ _ M1 S1 H1 p True.intro r1 s1 .nil itw_range⟩
theorem wI_range2 {p : Pos} (hm : X.mg "range" = none) (h : wE X Ψ a E S fun x S1 => wE X Ψ b E S1 fun y S2 => ∃ i j, x = .int i ∧ y = .int j ∧ (-(2 ^ 62) ≤ i ∧ i < 2 ^ 62 ∧ -(2 ^ 62) ≤ j ∧ j < 2 ^ 62) ∧ ΦI (rangeW i (j - i).toNat) (fun _ => True) S2) (hg : Gl X "range" := by rfl) (hs : starEach [a, b] X.env = [(false, eval a X.env), (false, eval b X.env)] := by rfl) (hs2 : starEach [b] X.env = [(false, eval b X.env)] := by rfl)
    (hs3 : starEach [a, b] X.env = (false, eval a X.env) :: starEach [b] X.env := by rfl) : wI X Ψ tg (.Call (.Name "range" p) [a, b] [] pos) E S ΦI :=
  wI.of (pi_range2 hg hm (pa_cons pe_sem (pa_cons pe_sem pa_nil hs2) hs3) hs hs2) fun M σ H r ev x R q => h.run M σ H r ev x _ fun v w1 M1 S1 H1 p1 r1 a1 s1 => p1.run M1 σ H1 r1 (ev.step s1) (x.step s1) _ fun u w2 M2 S2 H2 ⟨i, j, e1, e2, hb, p⟩ r2 a2 s2 => by
    subst e1; subst e2
    cases a1; cases a2
    exact ⟨i, j, rfl, hb, q _ _ _ _ _ M2 S2 H2 p True.intro r2 (s1.trans s2) .nil itw_range⟩
/-- enumerate(list) -/
def enumW (n : Nat) : List W → List W
  | [] => []
  | w :: ws => .tup [.int n, w] :: enumW (n + 1) ws
theorem enum_get : ∀ {ws : List W} {n i : Nat} {w : W}, ws[i]? = some w → (enumW n ws)[i]? = some (.tup [.int (n + i : Nat), w])
  | [], _, _, _, h => by simp at h
  | w :: ws, n, 0, x, h => by simp at h; subst h; rfl
  | w :: ws, n, i + 1, x, h => by
    have ih := enum_get (n := n + 1) (i := i) (show ws[i]? = some x by simpa using h)
    show (enumW (n + 1) ws)[i]? = _
    rw [ih]
    congr 4
    omega
theorem enum_len : ∀ {ws : List W} {n : Nat}, (enumW n ws).length = ws.length
  | [], _ => rfl
  | w :: ws, n => by simp [enumW, enum_len]
theorem itw_enum {K : PySem.W.Frag} {u : Addr} {y : W} {ws : List W} (nt : ∀ z, y ≠ .tup z) (hi : ∃ S, itemsW S y = some ws) : ItW (Ite K u) [.ref u] [y] (enumW 0 ws) (stillW y ws) := by
  have base := itw_list (K := K) (u := u) nt hi
  refine ⟨fun M' H' S' i a r' hs hl => ?_, fun M' H' S' i x H2 a r' hs hy hl => ?_, fun M' H' S' i a r' hs hl => ?_⟩
  · rw [enum_len] at hl
    exact base.go M' H' S' i a r' hs hl
  · rw [enum_len] at hl
    obtain ⟨T, z, e1, hT, e2, h⟩ := hy
    subst e1; subst e2
    obtain ⟨w, h1, h2, _⟩ := base.yld M' H' S' i z H' a r' hs ⟨rfl, h⟩ hl
    refine ⟨_, enum_get h1, ?_, r'.tmp hT, step_tmp r' hT⟩
    exact tq_new r' hT (.cons (by rw [Nat.zero_add]; exact .int _) (.cons h2 .nil))
  · rw [enum_len] at hl
    exact base.stop M' H' S' i a r' hs hl
theorem wI_enum {p tpos : Pos} {elts : List Expr} {kk : Nat} (hm : X.mg "enumerate" = none) (h : wE X Ψ a E S fun y S1 => ∃ ws, itemsW S1 y = some ws ∧ (∀ z, y ≠ .tup z) ∧ ΦI (enumW 0 ws) (stillW y ws) S1) (hg : Gl X "enumerate" := by rfl) (hs : starEach [a] X.env = [(false, eval a X.env)] := by rfl) : wI X Ψ (.Tuple elts kk tpos) (.Call (.Name "enumerate" p) [a] [] pos) E S ΦI :=
  wI.of (pi_enum hg hm (pa_cons pe_sem pa_nil hs) hs) fun M σ H r ev x R q => h.run M σ H r ev x _ fun v y M1 S1 H1 ⟨ws, hi, nt, p⟩ r1 a1 s1 => by
    obtain ⟨ad, xs, rfl, rv, k⟩ := seq_of (K := X.K) r1 a1 hi
    rcases k with ⟨k, _⟩ | ⟨_, z, k⟩
    · refine ⟨ad, xs, rfl, k, q _ _ _ _ _ M1 S1 H1 p ?_ r1 s1 (.cons a1 .nil) (itw_enum nt ⟨S1, hi⟩)⟩
      cases y with
      | ref k => exact items_ref hi
      | _ => trivial
    · exact absurd k (nt z)
end

-- AM6

/-! ### references below a number; what is dropped -/
mutual
def W.rlt (n : Nat) : W → Bool
  | .ref k => decide (k < n) | .tup ws => W.rlts n ws | .lst ws => W.rlts n ws | _ => true
def W.rlts (n : Nat) : List W → Bool
  | [] => true
  | w :: ws => w.rlt n && W.rlts n ws
end
def O.rlt (n : Nat) : O → Bool
  | .lst ws => W.rlts n ws | .dk kvs => kvs.all fun p => p.2.rlt n | .dt kvs => kvs.all fun p => p.2.rlt n | .ins _ fs => fs.all fun p => p.2.rlt n | _ => true
def Lay.cut (M : Lay) (n : Nat) : Lay := ⟨M.m.take n, M.h⟩
section
variable {M : Lay} {H : Hp}
theorem cut_out {n : Nat} {a : Addr} (h : M.out a) : (M.cut n).out a := ⟨fun z => h.1 (List.mem_of_mem_take z), h.2⟩
theorem sq_cut {K : PySem.W.Frag} {n : Nat} {a : Addr} {ns : List Int} (h : SQ K M H a ns) : SQ K (M.cut n) H a ns := by
  rcases h with ⟨h, o⟩ | h
  · exact .inl ⟨h, cut_out o⟩
  · exact .inr h
mutual
theorem vw_cut {n : Nat} : ∀ (w : W) {v : V}, VW M H v w → w.rlt n = true → VW (M.cut n) H v w
  | .non, _, h, _ => by cases h; exact .non
  | .bl _, _, h, _ => by cases h; exact .bl _
  | .int _, _, h, _ => by cases h; exact .int _
  | .str _, _, h, _ => by cases h; exact .str _
  | .tup ws, _, h, r => by
    cases h with
    | tup q a => exact .tup ⟨q.1, cut_out q.2⟩ (vws_cut ws a (by simpa [W.rlt] using r))
  | .lst ws, _, h, r => by
    cases h with
    | lst q a => exact .lst ⟨q.1, cut_out q.2⟩ (vws_cut ws a (by simpa [W.rlt] using r))
  | .ref k, _, h, r => by
    cases h with
    | ref q => exact .ref (by
        have hk : k < n := by simpa [W.rlt] using r
        show (M.m.take n)[k]? = _
        rw [List.getElem?_take_of_lt hk]; exact q)
  | .raw _, _, h, _ => by cases h; exact .raw _
  | .scr _ _, _, h, _ => by
    cases h with
    | scr q => exact .scr (sq_cut q)
theorem vws_cut {n : Nat} : ∀ (ws : List W) {vs : List V}, VWs M H vs ws → W.rlts n ws = true → VWs (M.cut n) H vs ws
  | [], _, h, _ => by cases h; exact .nil
  | w :: ws, _, h, r => by
    cases h with
    | cons a b =>
      simp only [W.rlts, Bool.and_eq_true] at r
      exact .cons (vw_cut w a r.1) (vws_cut ws b r.2)
end
theorem pvw_cut {κ : Type} {n : Nat} : ∀ {fs : List (κ × V)} {ws : List (κ × W)}, PVW M H fs ws → (ws.all fun p => p.2.rlt n) = true → PVW (M.cut n) H fs ws
  | _, _, .nil, _ => .nil
  | _, _, .cons (b := q) a t, r => by
    simp only [List.all_cons, Bool.and_eq_true] at r
    exact .cons ⟨a.1, vw_cut _ a.2 r.1⟩ (pvw_cut t r.2)
theorem ob_cut {n : Nat} {ho : HO} {o : O} (b : Ob M H ho o) (r : o.rlt n = true) : Ob (M.cut n) H ho o := by
  cases b with
  | lst a => exact .lst (vws_cut _ a r)
  | dk a => exact .dk (pvw_cut a r)
  | dt a => exact .dt (pvw_cut a r)
  | ins a => exact .ins (pvw_cut a r)
  | row a =>
    obtain ⟨v, ns, i, z, e, a, q⟩ := a
    exact .row ⟨v, ns, i, z, e, vw_cut _ a rfl, q⟩
  | any m n => exact .any m n
  | tab t q =>
    refine .tab t fun pos cv e => ?_
    obtain ⟨c, h1, h2, h3⟩ := q pos cv e
    exact ⟨c, h1, fun z => h2 (List.mem_of_mem_take z), h3⟩
theorem Rep.cut {S T : Sto} (r : Rep M H (S ++ T)) (hr : ∀ o, o ∈ S → o.rlt S.length = true) : Rep (M.cut S.length) H S where
  nd := r.nd.sublist (List.take_sublist _ _)
  len := by
    show (M.m.take S.length).length = S.length
    rw [List.length_take, r.len, List.length_append]
    omega
  at_ := fun k p o h1 h2 => by
    have hk : k < S.length := (List.getElem?_eq_some_iff.mp h2).1
    have h1 : (M.m.take S.length)[k]? = some p := h1
    rw [List.getElem?_take_of_lt hk] at h1
    obtain ⟨ho, e, b⟩ := r.at_ k p o h1 (by rw [List.getElem?_append_left hk]; exact h2)
    exact ⟨ho, e, ob_cut b (hr o (List.mem_of_getElem? h2))⟩
  hid := fun p hp => ⟨(r.hid p hp).1, fun z => (r.hid p hp).2 (List.mem_of_mem_take z)⟩
  tb := fun k P q e => by
    have hk : k < S.length := (List.getElem?_eq_some_iff.mp e).1
    show (M.m.take S.length)[k]? = some P
    rw [List.getElem?_take_of_lt hk]
    exact r.tb k P q (by rw [List.getElem?_append_left hk]; exact e)
theorem step_cut {M0 : Lay} {H0 : Hp} {n : Nat} (s : Step M0 H0 M H) (hn : M0.m.length ≤ n) : Step M0 H0 (M.cut n) H where
  pre := by
    obtain ⟨t, e⟩ := s.pre
    refine ⟨t.take (n - M0.m.length), ?_⟩
    show _ = M.m.take n
    rw [← e, List.take_append, List.take_of_length_le hn]
  new := fun p h q => s.new p (fun z => h (cut_out z)) q
  keep := s.keep
  tbl := s.tbl
  there := s.there
  old := fun a m => s.old a (List.mem_of_mem_take m)
  hold := s.hold
/- all references of what stands in a state are below its length -/
mutual
theorem vw_rlt {v : V} : ∀ {w : W}, VW M H v w → w.rlt M.m.length = true
  | .non, _ => rfl
  | .bl _, _ => rfl
  | .int _, _ => rfl
  | .str _, _ => rfl
  | .tup ws, h => by
    cases h with
    | tup q a => exact vws_rlt a
  | .lst ws, h => by
    cases h with
    | lst q a => exact vws_rlt a
  | .ref k, h => by
    cases h with
    | ref q => exact decide_eq_true (List.getElem?_eq_some_iff.mp q).1
  | .raw _, _ => rfl
  | .scr _ _, _ => rfl
theorem vws_rlt : ∀ {ws : List W} {vs : List V}, VWs M H vs ws → W.rlts M.m.length ws = true
  | [], _, _ => rfl
  | w :: ws, _, h => by
    cases h with
    | cons a b => simp only [W.rlts, Bool.and_eq_true]; exact ⟨vw_rlt a, vws_rlt b⟩
end
theorem pvw_rlt {κ : Type} : ∀ {fs : List (κ × V)} {ws : List (κ × W)}, PVW M H fs ws → (ws.all fun p => p.2.rlt M.m.length) = true
  | _, _, .nil => rfl
  | _, _, .cons a t => by
    simp only [List.all_cons, Bool.and_eq_true]
    exact ⟨vw_rlt a.2, pvw_rlt t⟩
def Srl (S : Sto) : Prop := ∀ o, o ∈ S → o.rlt S.length = true
theorem Rep.srl {S : Sto} (r : Rep M H S) : Srl S := fun o ho => by
  obtain ⟨k, hk, e⟩ := List.mem_iff_getElem.mp ho
  obtain ⟨p, q, h1, h2, b⟩ := r.at' (o := o) (by rw [List.getElem?_eq_getElem hk, e])
  rw [← r.len]
  cases b with
  | lst a => exact vws_rlt a
  | dk a => exact pvw_rlt a
  | dt a => exact pvw_rlt a
  | ins a => exact pvw_rlt a
  | row a => rfl
  | any m n => rfl
  | tab t q => rfl
/- what a result becomes when the objects from n on are forgotten: lists of theirs are lists that nobody changes -/
mutual
inductive Fz (S : Sto) (n : Nat) : W → W → Prop
  | non : Fz S n .non .non
  | bl (b : Bool) : Fz S n (.bl b) (.bl b)
  | int (i : Int) : Fz S n (.int i) (.int i)
  | str (x : Str) : Fz S n (.str x) (.str x)
  | raw (v : V) : Fz S n (.raw v) (.raw v)
  | scr (K : PySem.W.Frag) (v : List Int) : Fz S n (.scr K v) (.scr K v)
  | tup {ws us} : Fzs S n ws us → Fz S n (.tup ws) (.tup us)
  | lst {ws us} : Fzs S n ws us → Fz S n (.lst ws) (.lst us)
  | old {k} : k < n → Fz S n (.ref k) (.ref k)
  | new {k ws us} : n ≤ k → S[k]? = some (.lst ws) → Fzs S n ws us → Fz S n (.ref k) (.lst us)
inductive Fzs (S : Sto) (n : Nat) : List W → List W → Prop
  | nil : Fzs S n [] []
  | cons {w ws u us} : Fz S n w u → Fzs S n ws us → Fzs S n (w :: ws) (u :: us)
end
theorem cut_new {S : Sto} {n k : Nat} {p : Addr} (r : Rep M H S) (h : M.m[k]? = some p) (hn : n ≤ k) : (M.cut n).out p := by
  refine ⟨fun z => ?_, fun z => (r.hid p z).2 (List.mem_of_getElem? h)⟩
  obtain ⟨j, hj, e⟩ := List.mem_iff_getElem.mp z
  have hj' : j < n := by
    have : j < (M.m.take n).length := hj
    rw [List.length_take] at this
    omega
  have q : (M.m.take n)[j]? = some p := by rw [← e]; exact List.getElem?_eq_getElem hj
  rw [List.getElem?_take_of_lt hj'] at q
  exact absurd (nd_at r.nd q h) (by omega)
mutual
theorem vw_fz {S : Sto} {n : Nat} (r : Rep M H S) : ∀ (u : W) {w : W} {v : V}, VW M H v w → Fz S n w u → VW (M.cut n) H v u
  | .non, _, _, h, f => by cases f; cases h; exact .non
  | .bl _, _, _, h, f => by cases f; cases h; exact .bl _
  | .int _, _, _, h, f => by cases f; cases h; exact .int _
  | .str _, _, _, h, f => by cases f; cases h; exact .str _
  | .raw _, _, _, h, f => by cases f; cases h; exact .raw _
  | .scr _ _, _, _, h, f => by
    cases f
    cases h with
    | scr q => exact .scr (sq_cut q)
  | .tup us, _, _, h, f => by
    cases f with
    | tup f => cases h with
      | tup q a => exact .tup ⟨q.1, cut_out q.2⟩ (vws_fz r us a f)
  | .lst us, _, _, h, f => by
    cases f with
    | lst f => cases h with
      | lst q a => exact .lst ⟨q.1, cut_out q.2⟩ (vws_fz r us a f)
    | new hn hk f => cases h with
      | ref hm =>
        obtain ⟨p, xs, h1, h2, h3⟩ := r.lst hk
        rw [hm] at h1; cases h1
        exact .lst ⟨h2, cut_new r hm hn⟩ (vws_fz r us h3 f)
  | .ref k, _, _, h, f => by
    cases f with
    | old hk => cases h with
      | ref hm => exact .ref (by
          show (M.m.take n)[k]? = _
          rw [List.getElem?_take_of_lt hk]; exact hm)
theorem vws_fz {S : Sto} {n : Nat} (r : Rep M H S) : ∀ (us : List W) {ws : List W} {vs : List V}, VWs M H vs ws → Fzs S n ws us → VWs (M.cut n) H vs us
  | [], _, _, h, f => by cases f; cases h; exact .nil
  | u :: us, _, _, h, f => by
    cases f with
    | cons f1 f2 => cases h with
      | cons a b => exact .cons (vw_fz r u a f1) (vws_fz r us b f2)
end
end
/-- a store told less -/
def Imp (S S1 : Sto) : Prop := ∀ M H, Rep M H S → Rep M H S1
theorem Imp.refl (S : Sto) : Imp S S := fun _ _ r => r
theorem Imp.trans {S S1 S2 : Sto} (a : Imp S S1) (b : Imp S1 S2) : Imp S S2 := fun M H r => b M H (a M H r)
/-- a def's end: as it is, told less, its own objects forgotten -/
def fin (n : Nat) (Φ : W → Sto → Prop) : W → Sto → Prop := fun w S' => ∃ S1, Imp S' S1 ∧ (Φ w S1 ∨ ∃ S2 T u, S1 = S2 ++ T ∧ n ≤ S2.length ∧ Srl S2 ∧ Fz S1 S2.length w u ∧ Φ u S2)
theorem fin.as {n : Nat} {Φ : W → Sto → Prop} {w : W} {S : Sto} (h : Φ w S) : fin n Φ w S := ⟨S, Imp.refl S, .inl h⟩
theorem fin.less {n : Nat} {Φ : W → Sto → Prop} {w : W} {S S1 : Sto} (i : Imp S S1) (h : fin n Φ w S1) : fin n Φ w S := by
  obtain ⟨S2, j, h⟩ := h
  exact ⟨S2, i.trans j, h⟩
theorem fin.drop {n : Nat} {Φ : W → Sto → Prop} {w u : W} {S2 T : Sto} (hn : n ≤ S2.length) (hr : Srl S2) (f : Fz (S2 ++ T) S2.length w u) (h : Φ u S2) : fin n Φ w (S2 ++ T) := ⟨_, Imp.refl _, .inr ⟨S2, T, u, rfl, hn, hr, f, h⟩⟩
theorem Got.fin {M : Lay} {H : Hp} {S : Sto} (r : Rep M H S) {Φ : W → Sto → Prop} {Q : VK} (g : Got M H Φ Q) : Got M H (fin S.length Φ) Q := fun v w M2 S2 H2 p r2 a2 s2 => by
  obtain ⟨S1, i, p⟩ := p
  have r2 := i _ _ r2
  rcases p with p | ⟨S3, T, u, e, hn, hr, f, p⟩
  · exact g v w M2 S1 H2 p r2 a2 s2
  · subst e
    exact g v u (M2.cut S3.length) S3 H2 p (r2.cut hr) (vw_fz r2 u a2 f) (step_cut s2 (by rw [r.len]; exact hn))

/-! ### defs -/
/-- a def's promise: its arguments, the store, what is wanted of its result, of an exception -/
abbrev ASp := List W → Sto → (W → Sto → Prop) → (Value → List (Str × W) → Sto → Prop) → Prop
def conc (n : Nat) (asp : ASp) : Sp := fun vs H Q XE => vs.length = n ∧ ∃ M S ws Φ Ψ, Rep M H S ∧ VWs M H vs ws ∧ asp ws S Φ Ψ ∧ Got M H Φ Q ∧
  ∀ cls fs d M2 S2 H2, Ψ cls fs S2 → Rep M2 H2 S2 → Xd M2 H2 d fs → Step M H M2 H2 → XE cls d H2
/-- a def of the module that keeps a promise -/
structure CFn (P : Program) (w : World) (K : PySem.W.Frag) (mg : Str → Option Value) (base : Heap) (name : Str) (k n : Nat) (asp : ASp) : Prop where
  ex : ∃ f fd ps, mg name = some (.ref f) ∧ PySem.W.keepIn K (.ref f) = true ∧ Binds K fd ps [] ∧ ps.length = n ∧ FnOk P w K mg base (L2.CX P w) k f fd ps (conc n asp)
/-- .. of a class -/
structure CMeth (P : Program) (w : World) (K : PySem.W.Frag) (mg : Str → Option Value) (base : Heap) (C : Addr) (m : Str) (k n : Nat) (asp : ASp) : Prop where
  ex : ∃ f fd ps, Meth K C m f ∧ Binds K fd ps [] ∧ ps.length = n ∧ FnOk P w K mg base (L2.CX P w) k f fd ps (conc n asp)
structure CMake (P : Program) (w : World) (K : PySem.W.Frag) (mg : Str → Option Value) (base : Heap) (name : Str) (C : Addr) (k n : Nat) (asp : ASp) : Prop where
  ex : ∃ f fd ps, mg name = some (.ref C) ∧ Mk K C f ∧ Binds K fd ps [] ∧ ps.length = n ∧ FnOk P w K mg base (L2.CX P w) k f fd ps (conc n asp)
def startW (n : Nat) (ws : List W) : AEnv := ws.map some ++ List.replicate (n - ws.length) none
theorem evok_start {M : Lay} {H : Hp} {N : List Str} {vs : List V} {ws : List W} (r : VWs M H vs ws) (hl : vs.length ≤ N.length) : EvOk M H (L2.start N vs) (startW N.length ws) := by
  refine ⟨by simp [L2.start, startW, r.length], fun i w h => ?_⟩
  unfold startW at h
  unfold L2.start
  by_cases hi : i < ws.length
  · rw [List.getElem?_append_left (by simpa using hi), List.getElem?_map] at h
    cases e : ws[i]? with
    | none => rw [e] at h; cases h
    | some u =>
      rw [e] at h; cases h
      obtain ⟨v, h1, h2⟩ := r.get e
      refine ⟨v, ?_, h2⟩
      rw [List.getElem?_append_left (by rw [List.length_map, r.length]; exact hi), List.getElem?_map, h1]
      rfl
  · rw [List.getElem?_append_right (by simpa using hi), List.getElem?_replicate] at h
    split at h <;> cases h
/-- THE RULE: a def by its body -/
theorem fn_ok {P : Program} {w : World} {K : PySem.W.Frag} {mg : Str → Option Value} {base : Heap} {x qual : Str} {st : Stmt} {f : Addr} {fd : FuncData} {N ps : List Str} {k : Nat} {asp : ASp} (F : Fun K x qual st f fd) (sc : FnScope N ps (defScope st))
    (hbody : ∀ (cdv : Value) (A : Around) (outer : List Env) (s : Shared) (H : Hp) (E : XK), Room k (A.deeper (envOfC qual (defScope st) s.heap.objs.size f cdv)) → ∀ ws S Φ Ψ, ws.length = ps.length → Srl S → asp ws S Φ Ψ →
      wB (cxOf (L2.CX P w) P w K mg base N qual (defScope st) f cdv A outer s H E) (fun cls fs _ S2 => Ψ cls fs S2) (defBody st) (startW N.length ws) S ⟨fun _ S2 => fin S.length Φ .non S2, fin S.length Φ, fun _ _ => False, fun _ _ => False⟩) :
    FnOk P w K mg base (L2.CX P w) (k + 1) f fd ps (conc ps.length asp) := by
  refine F.okX sc (fun vs H Q E h => h.1) fun cdv A outer s H vs Q E hr h => ?_
  obtain ⟨hl, M, S, ws, Φ, Ψ, r, a, hsp, g, hx⟩ := h
  have hpl : ps.length ≤ N.length := by
    have e := congrArg List.length sc.pre
    rw [List.length_take] at e
    omega
  refine ⟨semB _ _, pss_sem, ?_⟩
  refine (hbody cdv A outer s H E hr ws S Φ Ψ (by rw [← a.length]; exact hl) r.srl hsp).run M (L2.start N vs) H r (evok_start a (by omega)) ?_ _ ?_
  · exact ⟨fun cls d _ H2 => E cls d H2, takes_of rfl rfl rfl rfl, fun cls fs E2 S2 M2 H2 d σ2 p r2 _ xd s2 => hx cls fs d M2 S2 H2 p r2 xd s2⟩
  · exact ⟨fun σ E2 M2 S2 H2 p r2 _ s2 => (g.fin r) _ _ M2 S2 H2 p r2 .non s2, g.fin r, fun _ _ _ _ _ p => p.elim, fun _ _ _ _ _ p => p.elim⟩
section
variable {X : Cx} {Ψ : AX} {a b c e o tg iter : Expr} {es rest : List Expr} {E : AEnv} {S : Sto} {Φ : W → Sto → Prop} {ΦE : AEnv → Sto → Prop} {ΦT : Bool → Sto → Prop} {ΦS : List W → Sto → Prop} {pos : Pos} {k n : Nat} {asp : ASp}
/-- what is wanted of a call's exception, where the call stands -/
theorem run_conc {M : Lay} {H : Hp} {vs : List V} {ws : List W} {σ : L2.St} {Q : VK} {Wx : WX} (r : Rep M H S) (ev : EvOk M H σ E) (hx : ∀ cls fs E2 S2 M2 H2 d σ2, Ψ cls fs E2 S2 → Rep M2 H2 S2 → EvOk M2 H2 σ2 E2 → Xd M2 H2 d fs → Step M H M2 H2 → Wx cls d σ2 H2)
    (a : VWs M H vs ws) (hl : ws.length = n) (h : asp ws S Φ fun cls fs S2 => Ψ cls fs E S2) (q : Got M H Φ Q) : conc n asp vs H Q fun cls d H2 => Wx cls d σ H2 :=
  ⟨by rw [a.length]; exact hl, M, S, ws, Φ, _, r, a, h, q, fun cls fs d M2 S2 H2 p r2 xd s2 => hx cls fs E S2 M2 H2 d σ p r2 (ev.step s2) xd s2⟩
theorem run_fn' {CX : CXT} {f : Addr} {fd : FuncData} {ps : List Str} {sp : Sp} {ds : List Value} {dvs : List V} {XEx : XK} {pins : List (Addr × Obj)} {σ : L2.St} {H : Hp} {s : Shared} {Q : VK} {us : List Value} {vs : List V} (F : FnOk X.prog X.w X.K X.mg X.base CX k f fd ps sp) (hr : Room k X.A) (hb : Binds X.K fd ps ds) (hd : Vals dvs ds)
    (hx : ∀ e s', CX X.stack H s XEx e s' → X.xe e s') (I : Inv X pins σ H s) (r : Vals vs us) (h : sp (vs ++ dvs) H Q XEx) : wpAny (model X.prog X.w) X.A (call (.ref f) us) (EP X pins σ Q) X.xe s := by
  have r2 : Vals (vs ++ dvs) (us ++ ds) := r.append hd
  have hl : (us ++ ds).length = ps.length := by rw [← r2.length]; exact F.len _ _ _ _ h
  refine wpAny_call (codeAny_mono (F.run X.A X.stack s H ⟨us, []⟩ (us ++ ds) (vs ++ dvs) Q XEx hr I.env0 (hb s us I.kIn hl) r2 h) fun r s' hq => ?_)
  cases r with
  | error e => exact hx e s' hq
  | ok fl =>
    cases fl with
    | ret u => exact I.after hq
    | next => exact False.elim hq
    | brk => exact False.elim hq
    | cont => exact False.elim hq
/-- a call of a def that keeps its promise, from abstract arguments -/
theorem run_abs {f : Addr} {fd : FuncData} {ps : List Str} {M : Lay} {H : Hp} {vs : List V} {us : List Value} {ws : List W} {σ : L2.St} {s : Shared} {pins : List (Addr × Obj)} {Q : VK} (F : FnOk X.prog X.w X.K X.mg X.base (L2.CX X.prog X.w) k f fd ps (conc n asp)) (hr : Room k X.A) (hb : Binds X.K fd ps [])
    (r : Rep M H S) (ev : EvOk M H σ E) (x : ExcOk X M H Ψ) (I : Inv X pins σ H s) (rv : Vals vs us) (a : VWs M H vs ws) (hl : ws.length = n) (h : asp ws S Φ fun cls fs S2 => Ψ cls fs E S2) (q : Got M H Φ Q) :
    wpAny (model X.prog X.w) X.A (call (.ref f) us) (EP X pins σ Q) X.xe s := by
  obtain ⟨Wx, tk, hx⟩ := x
  refine run_fn' (XEx := fun cls d H2 => Wx cls d σ H2) (dvs := []) (ds := []) F hr hb .nil (fun e s' c => tk e s' (XE.of_call I (fun _ _ _ z => z) c)) I rv ?_
  rw [List.append_nil]
  exact run_conc r ev hx a hl h q
theorem wE_call {x : Str} {p : Pos} (F : CFn X.prog X.w X.K X.mg X.base x k n asp) (hr : Room k X.A) (h : wA X Ψ (e :: es) E S fun ws S1 => ws.length = n ∧ asp ws S1 Φ fun cls fs S2 => Ψ cls fs E S2) (hg : Gl X x := by rfl)
    (hdb : (x == ("__debug__" : Str)) = false := by decide) (he : starEach (e :: es) X.env = (false, eval e X.env) :: starEach es X.env := by rfl) (hpl : (backTo pos (starEach es X.env)).any (·.1) = false := by rfl) : wE X Ψ (.Call (.Name x p) (e :: es) [] pos) E S Φ := by
  obtain ⟨f, fd, ps, hm, hk, hb, hl, F⟩ := F.ex
  refine ⟨fun M σ H r ev xo Q q pins s I => ?_⟩
  refine wpAny_Call_Name_kw (ld_glob I hg hm ?_ hdb)
  refine PySem.W.callWith_K (h₀ := X.base) I.ok.mod.kin hk (thn ((h.run M σ H r ev xo (fun vs H1 => ∀ us s1, Inv X pins σ H1 s1 → Vals vs us → wpAny (model X.prog X.w) X.A (call (.ref f) us) (EP X pins σ Q) X.xe s1) fun vs ws M1 S1 H1 p r1 a1 s1 us s1' I1 rv => ?_) pos pins s I) fun us s1 ⟨vs, H1, I1, rv, q1⟩ => ⟨I1.kIn, q1 us s1 I1 rv⟩) he hpl
  exact run_abs F hr hb r1 (ev.step s1) (xo.step s1) I1 rv a1 p.1 p.2 (q.step s1)
theorem wE_meth {pl : Sem Bool} {m : Str} {C : Addr} {apos : Pos} (hc : Cls X.K C) (F : CMeth X.prog X.w X.K X.mg X.base C m k n asp) (hr : Room k X.A)
    (h : wE X Ψ o E S fun x S1 => ∃ j fs, x = .ref j ∧ S1[j]? = some (.ins C fs) ∧ fs.lookup m = none ∧ wA X Ψ (e :: es) E S1 fun ws S2 => ws.length + 1 = n ∧ asp (.ref j :: ws) S2 Φ fun cls fs S3 => Ψ cls fs E S3)
    (hst : starEach (e :: es) X.env = (false, eval e X.env) :: starEach es X.env := by rfl) (hpl : (backTo pos (starEach es X.env)).any (·.1) = false := by rfl)
    (ht : eval (.Call (.Attribute o m apos) (e :: es) [] pos) X.env = (do
      let ov ← eval o X.env
      standAt apos.atName
      let (f, first) ← holding [ov] (getMethod ov m pl)
      callWith pos f first (backTo pos (starEach (e :: es) X.env)) (backToKw pos (keywordEach [] X.env))) := by rfl) : wE X Ψ (.Call (.Attribute o m apos) (e :: es) [] pos) E S Φ := by
  obtain ⟨f, fd, ps, hm, hb, hl, F⟩ := F.ex
  refine ⟨fun M σ H r ev xo Q q pins s I => ?_⟩
  refine PySem.W.methodCall_KW (pl := pl) (thn ((h.run M σ H r ev xo (fun v H1 => ∃ a dx fs, v = .ref a ∧ H1 a = some (.ins C dx fs) ∧ fs.lookup m = none ∧ ∀ pins s1, Inv X pins σ H1 s1 → wpAny (model X.prog X.w) X.A (spliced (backTo pos (starEach (e :: es) X.env))) (fun us s2 => X.K.In s2.heap ∧ wpAny (model X.prog X.w) X.A (call (.ref f) (.ref a :: us)) (EP X pins σ Q) X.xe s2) X.xe s1) fun v w M1 S1 H1 p r1 a1 s1 => ?_) pins s I) fun u s1 hh => ?_) ht
  · obtain ⟨j, fs, rfl, hj, hn, p⟩ := p
    cases id a1 with
    | @ref ad _ hm1 =>
      obtain ⟨q1, dx, fv, h1, h2, h3⟩ := r1.inst hj
      rw [hm1] at h1; cases h1
      refine ⟨_, dx, fv, rfl, h2, (look_vw h3).2 hn, fun pins s1' I1 => ?_⟩
      refine thn ((p.run M1 σ H1 r1 (ev.step s1) (xo.step s1) (fun vs H2 => ∀ us s2, Inv X pins σ H2 s2 → Vals vs us → wpAny (model X.prog X.w) X.A (call (.ref f) (.ref _ :: us)) (EP X pins σ Q) X.xe s2) fun vs ws M2 S2 H2 p2 r2 a2 s2 us s2' I2 rv => ?_) pos pins s1' I1) fun us s2 ⟨vs, H2, I2, rv, q2⟩ => ⟨I2.kIn, q2 us s2 I2 rv⟩
      exact run_abs (ws := .ref j :: ws) (vs := .ref _ :: vs) F hr hb r2 ((ev.step s1).step s2) ((xo.step s1).step s2) I2 (.cons rfl rv) (.cons (VW.step s2 _ _ a1) a2) p2.1 p2.2 (q.step (s1.trans s2))
  · obtain ⟨x, H1, I1, rx, a, dx, fs, ex, ea, l, q1⟩ := hh
    subst ex
    obtain rfl : u = Value.ref a := rx
    refine getmeth_ok I1 ea hc hm l ?_
    exact PySem.W.callWith_K (first := [.ref a]) (h₀ := X.base) I.ok.mod.kin hm.kp (q1 pins s1 I1) hst hpl
theorem wE_meth0 {pl : Sem Bool} {m : Str} {C : Addr} {apos : Pos} (hc : Cls X.K C) (F : CMeth X.prog X.w X.K X.mg X.base C m k 1 asp) (hr : Room k X.A)
    (h : wE X Ψ o E S fun x S1 => ∃ j fs, x = .ref j ∧ S1[j]? = some (.ins C fs) ∧ fs.lookup m = none ∧ asp [.ref j] S1 Φ fun cls fs S3 => Ψ cls fs E S3)
    (ht : eval (.Call (.Attribute o m apos) [] [] pos) X.env = (do
      let ov ← eval o X.env
      standAt apos.atName
      let (f, first) ← holding [ov] (getMethod ov m pl)
      callWith pos f first (backTo pos (starEach [] X.env)) (backToKw pos (keywordEach [] X.env))) := by rfl) : wE X Ψ (.Call (.Attribute o m apos) [] [] pos) E S Φ := by
  obtain ⟨f, fd, ps, hm, hb, hl, F⟩ := F.ex
  refine ⟨fun M σ H r ev xo Q q pins s I => ?_⟩
  refine PySem.W.methodCall_KW (pl := pl) (thn ((h.run M σ H r ev xo (fun v H1 => ∃ a dx fs, v = .ref a ∧ H1 a = some (.ins C dx fs) ∧ fs.lookup m = none ∧ ∀ pins s1, Inv X pins σ H1 s1 → wpAny (model X.prog X.w) X.A (call (.ref f) [.ref a]) (EP X pins σ Q) X.xe s1) fun v w M1 S1 H1 p r1 a1 s1 => ?_) pins s I) fun u s1 hh => ?_) ht
  · obtain ⟨j, fs, rfl, hj, hn, p⟩ := p
    cases id a1 with
    | @ref ad _ hm1 =>
      obtain ⟨q1, dx, fv, h1, h2, h3⟩ := r1.inst hj
      rw [hm1] at h1; cases h1
      exact ⟨_, dx, fv, rfl, h2, (look_vw h3).2 hn, fun pins s1' I1 => run_abs (ws := [.ref j]) (vs := [.ref _]) F hr hb r1 (ev.step s1) (xo.step s1) I1 (.cons rfl .nil) (.cons a1 .nil) rfl p (q.step s1)⟩
  · obtain ⟨x, H1, I1, rx, a, dx, fs, ex, ea, l, q1⟩ := hh
    subst ex
    obtain rfl : u = Value.ref a := rx
    refine getmeth_ok I1 ea hc hm l ?_
    exact PySem.W.callWith_K0 (first := [.ref a]) I1.kIn hm.kp (q1 pins s1 I1)
end

-- AM7

section
variable {X : Cx} {Ψ : AX} {a b c e o tg iter : Expr} {es rest : List Expr} {E : AEnv} {S : Sto} {Φ : W → Sto → Prop} {ΦE : AEnv → Sto → Prop} {ΦT : Bool → Sto → Prop} {ΦS : List W → Sto → Prop} {pos : Pos} {k n : Nat} {asp : ASp} {st : Stmt} {sts body orelse : List Stmt} {A : AE}

/-! ### new instances -/
theorem run_make' {C f : Addr} {fd : FuncData} {ps : List Str} {M : Lay} {H : Hp} {vs : List V} {us : List Value} {ws : List W} {σ : L2.St} {s : Shared} {pins : List (Addr × Obj)} {Q : VK} (Mk' : Mk X.K C f) (F : FnOk X.prog X.w X.K X.mg X.base (L2.CX X.prog X.w) k f fd ps (conc n asp)) (hr : Room (k + 1) X.A) (hb : Binds X.K fd ps [])
    (r : Rep M H S) (ev : EvOk M H σ E) (xo : ExcOk X M H Ψ) (I : Inv X pins σ H s) (rv : Vals vs us) (a : VWs M H vs ws) (hl : ws.length + 1 = n)
    (h : asp (.ref S.length :: ws) (S ++ [.ins C []]) (fun w S2 => w = .non ∧ Φ (.ref S.length) S2) fun cls fs S2 => Ψ cls fs E S2) (q : Got M H Φ Q) :
    wpAny (model X.prog X.w) X.A (call (.ref C) us) (EP X pins σ Q) X.xe s := by
  obtain ⟨Wx, tk, hx⟩ := xo
  have fx : H (s.heap.objs.size + 1) = none := I.hok.fresh (Nat.le_succ _)
  have fd' : H s.heap.objs.size = none := I.hok.fresh (Nat.le_refl _)
  have nx : s.heap.objs.size ≠ s.heap.objs.size + 1 := Nat.ne_of_lt (Nat.lt_succ_self _)
  have I2 := Inv.made (C := C) I
  have r1 := r.tmp (ho := .own (s.heap.objs.size + 1)) fd'
  have s1 := step_tmp r (ho := .own (s.heap.objs.size + 1)) fd'
  have fx1 : (upd H s.heap.objs.size (.own (s.heap.objs.size + 1))) (s.heap.objs.size + 1) = none := by rw [upd_ne nx.symm]; exact fx
  have r2 := r1.new (o := .ins C []) (ho := .ins C s.heap.objs.size []) fx1 (.ins .nil)
  have s2 := s1.trans (step_new r1 (ho := .ins C s.heap.objs.size []) fx1)
  have a2 := VWs.step s2 _ _ a
  have ar : VW (M.add (s.heap.objs.size + 1)) (upd (upd H s.heap.objs.size (.own (s.heap.objs.size + 1))) (s.heap.objs.size + 1) (.ins C s.heap.objs.size [])) (.ref (s.heap.objs.size + 1)) (.ref S.length) :=
    .ref (by show (M.m ++ [s.heap.objs.size + 1])[S.length]? = _; rw [← r.len, List.getElem?_append_right (Nat.le_refl _)]; simp)
  have hq : conc n asp (.ref (s.heap.objs.size + 1) :: vs) (upd (upd H s.heap.objs.size (.own (s.heap.objs.size + 1))) (s.heap.objs.size + 1) (.ins C s.heap.objs.size [])) (fun v H2 => v = .non ∧ Q (.ref (s.heap.objs.size + 1)) H2) (fun cls d H2 => Wx cls d σ H2) := by
    refine run_conc (E := E) (Ψ := Ψ) r2 (ev.step s2) (fun cls fs E2 S2 M2 H2 d σ2 p r e xd s => hx cls fs E2 S2 M2 H2 d σ2 p r e xd (s2.trans s)) (.cons ar a2) hl h fun v w M3 S3 H3 p r3 a3 s3 => ?_
    obtain ⟨e, p⟩ := p
    subst e
    cases a3
    exact ⟨rfl, q _ _ M3 S3 H3 p r3 (VW.step s3 _ _ ar) (s2.trans s3)⟩
  have rr : Vals (V.ref (s.heap.objs.size + 1) :: vs) (Value.ref (s.heap.objs.size + 1) :: us) := .cons rfl rv
  have hlen : (Value.ref (s.heap.objs.size + 1) :: us ++ []).length = ps.length := by
    have e := rr.length
    rw [F.len _ _ _ _ hq] at e
    rw [List.append_nil]
    exact e.symm
  have hbt := hb _ (Value.ref (s.heap.objs.size + 1) :: us) I2.kIn hlen
  rw [List.append_nil] at hbt
  refine wpAny_call (make_map (f := f) I.kIn Mk'.makes Mk'.init (beq_iff_eq.mp Mk'.fn) (codeAny_mono (F.run _ X.stack _ _ ⟨Value.ref (s.heap.objs.size + 1) :: us, []⟩ (Value.ref (s.heap.objs.size + 1) :: us) _ _ (fun cls d H2 => Wx cls d σ H2) (hr.make C us [])
    (I2.env0.make C us []) hbt rr hq) fun r s' hq' => ?_))
  cases r with
  | error e => exact tk e s' (XE.of_call I2 (fun _ _ _ z => z) hq')
  | ok fl =>
    cases fl with
    | ret u =>
      obtain ⟨v, H', I3, rv, ev, q3⟩ := I2.after hq'
      subst ev
      exact ⟨rv, ⟨V.ref (s.heap.objs.size + 1), H', I3, rfl, q3⟩⟩
    | next => exact False.elim hq'
    | brk => exact False.elim hq'
    | cont => exact False.elim hq'
theorem wE_make {x : Str} {C : Addr} {p : Pos} (F : CMake X.prog X.w X.K X.mg X.base x C k n asp) (hr : Room (k + 1) X.A)
    (h : wA X Ψ (e :: es) E S fun ws S1 => ws.length + 1 = n ∧ asp (.ref S1.length :: ws) (S1 ++ [.ins C []]) (fun w S2 => w = .non ∧ Φ (.ref S1.length) S2) fun cls fs S2 => Ψ cls fs E S2) (hg : Gl X x := by rfl)
    (hdb : (x == ("__debug__" : Str)) = false := by decide) (he : starEach (e :: es) X.env = (false, eval e X.env) :: starEach es X.env := by rfl) (hpl : (backTo pos (starEach es X.env)).any (·.1) = false := by rfl) : wE X Ψ (.Call (.Name x p) (e :: es) [] pos) E S Φ := by
  obtain ⟨f, fd, ps, hm, mk, hb, hl, F⟩ := F.ex
  refine ⟨fun M σ H r ev xo Q q pins s I => ?_⟩
  refine wpAny_Call_Name_kw (ld_glob I hg hm ?_ hdb)
  refine PySem.W.callWith_K (h₀ := X.base) I.ok.mod.kin mk.kp (thn ((h.run M σ H r ev xo (fun vs H1 => ∀ us s1, Inv X pins σ H1 s1 → Vals vs us → wpAny (model X.prog X.w) X.A (call (.ref C) us) (EP X pins σ Q) X.xe s1) fun vs ws M1 S1 H1 p r1 a1 s1 us s1' I1 rv => ?_) pos pins s I) fun us s1 ⟨vs, H1, I1, rv, q1⟩ => ⟨I1.kIn, q1 us s1 I1 rv⟩) he hpl
  exact run_make' mk F hr hb r1 (ev.step s1) (xo.step s1) I1 rv a1 p.1 p.2 (q.step s1)
theorem wE_make0 {x : Str} {C : Addr} {p : Pos} (F : CMake X.prog X.w X.K X.mg X.base x C k 1 asp) (hr : Room (k + 1) X.A)
    (h : asp [.ref S.length] (S ++ [.ins C []]) (fun w S2 => w = .non ∧ Φ (.ref S.length) S2) fun cls fs S2 => Ψ cls fs E S2) (hg : Gl X x := by rfl) (hdb : (x == ("__debug__" : Str)) = false := by decide) : wE X Ψ (.Call (.Name x p) [] [] pos) E S Φ := by
  obtain ⟨f, fd, ps, hm, mk, hb, hl, F⟩ := F.ex
  refine ⟨fun M σ H r ev xo Q q pins s I => ?_⟩
  refine wpAny_Call_Name_kw (ld_glob I hg hm ?_ hdb)
  exact PySem.W.callWith_K0 I.kIn mk.kp (run_make' (us := []) mk F hr hb r ev xo I .nil .nil rfl h q)

/-! ### blocks, small statements -/
theorem wB_nil (h : A.nx E S) : wB X Ψ [] E S A := wB.of pss_nil fun M σ H r ev _ D q => q.nx σ E M S H h r ev (Step.refl M H)
theorem wB_cons (h : wS X Ψ st E S { A with nx := fun E2 S2 => wB X Ψ sts E2 S2 A }) : wB X Ψ (st :: sts) E S A :=
  wB.of (pss_cons ps_sem pss_sem) fun M σ H r ev x D q => h.run M σ H r ev x _ ⟨fun σ2 E2 M2 S2 H2 p r2 ev2 s2 => p.run M2 σ2 H2 r2 ev2 (x.step s2) D (q.step s2), q.rt, q.bk, q.ct⟩
theorem wB_one (h : wS X Ψ st E S A) : wB X Ψ [st] E S A := wB.of (pss_one ps_sem) fun M σ H r ev x D q => h.run M σ H r ev x D q
theorem wS_pass (h : A.nx E S) : wS X Ψ (.Pass pos) E S A := wS.of ps_pass fun M σ H r ev _ D q => q.nx σ E M S H h r ev (Step.refl M H)
theorem wS_break (h : A.bk E S) : wS X Ψ (.Break pos) E S A := wS.of ps_break fun M σ H r ev _ D q => q.bk σ E M S H h r ev (Step.refl M H)
theorem wS_cont (h : A.ct E S) : wS X Ψ (.Continue pos) E S A := wS.of ps_continue fun M σ H r ev _ D q => q.ct σ E M S H h r ev (Step.refl M H)
theorem wS_expr (h : wE X Ψ e E S fun _ S1 => A.nx E S1) (hs : swapsWith e none pos.line X.env = pure false := by rfl) : wS X Ψ (.Expr e pos) E S A :=
  wS.of (ps_expr pe_sem hs) fun M σ H r ev x D q => h.run M σ H r ev x _ fun v w M1 S1 H1 p r1 a1 s1 => q.nx σ E M1 S1 H1 p r1 (ev.step s1) s1
theorem wS_ret (h : wE X Ψ e E S A.rt) : wS X Ψ (.Return (some e) pos) E S A := wS.of (ps_ret pe_sem) fun M σ H r ev x D q => h.run M σ H r ev x _ q.rt
theorem wS_retN (h : A.rt .non S) : wS X Ψ (.Return none pos) E S A := wS.of ps_retN fun M σ H r ev x D q => q.rt _ _ M S H h r .non (Step.refl M H)
theorem wS_if (h : wT X Ψ c E S fun k S1 => if k = true then wB X Ψ sts E S1 A else wB X Ψ orelse E S1 A) : wS X Ψ (.If c sts orelse pos) E S A :=
  wS.of (ps_if pt_sem pss_sem pss_sem) fun M σ H r ev x D q => h.run M σ H r ev x _ fun k M1 S1 H1 p r1 s1 => by
    cases k with
    | true => exact iteT ((show wB X Ψ sts E S1 A from p).run M1 σ H1 r1 (ev.step s1) (x.step s1) D (q.step s1))
    | false => exact iteF ((show wB X Ψ orelse E S1 A from p).run M1 σ H1 r1 (ev.step s1) (x.step s1) D (q.step s1))
/-- target = value -/
theorem wS_asg (h : wE X Ψ e E S fun w S1 => wG X Ψ tg w E S1 A.nx) (hs : swapsWithSole [tg] e pos.line X.env = pure false := by rfl) (hw : swappedStores [tg] e X.env = pure none := by rfl)
    (h1 : (assignEach [tg] X.env).map (·.2) = [assign tg X.env] := by rfl) : wS X Ψ (.Assign [tg] e pos) E S A :=
  wS.of (ps_asg pe_sem pg_sem hs hw h1) fun M σ H r ev x D q => h.run M σ H r ev x _ fun v w M1 S1 H1 p r1 a1 s1 => p.run M1 σ H1 v r1 (ev.step s1) (x.step s1) a1 _ fun σ2 E2 M2 S2 H2 p2 r2 ev2 s2 => q.nx σ2 E2 M2 S2 H2 p2 r2 ev2 (s1.trans s2)
/-- name = value -/
theorem wS_set {y : Str} {pos' : Pos} (i : Nat) (hN : X.N.Nodup) (h : wE X Ψ e E S fun w S1 => A.nx (E.set i (some w)) S1) (hi : X.N[i]? = some y := by rfl) (hx : Loc X.env.scope y := by first | exact Or.inl rfl | exact Or.inr rfl) (hs : swapsWith e (some (.Name y pos')) pos.line X.env = pure false := by rfl) (hf : X.fn y = true ∨ X.env.scope.names.lookup y = some .local := by first | exact .inl rfl | exact .inr rfl) :
    wS X Ψ (.Assign [.Name y pos'] e pos) E S A :=
  wS.of (ps_set hN hi hx pe_sem hs hf) fun M σ H r ev x D q => h.run M σ H r ev x _ fun v w M1 S1 H1 p r1 a1 s1 => q.nx _ _ M1 S1 H1 p r1 ((ev.step s1).set a1 i) s1
/-- a, b = x, y, plain local names -/
theorem wS_par {y z : Str} {px py pt : Pos} {kt k2 pt2} (i j : Nat) (hc : X.calm = true) (hN : X.N.Nodup) (h : wE X Ψ a E S fun w S1 => wE X Ψ b E S1 fun u S2 => A.nx ((E.set i (some w)).set j (some u)) S2) (hi : X.N[i]? = some y := by rfl) (hj : X.N[j]? = some z := by rfl) (hij : i ≠ j := by decide)
    (hx : X.env.scope.names.lookup y = some .local := by rfl) (hy : X.env.scope.names.lookup z = some .local := by rfl) (hw : swappedStores [.Tuple [.Name y px, .Name z py] kt pt] (.Tuple [a, b] k2 pt2) X.env = pure (some [y, z]) := by rfl)
    (hs : swapsWithSole [.Tuple [.Name y px, .Name z py] kt pt] (.Tuple [a, b] k2 pt2) pos.line X.env = pure false := by rfl) (h1 : starEach [a, b] X.env = (false, eval a X.env) :: starEach [b] X.env := by rfl) (h2 : starEach [b] X.env = (false, eval b X.env) :: starEach [] X.env := by rfl) :
    wS X Ψ (.Assign [.Tuple [.Name y px, .Name z py] kt pt] (.Tuple [a, b] k2 pt2) pos) E S A :=
  wS.of (ps_par hc hN hi hj hij hx hy (pa_cons pe_sem (pa_cons pe_sem pa_nil h2) h1) hw hs) fun M σ H r ev x D q => h.run M σ H r ev x _ fun v w M1 S1 H1 p1 r1 a1 s1 => p1.run M1 σ H1 r1 (ev.step s1) (x.step s1) _ fun u w2 M2 S2 H2 p2 r2 a2 s2 =>
    ⟨v, u, rfl, q.nx _ _ M2 S2 H2 p2 r2 ((((ev.step s1).step s2).set (VW.step s2 _ _ a1) i).set a2 j) (s1.trans s2)⟩
/-- o.f = value -/
theorem wS_fld {f : Str} {pos' : Pos} (h : wE X Ψ e E S fun w S1 => wE X Ψ o E S1 fun x S2 => ∃ k C S3, x = .ref k ∧ fputW S2 k f w = some (C, S3) ∧ Cls X.K C ∧ NoAttr X.K C f ∧ A.nx E S3) (hs : swapsWith e (some (.Attribute o f pos')) pos.line X.env = pure false := by rfl) : wS X Ψ (.Assign [.Attribute o f pos'] e pos) E S A :=
  wS.of (ps_fld pe_sem pe_sem hs) fun M σ H r ev x D q => h.run M σ H r ev x _ fun v w M1 S1 H1 p1 r1 a1 s1 => p1.run M1 σ H1 r1 (ev.step s1) (x.step s1) _ fun vo x1 M2 S2 H2 ⟨k, C, S3, e1, hf, hc, hn, p⟩ r2 a2 s2 => by
    subst e1
    obtain ⟨ad, dx, fs, rfl, h1, hl, r3, s3⟩ := fput_vw r2 a2 (VW.step s2 _ _ a1) hf
    exact ⟨ad, C, dx, fs, rfl, h1, hc, hn, hl, q.nx σ E M2 S3 _ p r3 (((ev.step s1).step s2).step s3) ((s1.trans s2).trans s3)⟩
/-- d[y] = value -/
theorem wS_dput {pos' : Pos} (hu : X.A.units + 65 < cLine) (h : wE X Ψ e E S fun w S1 => wE X Ψ o E S1 fun x S2 => wE X Ψ a E S2 fun y S3 => ∃ k S4, x = .ref k ∧ dlenW S3 k ≤ 100000 ∧ dputW S3 k y w = some S4 ∧ A.nx E S4) (hs : swapsWith e (some (.Subscript o a pos')) pos.line X.env = pure false := by rfl) : wS X Ψ (.Assign [.Subscript o a pos'] e pos) E S A :=
  wS.of (ps_dput (by omega) pe_sem pe_sem pe_sem hs) fun M σ H r ev x D q => h.run M σ H r ev x _ fun v w M1 S1 H1 p1 r1 a1 s1 => p1.run M1 σ H1 r1 (ev.step s1) (x.step s1) _ fun vo x1 M2 S2 H2 p2 r2 a2 s2 => p2.run M2 σ H2 r2 ((ev.step s1).step s2) ((x.step s1).step s2) _ fun vy y M3 S3 H3 ⟨k, S4, e1, hl, hd, p⟩ r3 a3 s3 => by
    subst e1
    obtain ⟨ad, H', rfl, g, r', s'⟩ := dput_vw r3 (VW.step s3 _ _ a2) a3 (VW.step s3 _ _ (VW.step s2 _ _ a1)) hl hd
    exact ⟨ad, H', rfl, g, q.nx σ E M3 S4 _ p r' ((((ev.step s1).step s2).step s3).step s') (((s1.trans s2).trans s3).trans s')⟩

/-! ### loops -/
/-- a turn's end: told less; as it is, or objects from some number on forgotten -/
def dropTo (n : Nat) (I : AEnv → Sto → Prop) : AEnv → Sto → Prop := fun E' S' => ∃ S1, Imp S' S1 ∧ (I E' S1 ∨
  ∃ E2 S2 T, S1 = S2 ++ T ∧ n ≤ S2.length ∧ Srl S2 ∧ E2.length = E'.length ∧ (∀ (i : Nat) w, E2[i]? = some (some w) → E'[i]? = some (some w) ∧ w.rlt S2.length = true) ∧ I E2 S2)
theorem dropTo.as {n : Nat} {I : AEnv → Sto → Prop} {E : AEnv} {S : Sto} (h : I E S) : dropTo n I E S := ⟨S, Imp.refl S, .inl h⟩
theorem dropTo.less {n : Nat} {I : AEnv → Sto → Prop} {E : AEnv} {S S1 : Sto} (i : Imp S S1) (h : dropTo n I E S1) : dropTo n I E S := by
  obtain ⟨S2, j, h⟩ := h
  exact ⟨S2, i.trans j, h⟩
/-- the slots whose values speak of dropped ones are forgotten -/
def dropE (n : Nat) (E : AEnv) : AEnv := E.map fun o => match o with
  | some w => if w.rlt n = true then some w else none
  | none => none
theorem dropE_at {n : Nat} {E : AEnv} {i : Nat} {w : W} (e : (dropE n E)[i]? = some (some w)) : E[i]? = some (some w) ∧ w.rlt n = true := by
  unfold dropE at e
  rw [List.getElem?_map] at e
  cases q : E[i]? with
  | none => rw [q] at e; cases e
  | some o =>
    rw [q] at e
    cases o with
    | none => cases e
    | some u =>
      have e : (if u.rlt n = true then some u else none) = some w := Option.some.inj e
      by_cases hu : u.rlt n = true
      · rw [if_pos hu] at e
        cases e
        exact ⟨rfl, hu⟩
      · rw [if_neg hu] at e
        cases e
theorem dropTo.drop {n : Nat} {I : AEnv → Sto → Prop} {E : AEnv} {S2 T : Sto} (hn : n ≤ S2.length) (hr : Srl S2) (h : I (dropE S2.length E) S2) : dropTo n I E (S2 ++ T) :=
  ⟨_, Imp.refl _, .inr ⟨dropE S2.length E, S2, T, rfl, hn, hr, by simp [dropE], fun i w e => dropE_at e, h⟩⟩
theorem drop_ok {M0 M : Lay} {H0 H : Hp} {S0 : Sto} {I : AEnv → Sto → Prop} {σ : L2.St} {E' : AEnv} {S' : Sto} (r0 : Rep M0 H0 S0) (h : dropTo S0.length I E' S') (r : Rep M H S') (ev : EvOk M H σ E') (s : Step M0 H0 M H) : ∃ M2 E2 S2, I E2 S2 ∧ Rep M2 H S2 ∧ EvOk M2 H σ E2 ∧ Step M0 H0 M2 H := by
  obtain ⟨S1, i, h⟩ := h
  have r := i _ _ r
  rcases h with h | ⟨E2, S2, T, e, hn, hr, hl, hE, p⟩
  · exact ⟨M, E', S1, h, r, ev, s⟩
  · subst e
    refine ⟨M.cut S2.length, E2, S2, p, r.cut hr, ⟨by rw [ev.1, hl], fun i w h => ?_⟩, step_cut s (by rw [r0.len]; exact hn)⟩
    obtain ⟨h1, h2⟩ := hE i w h
    obtain ⟨v, h3, h4⟩ := ev.2 i w h1
    exact ⟨v, h3, vw_cut _ h4 h2⟩
theorem wS_for (hp : PassesOwn (model X.prog X.w) X.A X.env X.xe) (hc : X.calm = true)
    (h : wI X Ψ tg iter E S fun ws still S1 => ∃ I : Nat → AEnv → Sto → Prop, I 0 E S1 ∧ (∀ i E' S', I i E' S' → still S') ∧
      (∀ i w E' S', ws[i]? = some w → I i E' S' → wG X Ψ tg w E' S' fun E2 S2 => wB X Ψ body E2 S2 ⟨dropTo S1.length (I (i + 1)), A.rt, A.nx, dropTo S1.length (I (i + 1))⟩) ∧ ∀ E' S', I ws.length E' S' → A.nx E' S')
    (hs : ∀ x, foldedSetIterable iter X.env x = pure x := by intro _; rfl) : wS X Ψ (.For tg iter body [] pos) E S A :=
  wS.of (ps_for hp hc pi_sem pg_sem pss_sem hs) fun M σ H r ev x D q => h.run M σ H r ev x _ fun J vs ys ws still M1 S1 H1 ⟨I, h0, hst, hturn, hd⟩ hs1 r1 s1 ay it => by
    refine ⟨fun i m σ' H' => m = ws.length - i ∧ i ≤ ws.length ∧ ∃ M' E' S', I i E' S' ∧ Rep M' H' S' ∧ EvOk M' H' σ' E' ∧ Step M1 H1 M' H', ⟨_, rfl, Nat.zero_le _, M1, E, S1, h0, r1, ev.step s1, Step.refl _ _⟩, ?_⟩
    rintro i m σ' H' ⟨rfl, hi, M', E', S', hI, r', ev', s'⟩
    by_cases hlt : i < ws.length
    · refine .inr ⟨it.go M' H' S' i (VWs.step s' _ _ ay) r' (hst _ _ _ hI) hlt, fun σ2 H2 => ∃ M2 E2 S2, I (i + 1) E2 S2 ∧ Rep M2 H2 S2 ∧ EvOk M2 H2 σ2 E2 ∧ Step M1 H1 M2 H2, fun σ2 H2 hh => ⟨ws.length - (i + 1), by omega, rfl, hlt, hh⟩, fun v H2 hy => ?_⟩
      obtain ⟨w, hw, aw, r2, s2⟩ := it.yld M' H' S' i v H2 (VWs.step s' _ _ ay) r' (hst _ _ _ hI) hy hlt
      have s12 := s'.trans s2
      have sx := s1.trans s12
      refine (hturn i w E' S' hw hI).run M' σ' H2 v r2 (ev'.step s2) (x.step sx) aw _ fun σ3 E3 M3 S3 H3 p r3 ev3 s3 => ?_
      refine p.run M3 σ3 H3 r3 ev3 ((x.step sx).step s3) _ ⟨fun σ4 E4 M4 S4 H4 p4 r4 ev4 s4 => ?_, q.rt.step (sx.trans s3), fun σ4 E4 M4 S4 H4 p4 r4 ev4 s4 => q.nx σ4 E4 M4 S4 H4 p4 r4 ev4 ((sx.trans s3).trans s4), fun σ4 E4 M4 S4 H4 p4 r4 ev4 s4 => ?_⟩
      · exact drop_ok r1 p4 r4 ev4 ((s12.trans s3).trans s4)
      · exact drop_ok r1 p4 r4 ev4 ((s12.trans s3).trans s4)
    · have e : i = ws.length := by omega
      subst e
      exact .inl ⟨it.stop M' H' S' _ (VWs.step s' _ _ ay) r' (hst _ _ _ hI) (Nat.le_refl _), q.nx σ' E' M' S' H' (hd _ _ hI) r' ev' (s1.trans s')⟩
theorem wS_while (hp : PassesOwn (model X.prog X.w) X.A X.env X.xe)
    (h : ∃ I : Nat → AEnv → Sto → Prop, (∃ m, I m E S) ∧ ∀ m E' S', I m E' S' → wT X Ψ c E' S' fun k S2 => if k = true then wB X Ψ body E' S2 ⟨dropTo S.length fun E3 S3 => ∃ m', m' < m ∧ I m' E3 S3, A.rt, A.nx, dropTo S.length fun E3 S3 => ∃ m', m' < m ∧ I m' E3 S3⟩ else A.nx E' S2) :
    wS X Ψ (.While c body [] pos) E S A :=
  wS.of (ps_while hp pt_sem pss_sem) fun M σ H r ev x D q => by
    obtain ⟨I, ⟨m0, h0⟩, hturn⟩ := h
    refine ⟨fun m σ' H' => ∃ M' E' S', I m E' S' ∧ Rep M' H' S' ∧ EvOk M' H' σ' E' ∧ Step M H M' H', ⟨m0, M, E, S, h0, r, ev, Step.refl _ _⟩, ?_⟩
    rintro m σ' H' ⟨M', E', S', hI, r', ev', s'⟩
    refine (hturn m E' S' hI).run M' σ' H' r' ev' (x.step s') _ fun k M2 S2 H2 p r2 s2 => ?_
    have sx := s'.trans s2
    cases k with
    | true =>
      refine iteT ⟨fun σ3 H3 => ∃ m', m' < m ∧ ∃ M3 E3 S3, I m' E3 S3 ∧ Rep M3 H3 S3 ∧ EvOk M3 H3 σ3 E3 ∧ Step M H M3 H3, fun σ3 H3 ⟨m', hm, hh⟩ => ⟨m', hm, hh⟩, ?_⟩
      refine (show wB X Ψ body E' S2 _ from p).run M2 σ' H2 r2 (ev'.step s2) (x.step sx) _ ⟨fun σ4 E4 M4 S4 H4 p4 r4 ev4 s4 => ?_, q.rt.step sx, fun σ4 E4 M4 S4 H4 p4 r4 ev4 s4 => q.nx σ4 E4 M4 S4 H4 p4 r4 ev4 (sx.trans s4), fun σ4 E4 M4 S4 H4 p4 r4 ev4 s4 => ?_⟩
      · obtain ⟨M5, E5, S5, ⟨m', hm, p5⟩, r5, ev5, s5⟩ := drop_ok (I := fun E3 S3 => ∃ m', m' < m ∧ I m' E3 S3) r p4 r4 ev4 (sx.trans s4)
        exact ⟨m', hm, M5, E5, S5, p5, r5, ev5, s5⟩
      · obtain ⟨M5, E5, S5, ⟨m', hm, p5⟩, r5, ev5, s5⟩ := drop_ok (I := fun E3 S3 => ∃ m', m' < m ∧ I m' E3 S3) r p4 r4 ev4 (sx.trans s4)
        exact ⟨m', hm, M5, E5, S5, p5, r5, ev5, s5⟩
    | false => exact iteF (q.nx σ' E' M2 S2 H2 p r2 (ev'.step s2) sx)
end

-- AM8

section
variable {X : Cx} {Ψ : AX} {a b c e elt iter : Expr} {es rest : List Expr} {E : AEnv} {S : Sto} {Φ : W → Sto → Prop} {ΦE : AEnv → Sto → Prop} {ΦT : Bool → Sto → Prop} {ΦS : List W → Sto → Prop} {pos : Pos} {k n : Nat} {asp : ASp} {A : AE}
/-! ### list comprehensions, one name walked -/
abbrev Cx.bk (X : Cx) (scope : Scope) (s : Shared) (H : Hp) (C : Addr) (cl : List (Str × Addr)) (fp : List Addr) : Cx := X.blk s H scope (compEnvC scope cl C X.env) fp
def semBk (X : Cx) (scope : Scope) (e : Expr) : TE := fun σ H Q => ∀ s H0 C cl fp, sem (Cx.bk X scope s H0 C cl fp) e σ H Q
def semTBk (X : Cx) (scope : Scope) (e : Expr) : TT := fun σ H Q => ∀ s H0 C cl fp, semT (Cx.bk X scope s H0 C cl fp) e σ H Q
theorem pe_bk {scope : Scope} (s : Shared) (H : Hp) (C : Addr) (cl : List (Str × Addr)) (fp : List Addr) : PE (X.blk s H scope (compEnvC scope cl C X.env) fp) e (semBk X scope e) := ⟨fun pins s1 _ _ _ I h => h s H C cl fp pins s1 I⟩
theorem pt_bk {scope : Scope} (s : Shared) (H : Hp) (C : Addr) (cl : List (Str × Addr)) (fp : List Addr) : PT (X.blk s H scope (compEnvC scope cl C X.env) fp) e (semTBk X scope e) := ⟨fun pins s1 _ _ _ I h => h s H C cl fp pins s1 I⟩
theorem evok_wipe {M : Lay} {H : Hp} {σ : L2.St} (ev : EvOk M H σ E) (j : Nat) : EvOk M H (σ.set j none) (E.set j none) :=
  ⟨by simp [ev.1], fun i w h => by
    by_cases q : i = j
    · subst q
      by_cases hl : i < E.length
      · rw [List.getElem?_set_self hl] at h; cases h
      · rw [List.getElem?_eq_none (by simpa using hl)] at h; cases h
    · rw [List.getElem?_set_ne (fun z => q z.symm)] at h
      obtain ⟨v, h1, h2⟩ := ev.2 i w h
      exact ⟨v, by rw [List.getElem?_set_ne (fun z => q z.symm)]; exact h1, h2⟩⟩
/-- one turn's test -/
inductive IfK
  | no | one (c : Expr)
def IfK.exs : IfK → List Expr
  | .no => []
  | .one c => [c]
def IfK.tt (X : Cx) (scope : Scope) : IfK → TT
  | .no => tYes
  | .one c => semTBk X scope c
theorem pts_bk {scope : Scope} (f : IfK) (s : Shared) (H : Hp) (C : Addr) (cl : List (Str × Addr)) (fp : List Addr) : PTs (X.blk s H scope (compEnvC scope cl C X.env) fp) f.exs (f.tt X scope) := by
  cases f with
  | no => exact pts_nil
  | one c => exact pts_one (pt_bk s H C cl fp)
/-- what a turn asks -/
def Turn1 (X : Cx) (scope : Scope) (f : IfK) (elt : Expr) (E2 : AEnv) (S' : Sto) (yes : W → Sto → Prop) (no : Sto → Prop) : Prop := match f with
  | .no => ∀ s H0 C cl fp, wE (Cx.bk X scope s H0 C cl fp) nox elt E2 S' yes
  | .one c => ∀ s H0 C cl fp, wT (Cx.bk X scope s H0 C cl fp) nox c E2 S' fun k S3 => if k = true then ∀ s H0 C cl fp, wE (Cx.bk X scope s H0 C cl fp) nox elt E2 S3 yes else no S3
structure LcInv (M1 : Lay) (H1 : Hp) (D : Addr) (σ : L2.St) (E : AEnv) (vs : List V) (ys : List W) (I : Nat → List W → Sto → Prop) (i : Nat) (H' : Hp) : Prop where
  ex : ∃ m2 S' accV acc, Step M1 H1 ⟨m2, M1.h⟩ H' ∧ Rep ⟨m2, D :: M1.h⟩ H' S' ∧ H' D = some (.lst accV) ∧ VWs ⟨m2, D :: M1.h⟩ H' accV acc ∧ I i acc S' ∧ VWs ⟨m2, D :: M1.h⟩ H' vs ys ∧ EvOk ⟨m2, D :: M1.h⟩ H' σ E
theorem vws_over {M : Lay} {H : Hp} {S : Sto} (r : Rep M H S) {p : Addr} {u ho : HO} (hp : p ∈ M.h) (hu : H p = some u) (nt : (∀ ps, u ≠ .tbl ps) ∧ ∀ f, u ≠ .ext f) : ∀ {ws : List W} {vs : List V}, VWs M H vs ws → VWs M (upd H p ho) vs ws := by
  intro ws
  induction ws with
  | nil => intro vs h; cases h; exact .nil
  | cons w ws ih =>
    intro vs h
    cases h with
    | cons a b => exact .cons ((step_over r hp hu nt).1 _ _ a) (ih b)
theorem evok_over {M : Lay} {H : Hp} {S : Sto} (r : Rep M H S) {p : Addr} {u ho : HO} (hp : p ∈ M.h) (hu : H p = some u) (nt : (∀ ps, u ≠ .tbl ps) ∧ ∀ f, u ≠ .ext f) {σ : L2.St} {E : AEnv} (ev : EvOk M H σ E) : EvOk M (upd H p ho) σ E :=
  ⟨ev.1, fun i w h => by
    obtain ⟨v, h1, h2⟩ := ev.2 i w h
    exact ⟨v, h1, (step_over r hp hu nt).1 _ _ h2⟩⟩
theorem exc_nox {X : Cx} {M : Lay} {H : Hp} : ExcOk X M H nox := ExcOk.none
theorem lc_abs {x : Str} {px : Pos} {scope : Scope} {j : Nat} {f : IfK} {M : Lay} {σ : L2.St} {H : Hp} (r : Rep M H S) (ev : EvOk M H σ E) (xo : ExcOk X M H Ψ) {Q : VK}
    (h : wI X Ψ (.Name x px) iter E S fun ws still S1 => ∃ I : Nat → List W → Sto → Prop, I 0 [] S1 ∧ (∀ i acc S', I i acc S' → still S' ∧ acc.length ≤ 100000) ∧
      (∀ i w acc S', ws[i]? = some w → I i acc S' → Turn1 X scope f elt ((E.set j none).set j (some w)) S' (fun y S4 => I (i + 1) (acc ++ [y]) S4) fun S3 => I (i + 1) acc S3) ∧ ∀ acc S', I ws.length acc S' → ΦS acc S')
    (q : ∀ D M1 H1 m2 S' accV acc H', H1 D = none → D ∉ M1.h → Step M H M1 H1 → Step M1 H1 ⟨m2, M1.h⟩ H' → Rep ⟨m2, D :: M1.h⟩ H' S' → H' D = some (.lst accV) → VWs ⟨m2, D :: M1.h⟩ H' accV acc → ΦS acc S' → Q (.ref D) H') :
    tLc (semI X (.Name x px) iter) (gName j) (f.tt X scope) (semBk X scope elt) [j] σ H Q := by
  refine h.run M σ H r ev xo _ fun J vs ys ws still M1 S1 H1 ⟨I, h0, hst, hturn, hd⟩ hs1 r1 s1 ay it => ?_
  intro D hD
  have wp : ∀ (s : L2.St) (v : V), wipe ((wipe s [j]).set j (some v)) [j] = wipe s [j] := fun s v => by simp [wipe, List.set_set]
  have r1h : Rep (M1.hid D) (upd H1 D (.lst [])) S1 := r1.hide hD
  have ev1 := evok_wipe (ev.step s1) j
  have evh : EvOk (M1.hid D) (upd H1 D (.lst [])) (σ.set j none) (E.set j none) := ⟨ev1.1, fun i w h => by
    obtain ⟨v, h1, h2⟩ := ev1.2 i w h
    exact ⟨v, h1, hid_vw r1 hD h2⟩⟩
  refine ⟨fun i m H' => m = ws.length - i ∧ i ≤ ws.length ∧ LcInv M1 H1 D (σ.set j none) (E.set j none) vs ys I i H', ⟨_, rfl, Nat.zero_le _, ⟨M1.m, S1, [], [], step_free (Step.refl _ _) hD, r1h, upd_same, .nil, h0, hid_vws r1 hD ay, evh⟩⟩, ?_⟩
  rintro i m H' ⟨rfl, hi, ⟨m2, S', accV, acc, s', r', hDl, aacc, hI, ay', ev'⟩⟩
  obtain ⟨hst1, hacc⟩ := hst i acc S' hI
  by_cases hlt : i < ws.length
  · refine .inr ⟨it.go _ H' S' i ay' r' hst1 hlt, fun H2 => LcInv M1 H1 D (σ.set j none) (E.set j none) vs ys I (i + 1) H2, fun H2 hh => ⟨ws.length - (i + 1), by omega, rfl, hlt, hh⟩, fun v H2 hy => ?_⟩
    obtain ⟨w, hw, aw, r2, s2⟩ := it.yld _ H' S' i v H2 ay' r' hst1 hy hlt
    have ev2 : EvOk ⟨m2, D :: M1.h⟩ H2 ((wipe σ [j]).set j (some v)) ((E.set j none).set j (some w)) := (ev'.step s2).set aw j
    have t := hturn i w acc S' hw hI
    have hD2 : H2 D = some (.lst accV) := s2.keep D _ hDl (fun ps z => nomatch z) (r'.hid D List.mem_cons_self).2
    have fin : ∀ (M3 : Lay) (S3 : Sto) (H3 : Hp), I (i + 1) acc S3 → Rep M3 H3 S3 → Step ⟨m2, D :: M1.h⟩ H2 M3 H3 → LcInv M1 H1 D (σ.set j none) (E.set j none) vs ys I (i + 1) H3 := by
      intro M3 S3 H3 p r3 s3
      have e : M3 = ⟨M3.m, D :: M1.h⟩ := by
        have z := s3.hold
        cases M3
        simp only at z
        rw [z]
      have s23 := s2.trans s3
      rw [e] at r3 s23
      exact ⟨M3.m, S3, accV, acc, step_behind s' hD (by rw [e]; exact s23), r3, s3.keep D _ hD2 (fun ps z => nomatch z) (r2.hid D List.mem_cons_self).2, VWs.step s23 _ _ aacc, p, VWs.step s23 _ _ ay', ev'.step s23⟩
    have finY : ∀ (M3 : Lay) (S3 : Sto) (H3 : Hp) y yw, I (i + 1) (acc ++ [yw]) S3 → Rep M3 H3 S3 → VW M3 H3 y yw → Step ⟨m2, D :: M1.h⟩ H2 M3 H3 → ∃ acc, H3 D = some (.lst acc) ∧ acc.length < sizeLine ∧ LcInv M1 H1 D (σ.set j none) (E.set j none) vs ys I (i + 1) (upd H3 D (.lst (acc ++ [y]))) := by
      intro M3 S3 H3 y yw p r3 ayw s3
      have e : M3 = ⟨M3.m, D :: M1.h⟩ := by
        have z := s3.hold
        cases M3
        simp only at z
        rw [z]
      have s23 := s2.trans s3
      have sb := step_behind s' hD s23
      rw [e] at r3 s23 ayw
      have hD3 : H3 D = some (.lst accV) := s3.keep D _ hD2 (fun ps z => nomatch z) (r2.hid D List.mem_cons_self).2
      have mD : D ∈ (⟨M3.m, D :: M1.h⟩ : Lay).h := List.mem_cons_self
      have nt : (∀ ps, HO.lst accV ≠ .tbl ps) ∧ ∀ f, HO.lst accV ≠ .ext f := ⟨fun ps z => (nomatch z), fun f z => (nomatch z)⟩
      refine ⟨accV, hD3, Nat.lt_of_le_of_lt (by rw [aacc.length]; exact hacc) (by decide), ⟨M3.m, S3, _, acc ++ [yw], step_free sb hD, (step_over r3 mD hD3 nt).2, upd_same, ?_, p, vws_over r3 mD hD3 nt (VWs.step s23 _ _ ay'), evok_over r3 mD hD3 nt (ev'.step s23)⟩⟩
      exact (vws_over r3 mD hD3 nt (VWs.step s23 _ _ aacc)).append (.cons ((step_over r3 mD hD3 nt).1 _ _ ayw) .nil)
    show wipe ((wipe σ [j]).set j (some v)) [j] = wipe σ [j] ∧ _
    refine ⟨wp σ v, ?_⟩
    cases f with
    | no =>
      refine fun s H0 C cl fp => ?_
      exact ((show ∀ s H0 C cl fp, wE (Cx.bk X scope s H0 C cl fp) nox elt _ S' _ from t) s H0 C cl fp).run _ _ H2 r2 ev2 exc_nox _ fun y yw M3 S3 H3 p r3 ayw s3 => finY M3 S3 H3 y yw p r3 ayw s3
    | one c =>
      intro s H0 C cl fp
      refine ((show ∀ s H0 C cl fp, wT (Cx.bk X scope s H0 C cl fp) nox c _ S' _ from t) s H0 C cl fp).run _ _ H2 r2 ev2 exc_nox _ fun b M3 S3 H3 p r3 s3 => ?_
      cases b with
      | true =>
        refine iteT fun s H0 C cl fp => ?_
        exact ((show ∀ s H0 C cl fp, wE (Cx.bk X scope s H0 C cl fp) nox elt _ S3 _ from p) s H0 C cl fp).run _ _ H3 r3 (ev2.step s3) exc_nox _ fun y yw M4 S4 H4 p r4 ayw s4 => finY M4 S4 H4 y yw p r4 ayw (s3.trans s4)
      | false => exact iteF (fin M3 S3 H3 p r3 s3)
  · have e : i = ws.length := by omega
    subst e
    exact .inl ⟨it.stop _ H' S' _ ay' r' hst1 (Nat.le_refl _), q D M1 H1 m2 S' accV acc H' hD (r1.free hD).2 s1 s' r' hDl aacc (hd acc S' hI)⟩
/-- .. to a list that nobody changes -/
theorem got_lc {M : Lay} {H : Hp} {Q : VK} (q : Got M H Φ Q) : ∀ D M1 H1 m2 S' accV acc H', H1 D = none → D ∉ M1.h → Step M H M1 H1 → Step M1 H1 ⟨m2, M1.h⟩ H' → Rep ⟨m2, D :: M1.h⟩ H' S' → H' D = some (.lst accV) → VWs ⟨m2, D :: M1.h⟩ H' accV acc → Φ (.lst acc) S' → Q (.ref D) H' := by
  intro D M1 H1 m2 S' accV acc H' hD hDh s1 s' r' hDl a p
  have rs : Rep ⟨m2, M1.h⟩ H' S' := Rep.show (M := ⟨m2, M1.h⟩) (p := D) r'
  exact q _ _ ⟨m2, M1.h⟩ S' H' p rs (.lst ⟨hDl, (r'.hid D List.mem_cons_self).2, hDh⟩ (vws_show (M := ⟨m2, M1.h⟩) (p := D) a)) (s1.trans s')
theorem wE_lcF {x : Str} {px : Pos} {scope : Scope} (j : Nat) (f : IfK) (hc : X.calm = true) (hN : X.N.Nodup) (ok : BlkOk X.N X.env.scope scope [(x, j)])
    (h : wI X Ψ (.Name x px) iter E S fun ws still S1 => ∃ I : Nat → List W → Sto → Prop, I 0 [] S1 ∧ (∀ i acc S', I i acc S' → still S' ∧ acc.length ≤ 100000) ∧
      (∀ i w acc S', ws[i]? = some w → I i acc S' → Turn1 X scope f elt ((E.set j none).set j (some w)) S' (fun y S4 => I (i + 1) (acc ++ [y]) S4) fun S3 => I (i + 1) acc S3) ∧ ∀ acc S', I ws.length acc S' → Φ (.lst acc) S')
    (hx : ∀ (s : Shared) (H : Hp) (C : Addr) (cl : List (Str × Addr)) (fp : List Addr), Loc (Cx.bk X scope s H C cl fp).env.scope x ∧ ((Cx.bk X scope s H C cl fp).fn x = true ∨ (Cx.bk X scope s H C cl fp).env.scope.names.lookup x = some .local) := by intros; exact ⟨by first | exact Or.inl rfl | exact Or.inr rfl, by first | exact Or.inl rfl | exact Or.inr rfl⟩)
    (hs : ∀ x, foldedSetIterable iter X.env x = pure x := by intro _; rfl) : wE X Ψ (.ListComp elt [⟨.Name x px, iter, f.exs, 0⟩] scope pos) E S Φ :=
  wE.of (pe_lc (own := [(x, j)]) (g := gName j) hc hN pi_sem ok (fun s H C cl fp => pg_name hN (ok.ix (x, j) (by simp)) (hx s H C cl fp).1 (hx s H C cl fp).2) (pts_bk f) (fun s H C cl fp => pe_bk s H C cl fp) hs) fun M σ H r ev xo Q q => lc_abs (ΦS := fun acc S' => Φ (.lst acc) S') r ev xo h (got_lc q)
/-- name = [..] -/
theorem wS_setLcF {x y : Str} {px py : Pos} {scope : Scope} (i j : Nat) (f : IfK) (hc : X.calm = true) (hN : X.N.Nodup) (ok : BlkOk X.N X.env.scope scope [(x, j)])
    (h : wI X Ψ (.Name x px) iter E S fun ws still S1 => ∃ I : Nat → List W → Sto → Prop, I 0 [] S1 ∧ (∀ i acc S', I i acc S' → still S' ∧ acc.length ≤ 100000) ∧
      (∀ i w acc S', ws[i]? = some w → I i acc S' → Turn1 X scope f elt ((E.set j none).set j (some w)) S' (fun y S4 => I (i + 1) (acc ++ [y]) S4) fun S3 => I (i + 1) acc S3) ∧ ∀ acc S', I ws.length acc S' → A.nx (E.set i (some (.lst acc))) S')
    {epos spos : Pos} (hsw : swapsWith (.ListComp elt [⟨.Name x px, iter, f.exs, 0⟩] scope epos) (some (.Name y py)) spos.line X.env = pure true) (hy : X.N[i]? = some y := by rfl) (hyl : X.env.scope.names.lookup y = some .local := by rfl)
    (hx : ∀ (s : Shared) (H : Hp) (C : Addr) (cl : List (Str × Addr)) (fp : List Addr), Loc (Cx.bk X scope s H C cl fp).env.scope x ∧ ((Cx.bk X scope s H C cl fp).fn x = true ∨ (Cx.bk X scope s H C cl fp).env.scope.names.lookup x = some .local) := by intros; exact ⟨by first | exact Or.inl rfl | exact Or.inr rfl, by first | exact Or.inl rfl | exact Or.inr rfl⟩)
    (hs : ∀ x, foldedSetIterable iter X.env x = pure x := by intro _; rfl) : wS X Ψ (.Assign [.Name y py] (.ListComp elt [⟨.Name x px, iter, f.exs, 0⟩] scope epos) spos) E S A :=
  wS.of (ps_setLc (own := [(x, j)]) (g := gName j) hc hN hy hyl hsw pi_sem ok (fun s H C cl fp => pg_name hN (ok.ix (x, j) (by simp)) (hx s H C cl fp).1 (hx s H C cl fp).2) (pts_bk f) (fun s H C cl fp => pe_bk s H C cl fp) hs) fun M σ H r ev xo D q =>
    lc_abs (ΦS := fun acc S' => A.nx (E.set i (some (.lst acc))) S') r ev xo h (got_lc (Φ := fun w S' => A.nx (E.set i (some w)) S') (Q := fun v H1 => gName i v σ H1 D.nx) fun v w M2 S2 H2 p r2 a2 s2 => q.nx _ _ M2 S2 H2 p r2 ((ev.step s2).set a2 i) s2)
end

-- AM9

section
variable {X : Cx} {Ψ : AX} {a b c e o : Expr} {es rest : List Expr} {E : AEnv} {S : Sto} {Φ : W → Sto → Prop} {ΦE : AEnv → Sto → Prop} {ΦT : Bool → Sto → Prop} {ΦS : List W → Sto → Prop} {pos : Pos} {k n : Nat} {asp : ASp} {A : AE}
/-- a call of a built-in on abstract values -/
abbrev G1 := List W → Sto → (W → Sto → Prop) → Prop
def CallW (r : List V → Hp → VK → Prop) (g : G1) : Prop := ∀ M H S vs ws Φ, Rep M H S → VWs M H vs ws → g ws S Φ → ∀ Q, Got M H Φ Q → r vs H Q
theorem wE_callB {x : Str} {id : String} {p : Pos} {r : List V → Hp → VK → Prop} {g : G1} (hcr : CallR X (.builtin id) r) (cw : CallW r g) (hm : X.mg x = none) (hv : bootBuiltins x = some (.builtin id)) (h : wA X Ψ (e :: es) E S fun ws S1 => g ws S1 Φ) (hg : Gl X x := by rfl)
    (hn : x ≠ "__name__" := by decide) (hdb : (x == ("__debug__" : Str)) = false := by decide) (he : starEach (e :: es) X.env = (false, eval e X.env) :: starEach es X.env := by rfl) (hpl : (backTo pos (starEach es X.env)).any (·.1) = false := by rfl) : wE X Ψ (.Call (.Name x p) (e :: es) [] pos) E S Φ :=
  wE.of (pe_callB hcr hg hm hv pa_sem hn hdb he hpl) fun M σ H r ev xo Q q => h.run M σ H r ev xo _ fun vs ws M1 S1 H1 p1 r1 a1 s1 => cw M1 H1 S1 vs ws Φ r1 a1 p1 Q (q.step s1)
theorem wE_callTy {x : Str} {T : String} {p : Pos} {r : List V → Hp → VK → Prop} {g : G1} (hcr : CallR X (.type T) r) (cw : CallW r g) (hm : X.mg x = none) (hv : bootBuiltins x = some (.type T)) (h : wA X Ψ (e :: es) E S fun ws S1 => g ws S1 Φ) (hg : Gl X x := by rfl)
    (hn : x ≠ "__name__" := by decide) (hdb : (x == ("__debug__" : Str)) = false := by decide) (he : starEach (e :: es) X.env = (false, eval e X.env) :: starEach es X.env := by rfl) (hpl : (backTo pos (starEach es X.env)).any (·.1) = false := by rfl) : wE X Ψ (.Call (.Name x p) (e :: es) [] pos) E S Φ :=
  wE.of (pe_callTy hcr hg hm hv pa_sem hn hdb he hpl) fun M σ H r ev xo Q q => h.run M σ H r ev xo _ fun vs ws M1 S1 H1 p1 r1 a1 s1 => cw M1 H1 S1 vs ws Φ r1 a1 p1 Q (q.step s1)
theorem callw_one {r : List V → Hp → VK → Prop} {g : G1} (h : ∀ M H S v w Φ, Rep M H S → VW M H v w → g [w] S Φ → ∀ Q, Got M H Φ Q → r [v] H Q) (hl : ∀ ws S Φ, g ws S Φ → ∃ w, ws = [w]) : CallW r g := fun M H S vs ws Φ rr a p Q q => by
  obtain ⟨w, rfl⟩ := hl _ _ _ p
  cases a with
  | cons a1 a2 => cases a2; exact h M H S _ w Φ rr a1 p Q q
/-! len -/
def lenW (S : Sto) : W → Option Nat
  | .scr _ ns => some ns.length
  | w => (itemsW S w).map List.length
abbrev gLen : G1 := fun ws S Φ => ∃ w n, ws = [w] ∧ lenW S w = some n ∧ Φ (.int n) S
abbrev gLenK (K : PySem.W.Frag) : G1 := fun ws S Φ => ∃ w n, ws = [w] ∧ (∀ K' ns, w = .scr K' ns → K' = K) ∧ lenW S w = some n ∧ Φ (.int n) S
theorem callw_len : CallW (fun xs H Q => ∃ p ys, xs = [.ref p] ∧ (SqL X.K H p ys ∨ SqT X.K H p ys) ∧ Q (.int ys.length) H) (gLenK X.K) := callw_one (fun M H S v w Φ r a ⟨w', n, e, hK, hl, p⟩ Q q => by
  cases e
  cases w with
  | scr K' ns =>
    obtain rfl := hK K' ns rfl
    cases hl
    cases a with
    | scr s => exact ⟨_, _, rfl, .inl s.sq, by rw [List.length_map]; exact q _ _ M S H p r (.int _) (Step.refl _ _)⟩
  | _ =>
    unfold lenW at hl
    first
      | (cases hl; done)
      | (obtain ⟨ws', h1, h2⟩ := Option.map_eq_some_iff.mp hl
         obtain ⟨ad, xs, rfl, rv, kk⟩ := seq_of (K := X.K) r a h1
         refine ⟨ad, xs, rfl, ?_, by rw [rv.length, h2]; exact q _ _ M S H p r (.int _) (Step.refl _ _)⟩
         rcases kk with ⟨kk, _⟩ | ⟨kk, _⟩
         · exact .inl kk
         · exact .inr kk)) fun ws S Φ ⟨w, n, e, _⟩ => ⟨w, e⟩
theorem wE_len {p : Pos} (hm : X.mg "len" = none) (h : wE X Ψ e E S fun w S1 => ∃ n, (∀ K' ns, w = .scr K' ns → K' = X.K) ∧ lenW S1 w = some n ∧ Φ (.int n) S1) (hg : Gl X "len" := by rfl) (he : starEach [e] X.env = (false, eval e X.env) :: starEach [] X.env := by rfl) (hpl : (backTo pos (starEach [] X.env)).any (·.1) = false := by rfl) : wE X Ψ (.Call (.Name "len" p) [e] [] pos) E S Φ :=
  wE_callB call_len_seq callw_len hm PySem.boot_len (wA_cons (h.imp fun w S1 ⟨n, hK, h1, p⟩ => wA_nil ⟨w, n, rfl, hK, h1, p⟩) he) hg (by decide) (by decide) he hpl
/-! isinstance -/
inductive Ty | non | bl | int | str | tup | lst | dict
  deriving DecidableEq
def Ty.nm : Ty → String
  | .non => "NoneType" | .bl => "bool" | .int => "int" | .str => "str" | .tup => "tuple" | .lst => "list" | .dict => "dict"
def Ty.isa (t c : Ty) : Bool := decide (t = c) || (match t, c with | .bl, .int => true | _, _ => false)
def Ty.all : List Ty := [.non, .bl, .int, .str, .tup, .lst, .dict]
theorem kit_tab : ([Ty.bl, .int, .str, .tup, .lst].all fun c => Ty.all.all fun t => decide (kitB t.nm c.nm = some (t.isa c))) = true := by decide +kernel
theorem kit_isa (t c : Ty) (hc : c ≠ .non ∧ c ≠ .dict) : kitB t.nm c.nm = some (t.isa c) := by
  have h := kit_tab
  rw [List.all_eq_true] at h
  have h1 := h c (by cases c <;> simp at hc ⊢)
  rw [List.all_eq_true] at h1
  have h2 := h1 t (by cases t <;> simp [Ty.all])
  exact of_decide_eq_true h2
def tyW (S : Sto) : W → Option Ty
  | .non => some .non | .bl _ => some .bl | .int _ => some .int | .str _ => some .str | .tup _ => some .tup | .lst _ => some .lst
  | .ref k => match S[k]? with
    | some (.lst _) => some .lst
    | some (.dk _) => some .dict
    | some (.dt _) => some .dict
    | _ => none
  | _ => none
theorem ty_vw {M : Lay} {H : Hp} {w : W} {v : V} {t : Ty} (r : Rep M H S) (a : VW M H v w) (h : tyW S w = some t) : TyX X.K H v (.type t.nm) := by
  cases w with
  | non => cases h; cases a; exact .base .non
  | bl _ => cases h; cases a; exact .base (.bl _)
  | int _ => cases h; cases a; exact .base (.int _)
  | str _ => cases h; cases a; exact .base (.str _)
  | tup ws =>
    cases h
    cases a with
    | tup q _ => exact .base (.tup q.1)
  | lst ws =>
    cases h
    cases a with
    | lst q _ => exact .base (.lst q.1)
  | ref k =>
    cases a with
    | ref hm =>
      have e : tyW S (.ref k) = (match S[k]? with
        | some (.lst _) => some .lst
        | some (.dk _) => some .dict
        | some (.dt _) => some .dict
        | _ => none) := rfl
      rw [e] at h
      split at h
      · rename_i hk
        cases h
        obtain ⟨p, ho, h1, h2, b⟩ := r.at' hk
        rw [hm] at h1; cases h1
        cases b; exact .base (.lst h2)
      · rename_i hk
        cases h
        obtain ⟨p, ho, h1, h2, b⟩ := r.at' hk
        rw [hm] at h1; cases h1
        cases b; exact .base (.dK h2)
      · rename_i hk
        cases h
        obtain ⟨p, ho, h1, h2, b⟩ := r.at' hk
        rw [hm] at h1; cases h1
        cases b; exact .base (.dT h2)
      · cases h
  | raw v => cases h
  | scr _ ns => cases h
theorem wE_isi {x : Str} {p p1 : Pos} (c : Ty) (hm : X.mg "isinstance" = none) (hx : X.mg x = none) (hv : bootBuiltins x = some (.type c.nm)) (h : wE X Ψ e E S fun w S1 => ∃ t, tyW S1 w = some t ∧ Φ (.bl (t.isa c)) S1) (hc : c ≠ .non ∧ c ≠ .dict := by decide) (hg : Gl X "isinstance" := by rfl) (hgx : Gl X x := by rfl) (hn : x ≠ "__name__" := by decide) (hd : (x == ("__debug__" : Str)) = false := by decide)
    (he : starEach [e, .Name x p1] X.env = (false, eval e X.env) :: starEach [.Name x p1] X.env := by rfl) (he2 : starEach [.Name x p1] X.env = (false, eval (.Name x p1) X.env) :: starEach [] X.env := by rfl) (hpl : (backTo pos (starEach [.Name x p1] X.env)).any (·.1) = false := by rfl) : wE X Ψ (.Call (.Name "isinstance" p) [e, .Name x p1] [] pos) E S Φ :=
  wE_callB (g := fun ws S Φ => ∃ w t, ws = [w, .raw (.ty c.nm)] ∧ tyW S w = some t ∧ Φ (.bl (t.isa c)) S) call_isi (fun M H S vs ws Φ r a ⟨w, t, e, ht, p⟩ Q q => by
    subst e
    cases a with
    | cons a1 a2 => cases a2 with
      | cons a2 a3 =>
        cases a3; cases a2
        exact ⟨_, .ty c.nm, _, _, t.isa c, rfl, .ty _, ty_vw (X := X) r a1 ht, kit_ty (kit_isa t c hc), q _ _ M S H p r (.bl _) (Step.refl _ _)⟩) hm PyProof.Rows.boot_isinstance
    (wA_cons (h.imp fun w S1 ⟨t, h1, p⟩ => wA_cons (wE_bltn (v := .ty c.nm) hx hv rfl (wA_nil ⟨w, t, rfl, h1, p⟩) hgx hn hd) he2) he) hg (by decide) (by decide) he hpl
/-! int, str, tuple, list, sorted -/
theorem wE_intB {p : Pos} (hm : X.mg "int" = none) (h : wE X Ψ e E S fun w S1 => ∃ k, w = .bl k ∧ Φ (.int (if k then 1 else 0)) S1) (hg : Gl X "int" := by rfl) (he : starEach [e] X.env = (false, eval e X.env) :: starEach [] X.env := by rfl) (hpl : (backTo pos (starEach [] X.env)).any (·.1) = false := by rfl) : wE X Ψ (.Call (.Name "int" p) [e] [] pos) E S Φ :=
  wE_callTy (g := fun ws S Φ => ∃ k, ws = [.bl k] ∧ Φ (.int (if k then 1 else 0)) S) call_int1 (callw_one (fun M H S v w Φ r a ⟨k, e, p⟩ Q q => by
    cases e; cases a
    exact .inr ⟨k, rfl, q _ _ M S H p r (.int _) (Step.refl _ _)⟩) fun ws S Φ ⟨z, e, _⟩ => ⟨_, e⟩) hm PyProof.Rows.boot_int (wA_cons (h.imp fun w S1 ⟨k, h1, p⟩ => wA_nil ⟨k, by rw [h1], p⟩) he) hg (by decide) (by decide) he hpl
/-- tuple(list or tuple) -/
theorem wE_tuple {p : Pos} (hm : X.mg "tuple" = none) (h : wE X Ψ e E S fun w S1 => ∃ ws, itemsW S1 w = some ws ∧ Φ (.tup ws) S1) (hg : Gl X "tuple" := by rfl) (he : starEach [e] X.env = (false, eval e X.env) :: starEach [] X.env := by rfl) (hpl : (backTo pos (starEach [] X.env)).any (·.1) = false := by rfl) : wE X Ψ (.Call (.Name "tuple" p) [e] [] pos) E S Φ :=
  wE_callTy (g := fun us S Φ => ∃ w ws, us = [w] ∧ itemsW S w = some ws ∧ Φ (.tup ws) S) call_tuple_of (callw_one (fun M H S v w Φ r a ⟨w', ws, e, hi, p⟩ Q q => by
    cases e
    obtain ⟨ad, xs, rfl, rv, kk⟩ := seq_of (K := X.K) r a hi
    rcases kk with ⟨kk, _⟩ | ⟨kk, z, ez⟩
    · exact ⟨ad, xs, rfl, .inl ⟨kk, fun l hl => q _ _ M S _ p (r.tmp hl) (tq_new r hl rv) (step_tmp r hl)⟩⟩
    · subst ez
      cases hi
      exact ⟨ad, xs, rfl, .inr ⟨kk, q _ _ M S H p r a (Step.refl _ _)⟩⟩) fun ws S Φ ⟨w, z, e, _⟩ => ⟨_, e⟩) hm PyProof.Rows.boot_tuple (wA_cons (h.imp fun w S1 ⟨ws, h1, p⟩ => wA_nil ⟨w, ws, rfl, h1, p⟩) he) hg (by decide) (by decide) he hpl
/-- list(..): one that nobody changes; one's own -/
theorem wE_list {p : Pos} (hm : X.mg "list" = none) (h : wE X Ψ e E S fun w S1 => ∃ ws, itemsW S1 w = some ws ∧ Φ (.lst ws) S1) (hg : Gl X "list" := by rfl) (he : starEach [e] X.env = (false, eval e X.env) :: starEach [] X.env := by rfl) (hpl : (backTo pos (starEach [] X.env)).any (·.1) = false := by rfl) : wE X Ψ (.Call (.Name "list" p) [e] [] pos) E S Φ :=
  wE_callTy (g := fun us S Φ => ∃ w ws, us = [w] ∧ itemsW S w = some ws ∧ Φ (.lst ws) S) call_list_of (callw_one (fun M H S v w Φ r a ⟨w', ws, e, hi, p⟩ Q q => by
    cases e
    obtain ⟨ad, xs, rfl, rv, kk⟩ := seq_of (K := X.K) r a hi
    refine ⟨ad, xs, rfl, ?_, fun l hl => q _ _ M S _ p (r.tmp hl) (lq_new r hl rv) (step_tmp r hl)⟩
    rcases kk with ⟨kk, _⟩ | ⟨kk, _⟩
    · exact .inl kk
    · exact .inr kk) fun ws S Φ ⟨w, z, e, _⟩ => ⟨_, e⟩) hm PyProof.Rows.boot_list (wA_cons (h.imp fun w S1 ⟨ws, h1, p⟩ => wA_nil ⟨w, ws, rfl, h1, p⟩) he) hg (by decide) (by decide) he hpl
theorem wE_listN {p : Pos} (hm : X.mg "list" = none) (h : wE X Ψ e E S fun w S1 => ∃ ws, itemsW S1 w = some ws ∧ Φ (.ref S1.length) (S1 ++ [.lst ws])) (hg : Gl X "list" := by rfl) (he : starEach [e] X.env = (false, eval e X.env) :: starEach [] X.env := by rfl) (hpl : (backTo pos (starEach [] X.env)).any (·.1) = false := by rfl) : wE X Ψ (.Call (.Name "list" p) [e] [] pos) E S Φ :=
  wE_callTy (g := fun us S Φ => ∃ w ws, us = [w] ∧ itemsW S w = some ws ∧ Φ (.ref S.length) (S ++ [.lst ws])) call_list_of (callw_one (fun M H S v w Φ r a ⟨w', ws, e, hi, p⟩ Q q => by
    cases e
    obtain ⟨ad, xs, rfl, rv, kk⟩ := seq_of (K := X.K) r a hi
    refine ⟨ad, xs, rfl, ?_, fun l hl => q _ _ _ _ _ p (lst_new r hl rv).1 (lst_new r hl rv).2 (step_new r hl)⟩
    rcases kk with ⟨kk, _⟩ | ⟨kk, _⟩
    · exact .inl kk
    · exact .inr kk) fun ws S Φ ⟨w, z, e, _⟩ => ⟨_, e⟩) hm PyProof.Rows.boot_list (wA_cons (h.imp fun w S1 ⟨ws, h1, p⟩ => wA_nil ⟨w, ws, rfl, h1, p⟩) he) hg (by decide) (by decide) he hpl
/-! methods of built-in types -/
def MtW (r : V → List V → Hp → VK → Prop) (g : W → G1) : Prop := ∀ M H S v w vs ws Φ, Rep M H S → VW M H v w → VWs M H vs ws → g w ws S Φ → ∀ Q, Got M H Φ Q → r v vs H Q
def tyMW (S : Sto) (T : String) : W → Prop
  | .str _ => T = "str" | .int _ => T = "int"
  | .lst _ => T = "list"
  | .ref k => (T = "list" ∧ ∃ ws, S[k]? = some (.lst ws)) ∨ (T = "dict" ∧ ((∃ kvs, S[k]? = some (.dk kvs)) ∨ ∃ kvs, S[k]? = some (.dt kvs)))
  | _ => False
theorem tyM_vw {M : Lay} {H : Hp} {w : W} {v : V} {T : String} (r : Rep M H S) (a : VW M H v w) (h : tyMW S T w) : tyV X.K T v H := by
  cases w with
  | str _ => cases a; exact h
  | int _ => cases a; exact h
  | lst _ =>
    cases a with
    | lst q _ => exact .inl ⟨h, _, q.sq⟩
  | ref k =>
    cases a with
    | ref hm =>
      rcases h with ⟨rfl, ws, hk⟩ | ⟨rfl, ⟨kvs, hk⟩ | ⟨kvs, hk⟩⟩
      · obtain ⟨p, xs, h1, h2, h3⟩ := r.lst hk
        rw [hm] at h1; cases h1
        exact .inl ⟨rfl, _, SqL.of h2⟩
      · obtain ⟨p, ho, h1, h2, b⟩ := r.at' hk
        rw [hm] at h1; cases h1
        cases b
        exact .inr (.inr (.inl ⟨rfl, .inl ⟨_, h2⟩⟩))
      · obtain ⟨p, ho, h1, h2, b⟩ := r.at' hk
        rw [hm] at h1; cases h1
        cases b
        exact .inr (.inr (.inl ⟨rfl, .inr ⟨_, h2⟩⟩))
  | _ => exact h.elim
theorem wE_bm {T id : String} {name : Str} {apos cpos : Pos} {r : V → List V → Hp → VK → Prop} {g : W → G1} (pa : PlainAttrs T) (slot : Slot T name id) (hty : typeOf (.builtin id) = pure (.type "method_descriptor")) (hmt : MtR X id r) (mw : MtW r g)
    (h : wE X Ψ o E S fun w S1 => tyMW S1 T w ∧ wA X Ψ (e :: es) E S1 fun ws S2 => g w ws S2 Φ)
    (hbase : attributeBase o name X.env (eval o X.env) = eval o X.env := by rfl)
    (hfew : ((backTo cpos (starEach (e :: es) X.env)).all (fun x => !x.1) && (backToKw cpos (keywordEach [] X.env)).all (fun x => x.1.isSome)
      && decide ((e :: es).length + ([] : List Keyword).length + (if ([] : List Keyword).isEmpty then 0 else 1) < 30)) = true := by rfl)
    (hline : (apos.endLine == cpos.line) = true := by rfl) (hs : starEach (e :: es) X.env = (false, eval e X.env) :: starEach es X.env := by rfl) (hplain : (backTo cpos (starEach es X.env)).any (·.1) = false := by rfl) : wE X Ψ (.Call (.Attribute o name apos) (e :: es) [] cpos) E S Φ :=
  wE.of (pe_bm pa slot hty hmt pe_sem pa_sem hbase hfew hline hs hplain) fun M σ H r ev xo Q q => h.run M σ H r ev xo _ fun v w M1 S1 H1 p1 r1 a1 s1 => ⟨tyM_vw r1 a1 p1.1, p1.2.run M1 σ H1 r1 (ev.step s1) (xo.step s1) _ fun vs ws M2 S2 H2 p2 r2 a2 s2 => mw M2 H2 S2 v w vs ws Φ r2 (VW.step s2 _ _ a1) a2 p2 Q (q.step (s1.trans s2))⟩
theorem wE_append {apos cpos : Pos} (h : wE X Ψ o E S fun x S1 => (∃ k ws, x = .ref k ∧ S1[k]? = some (.lst ws)) ∧ wE X Ψ e E S1 fun w S2 => ∃ k ws, x = .ref k ∧ S2[k]? = some (.lst ws) ∧ ws.length ≤ 100000 ∧ Φ .non (S2.set k (.lst (ws ++ [w]))))
    (hbase : attributeBase o "append" X.env (eval o X.env) = eval o X.env := by rfl)
    (hfew : ((backTo cpos (starEach [e] X.env)).all (fun x => !x.1) && (backToKw cpos (keywordEach [] X.env)).all (fun x => x.1.isSome)
      && decide (([e] : List Expr).length + ([] : List Keyword).length + (if ([] : List Keyword).isEmpty then 0 else 1) < 30)) = true := by rfl)
    (hline : (apos.endLine == cpos.line) = true := by rfl) (hs : starEach [e] X.env = (false, eval e X.env) :: starEach [] X.env := by rfl) (hplain : (backTo cpos (starEach [] X.env)).any (·.1) = false := by rfl) : wE X Ψ (.Call (.Attribute o "append" apos) [e] [] cpos) E S Φ :=
  wE_bm (g := fun x us S Φ => ∃ w k ws, us = [w] ∧ x = .ref k ∧ S[k]? = some (.lst ws) ∧ ws.length ≤ 100000 ∧ Φ .non (S.set k (.lst (ws ++ [w])))) PySem.F.plainAttrs_list PySem.F.slot_list_append PySem.F.type_list_append mt_append
    (fun M H S v w vs ws Φ r a av ⟨u, k, us, e1, e2, hk, hl, p⟩ Q q => by
      subst e1; subst e2
      cases a with
      | ref hm =>
        obtain ⟨ad, xs, h1, h2, h3⟩ := r.lst hk
        rw [hm] at h1; cases h1
        cases av with
        | cons b1 b2 =>
          cases b2
          have rr := set_lst r hm (h3.append (.cons b1 .nil))
          exact ⟨_, xs, _, rfl, rfl, h2, Nat.lt_of_le_of_lt (by rw [h3.length]; exact hl) (by decide), q _ _ M _ _ p rr.1 .non rr.2⟩)
    (h.imp fun x S1 ⟨⟨k, ws, e1, hk⟩, h⟩ => ⟨by subst e1; exact .inl ⟨rfl, ws, hk⟩, wA_cons (h.imp fun w S2 ⟨k, ws, e1, hk, hl, p⟩ => wA_nil ⟨w, k, ws, rfl, e1, hk, hl, p⟩) hs⟩) hbase hfew hline hs hplain
end

-- AM10

section
variable {X : Cx} {Ψ : AX} {a b c e o : Expr} {es rest : List Expr} {E : AEnv} {S : Sto} {Φ : W → Sto → Prop} {ΦE : AEnv → Sto → Prop} {ΦT : Bool → Sto → Prop} {ΦS : List W → Sto → Prop} {pos : Pos} {k n : Nat} {asp : ASp} {A : AE} {st : List Stmt}
theorem wB.less {S1 : Sto} (i : Imp S S1) (h : wB X Ψ st E S1 A) : wB X Ψ st E S A := ⟨fun M σ H r ev x D q => h.run M σ H (i _ _ r) ev x D q⟩
theorem wE.less {S1 : Sto} (i : Imp S S1) (h : wE X Ψ e E S1 Φ) : wE X Ψ e E S Φ := ⟨fun M σ H r ev x D q => h.run M σ H (i _ _ r) ev x D q⟩

/-! ### the row of draws -/
def rowL (K : PySem.W.Frag) (ns : List Int) (i z : Int) : O := .lst [.scr K ns, .int i, .int z]
def rowG (ns : List Int) (i z : Int) : Prop := ns.length ≤ 63 ∧ 0 ≤ i ∧ 0 ≤ z ∧ z < 2147483647
theorem Rep.same {M : Lay} {H : Hp} (r : Rep M H S) {k : Nat} {o : O} (h : ∀ p ho, M.m[k]? = some p → H p = some ho → ∀ o', S[k]? = some o' → Ob M H ho o' → Ob M H ho o) (nt9 : ∀ P q, o ≠ O.tab P q := by intro _ _ z; cases z) : Rep M H (S.set k o) :=
  ⟨r.nd, by simp [r.len], fun j q u h1 h2 => by
    by_cases e : j = k
    · subst e
      have hk : j < S.length := by
        have z := (List.getElem?_eq_some_iff.mp h2).1
        simpa using z
      rw [List.getElem?_set_self hk] at h2; cases h2
      obtain ⟨ho, e1, b⟩ := r.at_ j q S[j] h1 (List.getElem?_eq_getElem hk)
      exact ⟨ho, e1, h q ho h1 e1 _ (List.getElem?_eq_getElem hk) b⟩
    · rw [List.getElem?_set_ne (fun z => e z.symm)] at h2
      exact r.at_ j q u h1 h2, r.hid, fun j P q e => by
    by_cases z : k = j
    · subst z
      have hk : k < S.length := by
        have z := (List.getElem?_eq_some_iff.mp e).1
        simpa using z
      rw [List.getElem?_set_self hk] at e
      exact absurd (Option.some.inj e) (nt9 P q)
    · rw [List.getElem?_set_ne z] at e
      exact r.tb j P q e⟩
theorem imp_fold {K : PySem.W.Frag} {r : Nat} {ns : List Int} {i z : Int} (h : S[r]? = some (rowL K ns i z)) (g : rowG ns i z) : Imp S (S.set r (.row K)) := fun M H rr => rr.same fun p ho h1 h2 o' h3 b => by
  rw [h] at h3; cases h3
  cases b with
  | lst a =>
    cases a with
    | cons a1 a2 => cases a2 with
      | cons a2 a3 => cases a3 with
        | cons a3 a4 =>
          cases a4; cases a2; cases a3
          exact .row ⟨_, ns, i, z, rfl, a1, g.1, g.2.1, g.2.2⟩
theorem wB_row {K : PySem.W.Frag} {r : Nat} (h : S[r]? = some (.row K)) (q : ∀ ns i z, rowG ns i z → wB X Ψ st E (S.set r (rowL K ns i z)) A) : wB X Ψ st E S A :=
  ⟨fun M σ H rr ev x D d => by
    obtain ⟨p, ho, h1, h2, b⟩ := rr.at' h
    cases b with
    | row a =>
      obtain ⟨v, ns, i, z, e, a, g1, g2, g3⟩ := a
      refine (q ns i z ⟨g1, g2, g3⟩).run M σ H (rr.same fun p' ho' h1' h2' o' h3 b => ?_) ev x D d
      rw [h1] at h1'; cases h1'
      rw [h2] at h2'; cases h2'
      subst e
      exact .lst (.cons a (.cons (.int _) (.cons (.int _) .nil)))⟩
/-- the script's item -/
theorem wE_ixScr (h : wE X Ψ a E S fun x S1 => wE X Ψ b E S1 fun y S2 => ∃ ns i m, x = .scr X.K ns ∧ y = .int i ∧ atI ns i = some m ∧ Φ (.int m) S2) (hs : PlainIx b := by exact fun _ _ => rfl) : wE X Ψ (.Subscript a b pos) E S Φ :=
  wE.of (pe_ix ix_list pe_sem pe_sem hs) fun M σ H r ev x Q q => two (r := rIxL X.K) (g := fun x y S Φ => ∃ ns i m, x = .scr X.K ns ∧ y = .int i ∧ atI ns i = some m ∧ Φ (.int m) S)
    (opw_pure (X := X) fun M H S v u x y Φ r a1 a2 ⟨ns, i, m, h1, h2, h3, p⟩ Q q => by
      subst h1; subst h2
      cases a2
      cases a1 with
      | scr s =>
        refine ⟨_, _, i, .int m, rfl, rfl, s.sq, ?_, q _ _ p (.int _)⟩
        unfold atI at h3 ⊢
        rw [List.length_map]
        cases e : ixN ns.length i with
        | none => rw [e] at h3; cases h3
        | some j =>
          rw [e] at h3
          show (ns.map V.int)[j]? = _
          rw [List.getElem?_map, show ns[j]? = some m from h3]
          rfl) h r ev x q
/-! ### and, or, if whose parts change nothing: one way behind them -/
end

-- AM11
section
variable {X : Cx} {Ψ : AX} {a b c e o : Expr} {es rest : List Expr} {E : AEnv} {S : Sto} {Φ : W → Sto → Prop} {ΦE : AEnv → Sto → Prop} {ΦT : Bool → Sto → Prop} {ΦS : List W → Sto → Prop} {pos : Pos} {k n : Nat} {asp : ASp} {A : AE} {st : List Stmt}
/-! ### names by search -/
inductive Idx (x : Str) : List Str → Nat → Prop
  | here {N : List Str} : Idx x (x :: N) 0
  | there {y : Str} {N : List Str} {i : Nat} (h : Idx x N i) : Idx x (y :: N) (i + 1)
theorem Idx.get {x : Str} {N : List Str} {i : Nat} (h : Idx x N i) : N[i]? = some x := by
  induction h with
  | here => rfl
  | there h ih => simpa using ih
theorem xE_name {x : Str} {w : W} {i : Nat} (hN : Idx x X.N i) (he : E[i]? = some (some w)) (h : Φ w S) (hv : Vis X.env.scope x := by first | exact Or.inl rfl | exact Or.inr (Or.inl rfl) | exact Or.inr (Or.inr rfl))
    (hd : (x == ("__debug__" : Str)) = false := by decide +kernel) (hcd : (x == ("__classdict__" : Str)) = false := by decide +kernel) : wE X Ψ (.Name x pos) E S Φ :=
  wE_name i he h hN.get hv hd hcd
theorem xS_set {y : Str} {pos' : Pos} {spos : Pos} {i : Nat} (hi : Idx y X.N i) (hN : X.N.Nodup) (h : wE X Ψ e E S fun w S1 => A.nx (E.set i (some w)) S1) (hx : Loc X.env.scope y := by first | exact Or.inl rfl | exact Or.inr rfl) (hs : swapsWith e (some (.Name y pos')) spos.line X.env = pure false := by rfl) (hf : X.fn y = true ∨ X.env.scope.names.lookup y = some .local := by first | exact .inl rfl | exact .inr rfl) :
    wS X Ψ (.Assign [.Name y pos'] e spos) E S A := wS_set i hN h hi.get hx hs hf
theorem xG_name {x : Str} {w : W} {i : Nat} (hi : Idx x X.N i) (hN : X.N.Nodup) (h : ΦE (E.set i (some w)) S) (hx : Loc X.env.scope x := by first | exact Or.inl rfl | exact Or.inr rfl) (hf : X.fn x = true ∨ X.env.scope.names.lookup x = some .local := by first | exact .inl rfl | exact .inr rfl) : wG X Ψ (.Name x pos) w E S ΦE :=
  wG_name i hN h hi.get hx hf
theorem xS_par {y z : Str} {px py pt spos : Pos} {kt k2 pt2} {i j : Nat} (hi : Idx y X.N i) (hj : Idx z X.N j) (hc : X.calm = true) (hN : X.N.Nodup) (h : wE X Ψ a E S fun w S1 => wE X Ψ b E S1 fun u S2 => A.nx ((E.set i (some w)).set j (some u)) S2) (hij : i ≠ j := by decide)
    (hx : X.env.scope.names.lookup y = some .local := by rfl) (hy : X.env.scope.names.lookup z = some .local := by rfl) (hw : swappedStores [.Tuple [.Name y px, .Name z py] kt pt] (.Tuple [a, b] k2 pt2) X.env = pure (some [y, z]) := by rfl)
    (hs : swapsWithSole [.Tuple [.Name y px, .Name z py] kt pt] (.Tuple [a, b] k2 pt2) spos.line X.env = pure false := by rfl) (h1 : starEach [a, b] X.env = (false, eval a X.env) :: starEach [b] X.env := by rfl) (h2 : starEach [b] X.env = (false, eval b X.env) :: starEach [] X.env := by rfl) :
    wS X Ψ (.Assign [.Tuple [.Name y px, .Name z py] kt pt] (.Tuple [a, b] k2 pt2) spos) E S A := wS_par i j hc hN h hi.get hj.get hij hx hy hw hs h1 h2
/-! ### sides: what is asked of values, by name -/
def sB (w : W) (S : Sto) (Φ : Bool → Sto → Prop) : Prop := ∃ k, w = .bl k ∧ Φ k S
theorem sB_i {k : Bool} (h : ΦT k S) : sB (.bl k) S ΦT := ⟨k, rfl, h⟩
def sII (C : Int → Int → Prop) (f : Int → Int → W) (x y : W) (S : Sto) (Φ : W → Sto → Prop) : Prop := ∃ i j, x = .int i ∧ y = .int j ∧ C i j ∧ Φ (f i j) S
theorem sII_i {C : Int → Int → Prop} {f : Int → Int → W} {i j : Int} (hc : C i j) (h : Φ (f i j) S) : sII C f (.int i) (.int j) S Φ := ⟨i, j, rfl, rfl, hc, h⟩
def sEq (neg : Bool) (x y : W) (S : Sto) (Φ : W → Sto → Prop) : Prop := x.ok 60 = true ∧ y.ok 60 = true ∧ Φ (.bl (if neg then !eqW x y else eqW x y)) S
theorem sEq_i {x y : W} {k : Bool} (h1 : x.ok 60 = true) (h2 : y.ok 60 = true) (e : eqW x y = k) (h : Φ (.bl k) S) : sEq false x y S Φ := ⟨h1, h2, by rw [e]; exact h⟩
theorem sNe_i {x y : W} {k : Bool} (h1 : x.ok 60 = true) (h2 : y.ok 60 = true) (e : eqW x y = k) (h : Φ (.bl (!k)) S) : sEq true x y S Φ := ⟨h1, h2, by rw [e]; exact h⟩
def sIn (neg : Bool) (x y : W) (S : Sto) (Φ : W → Sto → Prop) : Prop := ∃ ws, itemsW S y = some ws ∧ x.ok 59 = true ∧ W.oks ws 59 = true ∧ Φ (.bl (if neg then !inW x ws else inW x ws)) S
theorem sIn_i {neg : Bool} {x y : W} {ws : List W} {k : Bool} (hi : itemsW S y = some ws) (h1 : x.ok 59 = true) (h2 : W.oks ws 59 = true) (e : inW x ws = k) (h : Φ (.bl (if neg then !k else k)) S) : sIn neg x y S Φ := ⟨ws, hi, h1, h2, by rw [e]; exact h⟩
def sDin (neg : Bool) (y x : W) (S : Sto) (Φ : W → Sto → Prop) : Prop := ∃ k o, x = .ref k ∧ dgetW S k y = some o ∧ Φ (.bl (if neg then !o.isSome else o.isSome)) S
theorem sDin_i {neg : Bool} {y : W} {k : Nat} {o : Option W} (hd : dgetW S k y = some o) (h : Φ (.bl (if neg then !o.isSome else o.isSome)) S) : sDin neg y (.ref k) S Φ := ⟨k, o, rfl, hd, h⟩
def sNon (neg : Bool) (x : W) (S : Sto) (Φ : W → Sto → Prop) : Prop := ∃ k, isNonW x = some k ∧ Φ (.bl (if neg then !k else k)) S
theorem sNon_i {neg : Bool} {x : W} {k : Bool} (e : isNonW x = some k) (h : Φ (.bl (if neg then !k else k)) S) : sNon neg x S Φ := ⟨k, e, h⟩
def sIx (x y : W) (S : Sto) (Φ : W → Sto → Prop) : Prop := ∃ ws i w, itemsW S x = some ws ∧ y = .int i ∧ atI ws i = some w ∧ Φ w S
theorem sIx_i {x w : W} {ws : List W} {i : Int} (hi : itemsW S x = some ws) (e : atI ws i = some w) (h : Φ w S) : sIx x (.int i) S Φ := ⟨ws, i, w, hi, rfl, e, h⟩
def sDget (x y : W) (S : Sto) (Φ : W → Sto → Prop) : Prop := ∃ k w, x = .ref k ∧ dgetW S k y = some (some w) ∧ Φ w S
theorem sDget_i {y w : W} {k : Nat} (hd : dgetW S k y = some (some w)) (h : Φ w S) : sDget (.ref k) y S Φ := ⟨k, w, rfl, hd, h⟩
def sFld (X : Cx) (f : Str) (x : W) (S : Sto) (Φ : W → Sto → Prop) : Prop := ∃ k C ws w, x = .ref k ∧ S[k]? = some (.ins C ws) ∧ Cls X.K C ∧ NoAttr X.K C f ∧ ws.lookup f = some w ∧ Φ w S
theorem sFld_i {f : Str} {k : Nat} {C : Addr} {ws : List (Str × W)} {w : W} (hs : S[k]? = some (.ins C ws)) (hl : ws.lookup f = some w) (hc : Cls X.K C) (hn : NoAttr X.K C f) (h : Φ w S) : sFld X f (.ref k) S Φ := ⟨k, C, ws, w, rfl, hs, hc, hn, hl, h⟩
def sTup (ws : List W) (S : Sto) (Φ : W → Sto → Prop) : Prop := ws.length ≤ 100000 ∧ Φ (.tup ws) S
theorem sTup_i {ws : List W} (hl : ws.length ≤ 100000) (h : Φ (.tup ws) S) : sTup ws S Φ := ⟨hl, h⟩
def sLst (ws : List W) (S : Sto) (Φ : W → Sto → Prop) : Prop := ws.length ≤ 100000 ∧ Φ (.lst ws) S
theorem sLst_i {ws : List W} (hl : ws.length ≤ 100000) (h : Φ (.lst ws) S) : sLst ws S Φ := ⟨hl, h⟩
def sLstN (ws : List W) (S : Sto) (Φ : W → Sto → Prop) : Prop := ws.length ≤ 100000 ∧ Φ (.ref S.length) (S ++ [.lst ws])
theorem sLstN_i {ws : List W} (hl : ws.length ≤ 100000) (h : Φ (.ref S.length) (S ++ [.lst ws])) : sLstN ws S Φ := ⟨hl, h⟩
def sLen (X : Cx) (w : W) (S : Sto) (Φ : W → Sto → Prop) : Prop := ∃ n : Nat, (∀ K' ns, w = .scr K' ns → K' = X.K) ∧ lenW S w = some n ∧ Φ (.int n) S
theorem sLen_i {w : W} {ws : List W} (hi : itemsW S w = some ws) (h : Φ (.int ws.length) S) : sLen X w S Φ := by
  refine ⟨ws.length, fun K' ns e => ?_, ?_, h⟩
  · subst e
    cases hi
  · cases w with
    | scr K' ns => cases hi
    | _ => exact congrArg (Option.map List.length) hi
theorem sLen_scr {ns : List Int} (h : Φ (.int ns.length) S) : sLen X (.scr X.K ns) S Φ := ⟨ns.length, fun K' ms e => by cases e; rfl, rfl, h⟩
def sTy (t : Ty → Bool) (w : W) (S : Sto) (Φ : W → Sto → Prop) : Prop := ∃ ty, tyW S w = some ty ∧ Φ (.bl (t ty)) S
theorem sTy_i {t : Ty → Bool} {w : W} {ty : Ty} (e : tyW S w = some ty) (h : Φ (.bl (t ty)) S) : sTy t w S Φ := ⟨ty, e, h⟩
def sItems (f : List W → W) (w : W) (S : Sto) (Φ : W → Sto → Prop) : Prop := ∃ ws, itemsW S w = some ws ∧ Φ (f ws) S
theorem sItems_i {f : List W → W} {w : W} {ws : List W} (e : itemsW S w = some ws) (h : Φ (f ws) S) : sItems f w S Φ := ⟨ws, e, h⟩
def sItemsN (w : W) (S : Sto) (Φ : W → Sto → Prop) : Prop := ∃ ws, itemsW S w = some ws ∧ Φ (.ref S.length) (S ++ [.lst ws])
theorem sItemsN_i {w : W} {ws : List W} (e : itemsW S w = some ws) (h : Φ (.ref S.length) (S ++ [.lst ws])) : sItemsN w S Φ := ⟨ws, e, h⟩
def sBI (w : W) (S : Sto) (Φ : W → Sto → Prop) : Prop := ∃ k, w = .bl k ∧ Φ (.int (if k then 1 else 0)) S
theorem sBI_i {k : Bool} (h : Φ (.int (if k then 1 else 0)) S) : sBI (.bl k) S Φ := ⟨k, rfl, h⟩
def sI (f : Option Int → Sto → Prop) (w : W) (S : Sto) : Prop := ∃ i, w = .int i ∧ f (some i) S
theorem sI_i {f : Option Int → Sto → Prop} {i : Int} (h : f (some i) S) : sI f (.int i) S := ⟨i, rfl, h⟩
def sCut (x : W) (l u : Option Int) (S : Sto) (Φ : W → Sto → Prop) : Prop := ∃ ws, itemsW S x = some ws ∧ (∀ y, x ≠ .tup y) ∧ Φ (.lst (cutW ws l u)) S
def sCutT (x : W) (l u : Option Int) (S : Sto) (Φ : W → Sto → Prop) : Prop := ∃ ws, x = .tup ws ∧ Φ (.tup (cutW ws l u)) S
theorem sCutT_i {ws : List W} {l u : Option Int} (h : Φ (.tup (cutW ws l u)) S) : sCutT (.tup ws) l u S Φ := ⟨ws, rfl, h⟩
theorem sCut_l {ws : List W} {l u : Option Int} (h : Φ (.lst (cutW ws l u)) S) : sCut (.lst ws) l u S Φ := ⟨ws, rfl, fun _ e => (nomatch e), h⟩
/-- a call of a def: n arguments, its promise -/
def sCall (n : Nat) (asp : ASp) (ws : List W) (S : Sto) (Φ : W → Sto → Prop) (Ψ : Value → List (Str × W) → Sto → Prop) : Prop := ws.length = n ∧ asp ws S Φ Ψ
theorem sCall_i {n : Nat} {asp : ASp} {ws : List W} {Ψ : Value → List (Str × W) → Sto → Prop} (hl : ws.length = n) (h : asp ws S Φ Ψ) : sCall n asp ws S Φ Ψ := ⟨hl, h⟩
/-! ### if -/
def sIte (k : Bool) (p q : Prop) : Prop := if k = true then p else q
theorem sIte_t {k : Bool} {p q : Prop} (e : k = true) (h : p) : sIte k p q := by unfold sIte; rw [if_pos e]; exact h
theorem sIte_f {k : Bool} {p q : Prop} (e : k = false) (h : q) : sIte k p q := by unfold sIte; rw [e]; exact h
theorem sIte_s {k : Bool} {p q : Prop} (h1 : k = true → p) (h2 : k = false → q) : sIte k p q := by
  cases k with
  | true => exact sIte_t rfl (h1 rfl)
  | false => exact sIte_f rfl (h2 rfl)
def sAnd (w : W) (S : Sto) (go : (W → Sto → Prop) → Prop) (Φ : W → Sto → Prop) : Prop := ∃ ka, w = .bl ka ∧ (if ka = true then go Φ else Φ (.bl false) S)
theorem sAnd_f {k : Bool} {go} (e : k = false) (h : Φ (.bl false) S) : sAnd (.bl k) S go Φ := ⟨k, rfl, by rw [e]; exact h⟩
theorem sAnd_t {k : Bool} {go} (e : k = true) (h : go Φ) : sAnd (.bl k) S go Φ := ⟨k, rfl, by rw [e]; exact h⟩
def sOr (w : W) (S : Sto) (go : (W → Sto → Prop) → Prop) (Φ : W → Sto → Prop) : Prop := ∃ ka, w = .bl ka ∧ (if ka = true then Φ (.bl true) S else go Φ)
theorem sOr_t {k : Bool} {go} (e : k = true) (h : Φ (.bl true) S) : sOr (.bl k) S go Φ := ⟨k, rfl, by rw [e]; exact h⟩
theorem sOr_f {k : Bool} {go} (e : k = false) (h : go Φ) : sOr (.bl k) S go Φ := ⟨k, rfl, by rw [e]; exact h⟩
theorem sAnd_p {ka : Bool} (kb : Bool) (h1 : ka = true → wE X Ψ e E S fun w S2 => w = .bl kb ∧ S2 = S) (h : Φ (.bl (ka && kb)) S) : sAnd (.bl ka) S (wE X Ψ e E S) Φ := by
  cases ka with
  | true => exact sAnd_t rfl ((h1 rfl).imp fun w S' ⟨e1, e2⟩ => by rw [e1, e2]; exact h)
  | false => exact sAnd_f rfl h
theorem sOr_p {ka : Bool} (kb : Bool) (h1 : ka = false → wE X Ψ e E S fun w S2 => w = .bl kb ∧ S2 = S) (h : Φ (.bl (ka || kb)) S) : sOr (.bl ka) S (wE X Ψ e E S) Φ := by
  cases ka with
  | true => exact sOr_t rfl h
  | false => exact sOr_f rfl ((h1 rfl).imp fun w S' ⟨e1, e2⟩ => by rw [e1, e2]; exact h)
/-! ### rules with sides -/
theorem xE_sub (h : wE X Ψ a E S fun x S1 => wE X Ψ b E S1 fun y S2 => sII (fun _ _ => True) (fun i j => .int (i - j)) x y S2 Φ) : wE X Ψ (.BinOp a .Sub b pos) E S Φ := wE_sub h
theorem xE_mod (h : wE X Ψ a E S fun x S1 => wE X Ψ b E S1 fun y S2 => sII (fun _ j => 0 < j) (fun i j => .int (i % j)) x y S2 Φ) : wE X Ψ (.BinOp a .Mod b pos) E S Φ := wE_mod h
theorem xE_fdiv (h : wE X Ψ a E S fun x S1 => wE X Ψ b E S1 fun y S2 => sII CDiv (fun i j => .int (i / j)) x y S2 Φ) : wE X Ψ (.BinOp a .FloorDiv b pos) E S Φ := wE_fdiv h
theorem xE_eq (hu : X.A.units + 65 < cLine) (h : wE X Ψ a E S fun x S1 => wE X Ψ b E S1 fun y S2 => sEq false x y S2 Φ) : wE X Ψ (.Compare a [.Eq] [b] pos) E S Φ := wE_cmpEq hu (h.imp fun x S1 h => h.imp fun y S2 h => h)
theorem xE_ne (hu : X.A.units + 65 < cLine) (h : wE X Ψ a E S fun x S1 => wE X Ψ b E S1 fun y S2 => sEq true x y S2 Φ) : wE X Ψ (.Compare a [.NotEq] [b] pos) E S Φ := wE_cmpNe hu (h.imp fun x S1 h => h.imp fun y S2 h => h)
theorem xT_eq (hu : X.A.units + 65 < cLine) (h : wE X Ψ a E S fun x S1 => wE X Ψ b E S1 fun y S2 => sEq false x y S2 fun w S => sB w S ΦT) : wT X Ψ (.Compare a [.Eq] [b] pos) E S ΦT := wT_cmpEq hu (h.imp fun x S1 h => h.imp fun y S2 ⟨h1, h2, k, e, p⟩ => ⟨h1, h2, by cases e; exact p⟩)
theorem xT_ne (hu : X.A.units + 65 < cLine) (h : wE X Ψ a E S fun x S1 => wE X Ψ b E S1 fun y S2 => sEq true x y S2 fun w S => sB w S ΦT) : wT X Ψ (.Compare a [.NotEq] [b] pos) E S ΦT := wT_cmpNe hu (h.imp fun x S1 h => h.imp fun y S2 ⟨h1, h2, k, e, p⟩ => ⟨h1, h2, by cases e; exact p⟩)
theorem xE_cmpI {op : CmpOp} {f : Int → Int → Bool} (ho : OpR X (compareOp op) (rI0 fun i j => .bl (f i j))) (h : wE X Ψ a E S fun x S1 => wE X Ψ b E S1 fun y S2 => sII (fun _ _ => True) (fun i j => .bl (f i j)) x y S2 Φ) (hm : behindInMarks op b = false := by first | exact nomark _ | rfl) : wE X Ψ (.Compare a [op] [b] pos) E S Φ :=
  wE_cmpI ho (h.imp fun x S1 h => h.imp fun y S2 ⟨i, j, e1, e2, _, p⟩ => ⟨i, j, e1, e2, p⟩) hm
theorem xT_cmpI {op : CmpOp} {f : Int → Int → Bool} (ho : OpR X (compareOp op) (rI0 fun i j => .bl (f i j))) (h : wE X Ψ a E S fun x S1 => wE X Ψ b E S1 fun y S2 => sII (fun _ _ => True) (fun i j => .bl (f i j)) x y S2 fun w S => sB w S ΦT) (hm : behindInMarks op b = false := by first | exact nomark _ | rfl) : wT X Ψ (.Compare a [op] [b] pos) E S ΦT :=
  wT_cmpI ho (h.imp fun x S1 h => h.imp fun y S2 ⟨i, j, e1, e2, _, k, e, p⟩ => ⟨i, j, e1, e2, by cases e; exact p⟩) hm
theorem xE_in (hu : X.A.units + 65 < cLine) (h : wE X Ψ a E S fun x S1 => wE X Ψ b E S1 fun y S2 => sIn false x y S2 Φ) (hm : behindInMarks .In b = false := by rfl) : wE X Ψ (.Compare a [.In] [b] pos) E S Φ := wE_in hu (h.imp fun x S1 h => h.imp fun y S2 h => h) hm
theorem xE_notIn (hu : X.A.units + 65 < cLine) (h : wE X Ψ a E S fun x S1 => wE X Ψ b E S1 fun y S2 => sIn true x y S2 Φ) (hm : behindInMarks .NotIn b = false := by rfl) : wE X Ψ (.Compare a [.NotIn] [b] pos) E S Φ := wE_notIn hu (h.imp fun x S1 h => h.imp fun y S2 h => h) hm
theorem xT_in (hu : X.A.units + 65 < cLine) (h : wE X Ψ a E S fun x S1 => wE X Ψ b E S1 fun y S2 => sIn false x y S2 fun w S => sB w S ΦT) (hm : behindInMarks .In b = false := by rfl) : wT X Ψ (.Compare a [.In] [b] pos) E S ΦT := wT_in hu (h.imp fun x S1 h => h.imp fun y S2 ⟨ws, h1, h2, h3, k, e, p⟩ => ⟨ws, h1, h2, h3, by cases e; exact p⟩) hm
theorem xT_notIn (hu : X.A.units + 65 < cLine) (h : wE X Ψ a E S fun x S1 => wE X Ψ b E S1 fun y S2 => sIn true x y S2 fun w S => sB w S ΦT) (hm : behindInMarks .NotIn b = false := by rfl) : wT X Ψ (.Compare a [.NotIn] [b] pos) E S ΦT := wT_notIn hu (h.imp fun x S1 h => h.imp fun y S2 ⟨ws, h1, h2, h3, k, e, p⟩ => ⟨ws, h1, h2, h3, by cases e; exact p⟩) hm
theorem xE_din (hu : X.A.units + 65 < cLine) (h : wE X Ψ a E S fun y S1 => wE X Ψ b E S1 fun x S2 => sDin false y x S2 Φ) (hm : behindInMarks .In b = false := by rfl) : wE X Ψ (.Compare a [.In] [b] pos) E S Φ := wE_din hu (h.imp fun x S1 h => h.imp fun y S2 h => h) hm
theorem xT_din (hu : X.A.units + 65 < cLine) (h : wE X Ψ a E S fun y S1 => wE X Ψ b E S1 fun x S2 => sDin false y x S2 fun w S => sB w S ΦT) (hm : behindInMarks .In b = false := by rfl) : wT X Ψ (.Compare a [.In] [b] pos) E S ΦT := wT_din hu (h.imp fun x S1 h => h.imp fun y S2 ⟨k, o, h1, h2, kk, e, p⟩ => ⟨k, o, h1, h2, by cases e; exact p⟩) hm
theorem xE_isN (h : wE X Ψ a E S fun x S1 => sNon false x S1 Φ) {j pos'} : wE X Ψ (.Compare a [.Is] [.Constant .none j pos'] pos) E S Φ := wE_isN (h.imp fun x S1 h => h)
theorem xE_notN (h : wE X Ψ a E S fun x S1 => sNon true x S1 Φ) {j pos'} : wE X Ψ (.Compare a [.IsNot] [.Constant .none j pos'] pos) E S Φ := wE_notN (h.imp fun x S1 h => h)
theorem xT_isN (h : wE X Ψ a E S fun x S1 => sNon false x S1 fun w S => sB w S ΦT) {j pos'} : wT X Ψ (.Compare a [.Is] [.Constant .none j pos'] pos) E S ΦT := wT_isN (h.imp fun x S1 ⟨k, h1, kk, e, p⟩ => ⟨k, h1, by cases e; exact p⟩)
theorem xT_notN (h : wE X Ψ a E S fun x S1 => sNon true x S1 fun w S => sB w S ΦT) {j pos'} : wT X Ψ (.Compare a [.IsNot] [.Constant .none j pos'] pos) E S ΦT := wT_notN (h.imp fun x S1 ⟨k, h1, kk, e, p⟩ => ⟨k, h1, by cases e; exact p⟩)
theorem xT_val (h : wE X Ψ e E S fun w S1 => sB w S1 ΦT) (he : ∀ whole, isTrue e X.env whole = (do let v ← whole; standAt e.pos; holding [v] (truthy v)) := by intro _; rfl) : wT X Ψ e E S ΦT := wT_val h he
theorem xE_not (h : wE X Ψ a E S fun w S1 => sB w S1 fun k S2 => Φ (.bl (!k)) S2) : wE X Ψ (.UnaryOp .Not a pos) E S Φ := wE_not h
theorem xE_and (h : wE X Ψ a E S fun w S1 => sAnd w S1 (wE X Ψ (.BoolOp .And (b :: rest) pos) E S1) Φ) : wE X Ψ (.BoolOp .And (a :: b :: rest) pos) E S Φ := wE_and h
theorem xE_or (h : wE X Ψ a E S fun w S1 => sOr w S1 (wE X Ψ (.BoolOp .Or (b :: rest) pos) E S1) Φ) : wE X Ψ (.BoolOp .Or (a :: b :: rest) pos) E S Φ := wE_or h
theorem xE_if (h : wT X Ψ c E S fun k S1 => sIte k (wE X Ψ a E S1 Φ) (wE X Ψ b E S1 Φ)) : wE X Ψ (.IfExp c a b pos) E S Φ := wE_if h
theorem xS_if {spos : Pos} {sts orelse : List Stmt} (h : wT X Ψ c E S fun k S1 => sIte k (wB X Ψ sts E S1 A) (wB X Ψ orelse E S1 A)) : wS X Ψ (.If c sts orelse spos) E S A := wS_if h
theorem xE_ix (h : wE X Ψ a E S fun x S1 => wE X Ψ b E S1 fun y S2 => sIx x y S2 Φ) (hs : PlainIx b := by exact fun _ _ => rfl) : wE X Ψ (.Subscript a b pos) E S Φ := wE_ix h hs
theorem xE_dget (hu : X.A.units + 65 < cLine) (h : wE X Ψ a E S fun x S1 => wE X Ψ b E S1 fun y S2 => sDget x y S2 Φ) (hs : NoSl b := by exact fun _ _ => rfl) : wE X Ψ (.Subscript a b pos) E S Φ := wE_dget hu h hs
theorem xE_fld {f : Str} (h : wE X Ψ a E S fun x S1 => sFld X f x S1 Φ) (hb : attributeBase a f X.env (eval a X.env) = eval a X.env := by rfl) : wE X Ψ (.Attribute a f pos) E S Φ := wE_fld h hb
theorem xE_tup {x1} (h : wA X Ψ es E S fun ws S1 => sTup ws S1 Φ) : wE X Ψ (.Tuple es x1 pos) E S Φ := wE_tup h
theorem xE_lst (h : wA X Ψ es E S fun ws S1 => sLst ws S1 Φ) : wE X Ψ (.List es pos) E S Φ := wE_lst h
theorem xE_lstN (h : wA X Ψ es E S fun ws S1 => sLstN ws S1 Φ) : wE X Ψ (.List es pos) E S Φ := wE_lstN h
theorem xE_len {p : Pos} (hm : X.mg "len" = none) (h : wE X Ψ e E S fun w S1 => sLen X w S1 Φ) (hg : Gl X "len" := by rfl) (he : starEach [e] X.env = (false, eval e X.env) :: starEach [] X.env := by rfl) (hpl : (backTo pos (starEach [] X.env)).any (·.1) = false := by rfl) : wE X Ψ (.Call (.Name "len" p) [e] [] pos) E S Φ := wE_len hm h hg he hpl
theorem xE_tuple {p : Pos} (hm : X.mg "tuple" = none) (h : wE X Ψ e E S fun w S1 => sItems .tup w S1 Φ) (hg : Gl X "tuple" := by rfl) (he : starEach [e] X.env = (false, eval e X.env) :: starEach [] X.env := by rfl) (hpl : (backTo pos (starEach [] X.env)).any (·.1) = false := by rfl) : wE X Ψ (.Call (.Name "tuple" p) [e] [] pos) E S Φ := wE_tuple hm h hg he hpl
theorem xE_list {p : Pos} (hm : X.mg "list" = none) (h : wE X Ψ e E S fun w S1 => sItems .lst w S1 Φ) (hg : Gl X "list" := by rfl) (he : starEach [e] X.env = (false, eval e X.env) :: starEach [] X.env := by rfl) (hpl : (backTo pos (starEach [] X.env)).any (·.1) = false := by rfl) : wE X Ψ (.Call (.Name "list" p) [e] [] pos) E S Φ := wE_list hm h hg he hpl
theorem xE_intB {p : Pos} (hm : X.mg "int" = none) (h : wE X Ψ e E S fun w S1 => sBI w S1 Φ) (hg : Gl X "int" := by rfl) (he : starEach [e] X.env = (false, eval e X.env) :: starEach [] X.env := by rfl) (hpl : (backTo pos (starEach [] X.env)).any (·.1) = false := by rfl) : wE X Ψ (.Call (.Name "int" p) [e] [] pos) E S Φ := wE_intB hm h hg he hpl
theorem xE_isi {x : Str} {p p1 : Pos} (c : Ty) (hm : X.mg "isinstance" = none) (hx : X.mg x = none) (hv : bootBuiltins x = some (.type c.nm)) (h : wE X Ψ e E S fun w S1 => sTy (fun t => t.isa c) w S1 Φ) (hc : c ≠ .non ∧ c ≠ .dict := by decide) (hg : Gl X "isinstance" := by rfl) (hgx : Gl X x := by rfl) (hn : x ≠ "__name__" := by decide +kernel) (hd : (x == ("__debug__" : Str)) = false := by decide +kernel)
    (he : starEach [e, .Name x p1] X.env = (false, eval e X.env) :: starEach [.Name x p1] X.env := by rfl) (he2 : starEach [.Name x p1] X.env = (false, eval (.Name x p1) X.env) :: starEach [] X.env := by rfl) (hpl : (backTo pos (starEach [.Name x p1] X.env)).any (·.1) = false := by rfl) : wE X Ψ (.Call (.Name "isinstance" p) [e, .Name x p1] [] pos) E S Φ := wE_isi c hm hx hv h hc hg hgx hn hd he he2 hpl
theorem wO_none {Φ : Option Int → Sto → Prop} (h : Φ none S) : wO X Ψ none E S Φ := h
theorem wO_some {Φ : Option Int → Sto → Prop} (h : wE X Ψ e E S fun w S1 => sI Φ w S1) : wO X Ψ (some e) E S Φ := h
theorem xE_slT {lo hi : Option Expr} {p2 : Pos} (h : wE X Ψ a E S fun x S1 => wO X Ψ lo E S1 fun l S2 => wO X Ψ hi E S2 fun u S3 => sCutT x l u S3 Φ) : wE X Ψ (.Subscript a (.Slice lo hi none p2) pos) E S Φ := wE_slT h
theorem xE_call {x : Str} {p : Pos} (F : CFn X.prog X.w X.K X.mg X.base x k n asp) (hr : Room k X.A) (h : wA X Ψ (e :: es) E S fun ws S1 => sCall n asp ws S1 Φ fun cls fs S2 => Ψ cls fs E S2) (hg : Gl X x := by rfl)
    (hdb : (x == ("__debug__" : Str)) = false := by decide +kernel) (he : starEach (e :: es) X.env = (false, eval e X.env) :: starEach es X.env := by rfl) (hpl : (backTo pos (starEach es X.env)).any (·.1) = false := by rfl) : wE X Ψ (.Call (.Name x p) (e :: es) [] pos) E S Φ := wE_call F hr h hg hdb he hpl
def sMeth (C : Addr) (m : Str) (x : W) (S : Sto) (go : Nat → Prop) : Prop := ∃ j fs, x = .ref j ∧ S[j]? = some (.ins C fs) ∧ fs.lookup m = none ∧ go j
theorem sMeth_i {C : Addr} {m : Str} {go : Nat → Prop} {j : Nat} {fs : List (Str × W)} (h1 : S[j]? = some (.ins C fs)) (h2 : fs.lookup m = none) (h : go j) : sMeth C m (.ref j) S go := ⟨j, fs, rfl, h1, h2, h⟩
def sCallM (n : Nat) (asp : ASp) (j : Nat) (ws : List W) (S : Sto) (Φ : W → Sto → Prop) (Ψ : Value → List (Str × W) → Sto → Prop) : Prop := ws.length + 1 = n ∧ asp (.ref j :: ws) S Φ Ψ
theorem sCallM_i {n : Nat} {asp : ASp} {j : Nat} {ws : List W} {Ψ : Value → List (Str × W) → Sto → Prop} (hl : ws.length + 1 = n) (h : asp (.ref j :: ws) S Φ Ψ) : sCallM n asp j ws S Φ Ψ := ⟨hl, h⟩
theorem xE_meth {pl : Sem Bool} {m : Str} {C : Addr} {apos : Pos} (hc : Cls X.K C) (F : CMeth X.prog X.w X.K X.mg X.base C m k n asp) (hr : Room k X.A)
    (h : wE X Ψ o E S fun x S1 => sMeth C m x S1 fun j => wA X Ψ (e :: es) E S1 fun ws S2 => sCallM n asp j ws S2 Φ fun cls fs S3 => Ψ cls fs E S3)
    (hst : starEach (e :: es) X.env = (false, eval e X.env) :: starEach es X.env := by rfl) (hpl : (backTo pos (starEach es X.env)).any (·.1) = false := by rfl)
    (ht : eval (.Call (.Attribute o m apos) (e :: es) [] pos) X.env = (do
      let ov ← eval o X.env
      standAt apos.atName
      let (f, first) ← holding [ov] (getMethod ov m pl)
      callWith pos f first (backTo pos (starEach (e :: es) X.env)) (backToKw pos (keywordEach [] X.env))) := by rfl) : wE X Ψ (.Call (.Attribute o m apos) (e :: es) [] pos) E S Φ := wE_meth hc F hr h hst hpl ht
theorem xE_make {x : Str} {C : Addr} {p : Pos} (F : CMake X.prog X.w X.K X.mg X.base x C k n asp) (hr : Room (k + 1) X.A)
    (h : wA X Ψ (e :: es) E S fun ws S1 => sCallM n asp S1.length ws (S1 ++ [.ins C []]) (fun w S2 => w = .non ∧ Φ (.ref S1.length) S2) fun cls fs S2 => Ψ cls fs E S2) (hg : Gl X x := by rfl)
    (hdb : (x == ("__debug__" : Str)) = false := by decide +kernel) (he : starEach (e :: es) X.env = (false, eval e X.env) :: starEach es X.env := by rfl) (hpl : (backTo pos (starEach es X.env)).any (·.1) = false := by rfl) : wE X Ψ (.Call (.Name x p) (e :: es) [] pos) E S Φ := wE_make F hr h hg hdb he hpl
def sApp (x w : W) (S : Sto) (Φ : W → Sto → Prop) : Prop := ∃ k ws, x = .ref k ∧ S[k]? = some (.lst ws) ∧ ws.length ≤ 100000 ∧ Φ .non (S.set k (.lst (ws ++ [w])))
theorem sApp_i {w : W} {k : Nat} {ws : List W} (h1 : S[k]? = some (.lst ws)) (h2 : ws.length ≤ 100000) (h : Φ .non (S.set k (.lst (ws ++ [w])))) : sApp (.ref k) w S Φ := ⟨k, ws, rfl, h1, h2, h⟩
def sAppO (x : W) (S : Sto) (go : Prop) : Prop := (∃ k ws, x = .ref k ∧ S[k]? = some (.lst ws)) ∧ go
theorem sAppO_i {go : Prop} {k : Nat} {ws : List W} (h1 : S[k]? = some (.lst ws)) (h : go) : sAppO (.ref k) S go := ⟨⟨k, ws, rfl, h1⟩, h⟩
theorem xE_append {apos cpos : Pos} (h : wE X Ψ o E S fun x S1 => sAppO x S1 (wE X Ψ e E S1 fun w S2 => sApp x w S2 Φ))
    (hbase : attributeBase o "append" X.env (eval o X.env) = eval o X.env := by rfl)
    (hfew : ((backTo cpos (starEach [e] X.env)).all (fun x => !x.1) && (backToKw cpos (keywordEach [] X.env)).all (fun x => x.1.isSome)
      && decide (([e] : List Expr).length + ([] : List Keyword).length + (if ([] : List Keyword).isEmpty then 0 else 1) < 30)) = true := by rfl)
    (hline : (apos.endLine == cpos.line) = true := by rfl) (hs : starEach [e] X.env = (false, eval e X.env) :: starEach [] X.env := by rfl) (hplain : (backTo cpos (starEach [] X.env)).any (·.1) = false := by rfl) : wE X Ψ (.Call (.Attribute o "append" apos) [e] [] cpos) E S Φ := wE_append h hbase hfew hline hs hplain
/-! ### + -/
def sAdd (x y : W) (S : Sto) (Φ : W → Sto → Prop) : Prop := sII (fun _ _ => True) (fun i j => .int (i + j)) x y S Φ ∨ (∃ i j : Str, x = .str i ∧ y = .str j ∧ i.length + j.length ≤ sizeLine ∧ Φ (.str (i ++ j)) S)
theorem sAdd_I {i j : Int} (h : Φ (.int (i + j)) S) : sAdd (.int i) (.int j) S Φ := .inl (sII_i trivial h)
theorem sAdd_S {i j : Str} (hl : i.length + j.length ≤ sizeLine) (h : Φ (.str (i ++ j)) S) : sAdd (.str i) (.str j) S Φ := .inr ⟨i, j, rfl, rfl, hl, h⟩
theorem xE_add (h : wE X Ψ a E S fun x S1 => wE X Ψ b E S1 fun y S2 => sAdd x y S2 Φ) : wE X Ψ (.BinOp a .Add b pos) E S Φ :=
  wE_op (g := sAdd) (OpR.or op_add op_add_str) (fun M H S v u x y Φ r a1 a2 g Q q => by
    rcases g with ⟨i, j, e1, e2, _, p⟩ | ⟨i, j, e1, e2, hl, p⟩
    · subst e1; subst e2; cases a1; cases a2
      exact .inl ⟨i, j, rfl, rfl, q _ _ M S H p r (.int _) (Step.refl _ _)⟩
    · subst e1; subst e2; cases a1; cases a2
      exact .inr ⟨i, j, rfl, rfl, hl, q _ _ M S H p r (.str _) (Step.refl _ _)⟩) h
def sCat (x y : W) (S : Sto) (Φ : W → Sto → Prop) : Prop := ∃ xs ys, itemsW S x = some xs ∧ itemsW S y = some ys ∧ (∀ z, x ≠ .tup z) ∧ (∀ z, y ≠ .tup z) ∧ xs.length + ys.length ≤ 100000 ∧ Φ (.lst (xs ++ ys)) S
theorem sCat_i {xs ys : List W} (hl : xs.length + ys.length ≤ 100000) (h : Φ (.lst (xs ++ ys)) S) : sCat (.lst xs) (.lst ys) S Φ := ⟨xs, ys, rfl, rfl, fun _ e => (nomatch e), fun _ e => (nomatch e), hl, h⟩
theorem xE_cat (h : wE X Ψ a E S fun x S1 => wE X Ψ b E S1 fun y S2 => sCat x y S2 Φ) : wE X Ψ (.BinOp a .Add b pos) E S Φ :=
  wE_op (g := sCat) op_cat (fun M H S v u x y Φ r a1 a2 ⟨xs, ys, i1, i2, n1, n2, hl, p⟩ Q q => by
    obtain ⟨p1, v1, rfl, rv1, k1⟩ := seq_of (K := X.K) r a1 i1
    obtain ⟨p2, v2, rfl, rv2, k2⟩ := seq_of (K := X.K) r a2 i2
    rcases k1 with ⟨_, h1⟩ | ⟨_, z, ez⟩
    · rcases k2 with ⟨_, h2⟩ | ⟨_, z, ez⟩
      · refine ⟨p1, p2, v1, v2, rfl, rfl, h1, h2, Nat.le_trans (by rw [rv1.length, rv2.length]; exact hl) (by decide), fun l hl => ?_⟩
        exact q _ _ M S _ p (r.tmp hl) (lq_new r hl (rv1.append rv2)) (step_tmp r hl)
      · exact absurd ez (n2 z)
    · exact absurd ez (n1 z)) h
def sRep (x y : W) (S : Sto) (Φ : W → Sto → Prop) : Prop := ∃ xs k, itemsW S x = some xs ∧ (∀ z, x ≠ .tup z) ∧ y = .int k ∧ 0 ≤ k ∧ k ≤ 1000 ∧ xs.length ≤ 1000 ∧ Φ (.lst (List.replicate k.toNat xs).flatten) S
theorem sRep_i {xs : List W} {k : Int} (h0 : 0 ≤ k) (h1 : k ≤ 1000) (hl : xs.length ≤ 1000) (h : Φ (.lst (List.replicate k.toNat xs).flatten) S) : sRep (.lst xs) (.int k) S Φ := ⟨xs, k, rfl, fun _ e => (nomatch e), rfl, h0, h1, hl, h⟩
theorem vws_rep {M : Lay} {H : Hp} {vs : List V} {ws : List W} (h : VWs M H vs ws) : ∀ n : Nat, VWs M H (List.replicate n vs).flatten (List.replicate n ws).flatten
  | 0 => .nil
  | n + 1 => by
    rw [List.replicate_succ, List.replicate_succ, List.flatten_cons, List.flatten_cons]
    exact h.append (vws_rep h n)
theorem xE_rep (h : wE X Ψ a E S fun x S1 => wE X Ψ b E S1 fun y S2 => sRep x y S2 Φ) : wE X Ψ (.BinOp a .Mult b pos) E S Φ :=
  wE_op (g := sRep) op_rep (fun M H S v u x y Φ r a1 a2 ⟨xs, k, i1, n1, e, k0, k1, hl, p⟩ Q q => by
    subst e; cases a2
    obtain ⟨p1, v1, rfl, rv1, kk⟩ := seq_of (K := X.K) r a1 i1
    rcases kk with ⟨_, h1⟩ | ⟨_, z, ez⟩
    · refine ⟨p1, k, v1, rfl, rfl, h1, by omega, by omega, ?_, fun l hl => ?_⟩
      · rw [rv1.length]
        have : k.toNat ≤ 1000 := by omega
        calc xs.length * k.toNat ≤ 1000 * 1000 := Nat.mul_le_mul hl this
          _ ≤ sizeLine := by decide
      · exact q _ _ M S _ p (r.tmp hl) (lq_new r hl (vws_rep rv1 _)) (step_tmp r hl)
    · exact absurd ez (n1 z)) h
/-! ### fields put, lists of objects -/
def sPut (X : Cx) (f : Str) (x w : W) (S : Sto) (Φ : Sto → Prop) : Prop := ∃ k C S3, x = .ref k ∧ fputW S k f w = some (C, S3) ∧ Cls X.K C ∧ NoAttr X.K C f ∧ Φ S3
theorem sPut_i {f : Str} {k : Nat} {C : Addr} {ws : List (Str × W)} {w : W} {Φ : Sto → Prop} (hs : S[k]? = some (.ins C ws)) (hl : ws.length < 1000) (hc : Cls X.K C) (hn : NoAttr X.K C f) (h : Φ (S.set k (.ins C (putFW f w ws)))) : sPut X f (.ref k) w S Φ :=
  ⟨k, C, _, rfl, by unfold fputW; rw [hs]; exact if_pos hl, hc, hn, h⟩
theorem xS_fld {f : Str} {pos' spos : Pos} (h : wE X Ψ e E S fun w S1 => wE X Ψ o E S1 fun x S2 => sPut X f x w S2 fun S3 => A.nx E S3) (hs : swapsWith e (some (.Attribute o f pos')) spos.line X.env = pure false := by rfl) : wS X Ψ (.Assign [.Attribute o f pos'] e spos) E S A := wS_fld h hs
theorem xG_fld {f : Str} {w : W} (h : wE X Ψ o E S fun x S1 => sPut X f x w S1 fun S2 => ΦE E S2) : wG X Ψ (.Attribute o f pos) w E S ΦE := wG_fld h
def sDput (x y w : W) (S : Sto) (Φ : Sto → Prop) : Prop := ∃ k S4, x = .ref k ∧ dlenW S k ≤ 100000 ∧ dputW S k y w = some S4 ∧ Φ S4
theorem sDput_i {y w : W} {k : Nat} {S4 : Sto} {Φ : Sto → Prop} (h1 : dlenW S k ≤ 100000) (h2 : dputW S k y w = some S4) (h : Φ S4) : sDput (.ref k) y w S Φ := ⟨k, S4, rfl, h1, h2, h⟩
theorem xS_dput {pos' spos : Pos} (hu : X.A.units + 65 < cLine) (h : wE X Ψ e E S fun w S1 => wE X Ψ o E S1 fun x S2 => wE X Ψ a E S2 fun y S3 => sDput x y w S3 fun S4 => A.nx E S4) (hs : swapsWith e (some (.Subscript o a pos')) spos.line X.env = pure false := by rfl) : wS X Ψ (.Assign [.Subscript o a pos'] e spos) E S A := wS_dput hu h hs
theorem nth_new {S T : Sto} {i : Nat} : (S ++ T)[S.length + i]? = T[i]? := by
  rw [List.getElem?_append_right (Nat.le_add_right _ _), Nat.add_sub_cancel_left]
theorem nth_new0 {S T : Sto} : (S ++ T)[S.length]? = T[0]? := nth_new (i := 0)
theorem set_new {S T : Sto} {i : Nat} {o : O} : (S ++ T).set (S.length + i) o = S ++ T.set i o := by
  rw [List.set_append_right _ _ (Nat.le_add_right _ _), Nat.add_sub_cancel_left]
theorem set_new0 {S T : Sto} {o : O} : (S ++ T).set S.length o = S ++ T.set 0 o := set_new (i := 0)
/-! ### list comprehensions that change nothing -/
/-- one turn, its test, its value -/
def TurnP (X : Cx) (scope : Scope) (f : IfK) (elt : Expr) (E2 : AEnv) (S : Sto) (p : Bool) (y : W) : Prop := match f with
  | .no => p = true ∧ ∀ s H0 C cl fp, wE (Cx.bk X scope s H0 C cl fp) nox elt E2 S fun w S3 => w = y ∧ S3 = S
  | .one c => (∀ s H0 C cl fp, wT (Cx.bk X scope s H0 C cl fp) nox c E2 S fun k S3 => k = p ∧ S3 = S) ∧ (p = true → ∀ s H0 C cl fp, wE (Cx.bk X scope s H0 C cl fp) nox elt E2 S fun w S3 => w = y ∧ S3 = S)
def sLc (X : Cx) (scope : Scope) (f : IfK) (elt : Expr) (j : Nat) (E : AEnv) (ws : List W) (still : Sto → Prop) (S : Sto) (Φ : List W → Sto → Prop) : Prop :=
  still S ∧ ws.length ≤ 100000 ∧ ∃ ts : List (Bool × W), ts.length = ws.length ∧ (∀ (i : Nat) (w : W) (t : Bool × W), ws[i]? = some w → ts[i]? = some t → TurnP X scope f elt ((E.set j none).set j (some w)) S t.1 t.2) ∧ Φ ((ts.filter (·.1)).map (·.2)) S
theorem sLc_run {scope : Scope} {f : IfK} {elt : Expr} {j : Nat} {ws : List W} {still : Sto → Prop} {Φ : List W → Sto → Prop} (h : sLc X scope f elt j E ws still S Φ) :
    ∃ I : Nat → List W → Sto → Prop, I 0 [] S ∧ (∀ i acc S', I i acc S' → still S' ∧ acc.length ≤ 100000) ∧
      (∀ i w acc S', ws[i]? = some w → I i acc S' → Turn1 X scope f elt ((E.set j none).set j (some w)) S' (fun y S4 => I (i + 1) (acc ++ [y]) S4) fun S3 => I (i + 1) acc S3) ∧ ∀ acc S', I ws.length acc S' → Φ acc S' := by
  obtain ⟨h1, h2, ts, hl, ht, hd⟩ := h
  refine ⟨fun i acc S' => S' = S ∧ acc = ((ts.take i).filter (·.1)).map (·.2), ⟨rfl, rfl⟩, ?_, ?_, ?_⟩
  · rintro i acc S' ⟨rfl, rfl⟩
    refine ⟨h1, ?_⟩
    rw [List.length_map]
    exact Nat.le_trans (List.length_filter_le _ _) (by rw [List.length_take]; omega)
  · rintro i w acc S' hw ⟨rfl, rfl⟩
    have hi : i < ts.length := by
      rw [hl]
      exact (List.getElem?_eq_some_iff.mp hw).1
    obtain ⟨t, hts⟩ : ∃ t, ts[i]? = some t := ⟨_, List.getElem?_eq_getElem hi⟩
    have tk : ts.take (i + 1) = ts.take i ++ [t] := by
      rw [List.take_add_one, hts]
      rfl
    have t' := ht i w t hw hts
    have yes : t.1 = true → S' = S' ∧ ((ts.take i).filter (·.1)).map (·.2) ++ [t.2] = ((ts.take (i + 1)).filter (·.1)).map (·.2) := fun hp => by
      refine ⟨rfl, ?_⟩
      rw [tk, List.filter_append, List.map_append]
      congr 1
      rw [List.filter_cons_of_pos (by exact hp)]
      rfl
    have no : t.1 = false → S' = S' ∧ ((ts.take i).filter (·.1)).map (·.2) = ((ts.take (i + 1)).filter (·.1)).map (·.2) := fun hp => by
      refine ⟨rfl, ?_⟩
      rw [tk, List.filter_append, List.filter_cons_of_neg (by rw [hp]; exact Bool.false_ne_true)]
      simp
    cases f with
    | no =>
      obtain ⟨hp, t'⟩ := t'
      exact fun s H0 C cl fp => (t' s H0 C cl fp).imp fun y S4 ⟨e1, e2⟩ => by subst e1; subst e2; exact yes hp
    | one c =>
      obtain ⟨t1, t2⟩ := t'
      refine fun s H0 C cl fp => (t1 s H0 C cl fp).imp fun k S4 ⟨e1, e2⟩ => ?_
      subst e2
      cases hk : k with
      | true =>
        rw [if_pos rfl]
        exact fun s H0 C cl fp => (t2 (by rw [← e1]; exact hk) s H0 C cl fp).imp fun y S4 ⟨e3, e4⟩ => by subst e3; subst e4; exact yes (by rw [← e1]; exact hk)
      | false =>
        rw [if_neg Bool.false_ne_true]
        exact no (by rw [← e1]; exact hk)
  · rintro acc S' ⟨rfl, rfl⟩
    rw [← hl, List.take_length]
    exact hd
theorem sLc_i {α : Type} {scope : Scope} {f : IfK} {elt : Expr} {j : Nat} {still : Sto → Prop} {ΦL : List W → Sto → Prop} {xs : List α} {enc : α → W} {p : α → Bool} {g : α → W} (hs : still S) (hl : xs.length ≤ 100000)
    (turn : ∀ x, x ∈ xs → TurnP X scope f elt ((E.set j none).set j (some (enc x))) S (p x) (g x)) (h : ΦL ((xs.filter p).map g) S) : sLc X scope f elt j E (xs.map enc) still S ΦL := by
  refine ⟨hs, by rw [List.length_map]; exact hl, xs.map fun x => (p x, g x), by simp, fun i w t h1 h2 => ?_, ?_⟩
  · rw [List.getElem?_map] at h1 h2
    cases e : xs[i]? with
    | none => rw [e] at h1; cases h1
    | some x =>
      rw [e] at h1 h2
      cases h1; cases h2
      exact turn x (List.mem_of_getElem? e)
  · have e : ((xs.map fun x => (p x, g x)).filter (·.1)).map (·.2) = (xs.filter p).map g := by
      rw [List.filter_map, List.map_map]
      rfl
    rw [e]
    exact h
theorem TurnP.one_i {scope : Scope} {elt : Expr} {E2 : AEnv} {p : Bool} {y : W} (h1 : ∀ s H0 C cl fp, wT (Cx.bk X scope s H0 C cl fp) nox c E2 S fun k S3 => k = p ∧ S3 = S) (h2 : p = true → ∀ s H0 C cl fp, wE (Cx.bk X scope s H0 C cl fp) nox elt E2 S fun w S3 => w = y ∧ S3 = S) : TurnP X scope (.one c) elt E2 S p y := ⟨h1, h2⟩
theorem TurnP.no_i {scope : Scope} {elt : Expr} {E2 : AEnv} {y : W} (h2 : ∀ s H0 C cl fp, wE (Cx.bk X scope s H0 C cl fp) nox elt E2 S fun w S3 => w = y ∧ S3 = S) : TurnP X scope .no elt E2 S true y := ⟨rfl, h2⟩
/-! ### what is walked -/
variable {tg iter : Expr} {ΦI : List W → (Sto → Prop) → Sto → Prop}
def sR1 (y : W) (S : Sto) (Φ : List W → (Sto → Prop) → Sto → Prop) : Prop := ∃ j : Int, y = .int j ∧ -(2 ^ 62) ≤ j ∧ j < 2 ^ 62 ∧ Φ (rangeW 0 j.toNat) (fun _ => True) S
theorem sR1_i {j : Int} (h1 : -100000 ≤ j) (h2 : j ≤ 100000) (h : ΦI (rangeW 0 j.toNat) (fun _ => True) S) : sR1 (.int j) S ΦI := ⟨j, rfl, by omega, by omega, h⟩
def sR2 (x y : W) (S : Sto) (Φ : List W → (Sto → Prop) → Sto → Prop) : Prop := ∃ i j : Int, x = .int i ∧ y = .int j ∧ (-(2 ^ 62) ≤ i ∧ i < 2 ^ 62 ∧ -(2 ^ 62) ≤ j ∧ j < 2 ^ 62) ∧ Φ (rangeW i (j - i).toNat) (fun _ => True) S
theorem sR2_i {i j : Int} (h1 : -100000 ≤ i) (h2 : i ≤ 100000) (h3 : -100000 ≤ j) (h4 : j ≤ 100000) (h : ΦI (rangeW i (j - i).toNat) (fun _ => True) S) : sR2 (.int i) (.int j) S ΦI := ⟨i, j, rfl, rfl, ⟨by omega, by omega, by omega, by omega⟩, h⟩
def sWT (y : W) (S : Sto) (Φ : List W → (Sto → Prop) → Sto → Prop) : Prop := ∃ ws, y = .tup ws ∧ Φ ws (fun _ => True) S
theorem sWT_i {ws : List W} (h : ΦI ws (fun _ => True) S) : sWT (.tup ws) S ΦI := ⟨ws, rfl, h⟩
def sWL (y : W) (S : Sto) (Φ : List W → (Sto → Prop) → Sto → Prop) : Prop := ∃ ws, itemsW S y = some ws ∧ (∀ z, y ≠ .tup z) ∧ Φ ws (stillW y ws) S
theorem sWL_l {ws : List W} (h : ΦI ws (fun _ => True) S) : sWL (.lst ws) S ΦI := ⟨ws, rfl, fun _ e => (nomatch e), h⟩
theorem sWL_r {k : Nat} {ws : List W} (e : S[k]? = some (.lst ws)) (h : ΦI ws (stillW (.ref k) ws) S) : sWL (.ref k) S ΦI := ⟨ws, by show (match S[k]? with | some (.lst ws) => some ws | _ => none) = some ws; rw [e], fun _ e => (nomatch e), h⟩
theorem xI_list (h : wE X Ψ iter E S fun y S1 => sWL y S1 ΦI) : wI X Ψ tg iter E S ΦI := wI_list h
theorem xI_tup (h : wE X Ψ iter E S fun y S1 => sWT y S1 ΦI) : wI X Ψ tg iter E S ΦI := wI_tup h
theorem xI_range1 {p : Pos} (hm : X.mg "range" = none) (h : wE X Ψ a E S fun y S1 => sR1 y S1 ΦI) (hg : Gl X "range" := by rfl) (hs : starEach [a] X.env = [(false, eval a X.env)] := by rfl) : wI X Ψ tg (.Call (.Name "range" p) [a] [] pos) E S ΦI := wI_range1 hm h hg hs
theorem xI_range2 {p : Pos} (hm : X.mg "range" = none) (h : wE X Ψ a E S fun x S1 => wE X Ψ b E S1 fun y S2 => sR2 x y S2 ΦI) (hg : Gl X "range" := by rfl) (hs : starEach [a, b] X.env = [(false, eval a X.env), (false, eval b X.env)] := by rfl) (hs2 : starEach [b] X.env = [(false, eval b X.env)] := by rfl)
    (hs3 : starEach [a, b] X.env = (false, eval a X.env) :: starEach [b] X.env := by rfl) : wI X Ψ tg (.Call (.Name "range" p) [a, b] [] pos) E S ΦI := wI_range2 hm h hg hs hs2 hs3
def sWE (y : W) (S : Sto) (Φ : List W → (Sto → Prop) → Sto → Prop) : Prop := ∃ ws, itemsW S y = some ws ∧ (∀ z, y ≠ .tup z) ∧ Φ (enumW 0 ws) (stillW y ws) S
theorem sWE_l {ws : List W} (h : ΦI (enumW 0 ws) (fun _ => True) S) : sWE (.lst ws) S ΦI := ⟨ws, rfl, fun _ e => (nomatch e), h⟩
theorem xI_enum {p tpos : Pos} {elts : List Expr} {kk : Nat} (hm : X.mg "enumerate" = none) (h : wE X Ψ a E S fun y S1 => sWE y S1 ΦI) (hg : Gl X "enumerate" := by rfl) (hs : starEach [a] X.env = [(false, eval a X.env)] := by rfl) : wI X Ψ (.Tuple elts kk tpos) (.Call (.Name "enumerate" p) [a] [] pos) E S ΦI := wI_enum hm h hg hs
theorem xE_lc {x : Str} {px : Pos} {scope : Scope} {elt iter : Expr} {j : Nat} (f : IfK) (hj : Idx x X.N j) (hc : X.calm = true) (hN : X.N.Nodup) (ok : BlkOk X.N X.env.scope scope [(x, j)])
    (h : wI X Ψ (.Name x px) iter E S fun ws still S1 => sLc X scope f elt j E ws still S1 fun acc S' => Φ (.lst acc) S')
    (hx : ∀ (s : Shared) (H : Hp) (C : Addr) (cl : List (Str × Addr)) (fp : List Addr), Loc (Cx.bk X scope s H C cl fp).env.scope x ∧ ((Cx.bk X scope s H C cl fp).fn x = true ∨ (Cx.bk X scope s H C cl fp).env.scope.names.lookup x = some .local) := by intros; exact ⟨by first | exact Or.inl rfl | exact Or.inr rfl, by first | exact Or.inl rfl | exact Or.inr rfl⟩)
    (hs : ∀ x, foldedSetIterable iter X.env x = pure x := by intro _; rfl) : wE X Ψ (.ListComp elt [⟨.Name x px, iter, f.exs, 0⟩] scope pos) E S Φ :=
  wE_lcF j f hc hN ok ⟨fun M σ H r ev xo R g => h.run M σ H r ev xo R fun J vs ys ws still M2 S2 H2 q => g J vs ys ws still M2 S2 H2 (sLc_run q)⟩ hx hs
theorem xS_lc {x y : Str} {px py : Pos} {scope : Scope} {elt iter : Expr} {i j : Nat} (f : IfK) (hy : Idx y X.N i) (hj : Idx x X.N j) (hc : X.calm = true) (hN : X.N.Nodup) (ok : BlkOk X.N X.env.scope scope [(x, j)])
    (h : wI X Ψ (.Name x px) iter E S fun ws still S1 => sLc X scope f elt j E ws still S1 fun acc S' => A.nx (E.set i (some (.lst acc))) S')
    {epos spos : Pos} (hsw : swapsWith (.ListComp elt [⟨.Name x px, iter, f.exs, 0⟩] scope epos) (some (.Name y py)) spos.line X.env = pure true) (hyl : X.env.scope.names.lookup y = some .local := by rfl)
    (hx : ∀ (s : Shared) (H : Hp) (C : Addr) (cl : List (Str × Addr)) (fp : List Addr), Loc (Cx.bk X scope s H C cl fp).env.scope x ∧ ((Cx.bk X scope s H C cl fp).fn x = true ∨ (Cx.bk X scope s H C cl fp).env.scope.names.lookup x = some .local) := by intros; exact ⟨by first | exact Or.inl rfl | exact Or.inr rfl, by first | exact Or.inl rfl | exact Or.inr rfl⟩)
    (hs : ∀ x, foldedSetIterable iter X.env x = pure x := by intro _; rfl) : wS X Ψ (.Assign [.Name y py] (.ListComp elt [⟨.Name x px, iter, f.exs, 0⟩] scope epos) spos) E S A :=
  wS_setLcF i j f hc hN ok ⟨fun M σ H r ev xo R g => h.run M σ H r ev xo R fun J vs ys ws still M2 S2 H2 q => g J vs ys ws still M2 S2 H2 (sLc_run q)⟩ hsw hy.get hyl hx hs
theorem Room.u65 {k : Nat} {A : Around} (r : Room k A) : A.units + 65 < cLine := by
  have := r.un
  omega
def sAndW (k : Bool) (go : (Bool → Sto → Prop) → Prop) (S : Sto) (Φ : Bool → Sto → Prop) : Prop := if k = true then go Φ else Φ false S
theorem sAndW_f {k : Bool} {go} (e : k = false) (h : ΦT false S) : sAndW k go S ΦT := by
  unfold sAndW
  rw [e]
  exact h
theorem sAndW_t {k : Bool} {go} (e : k = true) (h : go ΦT) : sAndW k go S ΦT := by
  unfold sAndW
  rw [e]
  exact h
theorem wW.imp {Φ' : Bool → Sto → Prop} (h : wW X Ψ e E S ΦT) (g : ∀ w S', ΦT w S' → Φ' w S') : wW X Ψ e E S Φ' :=
  ⟨fun M σ H r ev x Q q => h.run M σ H r ev x Q fun k M2 S2 H2 p r2 s2 => q k M2 S2 H2 (g _ _ p) r2 s2⟩
theorem sAndW_p {ka : Bool} (kb : Bool) (h1 : ka = true → wW X Ψ e E S fun w S2 => w = kb ∧ S2 = S) (h : ΦT (ka && kb) S) : sAndW ka (wW X Ψ e E S) S ΦT := by
  cases ka with
  | true => exact sAndW_t rfl ((h1 rfl).imp fun w S' ⟨e1, e2⟩ => by rw [e1, e2]; exact h)
  | false => exact sAndW_f rfl h
def sOrW (k : Bool) (go : (Bool → Sto → Prop) → Prop) (S : Sto) (Φ : Bool → Sto → Prop) : Prop := if k = true then Φ true S else go Φ
theorem sOrW_t {k : Bool} {go} (e : k = true) (h : ΦT true S) : sOrW k go S ΦT := by
  unfold sOrW
  rw [e]
  exact h
theorem sOrW_f {k : Bool} {go} (e : k = false) (h : go ΦT) : sOrW k go S ΦT := by
  unfold sOrW
  rw [e]
  exact h
theorem sOrW_p {ka : Bool} (kb : Bool) (h1 : ka = false → wW X Ψ e E S fun w S2 => w = kb ∧ S2 = S) (h : ΦT (ka || kb) S) : sOrW ka (wW X Ψ e E S) S ΦT := by
  cases ka with
  | true => exact sOrW_t rfl h
  | false => exact sOrW_f rfl ((h1 rfl).imp fun w S' ⟨e1, e2⟩ => by rw [e1, e2]; exact h)
theorem xW_and (h : wT X Ψ a E S fun k S1 => sAndW k (wW X Ψ (.BoolOp .And (b :: rest) pos) E S1) S1 ΦT) : wW X Ψ (.BoolOp .And (a :: b :: rest) pos) E S ΦT := wW_and h
theorem xW_or (h : wT X Ψ a E S fun k S1 => sOrW k (wW X Ψ (.BoolOp .Or (b :: rest) pos) E S1) S1 ΦT) : wW X Ψ (.BoolOp .Or (a :: b :: rest) pos) E S ΦT := wW_or h
/-- a <= b <= c -/
def sChain (g : Int → Int → Bool) (go : (W → Sto → Prop) → Prop) (f : Int → Int → Bool) (x y : W) (S : Sto) (Φ : W → Sto → Prop) : Prop := ∃ i j, x = .int i ∧ y = .int j ∧ if f i j = true then go (fun z S3 => ∃ k, z = .int k ∧ Φ (.bl (g j k)) S3) else Φ (.bl false) S
theorem sChain_p {f g : Int → Int → Bool} {i j : Int} (k : Int) (h1 : wE X Ψ c E S fun z S3 => z = .int k ∧ S3 = S) (h : Φ (.bl (f i j && g j k)) S) : sChain g (wE X Ψ c E S) f (.int i) (.int j) S Φ := by
  refine ⟨i, j, rfl, rfl, ?_⟩
  cases e : f i j with
  | true =>
    rw [e] at h
    rw [if_pos rfl]
    exact h1.imp fun z S3 ⟨e1, e2⟩ => ⟨k, e1, by rw [e2]; exact h⟩
  | false =>
    rw [e] at h
    rw [if_neg Bool.false_ne_true]
    exact h
theorem xE_chain {op op' : CmpOp} {f g : Int → Int → Bool} (ho : OpR X (compareOp op) (rI0 fun i j => .bl (f i j))) (ho' : OpR X (compareOp op') (rI0 fun i j => .bl (g i j)))
    (h : wE X Ψ a E S fun x S1 => wE X Ψ b E S1 fun y S2 => sChain g (wE X Ψ c E S2) f x y S2 Φ) (hm : lastMarks [op, op'] [b, c] = false := by with_unfolding_all rfl) : wE X Ψ (.Compare a [op, op'] [b, c] pos) E S Φ := wE_chainI ho ho' h hm
/-! ### the module's numbers and texts -/
def MgI (mg : Str → Option Value) (x : Str) (i : Int) : Prop := ∃ t, mg x = some (.int i t)
def MgS (mg : Str → Option Value) (x : Str) (i : Str) : Prop := ∃ t, mg x = some (.str i t)
theorem xE_globI {x : Str} {i : Int} (m : MgI X.mg x i) (h : Φ (.int i) S) (hg : Gl X x := by rfl) (hd : (x == ("__debug__" : Str)) = false := by decide +kernel) : wE X Ψ (.Name x pos) E S Φ := by
  obtain ⟨t, m⟩ := m
  exact wE_glob (v := .int i) m ⟨t, rfl⟩ rfl h hg hd
theorem xE_globS {x : Str} {i : Str} (m : MgS X.mg x i) (h : Φ (.str i) S) (hg : Gl X x := by rfl) (hd : (x == ("__debug__" : Str)) = false := by decide +kernel) : wE X Ψ (.Name x pos) E S Φ := by
  obtain ⟨t, m⟩ := m
  exact wE_glob (v := .str i) m ⟨t, rfl⟩ rfl h hg hd
end

-- AM12
/-- a def of the module as the top has made it -/
structure DefAt (K : PySem.W.Frag) (mg : Str → Option Value) (x qual : Str) (st : Stmt) (ps : List Str) : Prop where
  ex : ∃ f fd, mg x = some (.ref f) ∧ PySem.W.keepIn K (.ref f) = true ∧ Fun K x qual st f fd ∧ Binds K fd ps []
structure MethAt (K : PySem.W.Frag) (C : Addr) (m qual : Str) (st : Stmt) (ps : List Str) : Prop where
  ex : ∃ f fd, Meth K C m f ∧ Fun K m qual st f fd ∧ Binds K fd ps []
structure MakeAt (K : PySem.W.Frag) (mg : Str → Option Value) (C : Addr) (x qual : Str) (st : Stmt) (ps : List Str) : Prop where
  ex : ∃ f fd, mg x = some (.ref C) ∧ Mk K C f ∧ Fun K "__init__" qual st f fd ∧ Binds K fd ps []
section
variable {P : Program} {w : World} {K : PySem.W.Frag} {mg : Str → Option Value} {base : Heap} {x qual m : Str} {st : Stmt} {ps N : List Str} {C : Addr} {k : Nat} {asp : ASp}
theorem DefAt.fn (D : DefAt K mg x qual st ps) (sc : FnScope N ps (defScope st))
    (hbody : ∀ (f : Addr) (cdv : Value) (A : Around) (outer : List Env) (s : Shared) (H : Hp) (E : XK), Room k (A.deeper (envOfC qual (defScope st) s.heap.objs.size f cdv)) → ∀ ws S Φ Ψ, ws.length = ps.length → Srl S → asp ws S Φ Ψ →
      wB (cxOf (L2.CX P w) P w K mg base N qual (defScope st) f cdv A outer s H E) (fun cls fs _ S2 => Ψ cls fs S2) (defBody st) (startW N.length ws) S ⟨fun _ S2 => fin S.length Φ .non S2, fin S.length Φ, fun _ _ => False, fun _ _ => False⟩) : CFn P w K mg base x (k + 1) ps.length asp := by
  obtain ⟨f, fd, h1, h2, F, B⟩ := D.ex
  exact ⟨f, fd, ps, h1, h2, B, rfl, fn_ok F sc (hbody f)⟩
theorem MethAt.fn (D : MethAt K C m qual st ps) (sc : FnScope N ps (defScope st))
    (hbody : ∀ (f : Addr) (cdv : Value) (A : Around) (outer : List Env) (s : Shared) (H : Hp) (E : XK), Room k (A.deeper (envOfC qual (defScope st) s.heap.objs.size f cdv)) → ∀ ws S Φ Ψ, ws.length = ps.length → Srl S → asp ws S Φ Ψ →
      wB (cxOf (L2.CX P w) P w K mg base N qual (defScope st) f cdv A outer s H E) (fun cls fs _ S2 => Ψ cls fs S2) (defBody st) (startW N.length ws) S ⟨fun _ S2 => fin S.length Φ .non S2, fin S.length Φ, fun _ _ => False, fun _ _ => False⟩) : CMeth P w K mg base C m (k + 1) ps.length asp := by
  obtain ⟨f, fd, h1, F, B⟩ := D.ex
  exact ⟨f, fd, ps, h1, B, rfl, fn_ok F sc (hbody f)⟩
theorem MakeAt.fn (D : MakeAt K mg C x qual st ps) (sc : FnScope N ps (defScope st))
    (hbody : ∀ (f : Addr) (cdv : Value) (A : Around) (outer : List Env) (s : Shared) (H : Hp) (E : XK), Room k (A.deeper (envOfC qual (defScope st) s.heap.objs.size f cdv)) → ∀ ws S Φ Ψ, ws.length = ps.length → Srl S → asp ws S Φ Ψ →
      wB (cxOf (L2.CX P w) P w K mg base N qual (defScope st) f cdv A outer s H E) (fun cls fs _ S2 => Ψ cls fs S2) (defBody st) (startW N.length ws) S ⟨fun _ S2 => fin S.length Φ .non S2, fin S.length Φ, fun _ _ => False, fun _ _ => False⟩) : CMake P w K mg base x C (k + 1) ps.length asp := by
  obtain ⟨f, fd, h1, h2, F, B⟩ := D.ex
  exact ⟨f, fd, ps, h1, h2, B, rfl, fn_ok F sc (hbody f)⟩
theorem CFn.more {j n : Nat} (F : CFn P w K mg base x k n asp) (h : k = j) : CFn P w K mg base x j n asp := by rw [← h]; exact F
/-- what k_is shows of a def -/
def RawDef (K : PySem.W.Frag) (x qual : Str) (st : Stmt) : Prop :=
  ∃ (f : Addr) (od an : Option Addr) (sl : Array (Option Value)) (oc kV dc pm cd ct : Value), PySem.W.nsIn K mainGlobals x = some (some (.ref f)) ∧
    K.lookup f = some ⟨oc, od, .func (PySem.W.fnOf x qual (defArgs st) (defBody st) (defScope st) .none kV dc pm an cd ct), sl⟩ ∧ PySem.W.codeIn K cd qual = true ∧ PySem.W.keepIn K (.ref f) = true
def RawMeth (K : PySem.W.Frag) (C : Addr) (m qual : Str) (st : Stmt) : Prop :=
  ∃ (f : Addr) (od an : Option Addr) (sl : Array (Option Value)) (oc kV dc pm cd ct : Value), PySem.W.findIn K (.ref C) m = some (some (.ref f)) ∧
    K.lookup f = some ⟨oc, od, .func (PySem.W.fnOf m qual (defArgs st) (defBody st) (defScope st) .none kV dc pm an cd ct), sl⟩ ∧ PySem.W.codeIn K cd qual = true ∧ PySem.W.keepIn K (.ref f) = true ∧ PySem.W.isFn K (.ref f) = true
theorem RawDef.at {h : Heap} (R : RawDef K x qual st) (X : K.In h) (G : h.Ns mainGlobals mg)
    (hb : ∀ (kV doc pm : Value) (an : Option Addr) (cdv ct : Value) (us : List Value), us.length = ps.length → bindArgs (PySem.W.fnOf x qual (defArgs st) (defBody st) (defScope st) .none kV doc pm an cdv ct) ⟨us, []⟩ = pure (ps.zip us)) : DefAt K mg x qual st ps := by
  obtain ⟨f, od, an, sl, oc, kV, dc, pm, cd, ct, h1, h2, h3, h4⟩ := R
  exact ⟨f, _, PySem.W.mg_of X G h1, h4, fun_mk h2 h3 h4, .all (hb kV dc pm an cd ct)⟩
theorem RawMeth.at (R : RawMeth K C m qual st)
    (hb : ∀ (kV doc pm : Value) (an : Option Addr) (cdv ct : Value) (us : List Value), us.length = ps.length → bindArgs (PySem.W.fnOf m qual (defArgs st) (defBody st) (defScope st) .none kV doc pm an cdv ct) ⟨us, []⟩ = pure (ps.zip us)) : MethAt K C m qual st ps := by
  obtain ⟨f, od, an, sl, oc, kV, dc, pm, cd, ct, h1, h2, h3, h4, h5⟩ := R
  exact ⟨f, _, ⟨h1, h5, h4⟩, fun_mk h2 h3 h4, .all (hb kV dc pm an cd ct)⟩
theorem RawMeth.make {h : Heap} (R : RawMeth K C "__init__" qual st) (X : K.In h) (G : h.Ns mainGlobals mg) (hn : PySem.W.nsIn K mainGlobals x = some (some (.ref C))) (hm : PySem.W.makesIn K C = true) (hk : PySem.W.keepIn K (.ref C) = true)
    (hb : ∀ (kV doc pm : Value) (an : Option Addr) (cdv ct : Value) (us : List Value), us.length = ps.length → bindArgs (PySem.W.fnOf "__init__" qual (defArgs st) (defBody st) (defScope st) .none kV doc pm an cdv ct) ⟨us, []⟩ = pure (ps.zip us)) : MakeAt K mg C x qual st ps := by
  obtain ⟨f, od, an, sl, oc, kV, dc, pm, cd, ct, h1, h2, h3, h4, h5⟩ := R
  exact ⟨f, _, PySem.W.mg_of X G hn, ⟨hm, h1, h5, hk⟩, fun_mk h2 h3 h4, .all (hb kV dc pm an cd ct)⟩
theorem mgI_of {h : Heap} {i : Int} (X : K.In h) (G : h.Ns mainGlobals mg) (e : ∃ t, PySem.W.nsIn K mainGlobals x = some (some (.int i t))) : MgI mg x i := by
  obtain ⟨t, e⟩ := e
  exact ⟨t, PySem.W.mg_of X G e⟩
theorem mgS_of {h : Heap} {i : Str} (X : K.In h) (G : h.Ns mainGlobals mg) (e : ∃ t, PySem.W.nsIn K mainGlobals x = some (some (.str i t))) : MgS mg x i := by
  obtain ⟨t, e⟩ := e
  exact ⟨t, PySem.W.mg_of X G e⟩
end

-- AM13
section
variable {X : Cx} {Ψ : AX} {a b c e o elt iter tg : Expr} {es rest : List Expr} {E : AEnv} {S : Sto} {Φ : W → Sto → Prop} {ΦT : Bool → Sto → Prop} {ΦE : AEnv → Sto → Prop} {pos : Pos} {scope : Scope} {A : AE}
/-! ### a tuple of texts of the module -/
def sInK (neg : Bool) (ss : List Str) (x : W) (S : Sto) (Φ : W → Sto → Prop) : Prop := x.ok 59 = true ∧ Φ (.bl (if neg then !inW x (ss.map W.str) else inW x (ss.map W.str))) S
theorem sInK_i {neg : Bool} {ss : List Str} {x : W} {k : Bool} (h1 : x.ok 59 = true) (e : inW x (ss.map W.str) = k) (h : Φ (.bl (if neg then !k else k)) S) : sInK neg ss x S Φ := ⟨h1, by rw [e]; exact h⟩
/-! ### dicts made -/
theorem dt_new {M : Lay} {H : Hp} {S : Sto} (r : Rep M H S) {p : Addr} (hp : H p = none) : Rep (M.add p) (upd H p (.dT [])) (S ++ [.dt []]) ∧ VW (M.add p) (upd H p (.dT [])) (.ref p) (.ref S.length) :=
  ⟨r.new hp (.dt .nil), .ref (by show (M.m ++ [p])[S.length]? = some p; rw [← r.len, List.getElem?_append_right (Nat.le_refl _)]; simp)⟩
/-- {}, its keys will be tuples -/
theorem wE_newT (h : Φ (.ref S.length) (S ++ [.dt []])) : wE X Ψ (.Dict [] [] pos) E S Φ :=
  wE.of pe_dnewT fun M σ H r ev x Q q => fun p hp => q _ _ _ _ _ h (dt_new r hp).1 (dt_new r hp).2 (step_new r hp)
/-! ### dicts read, written -/
theorem dget_t {k : Nat} {kws : List (List Key × W)} {ws : List W} {ks : List Key} (h : S[k]? = some (.dt kws)) (e : keysW ws = some ks) : dgetW S k (.tup ws) = some (valW kws ks) := by
  unfold dgetW
  rw [h]
  show (keysW ws).map _ = _
  rw [e]
  rfl
theorem dget_k {k : Nat} {kws : List (Key × W)} {y : W} {key : Key} (h : S[k]? = some (.dk kws)) (e : keyW y = some key) : dgetW S k y = some (valW kws key) := by
  unfold dgetW
  rw [h]
  show (keyW y).map _ = _
  rw [e]
  rfl
theorem dput_t {k : Nat} {kws : List (List Key × W)} {ws : List W} {ks : List Key} {z : W} (h : S[k]? = some (.dt kws)) (e : keysW ws = some ks) : dputW S k (.tup ws) z = some (S.set k (.dt (putW kws ks z))) := by
  unfold dputW
  rw [h]
  show (keysW ws).map _ = _
  rw [e]
  rfl
theorem dput_k {k : Nat} {kws : List (Key × W)} {y z : W} {key : Key} (h : S[k]? = some (.dk kws)) (e : keyW y = some key) : dputW S k y z = some (S.set k (.dk (putW kws key z))) := by
  unfold dputW
  rw [h]
  show (keyW y).map _ = _
  rw [e]
  rfl
theorem dlen_t {k : Nat} {kws : List (List Key × W)} (h : S[k]? = some (.dt kws)) (hl : kws.length ≤ 100000) : dlenW S k ≤ 100000 := by
  unfold dlenW
  rw [h]
  exact hl
theorem dlen_k {k : Nat} {kws : List (Key × W)} (h : S[k]? = some (.dk kws)) (hl : kws.length ≤ 100000) : dlenW S k ≤ 100000 := by
  unfold dlenW
  rw [h]
  exact hl
/-! ### targets of several names -/
def sGs (X : Cx) (Ψ : AX) (ts : List Expr) (w : W) (E : AEnv) (S : Sto) (Φ : AEnv → Sto → Prop) : Prop := ∃ ws, w = .tup ws ∧ ws.length = ts.length ∧ wGs X Ψ ts ws E S Φ
theorem xG_tup {k : Nat} (hc : X.calm = true) (he : Each X es) {w : W} (h2 : sGs X Ψ es w E S ΦE) (hn : (assignEach es X.env).length = es.length := by rfl) (hst : (assignEach es X.env).findIdx? (·.1) = none := by rfl) : wG X Ψ (.Tuple es k pos) w E S ΦE := wG_tup hc he h2 hn hst
theorem sGs_2 {t u : Expr} {x y : W} (h : wG X Ψ t x E S fun E2 S2 => wG X Ψ u y E2 S2 ΦE) : sGs X Ψ [t, u] (.tup [x, y]) E S ΦE := ⟨_, rfl, rfl, h⟩
theorem sGs_3 {t u v : Expr} {x y z : W} (h : wG X Ψ t x E S fun E2 S2 => wG X Ψ u y E2 S2 fun E3 S3 => wG X Ψ v z E3 S3 ΦE) : sGs X Ψ [t, u, v] (.tup [x, y, z]) E S ΦE := ⟨_, rfl, rfl, h⟩
theorem xS_asg {spos : Pos} (h : wE X Ψ e E S fun w S1 => wG X Ψ tg w E S1 A.nx) (hs : swapsWithSole [tg] e spos.line X.env = pure false := by rfl) (hw : swappedStores [tg] e X.env = pure none := by rfl)
    (h1 : (assignEach [tg] X.env).map (·.2) = [assign tg X.env] := by rfl) : wS X Ψ (.Assign [tg] e spos) E S A := wS_asg h hs hw h1
theorem enum_inv {ws : List W} {n i : Nat} {w : W} (h : (enumW n ws)[i]? = some w) : ∃ u, ws[i]? = some u ∧ w = .tup [.int ((n + i : Nat) : Int), u] := by
  cases e : ws[i]? with
  | none =>
    have hl : ws.length ≤ i := List.getElem?_eq_none_iff.mp e
    rw [List.getElem?_eq_none (by rw [enum_len]; exact hl)] at h
    cases h
  | some u =>
    rw [enum_get e] at h
    exact ⟨u, rfl, (Option.some.inj h).symm⟩
theorem map_inv {α : Type} {f : α → W} {xs : List α} {i : Nat} {w : W} (h : (xs.map f)[i]? = some w) : ∃ x, xs[i]? = some x ∧ w = f x := by
  rw [List.getElem?_map] at h
  cases e : xs[i]? with
  | none => rw [e] at h; cases h
  | some x => rw [e] at h; exact ⟨x, rfl, (Option.some.inj h).symm⟩
end

-- AM14
section
variable {X : Cx} {Ψ : AX} {a b c e o elt iter tg : Expr} {es rest : List Expr} {E : AEnv} {S : Sto} {Φ : W → Sto → Prop} {ΦT : Bool → Sto → Prop} {ΦE : AEnv → Sto → Prop} {pos : Pos} {scope : Scope} {A : AE}
def sLset (x y w : W) (S : Sto) (Φ : Sto → Prop) : Prop := ∃ k ws i j, x = .ref k ∧ S[k]? = some (.lst ws) ∧ y = .int i ∧ ixN ws.length i = some j ∧ Φ (S.set k (.lst (ws.set j w)))
theorem sLset_i {w : W} {k : Nat} {ws : List W} {i : Int} {j : Nat} {Φ : Sto → Prop} (h1 : S[k]? = some (.lst ws)) (h2 : ixN ws.length i = some j) (h : Φ (S.set k (.lst (ws.set j w)))) : sLset (.ref k) (.int i) w S Φ := ⟨k, ws, i, j, rfl, h1, rfl, h2, h⟩
theorem xG_lset {w : W} (h : wE X Ψ o E S fun x S1 => wE X Ψ a E S1 fun y S2 => sLset x y w S2 fun S3 => ΦE E S3) (ha : ∀ v, assign (.Subscript o a pos) X.env v = (do
      let ov ← holding [v] (eval o X.env)
      let iv ← holding [v, ov] (eval a X.env)
      standAt pos
      holding [v, ov, iv] (setItem ov iv v)
      release [v, ov, iv] []) := by intro _; rfl) : wG X Ψ (.Subscript o a pos) w E S ΦE := wG_sub set_list setw_list (h.imp fun x S1 h => h.imp fun y S2 h => h) ha
def sIxScr (K : PySem.W.Frag) (x y : W) (S : Sto) (Φ : W → Sto → Prop) : Prop := ∃ ns i m, x = .scr K ns ∧ y = .int i ∧ atI ns i = some m ∧ Φ (.int m) S
theorem sIxScr_i {K : PySem.W.Frag} {ns : List Int} {i m : Int} (e : atI ns i = some m) (h : Φ (.int m) S) : sIxScr K (.scr K ns) (.int i) S Φ := ⟨ns, i, m, rfl, rfl, e, h⟩
theorem xE_ixScr (h : wE X Ψ a E S fun x S1 => wE X Ψ b E S1 fun y S2 => sIxScr X.K x y S2 Φ) (hs : PlainIx b := by exact fun _ _ => rfl) : wE X Ψ (.Subscript a b pos) E S Φ := wE_ixScr h hs
theorem xE_mulI (h : wE X Ψ a E S fun x S1 => wE X Ψ b E S1 fun y S2 => sII CMul (fun i j => .int (i * j)) x y S2 Φ) : wE X Ψ (.BinOp a .Mult b pos) E S Φ := wE_mul h
theorem atI_scr {ns : List Int} {i : Int} (h0 : 0 ≤ i) (h1 : i < ns.length) : ∃ m, atI ns i = some m := by
  unfold atI ixN
  rw [if_pos h0, if_pos h1]
  exact ⟨_, List.getElem?_eq_getElem (by omega)⟩
/-- a draw, told as any number below the bound -/
def asp_taken (K : PySem.W.Frag) : ASp := fun ws S Φ _ => ∃ r m, ws = [.ref r, .int m] ∧ S[r]? = some (.row K) ∧ 0 < m ∧ m ≤ 2147483647 ∧ ∀ v : Int, 0 ≤ v → v < m → Φ (.int v) S
end

-- AM15
section
variable {X : Cx} {pins : List (Addr × Obj)} {σ : L2.St} {H : Hp} {s : Shared}
end
def mergeW (kws more : List (Key × W)) : List (Key × W) := more.foldl (fun acc kv => putW acc kv.1 kv.2) kws
theorem merge_vw {M : Lay} {H : Hp} {more : List (Key × V)} {mw : List (Key × W)} (h : PVW M H more mw) : ∀ {kvs : List (Key × V)} {kws : List (Key × W)}, PVW M H kvs kws → PVW M H (mergeK kvs more) (mergeW kws mw) := by
  induction h with
  | nil => intro kvs kws r; exact r
  | @cons p q more mw e t ih =>
    intro kvs kws r
    obtain ⟨k, v⟩ := p
    obtain ⟨k', w⟩ := q
    obtain ⟨e1, a⟩ := e
    have e1 : k = k' := e1
    subst e1
    exact ih (kvs := putK kvs k v) (kws := putW kws k w) (put_vw r a)
section
variable {X : Cx} {Ψ : AX} {a b c e o : Expr} {es : List Expr} {E : AEnv} {S : Sto} {Φ : W → Sto → Prop} {pos : Pos}
end

-- AM16
section
variable {M : Lay} {H : Hp} {p : Addr}
/-- the hidden one becomes the next mutable object -/
theorem vw_mv : ∀ {w v}, VW (M.hid p) H v w → VW (M.add p) H v w := by
  intro w v h
  have o : ∀ {a : Addr}, (M.hid p).out a → (M.add p).out a := fun z => ⟨fun m => by
    rcases List.mem_append.mp m with m | m
    · exact z.1 m
    · exact z.2 (by rw [List.mem_singleton.mp m]; exact List.mem_cons_self), fun m => z.2 (List.mem_cons_of_mem _ m)⟩
  refine VW.rec (motive_1 := fun v w _ => VW (M.add p) H v w) (motive_2 := fun v w _ => VWs (M.add p) H v w) .non .bl .int .str ?_ ?_ ?_ .raw ?_ .nil ?_ h
  · intro a xs ws q _ ih
    exact .tup ⟨q.1, o q.2⟩ ih
  · intro a xs ws q _ ih
    exact .lst ⟨q.1, o q.2⟩ ih
  · intro a k q
    exact .ref (by
      show (M.m ++ [p])[k]? = _
      have q : M.m[k]? = some _ := q
      rw [List.getElem?_append_left (List.getElem?_eq_some_iff.mp q).1]
      exact q)
  · intro K a ns q
    refine .scr ?_
    rcases q with ⟨q, qo⟩ | q
    · exact .inl ⟨q, o qo⟩
    · exact .inr q
  · intro v vs w ws _ _ i1 i2
    exact .cons i1 i2
theorem vws_mv : ∀ {ws vs}, VWs (M.hid p) H vs ws → VWs (M.add p) H vs ws := by
  intro ws
  induction ws with
  | nil => intro vs h; cases h; exact .nil
  | cons w ws ih =>
    intro vs h
    cases h with
    | cons a b => exact .cons (vw_mv a) (ih b)
theorem pvw_mv {κ : Type} {xs : List (κ × V)} {ws : List (κ × W)} (h : PVW (M.hid p) H xs ws) : PVW (M.add p) H xs ws := Paired.mapP h fun _ _ r => ⟨r.1, vw_mv r.2⟩
theorem Rep.adopt {S : Sto} (pn : p ∉ M.h) (r : Rep (M.hid p) H S) {u ho : HO} {o : O} (hu : H p = some u) (nt : (∀ ps, u ≠ .tbl ps) ∧ ∀ f, u ≠ .ext f) (b : Ob (M.add p) (upd H p ho) ho o) (nh : ∀ f, ho ≠ .ext f := by intro _ z; cases z) (nt9 : ∀ P q, o ≠ O.tab P q := by intro _ _ z; cases z) : Rep (M.add p) (upd H p ho) (S ++ [o]) := by
  obtain ⟨f, r2⟩ := step_over r (ho := ho) List.mem_cons_self hu nt
  have pm : p ∉ M.m := (r.hid p List.mem_cons_self).2
  refine ⟨?_, by simp [r.len], fun k q x h1 h2 => ?_, fun q hq => ?_, fun k P q e => ?_⟩
  · refine List.nodup_append.mpr ⟨r.nd, by simp, fun a ha b hb e => ?_⟩
    rw [List.mem_singleton.mp hb] at e
    subst e
    exact pm ha
  · have h1 : (M.m ++ [p])[k]? = some q := h1
    have hl : M.m.length = S.length := r.len
    by_cases hk : k < M.m.length
    · rw [List.getElem?_append_left hk] at h1
      rw [List.getElem?_append_left (by rw [← hl]; exact hk)] at h2
      obtain ⟨hq, e, b'⟩ := r2.at_ k q x h1 h2
      refine ⟨hq, e, ?_⟩
      cases b' with
      | lst a => exact .lst (vws_mv a)
      | dk a => exact .dk (pvw_mv a)
      | dt a => exact .dt (pvw_mv a)
      | ins a => exact .ins (pvw_mv a)
      | row a =>
        obtain ⟨v, ns, i, z, e, a, q⟩ := a
        exact .row ⟨v, ns, i, z, e, vw_mv a, q⟩
      | any m n => exact .any m n
      | tab t q =>
        refine .tab t fun pos cv e => ?_
        obtain ⟨c, h1, h2, h3⟩ := q pos cv e
        refine ⟨c, h1, fun z => ?_, h3⟩
        rcases List.mem_append.mp z with z | z
        · exact h2 z
        · rw [List.mem_singleton.mp z, upd_same] at h3
          exact nh _ (Option.some.inj h3)
    · rw [List.getElem?_append_right (by omega)] at h1
      rw [List.getElem?_append_right (by rw [← hl]; omega)] at h2
      have e0 : k - M.m.length = 0 := by
        have q := (List.getElem?_eq_some_iff.mp h1).1
        simp at q; omega
      have e1 : k - S.length = 0 := by rw [← hl]; exact e0
      rw [e0] at h1; rw [e1] at h2
      simp at h1 h2
      subst h1; subst h2
      exact ⟨ho, upd_same, b⟩
  · obtain ⟨h1, h2⟩ := r2.hid q (List.mem_cons_of_mem _ hq)
    refine ⟨h1, fun m => ?_⟩
    rcases List.mem_append.mp m with m | m
    · exact h2 m
    · rw [List.mem_singleton.mp m] at hq
      exact pn hq
  · by_cases hk : k < S.length
    · rw [List.getElem?_append_left hk] at e
      exact (List.getElem?_append_left (by have h9 : M.m.length = S.length := r.len; omega)).trans (r.tb k P q e)
    · rw [List.getElem?_append_right (by omega)] at e
      exact absurd (List.mem_singleton.mp (List.mem_of_getElem? e)).symm (nt9 P q)
theorem step_adopt {M1 : Lay} {H1 : Hp} {S1 : Sto} {m2 : List Addr} {H2 : Hp} {ho : HO} (r1 : Rep M1 H1 S1) (hD : H1 p = none) (s : Step M1 H1 ⟨m2, M1.h⟩ H2) : Step M1 H1 ⟨m2 ++ [p], M1.h⟩ (upd H2 p ho) where
  pre := List.IsPrefix.trans s.pre (List.prefix_append _ _)
  new := fun q h n => by
    by_cases e : q = p
    · rw [e]; exact hD
    · exact s.new q (fun z => h ⟨fun m => by
        rcases List.mem_append.mp m with m | m
        · exact z.1 m
        · exact e (List.mem_singleton.mp m), z.2⟩) n
  keep := fun a o h nt m => by rw [upd_ne (ne_of_none h hD)]; exact s.keep a o h nt m
  tbl := fun a ps m h => by rw [upd_ne (ne_of_none h hD)]; exact s.tbl a ps m h
  there := fun a m h => by
    have n : a ≠ p := fun e => h (by rw [e]; exact hD)
    rw [upd_ne n]
    exact s.there a m h
  old := fun a m h => by
    rcases List.mem_append.mp m with m | m
    · exact s.old a m h
    · rw [List.mem_singleton.mp m] at h
      exact absurd hD (r1.hid p h).1
  hold := rfl
end
section
variable {X : Cx} {Ψ : AX} {a b c e o : Expr} {es : List Expr} {E : AEnv} {S : Sto} {Φ : W → Sto → Prop} {pos : Pos}
/-- {"x": .., ..}: the keys are texts written out -/
inductive KeysAre : List (Option Expr) → List Str → Prop
  | nil : KeysAre [] []
  | cons {x : Str} {j : Nat} {p : Pos} {ks xs} (h : KeysAre ks xs) : KeysAre (some (.Constant (.str x) j p) :: ks) (x :: xs)
def wVs (X : Cx) (Ψ : AX) : List Expr → AEnv → Sto → (List W → Sto → Prop) → Prop
  | [], _, S, Φ => Φ [] S
  | v :: vs, E, S, Φ => wE X Ψ v E S fun w S1 => wVs X Ψ vs E S1 fun ws S2 => Φ (w :: ws) S2
end

-- AM17
section
variable {X : Cx} {Ψ : AX} {a : Expr} {E : AEnv} {S : Sto} {Φ : W → Sto → Prop} {pos : Pos}
theorem ints_vw {M : Lay} {H : Hp} : ∀ l : List Int, VWs M H (l.map V.int) (l.map W.int)
  | [] => .nil
  | i :: l => .cons (.int i) (ints_vw l)
theorem rgv_vw {M : Lay} {H : Hp} {n : Nat} : VWs M H (rgV 0 (n : Int)) (rangeW 0 n) := by
  have e : ((n : Int) - 0).toNat = n := by omega
  have q := ints_vw (M := M) (H := H) ((List.range n).map fun i => (0 : Int) + (i : Nat))
  rw [List.map_map, List.map_map] at q
  unfold rgV rangeW
  rw [e]
  exact q
end

-- AM18
section
variable {X : Cx} {Ψ : AX} {a o e : Expr} {E : AEnv} {S : Sto} {Φ : W → Sto → Prop} {pos : Pos}
theorem vws_ints {M : Lay} {H : Hp} : ∀ {xs : List V} (l : List Int), VWs M H xs (l.map W.int) → xs = l.map V.int
  | _, [], .nil => rfl
  | _, i :: l, .cons (.int _) b => by rw [vws_ints l b]; rfl
/-- xs.pop(i) -/
def sPop (x w : W) (S : Sto) (Φ : W → Sto → Prop) : Prop := ∃ k ws i y, x = .ref k ∧ S[k]? = some (.lst ws) ∧ w = .int i ∧ 0 ≤ i ∧ i < ws.length ∧ ws.length ≤ 100000 ∧ ws[i.toNat]? = some y ∧ Φ y (S.set k (.lst (ws.eraseIdx i.toNat)))
theorem sPop_i {k : Nat} {ws : List W} {i : Int} {y : W} (h1 : S[k]? = some (.lst ws)) (h2 : 0 ≤ i) (h3 : i < ws.length) (h4 : ws.length ≤ 100000) (h5 : ws[i.toNat]? = some y) (h : Φ y (S.set k (.lst (ws.eraseIdx i.toNat)))) : sPop (.ref k) (.int i) S Φ := ⟨k, ws, i, y, rfl, h1, rfl, h2, h3, h4, h5, h⟩
theorem vws_get {M : Lay} {H : Hp} : ∀ {xs : List V} {ws : List W} {k : Nat} {y : W}, VWs M H xs ws → ws[k]? = some y → ∃ v, xs[k]? = some v ∧ VW M H v y
  | _, _, 0, _, .cons a b, e => by cases e; exact ⟨_, rfl, a⟩
  | _, _, k + 1, _, .cons a b, e => vws_get b (k := k) (by simpa using e)
theorem vws_erase {M : Lay} {H : Hp} : ∀ {xs : List V} {ws : List W} {k : Nat}, VWs M H xs ws → VWs M H (xs.eraseIdx k) (ws.eraseIdx k)
  | _, _, _, .nil => .nil
  | _, _, 0, .cons a b => b
  | _, _, k + 1, .cons a b => .cons a (vws_erase b)
theorem seq_at {i : Int} {n : Nat} (h0 : 0 ≤ i) (h1 : i < n) : seqIndex? i n = some i.toNat := by
  have e : ¬ i < 0 := Int.not_lt.mpr h0
  simp [seqIndex?, e, h0, h1]
theorem VW.step' {M M2 : Lay} {H H2 : Hp} {v : V} {w : W} (s : Step M H M2 H2) (a : VW M H v w) : VW M2 H2 v w := VW.step s _ _ a
theorem xE_popAt {apos cpos : Pos} (h : wE X Ψ o E S fun x S1 => sAppO x S1 (wE X Ψ e E S1 fun w S2 => sPop x w S2 Φ))
    (hbase : attributeBase o "pop" X.env (eval o X.env) = eval o X.env := by rfl)
    (hfew : ((backTo cpos (starEach [e] X.env)).all (fun x => !x.1) && (backToKw cpos (keywordEach [] X.env)).all (fun x => x.1.isSome)
      && decide (([e] : List Expr).length + ([] : List Keyword).length + (if ([] : List Keyword).isEmpty then 0 else 1) < 30)) = true := by rfl)
    (hline : (apos.endLine == cpos.line) = true := by rfl) (hs : starEach [e] X.env = (false, eval e X.env) :: starEach [] X.env := by rfl) (hplain : (backTo cpos (starEach [] X.env)).any (·.1) = false := by rfl) : wE X Ψ (.Call (.Attribute o "pop" apos) [e] [] cpos) E S Φ :=
  wE_bm (g := fun x us S Φ => ∃ w, us = [w] ∧ sPop x w S Φ) PySem.F.plainAttrs_list PySem.F.slot_list_pop PySem.F.type_list_pop mt_popAt
    (fun M H S v w vs ws Φ r a av ⟨u, e1, k, us, i, y, e2, hk, e3, h0, h1, hl, hy, p⟩ Q q => by
      subst e1; subst e2; subst e3
      cases a with
      | ref hm =>
        obtain ⟨ad, xs, h1', h2, h3⟩ := r.lst hk
        rw [hm] at h1'; cases h1'
        cases av with
        | cons b1 b2 =>
          cases b2
          cases b1
          have rr := set_lst r hm (vws_erase (k := i.toNat) h3)
          obtain ⟨z, hz, az⟩ := vws_get h3 hy
          exact ⟨_, xs, i, i.toNat, z, rfl, rfl, h2, by omega, by omega, by rw [h3.length]; exact seq_at h0 h1, hz, q _ _ M _ _ p rr.1 (VW.step' rr.2 az) rr.2⟩)
    (h.imp fun x S1 ⟨⟨k, ws, e1, hk⟩, h⟩ => ⟨by subst e1; exact .inl ⟨rfl, ws, hk⟩, wA_cons (h.imp fun w S2 p => wA_nil ⟨w, rfl, p⟩) hs⟩) hbase hfew hline hs hplain
/-- list(range(n)) that will be changed -/
theorem wE_listRgN {p p2 pos2 : Pos} (hm : X.mg "list" = none) (hr : X.mg "range" = none) (h : wE X Ψ a E S fun w S1 => ∃ n : Nat, w = .int n ∧ n ≤ 1000 ∧ Φ (.ref S1.length) (S1 ++ [.lst (rangeW 0 n)])) (hc : X.calm = true := by rfl) (hg : Gl X "list" := by rfl) (hgr : Gl X "range" := by rfl)
    (ha : starEach [a] X.env = (false, eval a X.env) :: starEach [] X.env := by rfl) (hb : starEach [.Call (.Name "range" p2) [a] [] pos2] X.env = (false, eval (.Call (.Name "range" p2) [a] [] pos2) X.env) :: starEach [] X.env := by rfl) :
    wE X Ψ (.Call (.Name "list" p) [.Call (.Name "range" p2) [a] [] pos2] [] pos) E S Φ :=
  wE.of (pe_listRg hc hg hm (prg_1 hgr hr pe_sem ha) hb) fun M σ H r ev x Q q => h.run M σ H r ev x _ fun v w M1 S1 H1 ⟨n, e, hn, p⟩ r1 a1 s1 => by
    subst e
    cases a1
    refine ⟨n, rfl, RgOk.of_le (Int.le_refl _) (by omega) (by decide) (by omega), fun l hl => ?_⟩
    exact q _ _ _ _ _ p (lst_new r1 hl rgv_vw).1 (lst_new r1 hl rgv_vw).2 (s1.trans (step_new r1 hl))
/-- -1, as it is written -/
theorem xE_neg {i : Int} {kk : Nat} {p1 p2 : Pos} (h : Φ (.int (-i)) S) : wE X Ψ (.UnaryOp .USub (.Constant (.int i) kk p1) p2) E S Φ :=
  wE.of (pe_un un_neg pe_int) fun M σ H r ev x Q q => ⟨_, rfl, q _ _ M S H h r (.int _) (Step.refl _ _)⟩
end

-- AM19
/-! ### a tuple told once, or not at all -/
section
variable {X : Cx} {Ψ : AX} {a b o e : Expr} {E : AEnv} {S : Sto} {Φ : W → Sto → Prop} {ΦT : Bool → Sto → Prop} {pos : Pos}
/-! ### texts -/
/-! ### str, int -/
/-! ### a dict of the module with text keys, its values ints -/
structure KTab (K : PySem.W.Frag) (w : World) (mg : Str → Option Value) (x : Str) (kvs : List (Str × Int)) : Prop where
  ex : ∃ d es n, mg x = some (.ref d) ∧ KDict K w d es n ∧ ∀ kv ∈ kvs, ∃ t, PySem.W.nsIn K d kv.1 = some (some (.int kv.2 t))
end

-- AM20
section
variable {X : Cx} {Ψ : AX} {a b o e : Expr} {E : AEnv} {S : Sto} {Φ : W → Sto → Prop} {ΦT : Bool → Sto → Prop} {pos : Pos}
/-! ### sorted of told data -/
def encB (b : V × W) : PyData := b.2.d
def rSortedW (X : Cx) : List V → Hp → VK → Prop := fun vs H Q => ∃ (a : Addr) (bs : List (V × W)), vs = [V.ref a] ∧ SqL X.K H a (bs.map (·.1)) ∧ (∀ b ∈ bs, Dp X.K H b.1 b.2.d) ∧ PySem.W.AllAlike (bs.map encB) ∧ PySem.W.Sortable (bs.map encB) ∧ (∀ b ∈ bs, X.A.units + 2 + (encB b).depth < cLine) ∧
  ∀ p, H p = none → Q (.ref p) (upd H p (.lst ((bs.mergeSort (PySem.W.dataLe false encB)).map (·.1))))
theorem each_vals {s : Shared} : ∀ {bs : List (V × W)} {its : List Value}, Vals (bs.map (·.1)) its → PySem.W.EachIs (fun v (b : V × W) => RelV b.1 v) its bs
  | [], _, .nil => .nil
  | b :: bs, _, .cons r t => .cons r (each_vals (s := s) t)
theorem vals_each : ∀ {bs : List (V × W)} {its : List Value}, PySem.W.EachIs (fun v (b : V × W) => RelV b.1 v) its bs → Vals (bs.map (·.1)) its
  | [], _, .nil => .nil
  | b :: bs, _, .cons r t => .cons r (vals_each t)
theorem each_reads {pins : List (Addr × Obj)} {σ : L2.St} {H : Hp} {s : Shared} (I : Inv X pins σ H s) : ∀ {bs : List (V × W)} {its : List Value}, (∀ b ∈ bs, Dp X.K H b.1 b.2.d) → Vals (bs.map (·.1)) its → PySem.W.EachIs (fun v (b : V × W) => ∃ as, Reads s.heap v (encB b) as) its bs
  | [], _, _, .nil => .nil
  | b :: bs, _, h, .cons r t => .cons (Dp.reads I _ _ _ (h b List.mem_cons_self) r) (each_reads I (fun z hz => h z (List.mem_cons_of_mem _ hz)) t)
theorem cr_sortedW : CallR X (.builtin "sorted") (rSortedW X) := by
  intro pins s σ H vs us Q I r h
  obtain ⟨a, bs, rfl, hs, hdp, hal, hk, hu, q⟩ := h
  obtain ⟨its, rv, hl, hz⟩ := I.list hs
  obtain ⟨u, rfl, ru⟩ := vals1 r
  obtain rfl : u = Value.ref a := ru
  rw [List.length_map] at hz
  refine PySem.W.sorted_data (enc := encB) hl.isList (each_vals (s := s) rv) (each_reads I hdp rv) hal hk hz hu fun out ho eo => ?_
  obtain ⟨n, hn⟩ := sortedAll_at s.heap its out.toArray
  have hlen : ((bs.mergeSort (PySem.W.dataLe false encB)).map (·.1)).length ≤ sizeLine := by rw [List.length_map, List.length_mergeSort]; exact hz
  exact ⟨.ref (s.heap.objs.size + 1), upd H (s.heap.objs.size + 1) (.lst ((bs.mergeSort (PySem.W.dataLe false encB)).map (·.1))), I.laid (t' := s.toks) (fun b ob q => sortedAll_old q) (Nat.le_succ _) ⟨hlen, out, n, vals_each eo, hn⟩, rfl, q _ (I.hok.fresh (Nat.le_succ _))⟩
def sortW (ws : List W) : List W := ws.mergeSort (PySem.W.dataLe false W.d)
theorem vws_zip {M : Lay} {H : Hp} : ∀ {vs : List V} {ws : List W}, VWs M H vs ws → ((vs.zip ws).map (·.1) = vs ∧ (vs.zip ws).map (·.2) = ws) ∧ ∀ b ∈ vs.zip ws, VW M H b.1 b.2
  | _, _, .nil => ⟨⟨rfl, rfl⟩, fun b hb => by cases hb⟩
  | _, _, .cons a r => by
    obtain ⟨⟨h1, h2⟩, h3⟩ := vws_zip r
    refine ⟨⟨by rw [List.zip_cons_cons, List.map_cons, h1], by rw [List.zip_cons_cons, List.map_cons, h2]⟩, fun b hb => ?_⟩
    rw [List.zip_cons_cons] at hb
    rcases List.mem_cons.mp hb with rfl | hb
    · exact a
    · exact h3 b hb
theorem zip_vws {M : Lay} {H : Hp} : ∀ {bs : List (V × W)}, (∀ b ∈ bs, VW M H b.1 b.2) → VWs M H (bs.map (·.1)) (bs.map (·.2))
  | [], _ => .nil
  | b :: bs, h => .cons (h b List.mem_cons_self) (zip_vws fun z hz => h z (List.mem_cons_of_mem _ hz))
theorem W.depth_ok {w : W} (h : w.ok 59 = true) : w.d.depth ≤ 60 := (W.lay w 59 h).2
/-! ### zip(xs, ys) of two lists that nobody changes -/
/-! ### xs.extend(ys), xs.remove(k) -/
def sRem (x w : W) (S : Sto) (Φ : W → Sto → Prop) : Prop := ∃ (j : Nat) (ns : List Int) (k : Int), x = .ref j ∧ w = .int k ∧ S[j]? = some (.lst (ns.map W.int)) ∧ k ∈ ns ∧ Φ .non (S.set j (.lst ((ns.erase k).map W.int)))
theorem sRem_i {j : Nat} {ns : List Int} {k : Int} (h1 : S[j]? = some (.lst (ns.map W.int))) (h2 : k ∈ ns) (h : Φ .non (S.set j (.lst ((ns.erase k).map W.int)))) : sRem (.ref j) (.int k) S Φ := ⟨j, ns, k, rfl, rfl, h1, h2, h⟩
theorem xE_remove {apos cpos : Pos} (hc : X.calm = true) (h : wE X Ψ o E S fun x S1 => sAppO x S1 (wE X Ψ e E S1 fun w S2 => sRem x w S2 Φ))
    (hbase : attributeBase o "remove" X.env (eval o X.env) = eval o X.env := by rfl)
    (hfew : ((backTo cpos (starEach [e] X.env)).all (fun x => !x.1) && (backToKw cpos (keywordEach [] X.env)).all (fun x => x.1.isSome)
      && decide (([e] : List Expr).length + ([] : List Keyword).length + (if ([] : List Keyword).isEmpty then 0 else 1) < 30)) = true := by rfl)
    (hline : (apos.endLine == cpos.line) = true := by rfl) (hs : starEach [e] X.env = (false, eval e X.env) :: starEach [] X.env := by rfl) (hplain : (backTo cpos (starEach [] X.env)).any (·.1) = false := by rfl) : wE X Ψ (.Call (.Attribute o "remove" apos) [e] [] cpos) E S Φ :=
  wE.of (pe_remX hc takes0 pe_sem pe_sem hbase hfew hline hs hplain) fun M σ H r ev xo Q q => h.run M σ H r ev xo _ fun v w M1 S1 H1 ⟨⟨kk, wz, e1, hk⟩, h⟩ r1 a1 s1 => ⟨tyM_vw r1 a1 (by subst e1; exact .inl ⟨rfl, wz, hk⟩), h.run M1 σ H1 r1 (ev.step s1) (xo.step s1) _ fun u w2 M2 S2 H2 ⟨j, ns, k, e2, e3, hj, hm, p⟩ r2 a2 s2 => by
    subst e2; subst e3
    have b1 := VW.step' s2 a1
    cases a2
    cases b1 with
    | ref hmm =>
      obtain ⟨ad, xs, h1', h2, h3⟩ := r2.lst hj
      rw [hmm] at h1'; cases h1'
      have ex := vws_ints ns h3
      subst ex
      have rr := set_lst r2 hmm (ints_vw (ns.erase k))
      exact ⟨_, ns, k, rfl, rfl, h2, fun _ => q _ _ M2 _ _ p rr.1 .non ((s1.trans s2).trans rr.2), fun z => absurd hm z⟩⟩
end

-- AM21
section
variable {X : Cx} {Ψ : AX} {a b : Expr} {E : AEnv} {S : Sto} {Φ : W → Sto → Prop} {pos : Pos}
end

-- AM22
section
variable {X : Cx} {Ψ : AX} {a b o e : Expr} {E : AEnv} {S : Sto} {Φ : W → Sto → Prop} {ΦT : Bool → Sto → Prop} {pos : Pos}
/-! ### x is False, x is True -/
def isBoW (k : Bool) : W → Option Bool
  | .non => some false
  | .bl c => some (decide (c = k))
  | _ => none
abbrev gIsB : G2 := fun x y S Φ => ∃ k, y = .bl k ∧ ∃ c, isBoW k x = some c ∧ Φ (.bl c) S
/-! ### a list of three, walked on or back -/
/-! ### the truth of a thing that may be None -/
end

-- AM23
end AM
namespace AMX
open PySem PySem.Spec PyProof.Rows PySem.SeqAt
section
variable {M : Model} {prog : Program} {w : World} {A : Around} {E : Value → Shared → Prop} {s : Shared} {K : PySem.W.Frag} {x y C : Addr} {ox oy : Obj} {od oe : Option Obj}
theorem entry_other (hxy : x ≠ y) (hx : s.heap.get? x = some ox) (hy : s.heap.get? y = some oy) (hnt : ox.cls ≠ .type "tuple") {Q : Fin → Shared → Prop} (hq : Q (.done (.ret .notImplemented)) s) : wpAny M A (Builtin.«object.__eq__» ⟨[.ref x, .ref y], []⟩) Q E s := by
  unfold Builtin.«object.__eq__»
  repeat (first | with_reducible refine wpAny_isSame_ref_other hxy hx hy hnt ?_ | wp_step)
  exact hq
theorem entry_self {Q : Fin → Shared → Prop} (hq : Q (.done (.ret (.bool true))) s) : wpAny M A (Builtin.«object.__eq__» ⟨[.ref x, .ref x], []⟩) Q E s := by
  unfold Builtin.«object.__eq__»
  repeat (first | with_reducible refine wpAny_isSame_ref_self ?_ | wp_step)
  exact hq
theorem call_other (X : K.In s.heap) (I : PySem.W.InstAt s.heap x ox C od) (hm : PySem.W.mroIn K C (.type "object") = some true) (hxy : x ≠ y) (hx : s.heap.get? x = some ox) (hy : s.heap.get? y = some oy) (hnt : ox.cls ≠ .type "tuple") {Q : Value → Shared → Prop} (hq : Q .notImplemented s) :
    wpAny (model prog w) A (call (.builtin "object.__eq__") [.ref x, .ref y]) Q E s :=
  wpAny_call (codeAny_call_builtin F.cmp_object.eq.plain F.cmpEntry_eq (PySem.W.check_slot F.cmpKind_eq F.cmpSplit_eq (I.type.andThen (PySem.W.looks_mroIn X hm)) (F.cmpArgs_eq _ _) (entry_other hxy hx hy hnt hq)))
theorem call_self (X : K.In s.heap) (I : PySem.W.InstAt s.heap x ox C od) (hm : PySem.W.mroIn K C (.type "object") = some true) {Q : Value → Shared → Prop} (hq : Q (.bool true) s) :
    wpAny (model prog w) A (call (.builtin "object.__eq__") [.ref x, .ref x]) Q E s :=
  wpAny_call (codeAny_call_builtin F.cmp_object.eq.plain F.cmpEntry_eq (PySem.W.check_slot F.cmpKind_eq F.cmpSplit_eq (I.type.andThen (PySem.W.looks_mroIn X hm)) (F.cmpArgs_eq _ _) (entry_self hq)))
theorem rc_other (hu : A.units < cLine) (X : K.In s.heap) (I : PySem.W.InstAt s.heap x ox C od) (J : PySem.W.InstAt s.heap y oy C oe) (hm : PySem.W.mroIn K C (.type "object") = some true) (hs : PySem.W.findIn K (.ref C) "__eq__" = some (some (.builtin "object.__eq__")))
    (hxy : x ≠ y) (hx : s.heap.get? x = some ox) (hy : s.heap.get? y = some oy) (hnt : ox.cls ≠ .type "tuple") (hnu : oy.cls ≠ .type "tuple") : RcAt A s (.ref x) (.ref y) false := fun prog w E Q h => by
  have one : wpAny (model prog w) A (tryCompare (.ref x) "__eq__" (.ref y)) (fun r s' => r = none ∧ s' = s) E s := by
    unfold tryCompare
    exact wpAny_bind (HN.ifBound_objEq X I hs (call_other X I hm hxy hx hy hnt (wpAny_pure ⟨rfl, rfl⟩)))
  have two : wpAny (model prog w) A (tryCompare (.ref y) "__eq__" (.ref x)) (fun r s' => r = none ∧ s' = s) E s := by
    unfold tryCompare
    exact wpAny_bind (HN.ifBound_objEq X J hs (call_other X J hm (Ne.symm hxy) hy hx hnu (wpAny_pure ⟨rfl, rfl⟩)))
  simp only [richCompare, cmpInfo_Eq, oneThing_ref]
  refine wpAny_holding (wpAny_bind (wpAny_cRoomFor hu ?_))
  refine wpAny_bind (I.type.here ?_)
  refine wpAny_bind (J.type.here ?_)
  split
  · rename_i q
    exact absurd q (by simp)
  · refine wpAny_bind (wpAny_pure ?_)
    simp only [Bool.false_eq_true, if_false, Bool.not_false, if_true]
    refine wpAny_bind (m := tryCompare (.ref x) _ (.ref y)) (wpAny_mono one (fun r s1 z => ?_) fun _ _ e => e)
    obtain ⟨z1, z2⟩ := z
    subst z1
    subst z2
    refine wpAny_bind (m := tryCompare (.ref y) _ (.ref x)) (wpAny_mono two (fun r s2 z => ?_) fun _ _ e => e)
    obtain ⟨z1, z2⟩ := z
    subst z1
    subst z2
    exact wpAny_bind (wpAny_rule (wpAny_bind (wpAny_isSame_ref_other hxy hx hy hnt (wpAny_pure h))))
theorem rc_self (hu : A.units < cLine) (X : K.In s.heap) (I : PySem.W.InstAt s.heap x ox C od) (hm : PySem.W.mroIn K C (.type "object") = some true) (hs : PySem.W.findIn K (.ref C) "__eq__" = some (some (.builtin "object.__eq__"))) : RcAt A s (.ref x) (.ref x) true := fun prog w E Q h => by
  have one : wpAny (model prog w) A (tryCompare (.ref x) "__eq__" (.ref x)) (fun r s' => r = some (.bool true) ∧ s' = s) E s := by
    unfold tryCompare
    exact wpAny_bind (HN.ifBound_objEq X I hs (call_self X I hm (wpAny_pure ⟨rfl, rfl⟩)))
  simp only [richCompare, cmpInfo_Eq, oneThing_ref]
  refine wpAny_holding (wpAny_bind (wpAny_cRoomFor hu ?_))
  refine wpAny_bind (I.type.here ?_)
  refine wpAny_bind (I.type.here ?_)
  split
  · rename_i q
    exact absurd q (by simp)
  · refine wpAny_bind (wpAny_pure ?_)
    simp only [Bool.false_eq_true, if_false, Bool.not_false, if_true]
    refine wpAny_bind (m := tryCompare (.ref x) _ (.ref x)) (wpAny_mono one (fun r s1 z => ?_) fun _ _ e => e)
    obtain ⟨z1, z2⟩ := z
    subst z1
    subst z2
    exact wpAny_pure h
end
end AMX
namespace AM
open PySem PySem.Spec PyProof.Rows L2

-- AM24
/-! ### instances that are equal to themselves alone -/
structure PlainEq (K : PySem.W.Frag) (C : Addr) : Prop where
  mro : PySem.W.mroIn K C (.type "object") = some true
  eq : PySem.W.findIn K (.ref C) "__eq__" = some (some (.builtin "object.__eq__"))
  nn : PySem.W.subIn K (.ref C) (.type "NoneType") = some false
end AM
namespace AMX
open PySem PySem.Spec PyProof.Rows PySem.SeqAt
theorem rc_none' {A : Around} {s : Shared} {K : PySem.W.Frag} {x C : Addr} {ox : Obj} {od : Option Obj} (hu : A.units < cLine) (X : K.In s.heap) (I : PySem.W.InstAt s.heap x ox C od) (P : AM.PlainEq K C) : RcAt A s .none (.ref x) false := fun prog w E Q h => by
  have one : wpAny (model prog w) A (tryCompare (.ref x) "__eq__" .none) (fun r s' => r = none ∧ s' = s) E s := by
    unfold tryCompare
    exact wpAny_bind (HN.ifBound_objEq X I P.eq (HN.call_objEq X I P.mro (wpAny_pure ⟨rfl, rfl⟩)))
  have two : wpAny (model prog w) A (tryCompare .none "__eq__" (.ref x)) (fun r s' => r = none ∧ s' = s) E s :=
    wpAny_tryCompare_declines (show s.TypeIs .none "NoneType" from rfl) F.slot_NoneType_eq_refl (call_gives F.slot_NoneType_eq_refl rfl F.entry_NoneType_eq (F.args_NoneType_eq_2 _ _) (NoneType___eq___none_ref_0 x) ⟨rfl, rfl, rfl⟩)
  simp only [richCompare, cmpInfo_Eq, (rfl : oneThing? .Eq Value.none (.ref x) = none)]
  refine wpAny_holding (wpAny_bind (wpAny_cRoomFor hu ?_))
  refine wpAny_bind (wpAny_typeOf (show s.TypeIs .none "NoneType" from rfl) ?_)
  refine wpAny_bind (I.type.here ?_)
  split
  · refine wpAny_bind ((PySem.W.looks_subIn X P.nn).here ?_)
    simp only [Bool.false_eq_true, if_false, Bool.not_false, if_true]
    refine wpAny_bind (m := tryCompare .none _ (.ref x)) (wpAny_mono two (fun r s1 z => ?_) fun _ _ e => e)
    obtain ⟨z1, z2⟩ := z
    subst z1
    subst z2
    refine wpAny_bind (m := tryCompare (.ref x) _ .none) (wpAny_mono one (fun r s2 z => ?_) fun _ _ e => e)
    obtain ⟨z1, z2⟩ := z
    subst z1
    subst z2
    exact wpAny_bind (wpAny_rule (wpAny_bind (wpAny_of_eq (rfl : isSame .none (.ref x) = pure false) (wpAny_pure h))))
  · rename_i q
    exact absurd (by simp) q
end AMX
namespace AM
open PySem PySem.Spec PyProof.Rows L2
def InsV (H : Hp) (C : Addr) (z : V) : Prop := z = .non ∨ ∃ a dx fs, z = .ref a ∧ H a = some (.ins C dx fs)
def rEqI (K : PySem.W.Frag) (C : Addr) : R2 := fun x y H Q => PlainEq K C ∧ InsV H C x ∧ InsV H C y ∧ Q (.bl (decide (x = y))) H
section
variable {X : Cx} {A : Around} {pins : List (Addr × Obj)} {σ : L2.St} {H : Hp} {s : Shared} {C : Addr}
theorem ins_rc (I : Inv X pins σ H s) (hu : A.units < cLine) (P : PlainEq X.K C) {a b : Addr} {dx dy : Addr} {fs gs : List (Str × V)} (ha : H a = some (.ins C dx fs)) (hb : H b = some (.ins C dy gs)) : SeqAt.RcAt A s (.ref a) (.ref b) (decide (a = b)) := by
  obtain ⟨mA, O, _⟩ := ins_get I.hok ha
  obtain ⟨mB, O', _⟩ := ins_get I.hok hb
  obtain ⟨od, J, _⟩ := O.look
  obtain ⟨oe, J', _⟩ := O'.look
  by_cases e : a = b
  · subst e
    rw [decide_eq_true rfl]
    exact AMX.rc_self hu I.kIn J P.mro P.eq
  · rw [decide_eq_false e]
    exact AMX.rc_other hu I.kIn J J' P.mro P.eq e O.obj O'.obj (fun z => nomatch z) (fun z => nomatch z)
theorem ins_eqAt (I : Inv X pins σ H s) (hu : A.units < cLine) (P : PlainEq X.K C) {a b : Addr} {dx dy : Addr} {fs gs : List (Str × V)} (ha : H a = some (.ins C dx fs)) (hb : H b = some (.ins C dy gs)) : SeqAt.EqAt A s (.ref a) (.ref b) (decide (a = b)) := by
  by_cases e : a = b
  · subst e
    rw [decide_eq_true rfl]
    exact SeqAt.EqAt.same _
  · intro prog w E Q h
    exact GQ.eqBool_refG e (ins_rc I hu P ha hb prog w E _ ⟨_, rfl, h⟩)
end
section
variable {X : Cx} {C : Addr}
theorem op_eqI (hu : X.A.units + 65 < cLine) : OpR X (compareOp .Eq) (rEqI X.K C) := by
  intro pins s σ H x y v u Q I rx ry h
  obtain ⟨P, ix, iy, q⟩ := h
  rcases ix with rfl | ⟨a, dx, fs, rfl, ha⟩
  · rcases iy with rfl | ⟨b, dy, gs, rfl, hb⟩
    · exact op_eqD (by omega) pins s σ H .non .non v u Q I rx ry ⟨.none, .none, .non, .non, rfl, rfl, q⟩
    · cases rx
      cases ry
      obtain ⟨mB, O', _⟩ := ins_get I.hok hb
      obtain ⟨oe, J', _⟩ := O'.look
      exact AMX.rc_none' (by omega) I.kIn J' P X.prog X.w X.xe _ ⟨.bl _, H, I, rfl, q⟩
  · rcases iy with rfl | ⟨b, dy, gs, rfl, hb⟩
    · cases rx
      cases ry
      obtain ⟨mB, O', _⟩ := ins_get I.hok ha
      obtain ⟨oe, J', _⟩ := O'.look
      exact HN.rc_none (by omega) I.kIn J' P.mro P.eq X.prog X.w X.xe _ ⟨.bl _, H, I, rfl, q⟩
    · cases rx
      cases ry
      refine ins_rc I (by omega) P ha hb X.prog X.w X.xe _ ⟨.bl _, H, I, rfl, ?_⟩
      have e : decide (a = b) = decide ((V.ref a) = V.ref b) := by
        by_cases z : a = b
        · subst z; rw [decide_eq_true rfl, decide_eq_true rfl]
        · rw [decide_eq_false z, decide_eq_false (fun w => z (V.ref.inj w))]
      rw [e]
      exact q
end
/-! on told values -/
def insW (S : Sto) (C : Addr) : W → Prop
  | .non => True
  | .ref k => ∃ fs, S[k]? = some (.ins C fs)
  | _ => False
def sameW : W → W → Bool
  | .non, .non => true
  | .ref i, .ref j => decide (i = j)
  | _, _ => false
theorem Rep.insA {M : Lay} {H : Hp} {S : Sto} (r : Rep M H S) {k : Nat} {C : Addr} {fs : List (Str × W)} (h : S[k]? = some (.ins C fs)) : ∃ p dx vs, M.m[k]? = some p ∧ H p = some (.ins C dx vs) := by
  obtain ⟨p, ho, h1, h2, b⟩ := r.at' h
  cases b with
  | ins a => exact ⟨p, _, _, h1, h2⟩
theorem insW_vw {M : Lay} {H : Hp} {S : Sto} {C : Addr} (r : Rep M H S) {x : W} {v : V} (a : VW M H v x) (h : insW S C x) : InsV H C v := by
  cases x with
  | non => cases a; exact .inl rfl
  | ref k =>
    obtain ⟨fs, h⟩ := h
    obtain ⟨p, dx, vs, h1, h2⟩ := r.insA h
    cases a with
    | ref q =>
      rw [q] at h1; cases h1
      exact .inr ⟨_, _, _, rfl, h2⟩
  | _ => cases h
theorem same_vw {M : Lay} {H : Hp} {S : Sto} {C : Addr} (r : Rep M H S) {x y : W} {v u : V} (a : VW M H v x) (b : VW M H u y) (hx : insW S C x) (hy : insW S C y) : decide (v = u) = sameW x y := by
  cases x with
  | non =>
    cases a
    cases y with
    | non => cases b; exact decide_eq_true rfl
    | ref k => cases b; exact decide_eq_false fun z => nomatch z
    | _ => cases hy
  | ref i =>
    cases a with
    | ref q =>
      cases y with
      | non => cases b; exact decide_eq_false fun z => nomatch z
      | ref j =>
        cases b with
        | ref q' =>
          show _ = decide (i = j)
          by_cases e : i = j
          · subst e
            rw [q] at q'; cases q'
            rw [decide_eq_true rfl, decide_eq_true rfl]
          · rw [decide_eq_false e]
            refine decide_eq_false fun z => e ?_
            cases z
            exact nd_at r.nd q q'
      | _ => cases hy
  | _ => cases hx
section
variable {X : Cx} {Ψ : AX} {a b o e : Expr} {E : AEnv} {S : Sto} {Φ : W → Sto → Prop} {ΦT : Bool → Sto → Prop} {pos : Pos}
def sEqI (X : Cx) (x y : W) (S : Sto) (Φ : W → Sto → Prop) : Prop := ∃ C, PlainEq X.K C ∧ insW S C x ∧ insW S C y ∧ Φ (.bl (sameW x y)) S
theorem sEqI_i {x y : W} {C : Addr} {k : Bool} (p : PlainEq X.K C) (h1 : insW S C x) (h2 : insW S C y) (e : sameW x y = k) (h : Φ (.bl k) S) : sEqI X x y S Φ := ⟨C, p, h1, h2, by rw [e]; exact h⟩
theorem xE_eqI (hu : X.A.units + 65 < cLine) (h : wE X Ψ a E S fun x S1 => wE X Ψ b E S1 fun y S2 => sEqI X x y S2 Φ) : wE X Ψ (.Compare a [.Eq] [b] pos) E S Φ :=
  wE_cmp (r := fun x y H Q => ∃ C, rEqI X.K C x y H Q) (g := fun x y S Φ => sEqI X x y S Φ) (fun pins s σ H x y v u Q I rx ry ⟨C, h⟩ => op_eqI hu pins s σ H x y v u Q I rx ry h)
    (opw_pure fun M H S v u x y Φ r a1 a2 ⟨C, p, h1, h2, h⟩ Q q => ⟨C, p, insW_vw r a1 h1, insW_vw r a2 h2, by
      rw [same_vw r a1 a2 h1 h2]
      exact q _ _ h (.bl _)⟩) h
theorem xT_eqI (hu : X.A.units + 65 < cLine) (h : wE X Ψ a E S fun x S1 => wE X Ψ b E S1 fun y S2 => sEqI X x y S2 fun w S => sB w S ΦT) : wT X Ψ (.Compare a [.Eq] [b] pos) E S ΦT :=
  wT_cmp (r := fun x y H Q => ∃ C, rEqI X.K C x y H Q) (g := fun x y S Φ => sEqI X x y S Φ) (fun pins s σ H x y v u Q I rx ry ⟨C, h⟩ => op_eqI hu pins s σ H x y v u Q I rx ry h)
    (opw_pure fun M H S v u x y Φ r a1 a2 ⟨C, p, h1, h2, h⟩ Q q => ⟨C, p, insW_vw r a1 h1, insW_vw r a2 h2, by
      rw [same_vw r a1 a2 h1 h2]
      exact q _ _ h (.bl _)⟩) h
end

-- AM25
/-! ### lists of instances: in, remove -/
def InsA (H : Hp) (C : Addr) (z : V) : Prop := ∃ a dx fs, z = .ref a ∧ H a = some (.ins C dx fs)
def isRefV (a : Addr) : Value → Bool
  | .ref b => decide (b = a)
  | _ => false
section
variable {X : Cx} {pins : List (Addr × Obj)} {σ : L2.St} {H : Hp} {s : Shared} {C : Addr} {A : Around}
theorem insA_eqAt (I : Inv X pins σ H s) (hu : A.units < cLine) (P : PlainEq X.K C) {a dx : Addr} {fs : List (Str × V)} (ha : H a = some (.ins C dx fs)) : ∀ {xs : List V} {us : List Value}, Vals xs us → (∀ z ∈ xs, InsA H C z) → ∀ u ∈ us, SeqAt.EqAt A s u (.ref a) (isRefV a u)
  | _, _, .nil, _ => fun u hu' => by cases hu'
  | y :: xs, u :: us, .cons r t, f => fun u' hu' => by
    rcases List.mem_cons.mp hu' with e | hu'
    · subst e
      obtain ⟨b, dy, gs, rfl, hb⟩ := f y (List.mem_cons_self ..)
      cases r
      exact ins_eqAt I hu P hb ha
    · exact insA_eqAt I hu P ha t (fun z hz => f z (List.mem_cons_of_mem _ hz)) u' hu'
theorem any_ref {H : Hp} {a : Addr} : ∀ {xs : List V} {us : List Value}, Vals xs us → (∀ z ∈ xs, InsA H C z) → us.any (isRefV a) = xs.any fun z => decide (z = V.ref a)
  | _, _, .nil, _ => rfl
  | y :: xs, u :: us, .cons r t, f => by
    rw [List.any_cons, List.any_cons, any_ref t fun z hz => f z (List.mem_cons_of_mem _ hz)]
    congr 1
    obtain ⟨b, dy, gs, rfl, hb⟩ := f y (List.mem_cons_self ..)
    cases r
    show decide (b = a) = decide (V.ref b = V.ref a)
    by_cases e : b = a
    · subst e; rw [decide_eq_true rfl, decide_eq_true rfl]
    · rw [decide_eq_false e, decide_eq_false fun z => e (V.ref.inj z)]
end
section
variable {X : Cx} {C : Addr}
def rInI (K : PySem.W.Frag) : R2 := fun x y H Q => ∃ C p xs a dx fs, PlainEq K C ∧ x = .ref a ∧ H a = some (.ins C dx fs) ∧ y = .ref p ∧ SqL K H p xs ∧ (∀ z ∈ xs, InsA H C z) ∧ Q (.bl (xs.any fun z => decide (z = V.ref a))) H
theorem op_inI (hu : X.A.units + 64 < cLine) : OpR X (compareOp .In) (rInI X.K) := by
  intro pins s σ H x y v u Q I rx ry h
  obtain ⟨C, p, xs, a, dx, fs, P, rfl, ha, rfl, hq, f, q⟩ := h
  cases rx
  cases ry
  obtain ⟨its, rv, hl, _⟩ := I.list hq
  have hu1 : X.A.in1.units < cLine := by show X.A.units + 1 < cLine; omega
  refine SeqAt.in_listAt (isRefV a) hl.isList (fun z hz => insA_eqAt I hu1 P ha rv f z (by simpa using hz)) ⟨.bl _, H, I, rfl, ?_⟩
  rw [show its.toArray.any (isRefV a) = its.any (isRefV a) by simp, any_ref rv f]
  exact q
end
section
variable {M : Lay} {H : Hp} {S : Sto} {C : Addr}
theorem vws_refs (r : Rep M H S) : ∀ {ks : List Nat} {xs : List V}, VWs M H xs (ks.map W.ref) → (∀ k ∈ ks, ∃ fs, S[k]? = some (.ins C fs)) → (∀ z ∈ xs, InsA H C z) ∧ ∀ (j : Nat) (a : Addr), M.m[j]? = some a → (xs.any fun z => decide (z = V.ref a)) = decide (j ∈ ks)
  | [], _, h, _ => by
    cases h
    exact ⟨(fun z hz => by cases hz), fun j a _ => by simp⟩
  | k :: ks, _, h, hk => by
    cases h with
    | cons a t =>
      rename_i v vs
      have ih := vws_refs r t fun k' hk' => hk k' (List.mem_cons_of_mem _ hk')
      obtain ⟨fs, e⟩ := hk k (List.mem_cons_self ..)
      obtain ⟨p, dx, gs, h1, h2⟩ := r.insA e
      cases a with
      | ref q =>
        rw [q] at h1; cases h1
        refine ⟨fun z hz => ?_, fun j b hb => ?_⟩
        · rcases List.mem_cons.mp hz with rfl | hz
          · exact ⟨_, _, _, rfl, h2⟩
          · exact ih.1 z hz
        · rw [List.any_cons, ih.2 j b hb]
          have e : decide (V.ref p = V.ref b) = decide (j = k) := by
            by_cases z : j = k
            · subst z
              rw [q] at hb; cases hb
              rw [decide_eq_true rfl, decide_eq_true rfl]
            · rw [decide_eq_false z]
              refine decide_eq_false fun w => z ?_
              cases w
              exact nd_at r.nd hb q
          rw [e]
          by_cases z : j = k
          · simp [z]
          · simp [z]
end
section
variable {X : Cx} {Ψ : AX} {a b o e : Expr} {E : AEnv} {S : Sto} {Φ : W → Sto → Prop} {ΦT : Bool → Sto → Prop} {pos : Pos}
def sInI (X : Cx) (x y : W) (S : Sto) (Φ : W → Sto → Prop) : Prop := ∃ (C : Addr) (j : Nat) (ks : List Nat), PlainEq X.K C ∧ x = .ref j ∧ (∃ fs, S[j]? = some (.ins C fs)) ∧ itemsW S y = some (ks.map W.ref) ∧ (∀ z, y ≠ .tup z) ∧ (∀ k ∈ ks, ∃ fs, S[k]? = some (.ins C fs)) ∧ Φ (.bl (decide (j ∈ ks))) S
theorem xT_inI (hu : X.A.units + 65 < cLine) (h : wE X Ψ a E S fun x S1 => wE X Ψ b E S1 fun y S2 => sInI X x y S2 fun w S => sB w S ΦT) (hm : behindInMarks .In b = false := by rfl) : wT X Ψ (.Compare a [.In] [b] pos) E S ΦT :=
  wT_cmp (g := fun x y S Φ => sInI X x y S Φ) (op_inI (by omega))
    (opw_pure fun M H S v u x y Φ r a1 a2 ⟨C, j, ks, p, e1, ⟨fs, hj⟩, hi, nt, hk, h⟩ Q q => by
      subst e1
      obtain ⟨ad, xs, rfl, rv, kk⟩ := seq_of (K := X.K) r a2 hi
      obtain ⟨z1, z2⟩ := vws_refs r rv hk
      obtain ⟨pa, dx, gs, h1, h2⟩ := r.insA hj
      cases a1 with
      | ref qm =>
        rw [qm] at h1; cases h1
        refine ⟨C, ad, xs, _, _, _, p, rfl, h2, rfl, by rcases kk with ⟨k, _⟩ | ⟨_, y, ey⟩; exact k; exact absurd ey (nt y), z1, ?_⟩
        rw [z2 j _ qm]
        exact q _ _ h (.bl _)) h hm
end
/-! xs.remove(an instance) -/
def tRemI (K : PySem.W.Frag) (to te : TE) : TE := fun σ H Q => to σ H fun x H1 => tyV K "list" x H1 ∧ te σ H1 fun y H2 => ∃ (C l a dx : Addr) (fs : List (Str × V)) (xs : List V) (j : Nat), PlainEq K C ∧ x = .ref l ∧ y = .ref a ∧ H2 a = some (.ins C dx fs) ∧ H2 l = some (.lst xs) ∧ (∀ z ∈ xs, InsA H2 C z) ∧
  xs[j]? = some (.ref a) ∧ (∀ i, i < j → xs[i]? ≠ some (.ref a)) ∧ Q .non (upd H2 l (.lst (xs.eraseIdx j)))
theorem vals_get : ∀ {xs : List V} {us : List Value} {i : Nat} {u : Value}, Vals xs us → us[i]? = some u → ∃ x, xs[i]? = some x ∧ RelV x u
  | _, _, _, _, .nil, h => by simp at h
  | _, _, 0, _, .cons r t, h => by simp at h; subst h; exact ⟨_, rfl, r⟩
  | _, _, i + 1, _, .cons r t, h => vals_get (i := i) t (by simpa using h)
section
variable {X : Cx} {o e : Expr} {to te : TE} {apos cpos : Pos}
theorem pe_remI (hu : X.A.units + 65 < cLine) (ho : PE X o to) (he : PE X e te) (hbase : attributeBase o "remove" X.env (eval o X.env) = eval o X.env := by rfl)
    (hfew : ((backTo cpos (starEach [e] X.env)).all (fun x => !x.1) && (backToKw cpos (keywordEach [] X.env)).all (fun x => x.1.isSome)
      && decide (([e] : List Expr).length + ([] : List Keyword).length + (if ([] : List Keyword).isEmpty then 0 else 1) < 30)) = true := by rfl)
    (hline : (apos.endLine == cpos.line) = true := by rfl) (hs : starEach [e] X.env = (false, eval e X.env) :: starEach [] X.env := by rfl) (hplain : (backTo cpos (starEach [] X.env)).any (·.1) = false := by rfl) :
    PE X (.Call (.Attribute o "remove" apos) [e] [] cpos) (tRemI X.K to te) := by
  refine ⟨fun pins s σ H Q I h => ?_⟩
  refine wpAny_Call_method_late hbase hfew hline rfl (thn (ho.run pins s σ H _ I h) fun v s1 ⟨x, H1, I1, r1, ty, q1⟩ => ?_)
  obtain ⟨h1, h2⟩ := tyV_is I1 r1 ty
  refine ⟨"list", _, PySem.F.plainAttrs_list, PySem.F.slot_list_remove, PySem.F.type_list_remove, h1, h2, ?_⟩
  rw [hs]
  refine Calls.callWith_builtin (by show (false || (backTo cpos (starEach [] X.env)).any (·.1)) = false; rw [hplain] <;> rfl) (Calls.evalArgs_plain ?_)
  show wpAny _ _ (spliced ((false, eval e X.env) :: backTo cpos (starEach [] X.env))) _ _ s1
  refine Calls.spliced_cons (thn (he.run pins s1 σ H1 _ I1 q1) fun u s2 ⟨y, H2, I2, ry, q2⟩ => ?_)
  refine Calls.spliced_nil ?_
  obtain ⟨C, l, a, dx, fs, xs, j, P, ex, ey, ha, hH, hz, hj, hno, q⟩ := q2
  subst ex
  subst ey
  cases (show v = Value.ref l from r1)
  cases (show u = Value.ref a from ry)
  obtain ⟨z, its, n, r, hl, e0⟩ := I2.lstM hH
  have hjx : j < xs.length := (List.getElem?_eq_some_iff.mp hj).1
  have hji : j < its.length := by omega
  have hsz : its.toArray.size ≤ sizeLine := by rw [List.size_toArray, ← hl]; exact z
  have at_ : ∀ (i : Nat) (hi : i < its.length), isRefV a its[i] = true ↔ xs[i]? = some (.ref a) := by
    intro i hi
    obtain ⟨x', hx', rx'⟩ := vals_get r (List.getElem?_eq_getElem hi)
    obtain ⟨b, dy, gs, rfl, hb⟩ := hz x' (List.mem_of_getElem? hx')
    have e1 : its[i] = Value.ref b := rx'
    rw [e1, hx']
    show decide (b = a) = true ↔ _
    rw [decide_eq_true_iff]
    constructor
    · intro w; rw [w]
    · intro w; cases w; rfl
  refine call_meets PySem.F.slot_list_remove ⟨_, e0, rfl⟩ PySem.F.entry_list_remove (PySem.F.args_list_remove_2 _ _)
    (PySem.SeqAt.list_removeAt l its.toArray n none #[] (.ref a) (isRefV a) j (by rw [List.size_toArray]; exact hji) ?hit (fun i hi2 hlt => ?hno) hsz) ⟨e0, ?heq, ?_⟩
  case hit => exact (at_ j hji).mpr hj
  case hno =>
    have hi3 : i < its.length := by rw [List.size_toArray] at hi2; exact hi2
    show isRefV a its[i] = false
    rw [Bool.eq_false_iff]
    intro w
    exact hno i hlt ((at_ i hi3).mp w)
  case heq =>
    intro y hy
    exact insA_eqAt I2 (by show X.A.units + 1 < cLine; omega) P ha r hz y (by simpa using hy)
  have r2 : Vals (xs.eraseIdx j) (its.eraseIdx j) := r.eraseIdx j
  refine ⟨.non, _, I2.lset (its' := its.eraseIdx j) hH e0 ?_ r2 ?_, rfl, q⟩
  · show its.toArray.eraseIdxIfInBounds j = (its.eraseIdx j).toArray
    rw [List.eraseIdxIfInBounds_toArray]
  · have := List.length_eraseIdx_le xs j
    omega
end
section
variable {X : Cx} {Ψ : AX} {a b o e : Expr} {E : AEnv} {S : Sto} {Φ : W → Sto → Prop} {pos : Pos}
def sRemI (X : Cx) (x w : W) (S : Sto) (Φ : W → Sto → Prop) : Prop := ∃ (C : Addr) (l j : Nat) (ks : List Nat), PlainEq X.K C ∧ x = .ref l ∧ w = .ref j ∧ S[l]? = some (.lst (ks.map W.ref)) ∧ (∀ k ∈ ks, ∃ fs, S[k]? = some (.ins C fs)) ∧ j ∈ ks ∧ Φ .non (S.set l (.lst ((ks.erase j).map W.ref)))
theorem firstN_at : ∀ {ns : List Nat} {k : Nat}, k ∈ ns → ∃ j, ns[j]? = some k ∧ (∀ i, i < j → ns[i]? ≠ some k) ∧ ns.eraseIdx j = ns.erase k
  | [], k, h => absurd h (by simp)
  | a :: r, k, h => by
    by_cases e : a = k
    · refine ⟨0, by rw [e] <;> rfl, fun i hi => absurd hi (Nat.not_lt_zero _), ?_⟩
      rw [e, List.erase_cons_head] <;> rfl
    · have hr : k ∈ r := by
        rcases List.mem_cons.mp h with z | z
        · exact absurd z.symm e
        · exact z
      obtain ⟨j, h2, h3, h4⟩ := firstN_at hr
      refine ⟨j + 1, h2, fun i hi => ?_, ?_⟩
      · cases i with
        | zero =>
          intro z
          exact e (Option.some.inj z)
        | succ i => exact h3 i (Nat.lt_of_succ_lt_succ hi)
      · rw [List.erase_cons_tail (by rw [beq_iff_eq]; exact e), ← h4] <;> rfl
theorem map_erIdx : ∀ (ks : List Nat) (i : Nat), (ks.eraseIdx i).map W.ref = (ks.map W.ref).eraseIdx i
  | [], _ => rfl
  | _ :: _, 0 => rfl
  | k :: ks, i + 1 => by
    show W.ref k :: _ = W.ref k :: _
    rw [map_erIdx ks i]
theorem xE_remI {apos cpos : Pos} (hu : X.A.units + 65 < cLine) (h : wE X Ψ o E S fun x S1 => sAppO x S1 (wE X Ψ e E S1 fun w S2 => sRemI X x w S2 Φ))
    (hbase : attributeBase o "remove" X.env (eval o X.env) = eval o X.env := by rfl)
    (hfew : ((backTo cpos (starEach [e] X.env)).all (fun x => !x.1) && (backToKw cpos (keywordEach [] X.env)).all (fun x => x.1.isSome)
      && decide (([e] : List Expr).length + ([] : List Keyword).length + (if ([] : List Keyword).isEmpty then 0 else 1) < 30)) = true := by rfl)
    (hline : (apos.endLine == cpos.line) = true := by rfl) (hs : starEach [e] X.env = (false, eval e X.env) :: starEach [] X.env := by rfl) (hplain : (backTo cpos (starEach [] X.env)).any (·.1) = false := by rfl) : wE X Ψ (.Call (.Attribute o "remove" apos) [e] [] cpos) E S Φ :=
  wE.of (pe_remI hu pe_sem pe_sem hbase hfew hline hs hplain) fun M σ H r ev xo Q q => h.run M σ H r ev xo _ fun v w M1 S1 H1 ⟨⟨kk, wz, e1, hk⟩, h⟩ r1 a1 s1 => ⟨tyM_vw r1 a1 (by subst e1; exact .inl ⟨rfl, wz, hk⟩), h.run M1 σ H1 r1 (ev.step s1) (xo.step s1) _ fun u w2 M2 S2 H2 ⟨C, l, j, ks, P, e2, e3, hl, hks, hm, p⟩ r2 a2 s2 => by
    subst e2; subst e3
    have b1 := VW.step' s2 a1
    cases b1 with
    | ref hmm =>
      obtain ⟨ad, xs, h1', h2, h3⟩ := r2.lst hl
      rw [hmm] at h1'; cases h1'
      obtain ⟨fs, hj⟩ := hks j hm
      obtain ⟨pa, dx, gs, h4, h5⟩ := r2.insA hj
      cases a2 with
      | ref qm =>
        rw [qm] at h4; cases h4
        obtain ⟨i, i1, i2, i3⟩ := firstN_at hm
        have ind : ∀ (i' k' : Nat), ks[i']? = some k' → ∃ b, xs[i']? = some (.ref b) ∧ M2.m[k']? = some b := by
          intro i' k' hk'
          obtain ⟨v', e', a'⟩ := vws_get (k := i') (y := .ref k') h3 (by rw [List.getElem?_map, hk']; rfl)
          cases a' with
          | ref q' => exact ⟨_, e', q'⟩
        obtain ⟨z1, z2⟩ := vws_refs r2 h3 hks
        have rr := set_lst r2 hmm (show VWs M2 H2 (xs.eraseIdx i) ((ks.erase j).map W.ref) from by
          have := vws_erase (k := i) h3
          rw [← i3]
          rw [show (ks.eraseIdx i).map W.ref = (ks.map W.ref).eraseIdx i from map_erIdx ks i]
          exact this)
        refine ⟨C, _, _, dx, gs, xs, i, P, rfl, rfl, h5, h2, z1, ?_, fun i' hi' w => ?_, q _ _ M2 _ _ p rr.1 .non ((s1.trans s2).trans rr.2)⟩
        · obtain ⟨b, w1, w2⟩ := ind i j i1
          rw [qm] at w2; cases w2
          exact w1
        · have hlt : i' < ks.length := by
            have := (List.getElem?_eq_some_iff.mp i1).1
            omega
          obtain ⟨b, w1, w2⟩ := ind i' ks[i'] (List.getElem?_eq_getElem hlt)
          rw [w] at w1; cases w1
          exact i2 i' hi' (by rw [List.getElem?_eq_getElem hlt, nd_at r2.nd w2 qm])⟩
end

-- AM26
section
variable {X : Cx} {Ψ : AX} {a b c e o elt iter : Expr} {E : AEnv} {S : Sto} {Φ : W → Sto → Prop} {pos : Pos} {A : AE}
/-! ### a comprehension's list that will be changed -/
/-! ### xs + ys that will be changed -/
/-! ### sorted, a list that nobody changes -/
def sSortedT (x : W) (S : Sto) (Φ : W → Sto → Prop) : Prop := ∃ ws, itemsW S x = some ws ∧ (∀ z, x ≠ .tup z) ∧ W.oks ws 59 = true ∧ PySem.W.AllAlike (ws.map W.d) ∧ PySem.W.Sortable (ws.map W.d) ∧ Φ (.lst (sortW ws)) S
theorem xE_sortedT {p : Pos} (hm : X.mg "sorted" = none) (hu : X.A.units + 65 < cLine) (h : wE X Ψ e E S fun w S1 => sSortedT w S1 Φ) (hg : Gl X "sorted" := by rfl) (he : starEach [e] X.env = (false, eval e X.env) :: starEach [] X.env := by rfl) (hpl : (backTo pos (starEach [] X.env)).any (·.1) = false := by rfl) : wE X Ψ (.Call (.Name "sorted" p) [e] [] pos) E S Φ :=
  wE_callB (g := fun us S Φ => ∃ w, us = [w] ∧ sSortedT w S Φ) cr_sortedW (callw_one (fun M H S v w Φ r a ⟨w', e, ws, hi, nt, hok, hal, hk, p⟩ Q q => by
    cases e
    obtain ⟨ad, xs, rfl, rv, kk⟩ := seq_of (K := X.K) r a hi
    obtain ⟨⟨z1, z2⟩, z3⟩ := vws_zip rv
    have hd : ∀ b ∈ xs.zip ws, b.2.ok 59 = true := fun b hb => by
      have : b.2 ∈ ws := by rw [← z2]; exact List.mem_map.mpr ⟨b, hb, rfl⟩
      rw [W.oks_all] at hok
      exact List.all_eq_true.mp hok _ this
    have ze : (xs.zip ws).map encB = ws.map W.d := by
      conv => rhs; rw [← z2]
      rw [List.map_map]
      rfl
    refine ⟨ad, xs.zip ws, rfl, by rw [z1]; rcases kk with ⟨k, _⟩ | ⟨_, y, ey⟩; exact k; exact absurd ey (nt y), fun b hb => VW.dp r _ _ _ (z3 b hb) (Den.of _ 59 (hd b hb)), by rw [ze]; exact hal, by rw [ze]; exact hk, fun b hb => ?_, fun l hl => ?_⟩
    · have := W.depth_ok (hd b hb)
      show X.A.units + 2 + b.2.d.depth < cLine
      omega
    · have hv : VWs M H (((xs.zip ws).mergeSort (PySem.W.dataLe false encB)).map (·.1)) (sortW ws) := by
        have e2 : ((xs.zip ws).mergeSort (PySem.W.dataLe false encB)).map (·.2) = sortW ws := by
          have q := List.map_mergeSort (r := PySem.W.dataLe false encB) (s := PySem.W.dataLe false W.d) (f := Prod.snd) (l := xs.zip ws) (fun _ _ _ _ => rfl)
          rw [q, z2]
          rfl
        rw [← e2]
        exact zip_vws fun b hb => z3 b ((List.mergeSort_perm _ _).mem_iff.mp hb)
      exact q _ _ M S _ p (r.tmp hl) (lq_new r hl hv) (step_tmp r hl)) fun ws S Φ ⟨w, e, _⟩ => ⟨_, e⟩) hm PyProof.Rows.boot_sorted (wA_cons (h.imp fun w S1 p => wA_nil ⟨w, rfl, p⟩) he) hg (by decide) (by decide) he hpl
end

-- AM27
section
variable {X : Cx} {Ψ : AX} {a b o e : Expr} {E : AEnv} {S : Sto} {Φ : W → Sto → Prop} {ΦT : Bool → Sto → Prop} {pos : Pos}
end

-- AM28
section
variable {X : Cx} {Ψ : AX} {a b o e : Expr} {E : AEnv} {S : Sto} {Φ : W → Sto → Prop} {ΦT : Bool → Sto → Prop} {pos : Pos}
end

-- AM29
end AM
namespace AMX
open PySem PySem.Spec PyProof.Rows
section
variable {prog : Program} {w : World} {A : Around} {E : Value → Shared → Prop} {s : Shared}
end
end AMX
namespace AM
open PySem PySem.Spec PyProof.Rows L2
section
variable {X : Cx} {Ψ : AX} {a b o e : Expr} {E : AEnv} {S : Sto} {Φ : W → Sto → Prop} {ΦT : Bool → Sto → Prop} {pos : Pos}
end

-- AM30
section
variable {X : Cx} {Ψ : AX} {a b o e : Expr} {E : AEnv} {S : Sto} {Φ : W → Sto → Prop} {ΦT : Bool → Sto → Prop} {pos : Pos}
end
section
variable {X : Cx} {Ψ : AX} {a b o e : Expr} {E : AEnv} {S : Sto} {Φ : W → Sto → Prop} {ΦT : Bool → Sto → Prop} {pos : Pos}
/-! ### a list, walked on or back -/
end

-- AM32
section
variable {X : Cx} {Ψ : AX} {a b o e : Expr} {E : AEnv} {S : Sto} {Φ : W → Sto → Prop} {ΦT : Bool → Sto → Prop} {pos : Pos}
/-! ### where a number stands in a list of numbers -/
end

-- AM33
/-! ### a lambda handed to a def that tries it -/
section
variable {M : Lay} {H H1 : Hp} {S : Sto}
end
/-- the heap when a lambda was made at a def's table: its code object is there, or new -/
theorem step_tmp' {M : Lay} {H : Hp} {p d : Addr} {u ho : HO} (nd : H d = none) (ne : p ≠ d) (nm : d ∉ M.m) : Step M (upd H p u) M (upd (upd H p u) d ho) where
  pre := List.prefix_refl _
  new := fun _ h n => absurd n h
  keep := fun a o h _ _ => by
    have nd : (upd H p u) d = none := by rw [upd_ne ne.symm]; exact nd
    rw [upd_ne (ne_of_none h nd)]; exact h
  tbl := fun a ps _ h => by
    have nd : (upd H p u) d = none := by rw [upd_ne ne.symm]; exact nd
    exact ⟨ps, by rw [upd_ne (ne_of_none h nd)]; exact h⟩
  there := fun a _ h => by
    by_cases e : a = d
    · subst e; rw [upd_same]; exact fun z => nomatch z
    · rw [upd_ne e]; exact h
  old := fun _ h _ => h
  hold := rfl
def Made (H : Hp) (P : Addr) (q : Str) (ps : Array Value) (d : Addr) (H1 : Hp) : Prop :=
  (H1 = H ∧ H d = some (LamX.CodeO d q)) ∨ ∃ pos : Pos, H d = none ∧ H1 = upd (upd H P (.tbl (ps ++ #[rawInt pos.line, rawInt pos.col, .ref d]))) d (LamX.CodeO d q)
section
variable {X : Cx} {pins : List (Addr × Obj)} {σ : L2.St} {H : Hp} {s : Shared}
theorem lam_mk {c P : Addr} {ps : Array Value} {pr : Arguments} {bd : Expr} {sc : Scope} {po : Pos} {EE QQ : Value → Shared → Prop} (I : Inv X pins σ H s) (tb : LamX.TabB X.base X.mg c P) (ec : X.env.code = .ref c) (eP : H P = some (.tbl ps))
    (tr : TriplesOk ps.toList) (co : ∀ (p : Pos) (cv : Value), codeAmong p ps.toList = some cv → ∃ d, cv = .ref d ∧ H d = some (LamX.CodeO d (X.env.qual ++ "<lambda>")))
    (df : defaultsOf pr X.env = ([], [])) (fre : ∀ y ∈ sc.names, y.2 = .free → ∃ c, X.env.cells.lookup y.1 = some c)
    (go : ∀ (f d : Addr) (pm ctv : Value) (H1 : Hp) (s1 : Shared), Inv X pins σ H1 s1 → Made H P (X.env.qual ++ "<lambda>") ps d H1 →
      s1.heap.get? f = some (PySem.W.kla_obj "<lambda>" (X.env.qual ++ "<lambda>") pr bd sc (cloFrom X.env.cells sc.names []) pm d ctv) → H1 f = none → f ∉ frs X.stack → QQ (.ref f) s1) :
    wpAny (model X.prog X.w) X.A (eval (.Lambda pr bd sc po) X.env) QQ EE s := by
  refine PySem.W.kla_eval df ?_
  have gP := I.hok P _ eP
  have bP := tb.bm.keeps I.bk
  have out : ∀ a, s.heap.objs.size ≤ a → a ∉ frs X.stack := fun a ha z => by
    rcases List.mem_cons.mp (I.stkSub _ z) with w | w
    · have lt := I.lt
      rw [← w] at lt
      exact absurd (Nat.lt_of_lt_of_le lt ha) (Nat.lt_irrefl _)
    · exact I.nofs ha w
  cases q : codeAmong po ps.toList with
  | some cv =>
    obtain ⟨d, rfl, hd⟩ := co po cv q
    refine PySem.W.kla_makeFunctionHit (ps := ps) (closure_ok fre) I.ok.glob (I.mod.glob.keeps I.bk) ec (tb.code.keeps I.bk) gP tr q bP fun ctv h1 tk kp le => ?_
    have J : Inv X pins σ H { s with heap := h1.push (PySem.W.kla_obj "<lambda>" (X.env.qual ++ "<lambda>") pr bd sc (cloFrom X.env.cells sc.names []) ((X.mg "__name__").getD .none) d ctv), toks := tk } :=
      I.kept fun b o e => Heap.get?_push_of_some _ (kp b o e)
    exact go _ d _ ctv H _ J (.inl ⟨rfl, hd⟩) (Heap.get?_push_size _ rfl) (I.hok.fresh le) (out _ le)
  | none =>
    refine PySem.W.kla_makeFunction (c := c) (P := P) (ps := ps) (closure_ok fre) I.ok.glob (I.mod.glob.keeps I.bk) ec (tb.code.keeps I.bk) gP tr q tb.gP bP fun d ctv h1 tk xb le lt rec_ new => ?_
    obtain ⟨d2, oc, vs, t, e2, oce, dat, nm⟩ := rec_
    cases e2
    have nd := I.hok.fresh le
    have J := LamX.inv_table (t' := tk) (more := #[rawInt po.line, rawInt po.col, .ref d]) (h' := h1.push (PySem.W.kla_obj "<lambda>" (X.env.qual ++ "<lambda>") pr bd sc (cloFrom X.env.cells sc.names []) ((X.mg "__name__").getD .none) d ctv)) I eP
      (fun b o nb e => Heap.get?_push_of_some _ (xb b o nb e)) (Heap.get?_push_of_some _ new) le ⟨oc, vs, t, Heap.get?_push_of_some _ oce, dat, nm⟩
    have le1 : s.heap.objs.size ≤ h1.objs.size := by omega
    refine go _ d _ ctv _ _ J (.inr ⟨po, nd, rfl⟩) (Heap.get?_push_size _ rfl) ?_ (out _ le1)
    have n1 : h1.objs.size ≠ d := by omega
    have n2 : h1.objs.size ≠ P := fun z => absurd (Nat.lt_of_lt_of_le (Heap.lt_size gP) le1) (by rw [z]; exact Nat.lt_irrefl _)
    rw [upd_ne n1, upd_ne n2]
    exact I.hok.fresh le1
end
section
variable {M : Lay} {H H1 : Hp} {S : Sto}
theorem made_step (r : Rep M H S) {k : Nat} {P d : Addr} {q : Str} {ps : Array Value} (hk : S[k]? = some (.tab P q)) (eP : H P = some (.tbl ps)) (tr : TriplesOk ps.toList)
    (co : ∀ (pos : Pos) (cv : Value), codeAmong pos ps.toList = some cv → ∃ c, cv = .ref c ∧ c ∉ M.m ∧ H c = some (LamX.CodeO c q)) (h : Made H P q ps d H1) : Step M H M H1 ∧ Rep M H1 S ∧ H1 d = some (LamX.CodeO d q) := by
  rcases h with ⟨rfl, hd⟩ | ⟨po, nd, rfl⟩
  · exact ⟨Step.refl M _, r, hd⟩
  · have mP := r.tb k P q hk
    have nP : P ≠ d := fun z => by rw [z, nd] at eP; cases eP
    have nm : d ∉ M.m := fun m => r.alive (fun z => z.1 m) nd
    have b1 : Ob M (upd (upd H P (.tbl (ps ++ #[rawInt po.line, rawInt po.col, .ref d]))) d (LamX.CodeO d q)) (.tbl (ps ++ #[rawInt po.line, rawInt po.col, .ref d])) (.tab P q) := by
      have eL : (ps ++ #[rawInt po.line, rawInt po.col, .ref d]).toList = ps.toList ++ [rawInt po.line, rawInt po.col, .ref d] := by simp
      refine .tab (by rw [eL]; exact PySem.TriplesOk_snoc _ _ _ _ tr) fun pos cv e => ?_
      rw [eL] at e
      rcases LamX.among_app _ tr e with z | z
      · obtain ⟨c, e1, e2, e3⟩ := co pos cv z
        have n1 : c ≠ d := fun w => by rw [w, nd] at e3; cases e3
        have n2 : c ≠ P := fun w => by
          rw [w, eP] at e3
          exact LamX.codeO_ne ps (Option.some.inj e3).symm
        exact ⟨c, e1, e2, by rw [upd_ne n1, upd_ne n2]; exact e3⟩
      · exact ⟨d, z, nm, upd_same⟩
    have st : Step M H M (upd (upd H P (.tbl (ps ++ #[rawInt po.line, rawInt po.col, .ref d]))) d (LamX.CodeO d q)) := (step_set r mP).trans (step_tmp' nd nP nm)
    have at_ : ∀ a, a ≠ P → a ≠ d → (upd (upd H P (.tbl (ps ++ #[rawInt po.line, rawInt po.col, .ref d]))) d (LamX.CodeO d q)) a = H a := fun a h1 h2 => by rw [upd_ne h2, upd_ne h1]
    refine ⟨st, ⟨r.nd, r.len, fun j p o h1 h2 => ?_, fun p hp => ⟨st.alive (r.hid p hp).1, (r.hid p hp).2⟩, r.tb⟩, upd_same⟩
    by_cases e : j = k
    · subst e
      rw [hk] at h2
      cases h2
      rw [mP] at h1
      cases h1
      exact ⟨_, by rw [upd_ne nP, upd_same], b1⟩
    · obtain ⟨ho, e1, b⟩ := r.at_ j p o h1 h2
      have n1 : p ≠ P := fun z => e (nd_at r.nd h1 (by rw [z]; exact mP))
      have n2 : p ≠ d := fun z => by rw [z, nd] at e1; cases e1
      exact ⟨ho, by rw [at_ p n1 n2]; exact e1, b.step st⟩
end

-- AM34
/-- the context of the def that got a lambda -/
abbrev zCx (X : Cx) (Ng : List Str) (x : Str) (st : Stmt) (g : Addr) (cdv : Value) (s1 : Shared) (H1 : Hp) : Cx := (cxOf C8.CX0 X.prog X.w X.K X.mg X.base Ng x (defScope st) g cdv X.A X.stack s1 H1 C8.E0).nox
/-- what the lambda's body reads, told of the slots of its maker -/
def tLm (X : Cx) (sc : Scope) (bd : Expr) (k : Nat) (f d : Addr) (σ : L2.St) (Ech : XK) : Hp → VK → Prop := fun HZ Q =>
  ∀ (A : Around) (outer : List Env) (s0 : Shared) (H0 : Hp), Room k (A.deeper (LamX.lamEnv X sc s0.heap.objs.size f d)) → sem (LamX.lamCx X A outer s0 H0 Ech sc f d) bd σ HZ Q
section
variable {X : Cx} {Ψ Ψ1 : AX} {E : AEnv} {S : Sto} {Φ Φ1 : W → Sto → Prop}
theorem wE_lamWord {k kt i : Nat} {x a xn en : Str} {st b0 : Stmt} {Ng : List Str} {suite rest : List Stmt} {c P : Addr} {cE : Value} {pr : Arguments} {bd : Expr} {sc : Scope} {lpos p pos q1 q2 q3 q4 q5 np : Pos}
    (D : DefAt X.K X.mg x x st [a]) (hbg : defBody st = .Try [.Expr (.Call (.Name a q1) [] [] q2) q3] [.ExceptHandler (some (.Name xn np)) (some en) (b0 :: suite) q4] [] [] q5 :: rest)
    (scg : FnScope Ng [a] (defScope st)) (hNa : Ng[0]? = some a) (hva : Vis (defScope st) a) (hNe : Ng[i]? = some en) (hi : i < Ng.length) (hke : (defScope st).names.lookup en = some .local)
    (gxn : (defScope st).names.lookup xn = some .globalImplicit) (hxn : X.mg xn = some cE) (dxn : (xn == ("__debug__" : Str)) = false)
    (hg : Gl X x) (TB : LamX.TabB X.base X.mg c P) (hcode : X.env.code = .ref c) (hS : S[kt]? = some (.tab P (X.env.qual ++ "<lambda>"))) (hr : Room (k + 2) X.A) (L : LamX.LamS X.env.scope sc) (hdef : defaultsOf pr X.env = ([], []))
    (hbind : ∀ (q : Str) (cl : List (Str × Addr)) (pm cv ctv : Value), bindArgs (PySem.W.kla_fn "<lambda>" q pr bd sc cl pm cv ctv) ⟨[], []⟩ = pure [])
    (hbody : ∀ (A : Around) (outer : List Env) (s0 : Shared) (H0 : Hp) (Ech : XK) (f d : Addr), Room k (A.deeper (LamX.lamEnv X sc s0.heap.objs.size f d)) → wE (LamX.lamCx X A outer s0 H0 Ech sc f d) Ψ1 bd E S Φ1)
    (hok : ∀ (g : Addr) (cdv : Value) (s1 : Shared) (H1 : Hp) (f : Addr) (w : W) (S2 : Sto), Room (k + 1) (X.A.deeper (envOfC x (defScope st) s1.heap.objs.size g cdv)) → Φ1 w S2 →
      wB (zCx X Ng x st g cdv s1 H1) nox rest (startW Ng.length [.raw (.ref f)]) S2 ⟨fun _ S3 => Φ .non S3, Φ, fun _ _ => False, fun _ _ => False⟩)
    (hexc : ∀ (cls : Value) (fs : List (Str × W)) (E2 : AEnv) (S2 : Sto), Ψ1 cls fs E2 S2 → PySem.W.exmOne X.K cls cE = some true ∧
      ∀ (g : Addr) (cdv : Value) (s1 : Shared) (H1 : Hp) (aE : Addr) (oe : Obj) (dd : Option Addr) (pn : List (Addr × Obj)), Room (k + 1) (X.A.deeper (envOfC x (defScope st) s1.heap.objs.size g cdv)) → Zc cls dd oe → (∃ vs, oe.data = .fields vs) → (fs = [] → dd = none) →
        wB ((zCx X Ng x st g cdv s1 H1).suite aE ((aE, oe) :: pn)) nox (b0 :: suite) ((List.replicate Ng.length none).set i (some (.raw (.ref aE)))) S2 ⟨fun _ _ => False, Φ, fun _ _ => False, fun _ _ => False⟩)
    (hdb : (x == ("__debug__" : Str)) = false := by decide) (hda : (a == ("__debug__" : Str)) = false := by decide) (hca : (a == ("__classdict__" : Str)) = false := by decide) :
    wE X Ψ (.Call (.Name x p) [.Lambda pr bd sc lpos] [] pos) E S Φ := by
  refine ⟨fun M σ H r ev xo Q qq pins s I => ?_⟩
  obtain ⟨g, fd, hm, hk, F, hb⟩ := D.ex
  obtain ⟨oc, od, kV, doc, pm, an, cdv, ct, osl, rfl, lk, hcd⟩ := F.ex
  obtain ⟨ho, eP, b⟩ := r.at_ kt P _ (r.tb kt P _ hS) hS
  cases b with
  | @tab ps _ _ tr co =>
  have co' : ∀ (p : Pos) (cv : Value), codeAmong p ps.toList = some cv → ∃ d, cv = .ref d ∧ H d = some (LamX.CodeO d (X.env.qual ++ "<lambda>")) := fun p cv e => by
    obtain ⟨d, e1, _, e2⟩ := co p cv e
    exact ⟨d, e1, e2⟩
  refine wpAny_Call_Name_kw (ld_glob I hg hm ?_ hdb)
  refine PySem.W.callWith_K (h₀ := X.base) I.ok.mod.kin hk ?_ (by rfl) (by rfl)
  show wpAny _ _ (spliced ((false, eval (.Lambda pr bd sc lpos) X.env) :: backTo pos (starEach [] X.env))) _ _ s
  refine Calls.spliced_cons (lam_mk I TB hcode eP tr co' hdef (L.has I.ok) fun f d pm' ctv H1 s1 I1 md hf hfn hfr => ?_)
  refine Calls.spliced_nil ⟨I1.kIn, ?_⟩
  obtain ⟨st1, r1, hco⟩ := made_step r hS eP tr co md
  have rc : codeAny (model X.prog X.w) X.A (.call (.ref g) ⟨[.ref f], []⟩) (CR C8.CX0 X.stack X.prog X.w H1 s1 Q C8.E0) s1 := by
    refine LamX.run_ofS (N := Ng) (ps := [a]) (us := [.ref f]) (vs := [.ref f]) lk hcd scg hr I1.env0 (hb s1 [.ref f] I1.kIn rfl) (.cons rfl .nil) rfl fun hr' => ?_
    have hgl : Gl (zCx X Ng x st g cdv s1 H1) xn := gxn
    have ptry := ps_try_as (X := zCx X Ng x st g cdv s1 H1) (x := xn) (n := en) (c := cE) (i := i) (np := np) (pos := q5) (pos' := q4) (b₀ := b0) (suite := suite) (body := [.Expr (.Call (.Name a q1) [] [] q2) q3])
      (tb := fun W D σZ HZ => ∃ Ech : XK, (∀ cls dd σ' H', Ech cls dd H' → W cls dd σ' H') ∧ σZ[0]? = some (some (.ref f)) ∧ HZ d = some (LamX.CodeO d (X.env.qual ++ "<lambda>")) ∧ tLm X sc bd k f d σ Ech HZ fun _ H' => D.nx σZ H')
      (ts := fun aE cls dd D σZ HZ => ∀ (oe : Obj) (pn : List (Addr × Obj)), Zc cls dd oe → (∃ vs, oe.data = .fields vs) → semB ((zCx X Ng x st g cdv s1 H1).suite aE ((aE, oe) :: pn)) (b0 :: suite) D σZ HZ)
      rfl rfl scg.nd hNe hke ⟨hgl, dxn, .inl hxn⟩ takes0 (fun W pn xe tk _ => by
        refine ⟨fun pins s' σZ HZ D I2 h' => ?_⟩
        obtain ⟨Ech, hW, z1, z2, z3⟩ := h'
        have hp := LamX.pe_act (CXg := C8.CX0) (Eg := C8.E0) (Ng := Ng) (qg := x) (sg := defScope st) (g := g) (cdg := cdv) (tb := fun σ' H' Q' => tLm X sc bd k f d σ' Ech H' Q') (p1 := q1) (p2 := q2) (i := 0) (pn := pn) (xe := xe) I1 L hf hfn hfr (hbind _ _ _ _ _) tk hW hr' (fun A outer s0 H0 hr2 => ⟨fun pins s2 σ2 H2 Q2 I3 h3 => h3 A outer s0 H0 hr2 pins s2 I3⟩) hNa hva hda hca
        exact (pss_one (ps_expr hp)).run pins s' σZ HZ D I2 ⟨z1, z2, z3⟩)
      (fun aE oe cls dd pn hz hf2 => ⟨fun pins s' σZ HZ D I2 h' => h' oe pn hz hf2 pins s' I2⟩)
    rw [hbg]
    have len1 : 1 ≤ Ng.length := by
      have := (List.getElem?_eq_some_iff.mp hNa).1
      omega
    have evs : ∀ {M2 : Lay} {H2 : Hp}, EvOk M2 H2 (L2.start Ng [.ref f]) (startW Ng.length [.raw (.ref f)]) := evok_start (.cons (.raw _) .nil) len1
    refine ⟨_, (pss_cons ptry (pss_sem (sts := rest))).nox, fun cls dd H' => ∃ (fs : List (Str × W)) (S2 : Sto) (M2 : Lay), (∃ E2, Ψ1 cls fs E2 S2) ∧ Rep M2 H' S2 ∧ Xd M2 H' dd fs ∧ Step M H1 M2 H', ?_, ?_, hco, ?_⟩
    · rintro cls dd σ' H' ⟨fs, S2, M2, ⟨E2, p2⟩, r2, xd, s2⟩
      obtain ⟨ex, hx⟩ := hexc cls fs E2 S2 p2
      refine ⟨true, ex, fun _ aE ha oe pn hz hf2 pins3 s3 I3 => ?_, fun z => nomatch z⟩
      have hdd : fs = [] → dd = none := fun e => by
        cases dd with
        | none => rfl
        | some z => exact absurd e xd.1
      have ln : (σ'.set i (some (V.ref aE))).length = Ng.length := I3.len
      have evh : EvOk M2 H' (σ'.set i (some (V.ref aE))) ((List.replicate Ng.length none).set i (some (W.raw (.ref aE)))) := by
        refine ⟨by rw [ln, List.length_set, List.length_replicate], fun j w hj => ?_⟩
        by_cases e : i = j
        · subst e
          rw [List.getElem?_set_self (by rw [List.length_replicate]; exact hi)] at hj
          cases hj
          refine ⟨_, List.getElem?_set_self ?_, .raw _⟩
          rw [List.length_set] at ln
          omega
        · rw [List.getElem?_set_ne e, List.getElem?_replicate] at hj
          split at hj <;> cases hj
      exact (hx g cdv s1 H1 aE oe dd pn hr' hz hf2 hdd).run M2 _ H' r2 evh ExcOk.none _ ⟨fun _ _ _ _ _ z => z.elim, qq.step (st1.trans s2), fun _ _ _ _ _ z => z.elim, fun _ _ _ _ _ z => z.elim⟩ pins3 s3 I3
    · obtain ⟨v, h1, h2⟩ := (evs (M2 := M) (H2 := H)).2 0 (.raw (.ref f)) (by unfold startW; rfl)
      cases h2
      exact h1
    · intro A outer s0 H0 hrL
      refine (hbody A outer s0 H0 _ f d hrL).run M σ H1 r1 (ev.step st1) ⟨fun cls dd _ H' => _, takes_of rfl rfl rfl rfl, fun cls fs E2 S2 M2 H2 dd σ2 p2 r2 _ xd s2 => ⟨fs, S2, M2, ⟨E2, p2⟩, r2, xd, s2⟩⟩ _ fun v w M2 S2 H2 p2 r2 _ s2 => ?_
      exact (hok g cdv s1 H1 f w S2 hr' p2).run M2 _ H2 r2 evs ExcOk.none _ ⟨fun σ3 E3 M3 S3 H3 p3 r3 _ s3 => qq _ _ M3 S3 H3 p3 r3 .non ((st1.trans s2).trans s3), qq.step (st1.trans s2), fun _ _ _ _ _ z => z.elim, fun _ _ _ _ _ z => z.elim⟩
  refine wpAny_call (codeAny_mono rc ?_)
  rintro (eE | fl) s9 h9
  · exact (show False from h9).elim
  · cases fl with
    | ret u => exact I1.after h9
    | next => exact (show False from h9).elim
    | brk => exact (show False from h9).elim
    | cont => exact (show False from h9).elim
end

-- AM35
/-! ### raising, telling of a caught one -/
/-- an error's own class without an own __init__ -/
structure ExK (K : PySem.W.Frag) (mg : Str → Option Value) (x : Str) (C : Addr) : Prop where
  gl : mg x = some (.ref C)
  ex : PySem.W.excIn K C [.type "ValueError", .type "Exception", .type "BaseException", .type "object"] "ValueError.__new__" = true
  kp : PySem.W.keepIn K (.ref C) = true
  sb : PySem.W.subIn K (.ref C) (.type "BaseException") = some true
  ty : PySem.W.typeIn K (.ref C) = some (.type "type")
section
variable {X : Cx} {Ψ : AX} {e e2 : Expr} {E : AEnv} {S : Sto} {Φ : W → Sto → Prop} {A : AE}
theorem wS_raise {x m : Str} {C : Addr} {j : Nat} {p p2 pos pos' : Pos} (K : ExK X.K X.mg x C) (h : Ψ (.ref C) [] E S) (hc : X.calm = true := by rfl) (hg : Gl X x := by rfl) (hdb : (x == ("__debug__" : Str)) = false := by decide) :
    wS X Ψ (.Raise (some (.Call (.Name x p) [.Constant (.str m) j p2] [] pos)) none pos') E S A :=
  ⟨fun M σ H r ev xo D q pins s I => by
    obtain ⟨Wx, tk, hx⟩ := xo
    have pr := ps_raise (pos := pos') hc tk (pmk_own (m := m) (j := j) (p := p) (p2 := p2) (pos := pos) PySem.F.excBase_ValueError K.ex K.gl K.kp (raises_own K.sb K.ty) hg hdb)
    exact pr.run pins s σ H D I (hx _ _ E S M H none σ h r ev rfl (Step.refl M H))⟩
/-- isinstance(e, C) of the caught one -/
theorem wE_isE {a D C : Addr} {oe : Obj} {pn : List (Addr × Obj)} {p p1 p2 pos : Pos} {n y : Str} {b : Bool} (ec : L2.ExcC X.K D) (hz : Zc (.ref D) none oe) (hf : ∃ vs, oe.data = .fields vs) (hm : X.mg "isinstance" = none)
    (hk : PySem.W.kitOne X.K (.ref D) (.ref C) = some b)
    (h : wE (X.suite a ((a, oe) :: pn)) Ψ (.Name n p1) E S fun w S1 => wE (X.suite a ((a, oe) :: pn)) Ψ (.Name y p2) E S1 fun u S2 => w = .raw (.ref a) ∧ u = .raw (.ref C) ∧ Φ (.bl b) S2) (hg : Gl X "isinstance" := by rfl) :
    wE (X.suite a ((a, oe) :: pn)) Ψ (.Call (.Name "isinstance" p) [.Name n p1, .Name y p2] [] pos) E S Φ :=
  wE_callB (X := X.suite a ((a, oe) :: pn)) (L2.call_isE ec hz hf) (g := fun ws S Φ => ws = [.raw (.ref a), .raw (.ref C)] ∧ Φ (.bl b) S)
    (fun M H S vs ws Φ r av ⟨e1, p⟩ Q q => by
      subst e1
      cases av with
      | cons a1 a2 =>
        cases a2 with
        | cons a2 a3 =>
          cases a3
          cases a1
          cases a2
          exact ⟨.ref C, .ref C, b, rfl, fun u z => z, hk, q _ _ M S H p r (.bl _) (Step.refl _ _)⟩) hm PyProof.Rows.boot_isinstance
    (wA_cons (h.imp fun w S1 q => wA_cons (q.imp fun u S2 ⟨e1, e2, p⟩ => wA_nil ⟨by rw [e1, e2], p⟩) (by rfl)) (by rfl)) hg
end

-- AM36
/-! ### defs that make lambdas: their code objects, the end with their tables -/
def TabD (q : Program) (mg : Str → Option Value) (h : Heap) : Prop :=
  ∀ d ∈ recsOf q, ∃ a o fd c P, mg d.name = some (.ref a) ∧ h.get? a = some o ∧ o.data = .func fd ∧ fd.code = .ref c ∧ h.IsCode c P #[] ∧ h.TableAt c P #[]
/-- the code object of a def -/
def CodeAt (K : PySem.W.Frag) (mg : Str → Option Value) (x : Str) (c : Addr) : Prop :=
  ∀ (f : Addr) (fd : FuncData) (oc : Value) (od : Option Addr) (sl : Array (Option Value)), mg x = some (.ref f) → K.lookup f = some ⟨oc, od, .func fd, sl⟩ → fd.code = .ref c
def noTab (K : PySem.W.Frag) : Bool := K.all fun q => match q.2.data with
  | .fields vs => !vs.isEmpty
  | _ => true
theorem look_mem {a : Addr} {o : Obj} : ∀ {K : PySem.W.Frag}, K.lookup a = some o → ∃ b, (b, o) ∈ K
  | [], e => by cases e
  | (b, o') :: K, e => by
    have e : (match a == b with | true => some o' | false => List.lookup a K) = some o := e
    cases z : a == b with
    | true =>
      rw [z] at e
      cases e
      exact ⟨b, List.mem_cons_self⟩
    | false =>
      rw [z] at e
      obtain ⟨b', m⟩ := look_mem (K := K) e
      exact ⟨b', List.mem_cons_of_mem _ m⟩
theorem TabD.at {q : Program} {mg : Str → Option Value} {h : Heap} {K : PySem.W.Frag} (T : TabD q mg h) (X : K.In h) (ne : noTab K = true) {x : Str} (hx : ∃ d ∈ recsOf q, d.name = x) :
    ∃ c P, CodeAt K mg x c ∧ K.lookup P = none ∧ h.get? P = some { cls := .none, data := .fields #[] } ∧ PySem.W.CodeHd h c P := by
  obtain ⟨d, hd, rfl⟩ := hx
  obtain ⟨a, o, fd, c, P, h1, h2, h3, h4, h5, h6⟩ := T d hd
  refine ⟨c, P, fun f fd' oc od sl e1 e2 => ?_, ?_, h6.2, PySem.W.CodeHd.of h5 h6⟩
  · rw [h1] at e1
    cases e1
    have e3 := X _ _ e2
    rw [h2] at e3
    cases e3
    cases h3
    exact h4
  · cases e : K.lookup P with
    | none => rfl
    | some o' =>
      exfalso
      have e3 := X _ _ e
      have e4 : h.get? P = some { cls := .none, data := .fields #[] } := h6.2
      rw [e4] at e3
      cases e3
      obtain ⟨b, m⟩ := look_mem e
      have := List.all_eq_true.mp ne _ m
      cases this
section
variable {P : Program} {w : World} {K : PySem.W.Frag} {mg : Str → Option Value} {base : Heap} {x qual : Str} {st : Stmt} {f c : Addr} {fd : FuncData} {N ps : List Str} {k : Nat} {asp : ASp}
theorem fn_okC (F : Fun K x qual st f fd) (hc : fd.code = .ref c) (sc : FnScope N ps (defScope st))
    (hbody : ∀ (A : Around) (outer : List Env) (s : Shared) (H : Hp) (E : XK), Room k (A.deeper (envOfC qual (defScope st) s.heap.objs.size f (.ref c))) → ∀ ws S Φ Ψ, ws.length = ps.length → Srl S → asp ws S Φ Ψ →
      wB (cxOf (L2.CX P w) P w K mg base N qual (defScope st) f (.ref c) A outer s H E) (fun cls fs _ S2 => Ψ cls fs S2) (defBody st) (startW N.length ws) S ⟨fun _ S2 => fin S.length Φ .non S2, fin S.length Φ, fun _ _ => False, fun _ _ => False⟩) :
    FnOk P w K mg base (L2.CX P w) (k + 1) f fd ps (conc ps.length asp) := by
  obtain ⟨oc, od, kV, doc, pm, an, cdv, ct, osl, rfl, lk, hcd⟩ := F.ex
  have e : cdv = .ref c := hc
  subst e
  refine fn_of lk hcd sc (fun vs H Q E h => h.1) fun A outer s H vs Q E hr h => ?_
  obtain ⟨hl, M, S, ws, Φ, Ψ, r, a, hsp, g, hx⟩ := h
  have hpl : ps.length ≤ N.length := by
    have e := congrArg List.length sc.pre
    rw [List.length_take] at e
    omega
  refine ⟨semB _ _, pss_sem, ?_⟩
  refine (hbody A outer s H E hr ws S Φ Ψ (by rw [← a.length]; exact hl) r.srl hsp).run M (L2.start N vs) H r (evok_start a (by omega)) ?_ _ ?_
  · exact ⟨fun cls d _ H2 => E cls d H2, takes_of rfl rfl rfl rfl, fun cls fs E2 S2 M2 H2 d σ2 p r2 _ xd s2 => hx cls fs d M2 S2 H2 p r2 xd s2⟩
  · exact ⟨fun σ E2 M2 S2 H2 p r2 _ s2 => (g.fin r) _ _ M2 S2 H2 p r2 .non s2, g.fin r, fun _ _ _ _ _ p => p.elim, fun _ _ _ _ _ p => p.elim⟩
theorem DefAt.fnC (D : DefAt K mg x qual st ps) (hc : CodeAt K mg x c) (sc : FnScope N ps (defScope st))
    (hbody : ∀ (f : Addr) (A : Around) (outer : List Env) (s : Shared) (H : Hp) (E : XK), Room k (A.deeper (envOfC qual (defScope st) s.heap.objs.size f (.ref c))) → ∀ ws S Φ Ψ, ws.length = ps.length → Srl S → asp ws S Φ Ψ →
      wB (cxOf (L2.CX P w) P w K mg base N qual (defScope st) f (.ref c) A outer s H E) (fun cls fs _ S2 => Ψ cls fs S2) (defBody st) (startW N.length ws) S ⟨fun _ S2 => fin S.length Φ .non S2, fin S.length Φ, fun _ _ => False, fun _ _ => False⟩) : CFn P w K mg base x (k + 1) ps.length asp := by
  obtain ⟨f, fd, h1, h2, F, B⟩ := D.ex
  have hc' : fd.code = .ref c := by
    obtain ⟨oc, od, kV, doc, pm, an, cdv, ct, osl, e, lk, _⟩ := F.ex
    exact hc f fd oc od osl h1 lk
  exact ⟨f, fd, ps, h1, h2, B, rfl, fn_okC F hc' sc (hbody f)⟩
end
theorem walkT {l : PySem.W.OpenLaw} {n k : Nat} {q : Program} {loose : List Str} {XP : (Str → Option Value) → Heap → Prop} {YP : World → Heap → Prop} {d : DefRec} {K : Params → PySem.W.Frag} {CX : World → CXT} {x : Str}
    (hn : l.most = some n) (hn2 : n ≤ sizeLine) (hdf : d.params.defaults = []) (hr : Room k callerA) (hY : ∀ (w : World) (h : Heap), YP w h → (K w.params).In h)
    (F : ∀ (w : World) (mg : Str → Option Value) (fa : Addr) (h : Heap), (K w.params).In h → h.Ns mainGlobals mg → mg d.name = some (.ref fa) → TabD q mg h → LamX.LawAtS l w (K w.params) (CX w) k n x mg fa h)
    (hCX : ∀ (w : World) (H : Hp) (s : Shared) (e : Value) (s' : Shared), CX w [] H s (fun _ _ _ => False) e s' → False) :
    PySem.W.WalkO q loose XP YP l.row.toRowW d [] (fun f vs => PySem.call f vs) := by
  refine Att.attach_callB hn hdf ?_
  intro w s0 s1 mg mb fa o pm cd doc a vs ns G Y ho hd hcd hmg hobj hints hlen hbits hg
  obtain ⟨fd, cs, sp, hT, nT, C, hb, hsp, hF⟩ := F w mg fa _ (hY w _ Y) G.T.g hmg G.T.tab
  exact LamX.law_callTs (hY w _ Y) G.T.g G.T.b G.T.builtins G.T.nolimit hg hT nT C G.T.bmain hobj hints (Nat.le_trans hlen hn2) hr hF hb (fun H2 t2 q2 => hsp H2 a ns hlen hbits t2 q2) fun H2 e s' => hCX w H2 s1 e s'

-- AM37
/-! ### count and index in a list of truth values; isinstance of a class of Python's own -/
section
variable {X : Cx}
end
section
variable {X : Cx} {Ψ : AX} {a b o e : Expr} {E : AEnv} {S : Sto} {Φ : W → Sto → Prop} {ΦT : Bool → Sto → Prop} {pos : Pos}
theorem xE_cls {x : Str} {C : Addr} {pos : Pos} (hm : X.mg x = some (.ref C)) (h : Φ (.raw (.ref C)) S) (hg : Gl X x := by rfl) (hd : (x == ("__debug__" : Str)) = false := by decide) : wE X Ψ (.Name x pos) E S Φ := wE_glob (v := .ref C) hm rfl rfl h hg hd
end

-- WI
theorem fin.eq {n : Nat} {Φ : W → Sto → Prop} {w w' : W} {S : Sto} (h : Φ w' S) (e : w = w') : fin n Φ w S := by rw [e]; exact fin.as h
/-! ### == between values -/
theorem eqW_int {i j : Int} : eqW (.int i) (.int j) = decide (i = j) := by
  show (i == j) = decide (i = j)
  by_cases h : i = j <;> simp [h]
theorem eqW_str {i j : Str} : eqW (.str i) (.str j) = decide (i = j) := by
  show (i == j) = decide (i = j)
  by_cases h : i = j <;> simp [h]
theorem eqW_bl {i j : Bool} : eqW (.bl i) (.bl j) = decide (i = j) := by
  show (i == j) = decide (i = j)
  by_cases h : i = j <;> simp [h]
theorem eqW_non : eqW .non .non = true := by simp [eqW, W.d, PyData.eqv]
theorem eqW_tt {x y : W} {xs ys : List W} : eqW (.tup (x :: xs)) (.tup (y :: ys)) = (eqW x y && eqW (.tup xs) (.tup ys)) := by
  simp only [eqW, W.d, W.ds, PyData.eqv, PyData.eqvAll]
theorem eqW_t0 : eqW (.tup []) (.tup []) = true := by simp [eqW, W.d, W.ds, PyData.eqv, PyData.eqvAll]
theorem eqW_t1 {x : W} {xs : List W} : eqW (.tup (x :: xs)) (.tup []) = false := by simp [eqW, W.d, W.ds, PyData.eqv, PyData.eqvAll]
theorem eqW_t2 {x : W} {xs : List W} : eqW (.tup []) (.tup (x :: xs)) = false := by simp [eqW, W.d, W.ds, PyData.eqv, PyData.eqvAll]
theorem eqW_ll {x y : W} {xs ys : List W} : eqW (.lst (x :: xs)) (.lst (y :: ys)) = (eqW x y && eqW (.lst xs) (.lst ys)) := by
  simp only [eqW, W.d, W.ds, PyData.eqv, PyData.eqvAll]
theorem eqW_l0 : eqW (.lst []) (.lst []) = true := by simp [eqW, W.d, W.ds, PyData.eqv, PyData.eqvAll]
theorem eqW_l1 {x : W} {xs : List W} : eqW (.lst (x :: xs)) (.lst []) = false := by simp [eqW, W.d, W.ds, PyData.eqv, PyData.eqvAll]
theorem eqW_l2 {x : W} {xs : List W} : eqW (.lst []) (.lst (x :: xs)) = false := by simp [eqW, W.d, W.ds, PyData.eqv, PyData.eqvAll]
theorem eqW_ni {i : Int} : eqW .non (.int i) = false := by simp [eqW, W.d, PyData.eqv]
theorem eqW_in {i : Int} : eqW (.int i) .non = false := by simp [eqW, W.d, PyData.eqv]
theorem eqW_it {i : Int} {xs : List W} : eqW (.int i) (.tup xs) = false := by simp [eqW, W.d, PyData.eqv]
theorem eqW_ti {i : Int} {xs : List W} : eqW (.tup xs) (.int i) = false := by simp [eqW, W.d, PyData.eqv]
theorem eqW_is {i : Int} {z : Str} : eqW (.int i) (.str z) = false := by simp [eqW, W.d, PyData.eqv]
theorem eqW_si {i : Int} {z : Str} : eqW (.str z) (.int i) = false := by simp [eqW, W.d, PyData.eqv]
theorem eqW_tn {xs : List W} : eqW (.tup xs) .non = false := by simp [eqW, W.d, PyData.eqv]
theorem eqW_nt {xs : List W} : eqW .non (.tup xs) = false := by simp [eqW, W.d, PyData.eqv]
theorem eqW_nil {xs : List W} : eqW (.lst xs) (.lst []) = xs.isEmpty := by
  cases xs with
  | nil => rw [eqW_l0]; rfl
  | cons x xs => rw [eqW_l1]; rfl
theorem eqW_nilT {xs : List W} : eqW (.tup xs) (.tup []) = xs.isEmpty := by
  cases xs with
  | nil => rw [eqW_t0]; rfl
  | cons x xs => rw [eqW_t1]; rfl
/-- a list of values that == tells apart: told by one function, kept apart by it -/
theorem eqW_map {α : Type} [DecidableEq α] {f : α → W} (h : ∀ a b, eqW (f a) (f b) = decide (a = b)) : ∀ xs ys : List α, eqW (.lst (xs.map f)) (.lst (ys.map f)) = decide (xs = ys)
  | [], [] => by rw [List.map_nil, eqW_l0]; rfl
  | [], y :: ys => by rw [List.map_nil, List.map_cons, eqW_l2]; simp
  | x :: xs, [] => by rw [List.map_nil, List.map_cons, eqW_l1]; simp
  | x :: xs, y :: ys => by
    rw [List.map_cons, List.map_cons, eqW_ll, h, eqW_map h xs ys]
    by_cases e : x = y <;> by_cases e2 : xs = ys <;> simp [e, e2]
theorem eqW_mapT {α : Type} [DecidableEq α] {f : α → W} (h : ∀ a b, eqW (f a) (f b) = decide (a = b)) : ∀ xs ys : List α, eqW (.tup (xs.map f)) (.tup (ys.map f)) = decide (xs = ys)
  | [], [] => by rw [List.map_nil, eqW_t0]; rfl
  | [], y :: ys => by rw [List.map_nil, List.map_cons, eqW_t2]; simp
  | x :: xs, [] => by rw [List.map_nil, List.map_cons, eqW_t1]; simp
  | x :: xs, y :: ys => by
    rw [List.map_cons, List.map_cons, eqW_tt, h, eqW_mapT h xs ys]
    by_cases e : x = y <;> by_cases e2 : xs = ys <;> simp [e, e2]
theorem inW_map {α : Type} [DecidableEq α] {f : α → W} (h : ∀ a b, eqW (f a) (f b) = decide (a = b)) (x : α) (xs : List α) : inW (f x) (xs.map f) = decide (x ∈ xs) := by
  induction xs with
  | nil => rfl
  | cons y ys ih =>
    show (eqW (f y) (f x) || inW (f x) (ys.map f)) = _
    rw [ih, h]
    by_cases e : y = x
    · subst e; simp
    · have e' : ¬ x = y := fun z => e z.symm
      by_cases e2 : x ∈ ys <;> simp [e, e', e2]
theorem oks_map {α : Type} {f : α → W} {n : Nat} (h : ∀ a, (f a).ok n = true) (xs : List α) : W.oks (xs.map f) n = true := by
  rw [W.oks_all]
  simp [h]
theorem atI_map {α : Type} [Inhabited α] {f : α → W} {xs : List α} {i : Int} (h0 : 0 ≤ i) (h1 : i < xs.length) : atI (xs.map f) i = some (f (xs.getD i.toNat default)) := by
  unfold atI ixN
  rw [List.length_map, if_pos h0, if_pos h1]
  show (xs.map f)[i.toNat]? = _
  have hl : i.toNat < xs.length := by omega
  rw [List.getElem?_map, List.getElem?_eq_getElem hl, List.getD_eq_getElem?_getD, List.getElem?_eq_getElem hl]
  rfl
/-! ### wishes -/
inductive Wish
  | all (p g : Int) | busy (p g : Int) | late (p g t : Int) | wait (p : Int) | still (p : Int) | bar (p o : Int) | group (g : Int) (ms : List Int)
  deriving DecidableEq
def intsW (l : List Int) : List W := l.map W.int
def Wish.w : Wish → W
  | .all p g => .tup [.str "all", .int p, .int g]
  | .busy p g => .tup [.str "busy", .int p, .int g]
  | .late p g t => .tup [.str "late", .int p, .int g, .int t]
  | .wait p => .tup [.str "wait", .int p]
  | .still p => .tup [.str "still", .int p]
  | .bar p o => .tup [.str "bar", .int p, .int o]
  | .group g ms => .tup [.str "group", .int g, .tup (intsW ms)]
def Wish.key : Wish → List Key
  | .all p g => [.inr "all", .inl p]
  | .busy p g => [.inr "busy", .inl p]
  | .late p g t => [.inr "late", .inl p]
  | .wait p => [.inr "wait", .inl p]
  | .still p => [.inr "still", .inl p]
  | .bar p o => [.inr "bar", .inl p, .inl o]
  | .group g ms => [.inr "group", .inl g]
def keyW1 : Key → W
  | .inl i => .int i
  | .inr x => .str x
theorem keysW_map : ∀ ks : List Key, keysW (ks.map keyW1) = some ks
  | [] => rfl
  | .inl i :: ks => by rw [List.map_cons]; show (match keyW (.int i), keysW (ks.map keyW1) with | some k, some ks => some (k :: ks) | _, _ => none) = _; rw [keysW_map ks]; rfl
  | .inr x :: ks => by rw [List.map_cons]; show (match keyW (.str x), keysW (ks.map keyW1) with | some k, some ks => some (k :: ks) | _, _ => none) = _; rw [keysW_map ks]; rfl
/-- phones, rising, none twice -/
def msOk (ms : List Int) : Prop := ms ≠ [] ∧ ms.length ≤ 6 ∧ (∀ m ∈ ms, 0 ≤ m ∧ m ≤ 5) ∧ ∀ (k : Nat) (a b : Int), ms[k]? = some a → ms[k + 1]? = some b → a < b
def Wish.ok : Wish → Prop
  | .all p g => 0 ≤ p ∧ p ≤ 5 ∧ 0 ≤ g ∧ g ≤ 7 ∧ g ≠ p
  | .busy p g => 0 ≤ p ∧ p ≤ 5 ∧ 0 ≤ g ∧ g ≤ 7 ∧ g ≠ p
  | .late p g t => 0 ≤ p ∧ p ≤ 5 ∧ 0 ≤ g ∧ g ≤ 7 ∧ g ≠ p ∧ 1 ≤ t ∧ t ≤ 9
  | .wait p => 0 ≤ p ∧ p ≤ 5
  | .still p => 0 ≤ p ∧ p ≤ 5
  | .bar p o => 0 ≤ p ∧ p ≤ 5 ∧ 0 ≤ o ∧ o ≤ 5 ∧ o ≠ p
  | .group g ms => 6 ≤ g ∧ g ≤ 7 ∧ msOk ms
@[simp] theorem len_ints {l : List Int} : (intsW l).length = l.length := List.length_map _
theorem atI_ints {l : List Int} {i : Int} (h0 : 0 ≤ i) (h1 : i < l.length) : atI (intsW l) i = some (.int (l.getD i.toNat 0)) := atI_map h0 h1
theorem oks_ints {l : List Int} {n : Nat} : W.oks (intsW l) n = true := oks_map (fun _ => rfl) l
theorem Wish.wok2 (x : Wish) : x.w.ok 2 = true := by
  cases x with
  | group g ms =>
    show (W.oks [.str "group", .int g, .tup (intsW ms)] 1) = true
    simp only [W.oks, W.ok, oks_ints, Bool.and_true, Bool.true_and]
    decide +kernel
  | _ =>
    simp only [Wish.w, W.ok, W.oks, Bool.and_true]
    decide +kernel
theorem Wish.wok (x : Wish) {n : Nat} (h : 2 ≤ n := by decide) : x.w.ok n = true := W.ok_mono _ h x.wok2
theorem wishes_ok (xs : List Wish) {n : Nat} (h : 2 ≤ n := by decide) : W.oks (xs.map Wish.w) n = true := oks_map (fun x => x.wok h) xs
theorem eqW_ints (a b : List Int) : eqW (.tup (intsW a)) (.tup (intsW b)) = decide (a = b) := eqW_mapT (fun _ _ => eqW_int) a b
theorem wish_eq (a b : Wish) : eqW a.w b.w = decide (a = b) := by
  cases a <;> cases b <;> simp only [Wish.w, eqW_tt, eqW_t0, eqW_t1, eqW_t2, eqW_str, eqW_int, eqW_ints, eqW_it, eqW_ti, Bool.and_true, Bool.and_false] <;>
    first
      | (simp; done)
      | (simp only [show decide (("all" : Str) = "busy") = false from by decide +kernel, show decide (("all" : Str) = "late") = false from by decide +kernel, show decide (("all" : Str) = "bar") = false from by decide +kernel, show decide (("all" : Str) = "group") = false from by decide +kernel,
          show decide (("busy" : Str) = "all") = false from by decide +kernel, show decide (("busy" : Str) = "late") = false from by decide +kernel, show decide (("busy" : Str) = "bar") = false from by decide +kernel, show decide (("busy" : Str) = "group") = false from by decide +kernel,
          show decide (("late" : Str) = "all") = false from by decide +kernel, show decide (("late" : Str) = "busy") = false from by decide +kernel, show decide (("late" : Str) = "bar") = false from by decide +kernel, show decide (("late" : Str) = "group") = false from by decide +kernel,
          show decide (("bar" : Str) = "all") = false from by decide +kernel, show decide (("bar" : Str) = "busy") = false from by decide +kernel, show decide (("bar" : Str) = "late") = false from by decide +kernel, show decide (("bar" : Str) = "group") = false from by decide +kernel,
          show decide (("group" : Str) = "all") = false from by decide +kernel, show decide (("group" : Str) = "busy") = false from by decide +kernel, show decide (("group" : Str) = "late") = false from by decide +kernel, show decide (("group" : Str) = "bar") = false from by decide +kernel,
          show decide (("wait" : Str) = "still") = false from by decide +kernel, show decide (("still" : Str) = "wait") = false from by decide +kernel, Bool.false_and]; simp; done)
/-- states: is it busy -/
def stW (b : Bool) : W := .str (if b = true then "busy" else "free")
theorem stW_ok {b : Bool} {n : Nat} : (stW b).ok n = true := by cases b <;> (show PyData.strOk _ = true; decide +kernel)
theorem sts_ok {st : List Bool} {n : Nat} : W.oks (st.map stW) n = true := oks_map (fun _ => stW_ok) st
theorem st_in (b : Bool) : inW (stW b) ([("free" : Str), "busy"].map W.str) = true := by
  show (eqW (.str "free") (stW b) || (eqW (.str "busy") (stW b) || false)) = true
  cases b with
  | true => rw [show eqW (.str "busy") (stW true) = true from eqW_str.trans (decide_eq_true rfl)]; simp
  | false => rw [show eqW (.str "free") (stW false) = true from eqW_str.trans (decide_eq_true rfl)]; simp
def getB (ws : List Wish) (k : List Key) : Option Wish := ws.find? fun x => decide (x.key = k)
def bookD (ws : List Wish) : List (List Key × W) := ws.map fun x => (x.key, x.w)
theorem val_book (ws : List Wish) (k : List Key) : valW (bookD ws) k = (getB ws k).map Wish.w := by
  unfold valW getB bookD
  rw [List.find?_map, Option.map_map]
  rfl
theorem put_book {ws : List Wish} {x : Wish} (h : x.key ∉ ws.map Wish.key) : putW (bookD ws) x.key x.w = bookD (ws ++ [x]) := by
  unfold putW
  rw [if_neg]
  · simp [bookD]
  · intro e
    rw [List.any_eq_true] at e
    obtain ⟨y, hy, e⟩ := e
    unfold bookD at hy
    obtain ⟨z, hz, rfl⟩ := List.mem_map.mp hy
    exact h (List.mem_map.mpr ⟨z, hz, of_decide_eq_true e⟩)
/-- the keys of the wishes ahead -/
def knownD (xs : List Wish) : List (List Key × W) := xs.map fun x => (x.key, .bl true)
@[simp] theorem len_known {xs : List Wish} : (knownD xs).length = xs.length := List.length_map _
@[simp] theorem len_book {xs : List Wish} : (bookD xs).length = xs.length := List.length_map _
theorem known_none {xs : List Wish} {k : List Key} (h : k ∉ xs.map Wish.key) : valW (knownD xs) k = none := by
  unfold valW knownD
  rw [List.find?_map, Option.map_map, Option.map_eq_none_iff, List.find?_eq_none]
  intro x hx e
  exact h (List.mem_map.mpr ⟨x, hx, of_decide_eq_true e⟩)
theorem known_put {xs : List Wish} {x : Wish} (h : x.key ∉ xs.map Wish.key) : putW (knownD xs) x.key (.bl true) = knownD (xs ++ [x]) := by
  unfold putW
  rw [if_neg]
  · simp [knownD]
  · intro e
    rw [List.any_eq_true] at e
    obtain ⟨y, hy, e⟩ := e
    unfold knownD at hy
    obtain ⟨z, hz, rfl⟩ := List.mem_map.mp hy
    exact h (List.mem_map.mpr ⟨z, hz, of_decide_eq_true e⟩)
theorem take_succ {α : Type} {xs : List α} {i : Nat} {x : α} (h : xs[i]? = some x) : xs.take (i + 1) = xs.take i ++ [x] := by
  rw [List.take_add_one, h]
  rfl
/-- of distinct keys the next one is new -/
theorem key_new {xs : List Wish} (hn : (xs.map Wish.key).Nodup) {i : Nat} {x : Wish} (h : xs[i]? = some x) : x.key ∉ (xs.take i).map Wish.key := by
  intro e
  obtain ⟨y, hy, e⟩ := List.mem_map.mp e
  obtain ⟨j, hj, rfl⟩ := List.mem_iff_getElem.mp hy
  have hj' : j < i ∧ j < xs.length := by
    have := hj
    rw [List.length_take] at this
    omega
  have h1 : (xs.map Wish.key)[j]? = some x.key := by
    rw [List.getElem?_map, List.getElem?_eq_getElem hj'.2, ← e, List.getElem_take]
    rfl
  have h2 : (xs.map Wish.key)[i]? = some x.key := by
    rw [List.getElem?_map, h]
    rfl
  have e2 : j = i := by
    have hi : i < (xs.map Wish.key).length := (List.getElem?_eq_some_iff.mp h2).1
    have hjl : j < (xs.map Wish.key).length := by omega
    exact (List.getElem_inj hn).mp ((List.getElem?_eq_some_iff.mp h1).2.trans (List.getElem?_eq_some_iff.mp h2).2.symm)
  omega
/-! ### books -/
def BookAt (C : Addr) (S : Sto) (j : Nat) (xs : List Wish) : Prop := ∃ d, S[j]? = some (.ins C [("wanted", .ref d)]) ∧ S[d]? = some (.dt (bookD xs))
def hasB (xs : List Wish) (k : List Key) : Bool := (getB xs k).isSome
def barsF (xs : List Wish) (p c : Int) : Bool := hasB xs [.inr "bar", .inl p, .inl c]
def goalF (xs : List Wish) (word : Str) (p : Int) : Option Int := match getB xs [.inr word, .inl p] with
  | some (.all _ g) => some g
  | some (.busy _ g) => some g
  | _ => none
def membersF (xs : List Wish) (g : Int) : List Int := match getB xs [.inr "group", .inl g] with
  | some (.group _ ms) => ms
  | _ => []
theorem getB_key {xs : List Wish} {k : List Key} {x : Wish} (h : getB xs k = some x) : x.key = k ∧ x ∈ xs := by
  unfold getB at h
  have q := List.find?_some h
  exact ⟨of_decide_eq_true q, List.mem_of_find?_eq_some h⟩
theorem key_group {x : Wish} {g : Int} (h : x.key = [.inr "group", .inl g]) : ∃ ms, x = .group g ms := by
  cases x with
  | group g' ms =>
    simp only [Wish.key, List.cons.injEq, Sum.inl.injEq, and_true, true_and] at h
    exact ⟨ms, by rw [h]⟩
  | bar p o => simp [Wish.key] at h
  | _ =>
    simp only [Wish.key, List.cons.injEq, Sum.inr.injEq] at h
    exact absurd h.1 (by decide +kernel)
theorem key_all {x : Wish} {p : Int} (h : x.key = [.inr "all", .inl p]) : ∃ g, x = .all p g := by
  cases x with
  | all q g =>
    simp only [Wish.key, List.cons.injEq, Sum.inl.injEq, and_true, true_and] at h
    exact ⟨g, by rw [h]⟩
  | bar p o => simp [Wish.key] at h
  | _ =>
    simp only [Wish.key, List.cons.injEq, Sum.inr.injEq] at h
    exact absurd h.1 (by decide +kernel)
theorem key_busy {x : Wish} {p : Int} (h : x.key = [.inr "busy", .inl p]) : ∃ g, x = .busy p g := by
  cases x with
  | busy q g =>
    simp only [Wish.key, List.cons.injEq, Sum.inl.injEq, and_true, true_and] at h
    exact ⟨g, by rw [h]⟩
  | bar p o => simp [Wish.key] at h
  | _ =>
    simp only [Wish.key, List.cons.injEq, Sum.inr.injEq] at h
    exact absurd h.1 (by decide +kernel)
theorem goal_all {xs : List Wish} {p g : Int} (h : goalF xs "all" p = some g) : getB xs [.inr "all", .inl p] = some (.all p g) := by
  unfold goalF at h
  cases e : getB xs [.inr "all", .inl p] with
  | none => rw [e] at h; cases h
  | some x =>
    obtain ⟨g', rfl⟩ := key_all (getB_key e).1
    rw [e] at h
    cases h
    rfl
theorem goal_busy {xs : List Wish} {p g : Int} (h : goalF xs "busy" p = some g) : getB xs [.inr "busy", .inl p] = some (.busy p g) := by
  unfold goalF at h
  cases e : getB xs [.inr "busy", .inl p] with
  | none => rw [e] at h; cases h
  | some x =>
    obtain ⟨g', rfl⟩ := key_busy (getB_key e).1
    rw [e] at h
    cases h
    rfl
theorem has_all {xs : List Wish} {p : Int} : hasB xs [.inr "all", .inl p] = (goalF xs "all" p).isSome := by
  unfold hasB goalF
  cases e : getB xs [.inr "all", .inl p] with
  | none => rfl
  | some x =>
    obtain ⟨g', rfl⟩ := key_all (getB_key e).1
    rfl
theorem has_busy {xs : List Wish} {p : Int} : hasB xs [.inr "busy", .inl p] = (goalF xs "busy" p).isSome := by
  unfold hasB goalF
  cases e : getB xs [.inr "busy", .inl p] with
  | none => rfl
  | some x =>
    obtain ⟨g', rfl⟩ := key_busy (getB_key e).1
    rfl
theorem val_has {xs : List Wish} {k : List Key} : (valW (bookD xs) k).isSome = hasB xs k := by
  rw [val_book, Option.isSome_map]
  rfl
theorem members_yes {xs : List Wish} {g : Int} (h : hasB xs [.inr "group", .inl g] = true) : getB xs [.inr "group", .inl g] = some (.group g (membersF xs g)) := by
  unfold hasB at h
  unfold membersF
  cases e : getB xs [.inr "group", .inl g] with
  | none => rw [e] at h; cases h
  | some x =>
    obtain ⟨ms, rfl⟩ := key_group (getB_key e).1
    rfl
theorem members_no {xs : List Wish} {g : Int} (h : hasB xs [.inr "group", .inl g] = false) : membersF xs g = [] := by
  unfold hasB at h
  unfold membersF
  cases e : getB xs [.inr "group", .inl g] with
  | none => rfl
  | some x => rw [e] at h; cases h
theorem get_set_self {S : Sto} {j : Nat} {o o0 : O} (h : S[j]? = some o0) : (S.set j o)[j]? = some o := List.getElem?_set_self (List.getElem?_eq_some_iff.mp h).1
theorem get_set_ne {S : Sto} {j k : Nat} {o o' : O} (n : j ≠ k) (h : S[k]? = some o') : (S.set j o)[k]? = some o' := by rw [List.getElem?_set_ne n]; exact h
def busyF (st : List Bool) (p : Int) : Bool := st.getD p.toNat default
theorem eqW_st {b : Bool} : eqW (stW b) (.str "busy") = b := by
  cases b <;> (rw [stW, eqW_str]; decide +kernel)
def stillF (xs : List Wish) (p : Int) : Bool := hasB xs [.inr "still", .inl p]
def waitF (xs : List Wish) (p : Int) : Bool := hasB xs [.inr "wait", .inl p]
def ringsOk (xs : List Wish) (c : Int) (st : List Bool) (p : Int) : Bool := !decide (p = c) && (!barsF xs p c && !stillF xs p) && !busyF st p
/-- who rings by a group -/
def ringsF (xs : List Wish) (c g : Int) (st : List Bool) : List Int := (membersF xs g).filter (ringsOk xs c st)
/-- where a call goes on from a phone, or how it ends there -/
def nextF (xs : List Wish) (c p : Int) (st kn : List Bool) : Int ⊕ (Str × List Int) :=
  if barsF xs p c = true then .inr ("barred", []) else
  match goalF xs "all" p with
  | some g => .inl g
  | none =>
    if stillF xs p = true then .inr ("still", []) else
    if (!decide (p = c) && !busyF st p) = true then .inr ("rings", [p]) else
    if (!decide (p = c) && (waitF xs p && kn.getD p.toNat default)) = true then .inr ("knocks", [p]) else
    match goalF xs "busy" p with
    | some g => .inl g
    | none => .inr ("busy", [])
def nextW : Int ⊕ (Str × List Int) → W
  | .inl g => .int g
  | .inr (w, l) => .tup [.str w, .tup (intsW l)]
theorem members_ok {xs : List Wish} (h : ∀ x ∈ xs, x.ok) {g m : Int} (hm : m ∈ membersF xs g) : 0 ≤ m ∧ m ≤ 5 := by
  unfold membersF at hm
  split at hm
  · rename_i g' ms e
    exact (h _ (getB_key e).2).2.2.2.2.1 m hm
  · cases hm
theorem members_len {xs : List Wish} (h : ∀ x ∈ xs, x.ok) {g : Int} : (membersF xs g).length ≤ 6 := by
  unfold membersF
  split
  · rename_i g' ms e
    exact (h _ (getB_key e).2).2.2.2.1
  · exact Nat.zero_le _

-- WA
/-! ### refs into what stays -/
theorem get_app {S T : Sto} {j : Nat} {o : O} (h : S[j]? = some o) : (S ++ T)[j]? = some o := by rw [List.getElem?_append_left (List.getElem?_eq_some_iff.mp h).1]; exact h
theorem items_of {S : Sto} {k : Nat} {ws : List W} (h : S[k]? = some (.lst ws)) : itemsW S (.ref k) = some ws := by
  show (match S[k]? with | some (.lst ws) => some ws | _ => none) = some ws
  rw [h]
mutual
theorem fz_self {S : Sto} {n : Nat} : ∀ (w : W), w.rlt n = true → Fz S n w w
  | .non, _ => .non
  | .bl _, _ => .bl _
  | .int _, _ => .int _
  | .str _, _ => .str _
  | .tup ws, h => .tup (fzs_self ws (by simpa [W.rlt] using h))
  | .lst ws, h => .lst (fzs_self ws (by simpa [W.rlt] using h))
  | .ref k, h => .old (by simpa [W.rlt] using h)
  | .raw _, _ => .raw _
  | .scr _ _, _ => .scr _ _
theorem fzs_self {S : Sto} {n : Nat} : ∀ (ws : List W), W.rlts n ws = true → Fzs S n ws ws
  | [], _ => .nil
  | w :: ws, h => by
    simp only [W.rlts, Bool.and_eq_true] at h
    exact .cons (fz_self w h.1) (fzs_self ws h.2)
end
theorem rlts_map {α : Type} {f : α → W} {n : Nat} (h : ∀ a, (f a).rlt n = true) : ∀ xs : List α, W.rlts n (xs.map f) = true
  | [] => rfl
  | x :: xs => by simp [W.rlts, h, rlts_map h xs]
theorem fz_ints {S : Sto} {n : Nat} {l : List Int} : Fz S n (.tup (intsW l)) (.tup (intsW l)) := fz_self _ (by simpa [W.rlt, intsW] using rlts_map (fun _ => rfl) l)
theorem fz_intsL {S : Sto} {n : Nat} {l : List Int} : Fz S n (.lst (intsW l)) (.lst (intsW l)) := fz_self _ (by simpa [W.rlt, intsW] using rlts_map (fun _ => rfl) l)
/-! ### ways -/
structure Wy where
  chain : List Int
  leads : List (Int × Int)
  group : Option Int
  word : Str
  ears : List Int
def Wy.new : Wy := ⟨[], [], none, "nobody", []⟩
def optW : Option Int → W
  | none => .non
  | some i => .int i
def pairW (p : Int × Int) : W := .tup [.int p.1, .int p.2]
def wayFs (jb : Nat) (c : Int) (ch ld : Nat) (y : Wy) : List (Str × W) := [("book", .ref jb), ("caller", .int c), ("chain", .ref ch), ("leads", .ref ld), ("group", optW y.group), ("word", .str y.word), ("ears", .tup (intsW y.ears))]
structure WayAt (C : Addr) (S : Sto) (j ch ld jb : Nat) (c : Int) (y : Wy) : Prop where
  ob : S[j]? = some (.ins C (wayFs jb c ch ld y))
  chain : S[ch]? = some (.lst (intsW y.chain))
  leads : S[ld]? = some (.lst (y.leads.map pairW))
  ne : ch ≠ ld
/-- one step of a way: told on, or ended -/
def stepF (xs : List Wish) (c : Int) (st kn : List Bool) (y : Wy) (n : Int) : Wy × Option Int :=
  if 6 ≤ n then
    let r := ringsF xs c n st
    ({ y with group := some n, ears := r, word := if r = [] then "nobody" else "rings" }, none)
  else if n ∈ y.chain then ({ y with word := "round", ears := [] }, none)
  else match nextF xs c n st kn with
    | .inl g => ({ y with chain := y.chain ++ [n], leads := y.leads ++ [(n, g)] }, some g)
    | .inr (w, l) => ({ y with chain := y.chain ++ [n], word := w, ears := l }, none)
def goF (xs : List Wish) (c : Int) (st kn : List Bool) : Nat → Wy → Int → Wy
  | 0, y, _ => y
  | f + 1, y, n => match stepF xs c st kn y n with
    | (y', none) => y'
    | (y', some g) => goF xs c st kn f y' g
def wayF (xs : List Wish) (c n : Int) (st kn : List Bool) : Wy := goF xs c st kn 8 Wy.new n
theorem fin.eqS {n : Nat} {Φ : W → Sto → Prop} {w : W} {S S2 : Sto} (h : Φ w S2) (e : S = S2) : fin n Φ w S := by rw [e]; exact fin.as h
theorem set_same {S : Sto} {k : Nat} {o : O} (h : S[k]? = some o) : S.set k o = S := by
  obtain ⟨hl, e⟩ := List.getElem?_eq_some_iff.mp h
  rw [← e]
  exact List.set_getElem_self hl
theorem inW_ints {n : Int} {l : List Int} : inW (.int n) (intsW l) = decide (n ∈ l) := inW_map (fun _ _ => eqW_int) n l
/-- the store, a way's objects changed -/
def putWay (C : Addr) (S : Sto) (j ch ld jb : Nat) (c : Int) (y : Wy) : Sto := ((S.set j (.ins C (wayFs jb c ch ld y))).set ch (.lst (intsW y.chain))).set ld (.lst (y.leads.map pairW))
theorem WayAt.nj {C : Addr} {S : Sto} {j ch ld jb : Nat} {c : Int} {y : Wy} (h : WayAt C S j ch ld jb c y) : j ≠ ch ∧ j ≠ ld := by
  constructor
  · intro e
    have q := h.ob
    rw [e, h.chain] at q
    cases q
  · intro e
    have q := h.ob
    rw [e, h.leads] at q
    cases q
theorem WayAt.put {C : Addr} {S : Sto} {j ch ld jb : Nat} {c : Int} {y : Wy} (h : WayAt C S j ch ld jb c y) (y' : Wy) : WayAt C (putWay C S j ch ld jb c y') j ch ld jb c y' := by
  obtain ⟨n1, n2⟩ := h.nj
  unfold putWay
  exact ⟨get_set_ne n2.symm (get_set_ne n1.symm (get_set_self h.ob)), get_set_ne h.ne.symm (get_set_self (get_set_ne n1 h.chain)), get_set_self (get_set_ne h.ne (get_set_ne n2 h.leads)), h.ne⟩
theorem WayAt.same {C : Addr} {S : Sto} {j ch ld jb : Nat} {c : Int} {y : Wy} (h : WayAt C S j ch ld jb c y) : putWay C S j ch ld jb c y = S := by
  unfold putWay
  rw [set_same h.ob, set_same h.chain, set_same h.leads]
theorem put_put {C : Addr} {S : Sto} {j ch ld jb : Nat} {c : Int} {y y' : Wy} (n1 : j ≠ ch) (n2 : j ≠ ld) (n3 : ch ≠ ld) : putWay C (putWay C S j ch ld jb c y) j ch ld jb c y' = putWay C S j ch ld jb c y' := by
  unfold putWay
  rw [List.set_comm _ _ n2.symm, List.set_comm _ _ n1.symm, List.set_set, List.set_comm _ _ n3.symm, List.set_set, List.set_set]
/-- a book stands apart from a way -/
theorem BookAt.off {C C2 : Addr} {S : Sto} {j ch ld jb jb2 : Nat} {c : Int} {y : Wy} {xs : List Wish} (b : BookAt C S jb xs) (h : WayAt C2 S j ch ld jb2 c y) : ∃ d, S[jb]? = some (.ins C [("wanted", .ref d)]) ∧ S[d]? = some (.dt (bookD xs)) ∧ jb ≠ j ∧ jb ≠ ch ∧ jb ≠ ld ∧ d ≠ j ∧ d ≠ ch ∧ d ≠ ld := by
  obtain ⟨d, b1, b2⟩ := b
  refine ⟨d, b1, b2, ?_, ?_, ?_, ?_, ?_, ?_⟩
  · intro e
    have q := h.ob
    rw [← e, b1] at q
    have q := O.ins.inj (Option.some.inj q)
    have := congrArg List.length q.2
    simp [wayFs] at this
  · intro e
    rw [e, h.chain] at b1
    cases b1
  · intro e
    rw [e, h.leads] at b1
    cases b1
  · intro e
    rw [e, h.ob] at b2
    cases b2
  · intro e
    rw [e, h.chain] at b2
    cases b2
  · intro e
    rw [e, h.leads] at b2
    cases b2
theorem BookAt.put {C C2 : Addr} {S : Sto} {j ch ld jb jb2 : Nat} {c : Int} {y y' : Wy} {xs : List Wish} (b : BookAt C S jb xs) (h : WayAt C2 S j ch ld jb2 c y) : BookAt C (putWay C2 S j ch ld jb2 c y') jb xs := by
  obtain ⟨d, b1, b2, n1, n2, n3, n4, n5, n6⟩ := b.off h
  unfold putWay
  exact ⟨d, get_set_ne n3.symm (get_set_ne n2.symm (get_set_ne n1.symm b1)), get_set_ne n6.symm (get_set_ne n5.symm (get_set_ne n4.symm b2))⟩
/-! ### a way ends -/
theorem small_len : ∀ (n : Nat) (l : List Nat), l.Nodup → (∀ p ∈ l, p < n) → l.length ≤ n
  | 0, l, _, h => by
    cases l with
    | nil => exact Nat.le_refl _
    | cons a _ => exact absurd (h a List.mem_cons_self) (Nat.not_lt_zero _)
  | n + 1, l, hn, h => by
    by_cases hm : n ∈ l
    · have h1 := List.length_erase_of_mem hm
      have h2 := small_len n (l.erase n) (hn.erase n) fun p hp => by
        have hp' := (List.Nodup.mem_erase_iff hn).mp hp
        have := h p hp'.2
        omega
      omega
    · have := small_len n l hn fun p hp => by
        have h1 := h p hp
        have h2 : p ≠ n := fun e => hm (e ▸ hp)
        omega
      omega
theorem phones_len {l : List Int} (hn : l.Nodup) (h : ∀ p ∈ l, 0 ≤ p ∧ p ≤ 5) : l.length ≤ 6 := by
  have q := small_len 6 (l.map Int.toNat) (by
    rw [List.nodup_iff_pairwise_ne] at *
    rw [List.pairwise_map]
    refine hn.imp_of_mem ?_
    intro a b ha hb hab e
    have h1 := h a ha
    have h2 := h b hb
    omega) fun p hp => by
    obtain ⟨x, hx, rfl⟩ := List.mem_map.mp hp
    have := h x hx
    omega
  rw [List.length_map] at q
  exact q
theorem goal_ok {xs : List Wish} (ho : ∀ x ∈ xs, x.ok) {w : Str} {p g : Int} (h : goalF xs w p = some g) : 0 ≤ g ∧ g ≤ 7 := by
  unfold goalF at h
  split at h
  · rename_i p' g' e
    cases h
    have q := ho _ (getB_key e).2
    exact ⟨q.2.2.1, q.2.2.2.1⟩
  · rename_i p' g' e
    cases h
    have q := ho _ (getB_key e).2
    exact ⟨q.2.2.1, q.2.2.2.1⟩
  · cases h
theorem next_ok {xs : List Wish} (ho : ∀ x ∈ xs, x.ok) {c p g : Int} {st kn : List Bool} (h : nextF xs c p st kn = .inl g) : 0 ≤ g ∧ g ≤ 7 := by
  unfold nextF at h
  split at h
  · cases h
  · split at h
    · rename_i g' e
      cases h
      exact goal_ok ho e
    · split at h
      · cases h
      · split at h
        · cases h
        · split at h
          · cases h
          · split at h
            · rename_i g' e
              cases h
              exact goal_ok ho e
            · cases h
theorem step_on {xs : List Wish} {c n g : Int} {st kn : List Bool} {y y' : Wy} (h : stepF xs c st kn y n = (y', some g)) : n < 6 ∧ n ∉ y.chain ∧ nextF xs c n st kn = .inl g ∧ y'.chain = y.chain ++ [n] ∧ y'.leads = y.leads ++ [(n, g)] := by
  unfold stepF at h
  split at h
  · cases h
  · split at h
    · cases h
    · rename_i h1 h2
      split at h
      · rename_i g' e
        cases h
        exact ⟨by omega, h2, e, rfl, rfl⟩
      · cases h
section
variable {C : Addr} {S : Sto} {j ch ld jb : Nat} {c : Int} {y y' : Wy} {fs : List (Str × W)} {ws us : List W}
theorem put_eq1 (h : WayAt C S j ch ld jb c y) (hf : fs = wayFs jb c ch ld y') (hc : y'.chain = y.chain) (hl : y'.leads = y.leads) : S.set j (.ins C fs) = putWay C S j ch ld jb c y' := by
  obtain ⟨n1, n2⟩ := h.nj
  unfold putWay
  rw [hc, hl, ← hf, set_same (get_set_ne n1 h.chain), set_same (get_set_ne n2 h.leads)]
theorem put_eq2 (h : WayAt C S j ch ld jb c y) (hw : ws = intsW y'.chain) (hu : us = y'.leads.map pairW) (hf : wayFs jb c ch ld y' = wayFs jb c ch ld y) : (S.set ch (.lst ws)).set ld (.lst us) = putWay C S j ch ld jb c y' := by
  unfold putWay
  rw [hf, set_same h.ob, hw, hu]
theorem put_eq3 (h : WayAt C S j ch ld jb c y) (hw : ws = intsW y'.chain) (hf : fs = wayFs jb c ch ld y') (hl : y'.leads = y.leads) : (S.set ch (.lst ws)).set j (.ins C fs) = putWay C S j ch ld jb c y' := by
  obtain ⟨n1, n2⟩ := h.nj
  unfold putWay
  rw [hl, hw, hf, set_same (get_set_ne h.ne (get_set_ne n2 h.leads)), List.set_comm _ _ n1.symm]
end
/-! ### what a wish wants -/
def obW : Option Bool → W
  | none => .non
  | some b => .bl b
def wordIn (w : Str) : Bool := inW (.str w) [.str "rings", .str "knocks", .str "busy"]
def hadF (x : Wish) (y : Wy) (c : Int) (st : List Bool) : Option Bool := match x with
  | .group g ms => if (decide (y.group = some g) && !(ms.filter fun m => !decide (m = c)).isEmpty) = true then some (decide (y.ears = ms.filter fun m => !decide (m = c))) else none
  | .all p g => if p ∈ y.chain then some (decide ((p, g) ∈ y.leads) && wordIn y.word) else none
  | .busy p g => if p ∈ y.chain then if (!busyF st p || decide (p = c)) = true then none else some (decide ((p, g) ∈ y.leads) && wordIn y.word) else none
  | .wait p => if p ∈ y.chain then if (!busyF st p || decide (p = c)) = true then none else some (decide (y.word = "knocks") && decide (y.ears = [p])) else none
  | _ => none
def allKn : List Bool := List.replicate 6 true
def wantF (xs : List Wish) (x : Wish) (c n : Int) (st : List Bool) : Option Bool := if x ∈ xs then hadF x (wayF xs c n st allKn) c st else none
theorem eqW_opt {o : Option Int} {g : Int} : eqW (optW o) (.int g) = decide (o = some g) := by
  cases o with
  | none => rw [optW, eqW_ni]; rfl
  | some i => rw [optW, eqW_int]; by_cases h : i = g <;> simp [h]
theorem eqW_intsM {a b : List Int} : eqW (.tup (intsW a)) (.tup (b.map fun x => W.int x)) = decide (a = b) := eqW_ints a b
theorem eqW_one {a : List Int} {p : Int} : eqW (.tup (intsW a)) (.tup [.int p]) = decide (a = [p]) := eqW_ints a [p]
theorem pair_eq (a b : Int × Int) : eqW (pairW a) (pairW b) = decide (a = b) := by
  simp only [pairW, eqW_tt, eqW_t0, eqW_int, Bool.and_true]
  by_cases h : a = b
  · subst h; simp
  · rw [decide_eq_false h]
    rw [Bool.and_eq_false_iff]
    by_cases h1 : a.1 = b.1
    · right
      exact decide_eq_false fun h2 => h (Prod.ext h1 h2)
    · exact .inl (decide_eq_false h1)
theorem inW_leads {p g : Int} {l : List (Int × Int)} : inW (.tup [.int p, .int g]) (l.map pairW) = decide ((p, g) ∈ l) := (inW_map pair_eq (p, g) l).trans (decide_eq_decide.mpr Iff.rfl)
theorem opt_ok {o : Option Int} {n : Nat} : (optW o).ok n = true := by cases o <;> rfl
theorem inW_wish {x : Wish} {xs : List Wish} : inW x.w (xs.map Wish.w) = decide (x ∈ xs) := (inW_map wish_eq x xs).trans (decide_eq_decide.mpr Iff.rfl)

-- WB
/-- the walker waits here -/
def Stop (p : Prop) : Prop := p
theorem stop_i {p : Prop} (h : Stop p) : p := h
theorem eqW_key (a b : Key) : eqW (keyW1 a) (keyW1 b) = decide (a = b) := by
  cases a <;> cases b <;> simp [keyW1, eqW_int, eqW_str, eqW_is, eqW_si]
def keyT (x : Wish) : W := .tup (x.key.map keyW1)
theorem eqW_keys (a b : List Key) : eqW (.tup (a.map keyW1)) (.tup (b.map keyW1)) = decide (a = b) := eqW_mapT eqW_key a b
def keyIn (k : List Key) (xs : List Wish) : Bool := xs.any fun y => decide (y.key = k)
theorem inW_keys {x : Wish} {xs : List Wish} : inW (.tup (x.key.map keyW1)) (xs.map keyT) = keyIn x.key xs := by
  show (xs.map keyT).any (fun z => eqW z (.tup (x.key.map keyW1))) = _
  rw [List.any_map]
  unfold keyIn
  congr 1
  funext y
  exact eqW_keys y.key x.key
theorem keyT_ok {x : Wish} {n : Nat} (h : 1 ≤ n) : (W.tup (x.key.map keyW1)).ok n = true := by
  refine W.ok_mono _ h ?_
  cases x <;> (simp only [Wish.key, List.map, keyW1, W.ok, W.oks, Bool.and_true, Bool.true_and]; decide +kernel)
theorem keysT_ok {xs : List Wish} {n : Nat} (h : 1 ≤ n) : W.oks (xs.map keyT) n = true := oks_map (fun _ => keyT_ok h) xs
/-! ### calls with at most two phones busy -/
section
variable {X : Cx} {Ψ : AX} {a b c e o : Expr} {es : List Expr} {E : AEnv} {S : Sto} {Φ : W → Sto → Prop} {ΦT : Bool → Sto → Prop} {ΦE : AEnv → Sto → Prop} {pos : Pos}
/-! ### (word, ears, a list of the store) != y -/
def sNeY (x y : W) (S : Sto) (ΦT : Bool → Sto → Prop) : Prop := ∃ w es j cs, x = .tup [.str w, .tup (intsW es), .ref j] ∧ S[j]? = some (.lst (intsW cs)) ∧ W.ok (.tup [.str w, .tup (intsW es), .lst (intsW cs)]) 60 = true ∧ y.ok 60 = true ∧ ΦT (!eqW (.tup [.str w, .tup (intsW es), .lst (intsW cs)]) y) S
theorem xT_neY (hu : X.A.units + 65 < cLine) (h : wE X Ψ a E S fun x S1 => wE X Ψ b E S1 fun y S2 => sNeY x y S2 ΦT) : wT X Ψ (.Compare a [.NotEq] [b] pos) E S ΦT :=
  wT_cmpNeD hu (h.imp fun x S1 h => h.imp fun y S2 ⟨w, es, j, cs, e, h1, h2, h3, p⟩ => ⟨(W.tup [.str w, .tup (intsW es), .lst (intsW cs)]).d, _, by
    subst e
    have h2' : W.ok (.tup (intsW es)) 59 = true ∧ W.ok (.lst (intsW cs)) 59 = true := by
      simp only [W.ok, W.oks, Bool.and_eq_true] at h2 ⊢
      exact ⟨h2.2.1, h2.2.2.1⟩
    have h4 : W.oks (intsW cs) 58 = true := by simpa [W.ok] using h2'.2
    exact .tup (.cons (.str w) (.cons (Den.of _ 59 h2'.1) (.cons (.ref h1 (DenAll.of _ 58 h4)) .nil))), Den.of y _ h3, W.shaped h2 (Nat.le_refl _), W.shaped h3 (Nat.le_refl _), p⟩)
theorem sNeY_i {w : Str} {es cs : List Int} {j : Nat} {y : W} {k : Bool} (h1 : S[j]? = some (.lst (intsW cs))) (h3 : y.ok 60 = true) (e : eqW (.tup [.str w, .tup (intsW es), .lst (intsW cs)]) y = k) (h2 : W.ok (.tup [.str w, .tup (intsW es), .lst (intsW cs)]) 60 = true) (h : ΦT (!k) S) : sNeY (.tup [.str w, .tup (intsW es), .ref j]) y S ΦT := ⟨w, es, j, cs, rfl, h1, h2, h3, by rw [e]; exact h⟩
/-! ### a, b, .. = a list -/
def sGsL (X : Cx) (Ψ : AX) (ts : List Expr) (w : W) (E : AEnv) (S : Sto) (Φ : AEnv → Sto → Prop) : Prop := ∃ ws, itemsW S w = some ws ∧ (∀ y, w ≠ .tup y) ∧ ws.length = ts.length ∧ wGs X Ψ ts ws E S Φ
theorem xG_lst {k : Nat} (hc : X.calm = true) (he : Each X es) {w : W} (h2 : sGsL X Ψ es w E S ΦE) (hn : (assignEach es X.env).length = es.length := by rfl) (hst : (assignEach es X.env).findIdx? (·.1) = none := by rfl) : wG X Ψ (.Tuple es k pos) w E S ΦE :=
  wG.of (pg_lst hc pgs_sem hn hst) fun M σ H v r ev x a Q q => by
    obtain ⟨ws, hi, nt, hl, h⟩ := h2
    obtain ⟨ad, xs, rfl, rv, kk⟩ := seq_of (K := X.K) r a hi
    rcases kk with ⟨kk, _⟩ | ⟨_, z, ez⟩
    · exact ⟨ad, xs, rfl, kk, by rw [rv.length]; exact hl, wGs_run he h r ev x rv q⟩
    · exact absurd ez (nt z)
/-! ### {k1: v1, k2: v2}, the keys numbers -/
theorem wE_dispI2 {k1 k2 v1 v2 : Expr} (h : wE X nox k1 E S fun a S1 => wE X nox v1 E S1 fun x S2 => wE X nox k2 E S2 fun b S3 => wE X nox v2 E S3 fun y S4 => ∃ i j, a = .int i ∧ b = .int j ∧ Φ (.ref S4.length) (S4 ++ [.dk (mergeW [] [(.inl i, x), (.inl j, y)])])) :
    wE X Ψ (.Dict [some k1, some k2] [v1, v2] pos) E S Φ := by
  refine wE.of (pe_disp (pps_cons pe_sem pe_sem (pps_cons pe_sem pe_sem pps_nil)) rfl rfl (fun z => nomatch z) (by simp)) fun M σ H r ev x Q q => fun p hp => ?_
  have pn : p ∉ M.h := fun z => (r.hid p z).1 hp
  have evh : EvOk (M.hid p) (upd H p (.dK [])) σ E := ⟨ev.1, fun i w h => by
    obtain ⟨v, h1, h2⟩ := ev.2 i w h
    exact ⟨v, h1, hid_vw r hp h2⟩⟩
  refine h.run (M.hid p) σ (upd H p (.dK [])) (r.hide hp) evh ExcOk.none _ fun ka a M1 S1 H1 h1 r1 a1 s1 => ?_
  refine h1.run M1 σ H1 r1 (evh.step s1) ExcOk.none _ fun vx wx M2 S2 H2 h2 r2 a2 s2 => ?_
  refine h2.run M2 σ H2 r2 ((evh.step s1).step s2) ExcOk.none _ fun kb b M3 S3 H3 h3 r3 a3 s3 => ?_
  refine h3.run M3 σ H3 r3 (((evh.step s1).step s2).step s3) ExcOk.none _ fun vy wy M4 S4 H4 h4 r4 a4 s4 => ?_
  obtain ⟨i, j, rfl, rfl, pf⟩ := h4
  cases a1
  cases a3
  have st := ((s1.trans s2).trans s3).trans s4
  have e : M4 = ⟨M4.m, p :: M.h⟩ := by
    have z := st.hold
    cases M4
    simp only at z
    rw [z]
  have pm : p ∉ M.m := (r.hide (ho := .dK []) hp).hid p List.mem_cons_self |>.2
  have h2 : H4 p = some (.dK []) := st.keep p _ upd_same (fun ps z => (nomatch z)) pm
  have ax : VW M4 H4 vx wx := VW.step s4 _ _ (VW.step s3 _ _ a2)
  refine ⟨h2, [(.inl i, vx), (.inl j, vy)], rfl, by show 2 ≤ _; decide, ?_⟩
  rw [e] at r4 ax a4 st
  have r2' : Rep ((⟨M4.m, M.h⟩ : Lay).hid p) H4 S4 := r4
  have sb := step_behind (step_free (ho := .dK []) (Step.refl M H) hp) hp st
  have st2 := step_adopt (ho := .dK (mergeK [] [(.inl i, vx), (.inl j, vy)])) r hp sb
  obtain ⟨fo, _⟩ := step_over r2' (ho := .dK (mergeK [] [(.inl i, vx), (.inl j, vy)])) List.mem_cons_self h2 ⟨fun ps z => (nomatch z), fun f z => (nomatch z)⟩
  have pv0 : PVW ((⟨M4.m, M.h⟩ : Lay).hid p) H4 [((.inl i : Key), vx), (.inl j, vy)] [(.inl i, wx), (.inl j, wy)] := .cons ⟨rfl, ax⟩ (.cons ⟨rfl, a4⟩ .nil)
  have pv : PVW ((⟨M4.m, M.h⟩ : Lay).add p) (upd H4 p (.dK (mergeK [] [(.inl i, vx), (.inl j, vy)]))) (mergeK [] [(.inl i, vx), (.inl j, vy)]) (mergeW [] [(.inl i, wx), (.inl j, wy)]) :=
    pvw_mv (Paired.mapP (merge_vw pv0 .nil) fun _ _ z => ⟨z.1, fo _ _ z.2⟩)
  have ra := Rep.adopt (M := ⟨M4.m, M.h⟩) pn r2' (ho := .dK (mergeK [] [(.inl i, vx), (.inl j, vy)])) (o := .dk (mergeW [] [(.inl i, wx), (.inl j, wy)])) h2 ⟨fun ps z => (nomatch z), fun f z => (nomatch z)⟩ (.dk pv)
  refine q _ _ _ _ _ pf ra (.ref ?_) st2
  show (M4.m ++ [p])[S4.length]? = some p
  rw [← show M4.m.length = S4.length from r4.len, List.getElem?_append_right (Nat.le_refl _)]
  simp
end

-- HP
/-! ### a hall, plainly -/
structure Ca where
  c : Int
  y : Wy
  ppl : List Int
  age : Int
  talk : Bool
structure Ph where
  up : Bool
  now : Option Nat
  kept : Option Nat
  bell : Option Nat
  tone : Str
structure Hl where
  ph : Int → Ph
  ca : Nat → Ca
  n : Nat
  op : List Nat
def Ph.new : Ph := ⟨false, none, none, none, "quiet"⟩
def Ca.new (p : Int) : Ca := ⟨p, Wy.new, [p], 0, false⟩
def Hl.new : Hl := ⟨fun _ => Ph.new, fun _ => Ca.new 0, 0, []⟩
def Hl.setCa (σ : Hl) (k : Nat) (c : Ca) : Hl := { σ with ca := fun j => if j = k then c else σ.ca j }
def Hl.setPh (σ : Hl) (p : Int) (q : Ph) : Hl := { σ with ph := fun r => if r = p then q else σ.ph r }
def Hl.mapPh (σ : Hl) (f : Int → Ph → Ph) : Hl := { σ with ph := fun r => f r (σ.ph r) }
def Ph.sil (k : Nat) (q : Ph) : Ph := if q.bell = some k then { q with bell := none } else q
def Wy.noEars (y : Wy) : Wy := { y with ears := [] }
def Ca.noEars (c : Ca) : Ca := { c with y := c.y.noEars }
def silF (σ : Hl) (k : Nat) : Hl := (σ.mapPh fun _ => Ph.sil k).setCa k (σ.ca k).noEars
def Ph.ov1 (k : Nat) (q : Ph) : Ph := if q.now = some k then { q with now := none, tone := "busy" } else q
def Ph.ov2 (k : Nat) (q : Ph) : Ph := if q.kept = some k then { q with kept := none } else q
def overF (σ : Hl) (k : Nat) : Hl := { (silF σ k).mapPh (fun _ q => (q.ov1 k).ov2 k) with op := σ.op.erase k }
def ansF (σ : Hl) (k : Nat) (p : Int) : Hl :=
  ((silF σ k).setCa k { (σ.ca k).noEars with talk := true, ppl := (σ.ca k).ppl ++ [p] }).setPh p { (σ.ph p).sil k with now := some k }
def leaveF (σ : Hl) (o : Option Nat) (p : Int) : Hl := match o with
  | none => σ
  | some k =>
    let s := σ.setCa k { σ.ca k with ppl := (σ.ca k).ppl.erase p }
    if ((σ.ca k).ppl.erase p).length < 2 then overF s k else s
def liftF (σ : Hl) (p : Int) : Hl :=
  let s := σ.setPh p { σ.ph p with up := true, tone := "dial" }
  match (σ.ph p).bell with
  | none => s
  | some k => ansF s k p
def inTalk (σ : Hl) (p : Int) : Bool := match (σ.ph p).now with
  | none => false
  | some k => (σ.ca k).talk
def mayF (σ : Hl) (p : Int) : Bool := inTalk σ p && (σ.ph p).kept.isNone && (σ.ph p).bell.isNone
def busyP (q : Ph) : Bool := q.up || q.bell.isSome
def stF (σ : Hl) : List Bool := (List.range 6).map fun i : Nat => busyP (σ.ph i)
def knF (σ : Hl) : List Bool := (List.range 6).map fun i : Nat => mayF σ i
/-- a call goes to a number -/
def onY (σ : Hl) (xs : List Wish) (k : Nat) (g : Int) : Wy := goF xs (σ.ca k).c (stF σ) (knF σ) (8 - (σ.ca k).y.chain.length) (σ.ca k).y g
def ringF (σ : Hl) (k : Nat) (y : Wy) : Hl := (σ.setCa k { σ.ca k with y := y, age := 0 }).mapPh fun p q => if p ∈ y.ears then { q with bell := some k } else q
def onF (σ : Hl) (xs : List Wish) (k : Nat) (g : Int) : Hl :=
  let y := onY σ xs k g
  if y.ears = [] then overF (ringF σ k y) k else ringF σ k y
def dial0 (σ : Hl) (p : Int) : Hl := { (σ.setCa σ.n (Ca.new p)).setPh p { σ.ph p with now := some σ.n } with n := σ.n + 1, op := σ.op ++ [σ.n] }
def dialF (σ : Hl) (xs : List Wish) (p g : Int) : Hl := onF (dial0 σ p) xs σ.n g
def dropF (σ : Hl) (p : Int) : Hl := leaveF (leaveF (σ.setPh p { σ.ph p with up := false, now := none, kept := none, tone := "quiet" }) (σ.ph p).now p) (σ.ph p).kept p
def holdF (σ : Hl) (p : Int) : Hl := σ.setPh p { σ.ph p with now := none, kept := (σ.ph p).now, tone := "dial" }
def swapF (σ : Hl) (p : Int) : Hl := σ.setPh p { σ.ph p with now := (σ.ph p).kept, kept := (σ.ph p).now }
def takeF (σ : Hl) (p : Int) : Hl := match (σ.ph p).bell with
  | none => σ
  | some k => ansF (σ.setPh p { σ.ph p with kept := (σ.ph p).now }) k p
/-- people of one more, none twice -/
def moreP (a b : List Int) : List Int := b.foldl (fun l p => if p ∈ l then l else l ++ [p]) a
def Ph.jn1 (c o : Nat) (q : Ph) : Ph := if q.now = some o then { q with now := some c } else q
def Ph.jn2 (c o : Nat) (q : Ph) : Ph := if q.kept = some o then { q with kept := some c } else q
def Ph.jn3 (q : Ph) : Ph := if q.kept = q.now then { q with kept := none } else q
def Ph.jn (c o : Nat) (q : Ph) : Ph := ((q.jn1 c o).jn2 c o).jn3
def join2 (σ : Hl) (c o : Nat) : Hl := { (σ.setCa c { σ.ca c with ppl := moreP (σ.ca c).ppl (σ.ca o).ppl }).mapPh (fun _ q => q.jn c o) with op := σ.op.erase o }
def joinF (σ : Hl) (p : Int) : Hl := match (σ.ph p).now, (σ.ph p).kept with
  | some c, some o => join2 σ c o
  | _, _ => σ
/-- late: (beats, whereto) -/
def lateB (xs : List Wish) (p : Int) : Option (Int × Int) := match getB xs [.inr "late", .inl p] with
  | some (.late _ g t) => some (t, g)
  | _ => none
def lateOf (xs : List Wish) (c : Ca) : Option (Int × Int × Int) := match c.y.group, c.y.chain.getLast? with
  | none, some p => (lateB xs p).map fun r => (p, r.1, r.2)
  | _, _ => none
def late0 (σ : Hl) (k : Nat) (p g : Int) : Hl := (silF σ k).setCa k { (σ.ca k).noEars with y := { (σ.ca k).y.noEars with leads := (σ.ca k).y.leads ++ [(p, g)] } }
def lateF (σ : Hl) (xs : List Wish) (k : Nat) : Hl := match lateOf xs (σ.ca k) with
  | some (p, t, g) => if t = (σ.ca k).age then onF (late0 σ k p g) xs k g else if (σ.ca k).age = 12 then overF σ k else σ
  | none => if (σ.ca k).age = 12 then overF σ k else σ
def beat1 (xs : List Wish) (σ : Hl) (k : Nat) : Hl :=
  if k ∈ σ.op ∧ (σ.ca k).talk = false then lateF (σ.setCa k { σ.ca k with age := (σ.ca k).age + 1 }) xs k else σ
def beatF (σ : Hl) (xs : List Wish) : Hl := σ.op.foldl (beat1 xs) σ
def sortI (l : List Int) : List Int := l.mergeSort fun a b => decide (a ≤ b)
def voices (σ : Hl) (k : Nat) (p : Int) : List Int := (σ.ca k).ppl.filter fun o => !decide (o = p) && decide ((σ.ph o).now = some k)
def hearF (σ : Hl) (p : Int) : Str × List Int × Bool :=
  let q := σ.ph p
  if q.up = false then (if q.bell = none then "quiet" else "bell", [], false) else
  match q.now with
  | none => (q.tone, [], q.bell.isSome)
  | some k => if (σ.ca k).talk = false then ("rings", [], q.bell.isSome) else (if voices σ k p = [] then "music" else "talk", sortI (voices σ k p), q.bell.isSome)
/-! ### a hall in the store -/
inductive Cell
  | hall | calls | book | dict | ph (p : Int) | ca (k : Nat) | way (k : Nat) | chain (k : Nat) | leads (k : Nat) | ppl (k : Nat)
  deriving DecidableEq
def okC (n : Nat) : Cell → Prop
  | .ph p => 0 ≤ p ∧ p ≤ 5
  | .ca k => k < n | .way k => k < n | .chain k => k < n | .leads k => k < n | .ppl k => k < n
  | _ => True
structure Cs where
  CB : Addr
  CW : Addr
  CC : Addr
  CP : Addr
  CH : Addr
abbrev Pl := Cell → Nat
def rfW (loc : Pl) : Option Nat → W
  | none => .non
  | some k => .ref (loc (.ca k))
def phFs (loc : Pl) (q : Ph) : List (Str × W) := [("is_up", .bl q.up), ("now", rfW loc q.now), ("kept", rfW loc q.kept), ("bell", rfW loc q.bell), ("tone", .str q.tone)]
def caFs (loc : Pl) (k : Nat) (c : Ca) : List (Str × W) := [("way", .ref (loc (.way k))), ("people", .ref (loc (.ppl k))), ("age", .int c.age), ("is_talk", .bl c.talk)]
def hallFs (loc : Pl) : List (Str × W) := [("book", .ref (loc .book)), ("phones", .lst ((List.range 6).map fun i : Nat => W.ref (loc (.ph (i : Int))))), ("calls", .ref (loc .calls))]
def objC (C : Cs) (loc : Pl) (xs : List Wish) (σ : Hl) : Cell → O
  | .hall => .ins C.CH (hallFs loc)
  | .calls => .lst ((σ.op.map fun k => loc (.ca k)).map W.ref)
  | .book => .ins C.CB [("wanted", .ref (loc .dict))]
  | .dict => .dt (bookD xs)
  | .ph p => .ins C.CP (phFs loc (σ.ph p))
  | .ca k => .ins C.CC (caFs loc k (σ.ca k))
  | .way k => .ins C.CW (wayFs (loc .book) (σ.ca k).c (loc (.chain k)) (loc (.leads k)) (σ.ca k).y)
  | .chain k => .lst (intsW (σ.ca k).y.chain)
  | .leads k => .lst ((σ.ca k).y.leads.map pairW)
  | .ppl k => .lst (intsW (σ.ca k).ppl)
/-- calls that are spoken of have been made -/
def Ph.vd (n : Nat) (q : Ph) : Prop := (∀ k, q.now = some k → k < n) ∧ (∀ k, q.kept = some k → k < n) ∧ ∀ k, q.bell = some k → k < n
structure Vd (σ : Hl) : Prop where
  op : ∀ k ∈ σ.op, k < σ.n
  ph : ∀ p, 0 ≤ p → p ≤ 5 → (σ.ph p).vd σ.n
structure HallAt (C : Cs) (S : Sto) (loc : Pl) (xs : List Wish) (σ : Hl) : Prop where
  at_ : ∀ c, okC σ.n c → S[loc c]? = some (objC C loc xs σ c)
  inj : ∀ c d, okC σ.n c → okC σ.n d → loc c = loc d → c = d
  vd : Vd σ
/-- halls that are the same where it counts -/
structure Eqv (σ τ : Hl) : Prop where
  n : τ.n = σ.n
  op : τ.op = σ.op
  ph : ∀ p, 0 ≤ p → p ≤ 5 → τ.ph p = σ.ph p
  ca : ∀ k, k < σ.n → τ.ca k = σ.ca k
theorem Eqv.refl (σ : Hl) : Eqv σ σ := ⟨rfl, rfl, fun _ _ _ => rfl, fun _ _ => rfl⟩
theorem Eqv.symm {σ τ : Hl} (h : Eqv σ τ) : Eqv τ σ := ⟨h.n.symm, h.op.symm, fun p a b => (h.ph p a b).symm, fun k a => (h.ca k (by rw [← h.n]; exact a)).symm⟩
theorem Eqv.trans {σ τ υ : Hl} (h : Eqv σ τ) (g : Eqv τ υ) : Eqv σ υ := ⟨g.n.trans h.n, g.op.trans h.op, fun p a b => (g.ph p a b).trans (h.ph p a b), fun k a => (g.ca k (by rw [h.n]; exact a)).trans (h.ca k a)⟩
theorem Vd.eqv {σ τ : Hl} (v : Vd σ) (h : Eqv σ τ) : Vd τ := ⟨fun k hk => by rw [h.n]; exact v.op k (by rw [← h.op]; exact hk), fun p a b => by rw [h.ph p a b, h.n]; exact v.ph p a b⟩
section
variable {C : Cs} {S : Sto} {loc : Pl} {xs : List Wish} {σ τ : Hl}
theorem objC_eqv (e : Eqv σ τ) (c : Cell) (hc : okC σ.n c) : objC C loc xs τ c = objC C loc xs σ c := by
  cases c with
  | calls => show O.lst _ = O.lst _; rw [e.op]
  | ph p => show O.ins _ _ = O.ins _ _; rw [e.ph p hc.1 hc.2]
  | ca k => show O.ins _ _ = O.ins _ _; rw [e.ca k hc]
  | way k => show O.ins _ _ = O.ins _ _; rw [e.ca k hc]
  | chain k => show O.lst _ = O.lst _; rw [e.ca k hc]
  | leads k => show O.lst _ = O.lst _; rw [e.ca k hc]
  | ppl k => show O.lst _ = O.lst _; rw [e.ca k hc]
  | _ => rfl
theorem HallAt.eqv (h : HallAt C S loc xs σ) (e : Eqv σ τ) : HallAt C S loc xs τ :=
  ⟨fun c hc => by
    rw [e.n] at hc
    rw [objC_eqv e c hc]
    exact h.at_ c hc, fun c d hc hd => by
    rw [e.n] at hc hd
    exact h.inj c d hc hd, h.vd.eqv e⟩
theorem HallAt.hall (h : HallAt C S loc xs σ) : S[loc .hall]? = some (.ins C.CH (hallFs loc)) := h.at_ .hall trivial
theorem HallAt.calls (h : HallAt C S loc xs σ) : S[loc .calls]? = some (.lst ((σ.op.map fun k => loc (.ca k)).map W.ref)) := h.at_ .calls trivial
theorem HallAt.bk (h : HallAt C S loc xs σ) : BookAt C.CB S (loc .book) xs := ⟨_, h.at_ .book trivial, h.at_ .dict trivial⟩
theorem HallAt.ph (h : HallAt C S loc xs σ) {p : Int} (h0 : 0 ≤ p) (h5 : p ≤ 5) : S[loc (.ph p)]? = some (.ins C.CP (phFs loc (σ.ph p))) := h.at_ (.ph p) ⟨h0, h5⟩
theorem HallAt.ca (h : HallAt C S loc xs σ) {k : Nat} (hk : k < σ.n) : S[loc (.ca k)]? = some (.ins C.CC (caFs loc k (σ.ca k))) := h.at_ (.ca k) hk
theorem HallAt.way (h : HallAt C S loc xs σ) {k : Nat} (hk : k < σ.n) : S[loc (.way k)]? = some (.ins C.CW (wayFs (loc .book) (σ.ca k).c (loc (.chain k)) (loc (.leads k)) (σ.ca k).y)) := h.at_ (.way k) hk
theorem HallAt.chain (h : HallAt C S loc xs σ) {k : Nat} (hk : k < σ.n) : S[loc (.chain k)]? = some (.lst (intsW (σ.ca k).y.chain)) := h.at_ (.chain k) hk
theorem HallAt.leads (h : HallAt C S loc xs σ) {k : Nat} (hk : k < σ.n) : S[loc (.leads k)]? = some (.lst ((σ.ca k).y.leads.map pairW)) := h.at_ (.leads k) hk
theorem HallAt.ppl (h : HallAt C S loc xs σ) {k : Nat} (hk : k < σ.n) : S[loc (.ppl k)]? = some (.lst (intsW (σ.ca k).ppl)) := h.at_ (.ppl k) hk
theorem HallAt.wy (h : HallAt C S loc xs σ) {k : Nat} (hk : k < σ.n) : WayAt C.CW S (loc (.way k)) (loc (.chain k)) (loc (.leads k)) (loc .book) (σ.ca k).c (σ.ca k).y :=
  ⟨h.way hk, h.chain hk, h.leads hk, fun e => by cases h.inj (.chain k) (.leads k) hk hk e⟩
/-! what is compared -/
theorem insW_rf (h : HallAt C S loc xs σ) {o : Option Nat} (ho : ∀ k, o = some k → k < σ.n) : insW S C.CC (rfW loc o) := by
  cases o with
  | none => trivial
  | some k => exact ⟨_, h.ca (ho k rfl)⟩
theorem same_rf (h : HallAt C S loc xs σ) {o u : Option Nat} (ho : ∀ k, o = some k → k < σ.n) (hu : ∀ k, u = some k → k < σ.n) : sameW (rfW loc o) (rfW loc u) = decide (o = u) := by
  cases o with
  | none =>
    cases u with
    | none => rfl
    | some k => rfl
  | some j =>
    cases u with
    | none => rfl
    | some k =>
      show decide (loc (.ca j) = loc (.ca k)) = _
      by_cases e : j = k
      · subst e
        rw [decide_eq_true rfl, decide_eq_true rfl]
      · rw [decide_eq_false (fun z => e (by cases h.inj (.ca j) (.ca k) (ho j rfl) (hu k rfl) z; rfl)), decide_eq_false (fun z => e (Option.some.inj z))]
theorem sEqI_rf {X : Cx} {Φ : W → Sto → Prop} {o u : Option Nat} (h : HallAt C S loc xs σ) (p : PlainEq X.K C.CC) (ho : ∀ k, o = some k → k < σ.n) (hu : ∀ k, u = some k → k < σ.n) (q : Φ (.bl (decide (o = u))) S) : sEqI X (rfW loc o) (rfW loc u) S Φ :=
  sEqI_i p (insW_rf h ho) (insW_rf h hu) (same_rf h ho hu) q
theorem sEqI_r1 {X : Cx} {Φ : W → Sto → Prop} {o : Option Nat} {k : Nat} (h : HallAt C S loc xs σ) (p : PlainEq X.K C.CC) (ho : ∀ k, o = some k → k < σ.n) (hk : k < σ.n) (q : Φ (.bl (decide (o = some k))) S) : sEqI X (rfW loc o) (.ref (loc (.ca k))) S Φ :=
  sEqI_rf (u := some k) h p ho (fun j e => by cases e; exact hk) q
theorem isNon_rf {o : Option Nat} : isNonW (rfW loc o) = some o.isNone := by cases o <;> rfl
/-! ### one cell is written -/
theorem HallAt.put (h : HallAt C S loc xs σ) (c0 : Cell) (v0 : okC σ.n c0) {o : O} (hn : τ.n = σ.n) (vd : Vd τ) (e1 : objC C loc xs τ c0 = o) (e2 : ∀ c, okC σ.n c → c ≠ c0 → objC C loc xs τ c = objC C loc xs σ c) : HallAt C (S.set (loc c0) o) loc xs τ :=
  ⟨fun c hc => by
    rw [hn] at hc
    by_cases e : c = c0
    · subst e
      rw [e1]
      exact get_set_self (h.at_ c hc)
    · rw [e2 c hc e]
      exact get_set_ne (fun z => e (h.inj c c0 hc v0 z.symm)) (h.at_ c hc), fun c d hc hd => by
    rw [hn] at hc hd
    exact h.inj c d hc hd, vd⟩
theorem Vd.setPh (v : Vd σ) {p : Int} {q : Ph} (hq : q.vd σ.n) : Vd (σ.setPh p q) := ⟨v.op, fun r h0 h5 => by
  show (if r = p then q else σ.ph r).vd σ.n
  by_cases e : r = p
  · rw [if_pos e]; exact hq
  · rw [if_neg e]; exact v.ph r h0 h5⟩
theorem Vd.setCa (v : Vd σ) {k : Nat} {c : Ca} : Vd (σ.setCa k c) := ⟨v.op, v.ph⟩
theorem HallAt.putPh (h : HallAt C S loc xs σ) {p : Int} (h0 : 0 ≤ p) (h5 : p ≤ 5) {q : Ph} (hq : q.vd σ.n) : HallAt C (S.set (loc (.ph p)) (.ins C.CP (phFs loc q))) loc xs (σ.setPh p q) := by
  refine h.put (.ph p) ⟨h0, h5⟩ rfl (h.vd.setPh hq) ?_ fun c hc ne => ?_
  · show O.ins _ (phFs loc (if p = p then q else σ.ph p)) = _
    rw [if_pos rfl]
  · cases c with
    | ph r =>
      show O.ins _ (phFs loc (if r = p then q else σ.ph r)) = _
      rw [if_neg (fun z => ne (by rw [z]))]
      rfl
    | _ => rfl
theorem HallAt.putCa (h : HallAt C S loc xs σ) {k : Nat} (hk : k < σ.n) {c : Ca} (e1 : c.c = (σ.ca k).c) (e2 : c.y = (σ.ca k).y) (e3 : c.ppl = (σ.ca k).ppl) : HallAt C (S.set (loc (.ca k)) (.ins C.CC (caFs loc k c))) loc xs (σ.setCa k c) := by
  have key : ∀ j, (σ.setCa k c).ca j = if j = k then c else σ.ca j := fun _ => rfl
  have kc : ∀ j, ((σ.setCa k c).ca j).c = (σ.ca j).c := fun j => by rw [key]; by_cases z : j = k; rw [if_pos z, z, e1]; rw [if_neg z]
  have ky : ∀ j, ((σ.setCa k c).ca j).y = (σ.ca j).y := fun j => by rw [key]; by_cases z : j = k; rw [if_pos z, z, e2]; rw [if_neg z]
  have kp : ∀ j, ((σ.setCa k c).ca j).ppl = (σ.ca j).ppl := fun j => by rw [key]; by_cases z : j = k; rw [if_pos z, z, e3]; rw [if_neg z]
  refine h.put (.ca k) hk rfl h.vd.setCa ?_ fun d hd ne => ?_
  · show O.ins _ (caFs loc k (if k = k then c else σ.ca k)) = _
    rw [if_pos rfl]
  · cases d with
    | ca j =>
      show O.ins _ (caFs loc j (if j = k then c else σ.ca j)) = _
      rw [if_neg (fun z => ne (by rw [z]))]
      rfl
    | way j => show O.ins _ (wayFs _ ((σ.setCa k c).ca j).c _ _ ((σ.setCa k c).ca j).y) = O.ins _ _; rw [kc, ky]
    | chain j => show O.lst (intsW ((σ.setCa k c).ca j).y.chain) = O.lst _; rw [ky]
    | leads j => show O.lst (((σ.setCa k c).ca j).y.leads.map pairW) = O.lst _; rw [ky]
    | ppl j => show O.lst (intsW ((σ.setCa k c).ca j).ppl) = O.lst _; rw [kp]
    | _ => rfl
theorem HallAt.putWay (h : HallAt C S loc xs σ) {k : Nat} (hk : k < σ.n) {y : Wy} (e1 : y.chain = (σ.ca k).y.chain) (e2 : y.leads = (σ.ca k).y.leads) : HallAt C (S.set (loc (.way k)) (.ins C.CW (wayFs (loc .book) (σ.ca k).c (loc (.chain k)) (loc (.leads k)) y))) loc xs (σ.setCa k { σ.ca k with y := y }) := by
  have key : ∀ j, (σ.setCa k { σ.ca k with y := y }).ca j = if j = k then { σ.ca k with y := y } else σ.ca j := fun _ => rfl
  refine h.put (.way k) hk rfl h.vd.setCa ?_ fun d hd ne => ?_
  · show O.ins _ (wayFs _ (if k = k then { σ.ca k with y := y } else σ.ca k).c _ _ (if k = k then { σ.ca k with y := y } else σ.ca k).y) = _
    rw [if_pos rfl]
  · cases d with
    | ca j =>
      show O.ins _ (caFs loc j (if j = k then { σ.ca k with y := y } else σ.ca j)) = O.ins _ (caFs loc j (σ.ca j))
      by_cases z : j = k
      · rw [if_pos z, z]; rfl
      · rw [if_neg z]
    | way j =>
      show O.ins _ (wayFs _ (if j = k then { σ.ca k with y := y } else σ.ca j).c _ _ (if j = k then { σ.ca k with y := y } else σ.ca j).y) = O.ins _ _
      rw [if_neg (fun z => ne (by rw [z]))]
    | chain j =>
      show O.lst (intsW (if j = k then { σ.ca k with y := y } else σ.ca j).y.chain) = O.lst (intsW (σ.ca j).y.chain)
      by_cases z : j = k
      · rw [if_pos z, z]; show O.lst (intsW y.chain) = _; rw [e1]
      · rw [if_neg z]
    | leads j =>
      show O.lst ((if j = k then { σ.ca k with y := y } else σ.ca j).y.leads.map pairW) = O.lst ((σ.ca j).y.leads.map pairW)
      by_cases z : j = k
      · rw [if_pos z, z]; show O.lst (y.leads.map pairW) = _; rw [e2]
      · rw [if_neg z]
    | ppl j =>
      show O.lst (intsW (if j = k then { σ.ca k with y := y } else σ.ca j).ppl) = O.lst (intsW (σ.ca j).ppl)
      by_cases z : j = k
      · rw [if_pos z, z]
      · rw [if_neg z]
    | _ => rfl
theorem HallAt.putPpl (h : HallAt C S loc xs σ) {k : Nat} (hk : k < σ.n) {l : List Int} : HallAt C (S.set (loc (.ppl k)) (.lst (intsW l))) loc xs (σ.setCa k { σ.ca k with ppl := l }) := by
  refine h.put (.ppl k) hk rfl h.vd.setCa ?_ fun d hd ne => ?_
  · show O.lst (intsW (if k = k then { σ.ca k with ppl := l } else σ.ca k).ppl) = _
    rw [if_pos rfl]
  · cases d with
    | ca j =>
      show O.ins _ (caFs loc j (if j = k then { σ.ca k with ppl := l } else σ.ca j)) = O.ins _ (caFs loc j (σ.ca j))
      by_cases z : j = k
      · rw [if_pos z, z]; rfl
      · rw [if_neg z]
    | way j =>
      show O.ins _ (wayFs _ (if j = k then { σ.ca k with ppl := l } else σ.ca j).c _ _ (if j = k then { σ.ca k with ppl := l } else σ.ca j).y) = O.ins _ (wayFs _ (σ.ca j).c _ _ (σ.ca j).y)
      by_cases z : j = k
      · rw [if_pos z, z]
      · rw [if_neg z]
    | chain j =>
      show O.lst (intsW (if j = k then { σ.ca k with ppl := l } else σ.ca j).y.chain) = O.lst (intsW (σ.ca j).y.chain)
      by_cases z : j = k
      · rw [if_pos z, z]
      · rw [if_neg z]
    | leads j =>
      show O.lst ((if j = k then { σ.ca k with ppl := l } else σ.ca j).y.leads.map pairW) = O.lst ((σ.ca j).y.leads.map pairW)
      by_cases z : j = k
      · rw [if_pos z, z]
      · rw [if_neg z]
    | ppl j =>
      show O.lst (intsW (if j = k then { σ.ca k with ppl := l } else σ.ca j).ppl) = O.lst (intsW (σ.ca j).ppl)
      rw [if_neg (fun z => ne (by rw [z]))]
    | _ => rfl
theorem HallAt.putLeads (h : HallAt C S loc xs σ) {k : Nat} (hk : k < σ.n) {l : List (Int × Int)} : HallAt C (S.set (loc (.leads k)) (.lst (l.map pairW))) loc xs (σ.setCa k { σ.ca k with y := { (σ.ca k).y with leads := l } }) := by
  refine h.put (.leads k) hk rfl h.vd.setCa ?_ fun d hd ne => ?_
  · show O.lst ((if k = k then { σ.ca k with y := { (σ.ca k).y with leads := l } } else σ.ca k).y.leads.map pairW) = _
    rw [if_pos rfl]
  · cases d with
    | ca j =>
      show O.ins _ (caFs loc j (if j = k then { σ.ca k with y := { (σ.ca k).y with leads := l } } else σ.ca j)) = O.ins _ (caFs loc j (σ.ca j))
      by_cases z : j = k
      · rw [if_pos z, z]; rfl
      · rw [if_neg z]
    | way j =>
      show O.ins _ (wayFs _ (if j = k then { σ.ca k with y := { (σ.ca k).y with leads := l } } else σ.ca j).c _ _ (if j = k then { σ.ca k with y := { (σ.ca k).y with leads := l } } else σ.ca j).y) = O.ins _ (wayFs _ (σ.ca j).c _ _ (σ.ca j).y)
      by_cases z : j = k
      · rw [if_pos z, z]; rfl
      · rw [if_neg z]
    | chain j =>
      show O.lst (intsW (if j = k then { σ.ca k with y := { (σ.ca k).y with leads := l } } else σ.ca j).y.chain) = O.lst (intsW (σ.ca j).y.chain)
      by_cases z : j = k
      · rw [if_pos z, z]
      · rw [if_neg z]
    | leads j =>
      show O.lst ((if j = k then { σ.ca k with y := { (σ.ca k).y with leads := l } } else σ.ca j).y.leads.map pairW) = O.lst ((σ.ca j).y.leads.map pairW)
      rw [if_neg (fun z => ne (by rw [z]))]
    | ppl j =>
      show O.lst (intsW (if j = k then { σ.ca k with y := { (σ.ca k).y with leads := l } } else σ.ca j).ppl) = O.lst (intsW (σ.ca j).ppl)
      by_cases z : j = k
      · rw [if_pos z, z]
      · rw [if_neg z]
    | _ => rfl
theorem HallAt.putOp (h : HallAt C S loc xs σ) {l : List Nat} (hl : ∀ k ∈ l, k < σ.n) : HallAt C (S.set (loc .calls) (.lst ((l.map fun k => loc (.ca k)).map W.ref))) loc xs { σ with op := l } := by
  refine h.put .calls trivial rfl ⟨hl, h.vd.ph⟩ rfl fun d hd ne => ?_
  cases d with
  | calls => exact absurd rfl ne
  | _ => rfl
end
/-! ### what stands beside a hall stays -/
structure Fr (loc : Pl) (n : Nat) (S S' : Sto) : Prop where
  len : S'.length = S.length
  off : ∀ i, (∀ c, okC n c → loc c ≠ i) → S'[i]? = S[i]?
theorem Fr.refl {loc : Pl} {n : Nat} (S : Sto) : Fr loc n S S := ⟨rfl, fun _ _ => rfl⟩
theorem Fr.trans {loc : Pl} {n : Nat} {S T U : Sto} (h : Fr loc n S T) (g : Fr loc n T U) : Fr loc n S U := ⟨g.len.trans h.len, fun i hi => (g.off i hi).trans (h.off i hi)⟩
theorem Fr.set {loc : Pl} {n : Nat} {S T : Sto} (h : Fr loc n S T) {c : Cell} (hc : okC n c) {o : O} : Fr loc n S (T.set (loc c) o) :=
  ⟨by rw [List.length_set]; exact h.len, fun i hi => by
    rw [List.getElem?_set_ne (hi c hc)]
    exact h.off i hi⟩
/-- .. which may grow -/
structure Nx (loc loc' : Pl) (n n' : Nat) (S S' : Sto) : Prop where
  len : S.length ≤ S'.length
  le : n ≤ n'
  same : ∀ c, okC n c → loc' c = loc c
  new : ∀ c, okC n' c → ¬ okC n c → S.length ≤ loc' c
  off : ∀ i, i < S.length → (∀ c, okC n c → loc c ≠ i) → S'[i]? = S[i]?
theorem okC.mono {n m : Nat} (h : n ≤ m) {c : Cell} (hc : okC n c) : okC m c := by
  cases c with
  | ca k => exact Nat.lt_of_lt_of_le hc h
  | way k => exact Nat.lt_of_lt_of_le hc h
  | chain k => exact Nat.lt_of_lt_of_le hc h
  | leads k => exact Nat.lt_of_lt_of_le hc h
  | ppl k => exact Nat.lt_of_lt_of_le hc h
  | _ => exact hc
theorem Fr.nx {loc : Pl} {n : Nat} {S S' : Sto} (h : Fr loc n S S') : Nx loc loc n n S S' := ⟨Nat.le_of_eq h.len.symm, Nat.le_refl _, fun _ _ => rfl, fun _ a b => absurd a b, fun i _ hi => h.off i hi⟩
theorem Nx.refl {loc : Pl} {n : Nat} {S : Sto} : Nx loc loc n n S S := (Fr.refl S).nx
theorem Nx.trans {l1 l2 l3 : Pl} {n1 n2 n3 : Nat} {S1 S2 S3 : Sto} (h : Nx l1 l2 n1 n2 S1 S2) (g : Nx l2 l3 n2 n3 S2 S3) : Nx l1 l3 n1 n3 S1 S3 where
  len := Nat.le_trans h.len g.len
  le := Nat.le_trans h.le g.le
  same := fun c hc => (g.same c (hc.mono h.le)).trans (h.same c hc)
  new := fun c hc hn => by
    by_cases e : okC n2 c
    · rw [g.same c e]
      exact h.new c e hn
    · exact Nat.le_trans h.len (g.new c hc e)
  off := fun i hi hc => by
    have hi2 : i < S2.length := Nat.lt_of_lt_of_le hi h.len
    refine (g.off i hi2 fun c h2 => ?_).trans (h.off i hi hc)
    by_cases e : okC n1 c
    · rw [h.same c e]
      exact hc c e
    · intro z
      have := h.new c h2 e
      omega
/-! ### phones one after another -/
def mapI (σ : Hl) (f : Int → Ph → Ph) (i : Nat) : Hl := σ.mapPh fun p q => if p < (i : Int) then f p q else q
theorem mapI_0 (σ : Hl) (f : Int → Ph → Ph) : Eqv σ (mapI σ f 0) := ⟨rfl, rfl, fun p h0 _ => by
  show (if p < ((0 : Nat) : Int) then _ else _) = _
  rw [if_neg (by omega)], fun _ _ => rfl⟩
theorem mapI_6 (σ : Hl) (f : Int → Ph → Ph) : Eqv (mapI σ f 6) (σ.mapPh f) := ⟨rfl, rfl, fun p _ h5 => by
  show _ = (if p < ((6 : Nat) : Int) then _ else _)
  rw [if_pos (by omega)]
  rfl, fun _ _ => rfl⟩
theorem mapI_at (σ : Hl) (f : Int → Ph → Ph) (i : Nat) : (mapI σ f i).ph (i : Int) = σ.ph (i : Int) := by
  show (if ((i : Nat) : Int) < ((i : Nat) : Int) then _ else _) = _
  rw [if_neg (by omega)]
theorem mapI_set (σ : Hl) (f : Int → Ph → Ph) (i : Nat) : Eqv ((mapI σ f i).setPh (i : Int) (f (i : Int) (σ.ph (i : Int)))) (mapI σ f (i + 1)) := ⟨rfl, rfl, fun p _ _ => by
  show (if p < ((i + 1 : Nat) : Int) then _ else _) = (if p = (i : Int) then _ else (if p < ((i : Nat) : Int) then _ else _))
  by_cases e : p = (i : Int)
  · subst e
    rw [if_pos (by omega), if_pos rfl]
  · rw [if_neg e]
    by_cases l : p < (i : Int)
    · rw [if_pos l, if_pos (by omega)]
    · rw [if_neg l, if_neg (by omega)], fun _ _ => rfl⟩
theorem mapI_skip (σ : Hl) (f : Int → Ph → Ph) (i : Nat) (h : f (i : Int) (σ.ph (i : Int)) = σ.ph (i : Int)) : Eqv (mapI σ f i) (mapI σ f (i + 1)) := ⟨rfl, rfl, fun p _ _ => by
  show (if p < ((i + 1 : Nat) : Int) then _ else _) = (if p < ((i : Nat) : Int) then _ else _)
  by_cases e : p = (i : Int)
  · subst e
    rw [if_pos (by omega), if_neg (by omega)]
    exact h
  · by_cases l : p < (i : Int)
    · rw [if_pos l, if_pos (by omega)]
    · rw [if_neg l, if_neg (by omega)], fun _ _ => rfl⟩
theorem HallAt.turn {C : Cs} {S : Sto} {loc : Pl} {xs : List Wish} {σ : Hl} {f : Int → Ph → Ph} {i : Nat} (h : HallAt C S loc xs (mapI σ f i)) (hi : i < 6) (hq : (f (i : Int) (σ.ph (i : Int))).vd σ.n) : HallAt C (S.set (loc (.ph (i : Int))) (.ins C.CP (phFs loc (f (i : Int) (σ.ph (i : Int)))))) loc xs (mapI σ f (i + 1)) :=
  (h.putPh (by omega) (by omega) hq).eqv (mapI_set σ f i)
theorem HallAt.skip {C : Cs} {S : Sto} {loc : Pl} {xs : List Wish} {σ : Hl} {f : Int → Ph → Ph} {i : Nat} (h : HallAt C S loc xs (mapI σ f i)) (e : f (i : Int) (σ.ph (i : Int)) = σ.ph (i : Int)) : HallAt C S loc xs (mapI σ f (i + 1)) := h.eqv (mapI_skip σ f i e)
theorem HallAt.at6 {C : Cs} {S : Sto} {loc : Pl} {xs : List Wish} {σ : Hl} {f : Int → Ph → Ph} {i : Nat} (h : HallAt C S loc xs (mapI σ f i)) (hi : i = 6) : HallAt C S loc xs (σ.mapPh f) := by
  subst hi
  exact h.eqv (mapI_6 σ f)
theorem HallAt.phI {C : Cs} {S : Sto} {loc : Pl} {xs : List Wish} {σ : Hl} {f : Int → Ph → Ph} {i : Nat} (h : HallAt C S loc xs (mapI σ f i)) (hi : i < 6) : S[loc (.ph (i : Int))]? = some (.ins C.CP (phFs loc (σ.ph (i : Int)))) := by
  have := h.ph (p := (i : Int)) (by omega) (by omega)
  rw [mapI_at] at this
  exact this
theorem ph_idx {i p : Nat} (h : (List.range 6)[i]? = some p) : p = i ∧ i < 6 := by
  have hi : i < 6 := by
    have := (List.getElem?_eq_some_iff.mp h).1
    rw [List.length_range] at this
    exact this
  rw [List.getElem?_range hi] at h
  exact ⟨(Option.some.inj h).symm, hi⟩
theorem Ph.vd.sil {n k : Nat} {q : Ph} (h : q.vd n) : (q.sil k).vd n := by
  unfold Ph.sil
  by_cases e : q.bell = some k
  · rw [if_pos e]
    exact ⟨h.1, h.2.1, fun j hj => nomatch hj⟩
  · rw [if_neg e]
    exact h
theorem sil_yes {k : Nat} {q : Ph} (e : q.bell = some k) : ({ q with bell := none } : Ph) = q.sil k := by
  unfold Ph.sil
  rw [if_pos e]
theorem sil_no {k : Nat} {q : Ph} (e : ¬ q.bell = some k) : q.sil k = q := by
  unfold Ph.sil
  rw [if_neg e]
theorem HallAt.phS {C : Cs} {S : Sto} {loc : Pl} {xs : List Wish} {σ : Hl} {p : Int} {q : Ph} (h : HallAt C S loc xs (σ.setPh p q)) (h0 : 0 ≤ p) (h5 : p ≤ 5) : S[loc (.ph p)]? = some (.ins C.CP (phFs loc q)) := by
  have := h.ph h0 h5
  rw [show (σ.setPh p q).ph p = q from if_pos rfl] at this
  exact this
theorem Ph.vd.ov1 {n k : Nat} {q : Ph} (h : q.vd n) : (q.ov1 k).vd n := by
  unfold Ph.ov1
  by_cases e : q.now = some k
  · rw [if_pos e]
    exact ⟨fun j hj => (nomatch hj), h.2.1, h.2.2⟩
  · rw [if_neg e]
    exact h
theorem Ph.vd.ov2 {n k : Nat} {q : Ph} (h : q.vd n) : (q.ov2 k).vd n := by
  unfold Ph.ov2
  by_cases e : q.kept = some k
  · rw [if_pos e]
    exact ⟨h.1, fun j hj => (nomatch hj), h.2.2⟩
  · rw [if_neg e]
    exact h
theorem erase_loc {f : Nat → Nat} {n : Nat} (hf : ∀ a b, a < n → b < n → f a = f b → a = b) {k : Nat} (hk : k < n) : ∀ {l : List Nat}, (∀ a ∈ l, a < n) → (l.map f).erase (f k) = (l.erase k).map f
  | [], _ => rfl
  | a :: l, h => by
    have ha := h a List.mem_cons_self
    rw [List.map_cons, List.erase_cons, List.erase_cons]
    by_cases e : a = k
    · subst e
      simp
    · have e2 : ¬ f a = f k := fun z => e (hf a k ha hk z)
      simp [e, e2, erase_loc hf hk fun b hb => h b (List.mem_cons_of_mem _ hb)]
theorem mem_loc {f : Nat → Nat} {n : Nat} (hf : ∀ a b, a < n → b < n → f a = f b → a = b) {k : Nat} (hk : k < n) {l : List Nat} (h : ∀ a ∈ l, a < n) : decide (f k ∈ l.map f) = decide (k ∈ l) := by
  rw [decide_eq_decide]
  constructor
  · intro m
    obtain ⟨a, ha, e⟩ := List.mem_map.mp m
    rw [← hf a k (h a ha) hk e]
    exact ha
  · intro m
    exact List.mem_map.mpr ⟨k, m, rfl⟩
theorem HallAt.injC {C : Cs} {S : Sto} {loc : Pl} {xs : List Wish} {σ : Hl} (h : HallAt C S loc xs σ) : ∀ a b, a < σ.n → b < σ.n → loc (.ca a) = loc (.ca b) → a = b := fun a b ha hb e => by
  cases h.inj (.ca a) (.ca b) ha hb e
  rfl
theorem HallAt.calls_ins {C : Cs} {S : Sto} {loc : Pl} {xs : List Wish} {σ : Hl} (h : HallAt C S loc xs σ) : ∀ j ∈ σ.op.map fun k => loc (.ca k), ∃ fs, S[j]? = some (.ins C.CC fs) := fun j hj => by
  obtain ⟨k, hk, rfl⟩ := List.mem_map.mp hj
  exact ⟨_, h.ca (h.vd.op k hk)⟩
theorem sInI_r {X : Cx} {Φ : W → Sto → Prop} {C : Cs} {S : Sto} {loc : Pl} {xs : List Wish} {σ : Hl} {k : Nat} (h : HallAt C S loc xs σ) (p : PlainEq X.K C.CC) (hk : k < σ.n) (q : Φ (.bl (decide (k ∈ σ.op))) S) : sInI X (.ref (loc (.ca k))) (.ref (loc .calls)) S Φ :=
  ⟨C.CC, loc (.ca k), σ.op.map (fun k => loc (.ca k)), p, rfl, ⟨_, h.ca hk⟩, items_of h.calls, (fun _ z => nomatch z), h.calls_ins, by rw [mem_loc h.injC hk h.vd.op]; exact q⟩
theorem sRemI_r {X : Cx} {Φ : W → Sto → Prop} {C : Cs} {S : Sto} {loc : Pl} {xs : List Wish} {σ : Hl} {k : Nat} (h : HallAt C S loc xs σ) (p : PlainEq X.K C.CC) (hk : k < σ.n) (hm : k ∈ σ.op) (q : Φ .non (S.set (loc .calls) (.lst (((σ.op.erase k).map fun k => loc (.ca k)).map W.ref)))) : sRemI X (.ref (loc .calls)) (.ref (loc (.ca k))) S Φ :=
  ⟨C.CC, _, _, _, p, rfl, rfl, h.calls, h.calls_ins, List.mem_map.mpr ⟨k, hm, rfl⟩, by rw [erase_loc h.injC hk h.vd.op]; exact q⟩
theorem setCa_self {σ : Hl} {k : Nat} {c : Ca} : (σ.setCa k c).ca k = c := if_pos rfl
theorem setCa_ne {σ : Hl} {j k : Nat} {c : Ca} (h : j ≠ k) : (σ.setCa k c).ca j = σ.ca j := if_neg h
theorem setPh_self {σ : Hl} {p : Int} {q : Ph} : (σ.setPh p q).ph p = q := if_pos rfl
theorem setPh_ne {σ : Hl} {r p : Int} {q : Ph} (h : r ≠ p) : (σ.setPh p q).ph r = σ.ph r := if_neg h
theorem silF_ca {σ : Hl} {k : Nat} : (silF σ k).ca k = (σ.ca k).noEars := if_pos rfl
theorem ints_snoc {l : List Int} {p : Int} : intsW l ++ [W.int p] = intsW (l ++ [p]) := by simp [intsW]
/-- the same call written twice -/
theorem setCa2 {σ : Hl} {k : Nat} {a b : Ca} : (σ.setCa k a).setCa k b = σ.setCa k b := by
  unfold Hl.setCa
  congr 1
  funext j
  by_cases e : j = k
  · simp [e]
  · simp [e]
theorem HallAt.putWy {C : Cs} {S : Sto} {loc : Pl} {xs : List Wish} {σ : Hl} (h : HallAt C S loc xs σ) {k : Nat} (hk : k < σ.n) (y : Wy) : HallAt C (_root_.AM.putWay C.CW S (loc (.way k)) (loc (.chain k)) (loc (.leads k)) (loc .book) (σ.ca k).c y) loc xs (σ.setCa k { σ.ca k with y := y }) := by
  have w := h.wy hk
  have w2 := w.put y
  refine ⟨fun c hc => ?_, h.inj, h.vd.setCa⟩
  have hc : okC σ.n c := hc
  by_cases e1 : c = .way k
  · subst e1
    show _ = some (O.ins _ (wayFs _ ((σ.setCa k { σ.ca k with y := y }).ca k).c _ _ ((σ.setCa k { σ.ca k with y := y }).ca k).y))
    rw [setCa_self]
    exact w2.ob
  by_cases e2 : c = .chain k
  · subst e2
    show _ = some (O.lst (intsW ((σ.setCa k { σ.ca k with y := y }).ca k).y.chain))
    rw [setCa_self]
    exact w2.chain
  by_cases e3 : c = .leads k
  · subst e3
    show _ = some (O.lst (((σ.setCa k { σ.ca k with y := y }).ca k).y.leads.map pairW))
    rw [setCa_self]
    exact w2.leads
  have n1 : loc (.way k) ≠ loc c := fun z => e1 (h.inj _ _ hc (by exact hk) z.symm)
  have n2 : loc (.chain k) ≠ loc c := fun z => e2 (h.inj _ _ hc (by exact hk) z.symm)
  have n3 : loc (.leads k) ≠ loc c := fun z => e3 (h.inj _ _ hc (by exact hk) z.symm)
  unfold _root_.AM.putWay
  rw [List.getElem?_set_ne n3, List.getElem?_set_ne n2, List.getElem?_set_ne n1, h.at_ c hc]
  congr 1
  cases c with
  | ca j =>
    show O.ins _ (caFs loc j (σ.ca j)) = O.ins _ (caFs loc j ((σ.setCa k { σ.ca k with y := y }).ca j))
    by_cases z : j = k
    · subst z; rw [setCa_self]; rfl
    · rw [setCa_ne z]
  | way j =>
    show O.ins _ (wayFs _ (σ.ca j).c _ _ (σ.ca j).y) = O.ins _ (wayFs _ ((σ.setCa k { σ.ca k with y := y }).ca j).c _ _ ((σ.setCa k { σ.ca k with y := y }).ca j).y)
    rw [setCa_ne (fun z => e1 (by rw [z]))]
  | chain j =>
    show O.lst (intsW (σ.ca j).y.chain) = O.lst (intsW ((σ.setCa k { σ.ca k with y := y }).ca j).y.chain)
    rw [setCa_ne (fun z => e2 (by rw [z]))]
  | leads j =>
    show O.lst ((σ.ca j).y.leads.map pairW) = O.lst (((σ.setCa k { σ.ca k with y := y }).ca j).y.leads.map pairW)
    rw [setCa_ne (fun z => e3 (by rw [z]))]
  | ppl j =>
    show O.lst (intsW (σ.ca j).ppl) = O.lst (intsW ((σ.setCa k { σ.ca k with y := y }).ca j).ppl)
    by_cases z : j = k
    · subst z; rw [setCa_self]
    · rw [setCa_ne z]
  | _ => rfl
theorem Fr.putWy {loc : Pl} {n : Nat} {S T : Sto} (h : Fr loc n S T) {k : Nat} (hk : k < n) {CW : Addr} {jb : Nat} {c : Int} {y : Wy} : Fr loc n S (putWay CW T (loc (.way k)) (loc (.chain k)) (loc (.leads k)) jb c y) := by
  unfold putWay
  exact ((h.set (c := .way k) hk).set (c := .chain k) hk).set (c := .leads k) hk
/-- a call's five objects are laid behind all others -/
def newLoc (loc : Pl) (n m : Nat) : Pl := fun c => match c with
  | .way k => if k = n then m else loc c
  | .chain k => if k = n then m + 1 else loc c
  | .leads k => if k = n then m + 2 else loc c
  | .ca k => if k = n then m + 3 else loc c
  | .ppl k => if k = n then m + 4 else loc c
  | _ => loc c
theorem newLoc_old {loc : Pl} {n m : Nat} {c : Cell} (h : okC n c) : newLoc loc n m c = loc c := by
  cases c with
  | way k => exact if_neg (Nat.ne_of_lt h)
  | chain k => exact if_neg (Nat.ne_of_lt h)
  | leads k => exact if_neg (Nat.ne_of_lt h)
  | ca k => exact if_neg (Nat.ne_of_lt h)
  | ppl k => exact if_neg (Nat.ne_of_lt h)
  | _ => rfl
theorem newLoc_new {loc : Pl} {n m : Nat} {c : Cell} (h : okC (n + 1) c) (h2 : ¬ okC n c) : (c = .way n ∧ newLoc loc n m c = m) ∨ (c = .chain n ∧ newLoc loc n m c = m + 1) ∨ (c = .leads n ∧ newLoc loc n m c = m + 2) ∨ (c = .ca n ∧ newLoc loc n m c = m + 3) ∨ (c = .ppl n ∧ newLoc loc n m c = m + 4) := by
  cases c with
  | way k =>
    have e : k = n := by have h : k < n + 1 := h; have h2 : ¬ k < n := h2; omega
    subst e
    exact .inl ⟨rfl, if_pos rfl⟩
  | chain k =>
    have e : k = n := by have h : k < n + 1 := h; have h2 : ¬ k < n := h2; omega
    subst e
    exact .inr (.inl ⟨rfl, if_pos rfl⟩)
  | leads k =>
    have e : k = n := by have h : k < n + 1 := h; have h2 : ¬ k < n := h2; omega
    subst e
    exact .inr (.inr (.inl ⟨rfl, if_pos rfl⟩))
  | ca k =>
    have e : k = n := by have h : k < n + 1 := h; have h2 : ¬ k < n := h2; omega
    subst e
    exact .inr (.inr (.inr (.inl ⟨rfl, if_pos rfl⟩)))
  | ppl k =>
    have e : k = n := by have h : k < n + 1 := h; have h2 : ¬ k < n := h2; omega
    subst e
    exact .inr (.inr (.inr (.inr ⟨rfl, if_pos rfl⟩)))
  | ph p => exact absurd h h2
  | hall => exact absurd trivial h2
  | calls => exact absurd trivial h2
  | book => exact absurd trivial h2
  | dict => exact absurd trivial h2
theorem HallAt.lt {C : Cs} {S : Sto} {loc : Pl} {xs : List Wish} {σ : Hl} (h : HallAt C S loc xs σ) {c : Cell} (hc : okC σ.n c) : loc c < S.length := (List.getElem?_eq_some_iff.mp (h.at_ c hc)).1
def moreO (C : Cs) (jb m : Nat) (p : Int) : Sto := [.ins C.CW (wayFs jb p (m + 1) (m + 2) Wy.new), .lst [], .lst [], .ins C.CC [("way", .ref m), ("people", .ref (m + 4)), ("age", .int 0), ("is_talk", .bl false)], .lst [.int p]]
def grown (σ : Hl) (p : Int) : Hl := { (σ.setCa σ.n (Ca.new p)) with n := σ.n + 1 }
theorem rf_new {loc : Pl} {n m : Nat} {o : Option Nat} (h : ∀ k, o = some k → k < n) : rfW (newLoc loc n m) o = rfW loc o := by
  cases o with
  | none => rfl
  | some k =>
    show W.ref (newLoc loc n m (.ca k)) = W.ref (loc (.ca k))
    rw [newLoc_old (c := .ca k) (h k rfl)]
theorem HallAt.grow {C : Cs} {S : Sto} {loc : Pl} {xs : List Wish} {σ : Hl} (h : HallAt C S loc xs σ) (p : Int) : HallAt C (S ++ moreO C (loc .book) S.length p) (newLoc loc σ.n S.length) xs (grown σ p) := by
  have old : ∀ c, okC σ.n c → objC C (newLoc loc σ.n S.length) xs (grown σ p) c = objC C loc xs σ c := by
    intro c hc
    have hne : ∀ k, k < σ.n → (grown σ p).ca k = σ.ca k := fun k hk => if_neg (Nat.ne_of_lt hk)
    cases c with
    | hall =>
      show O.ins _ [("book", .ref (loc .book)), ("phones", .lst ((List.range 6).map fun i : Nat => W.ref (loc (.ph (i : Int))))), ("calls", .ref (loc .calls))] = _
      rfl
    | calls =>
      show O.lst ((σ.op.map fun k => newLoc loc σ.n S.length (.ca k)).map W.ref) = O.lst ((σ.op.map fun k => loc (.ca k)).map W.ref)
      congr 2
      exact List.map_congr_left fun k hk => newLoc_old (c := .ca k) (h.vd.op k hk)
    | ph r =>
      have v := h.vd.ph r hc.1 hc.2
      show O.ins _ (phFs _ (σ.ph r)) = O.ins _ (phFs _ (σ.ph r))
      unfold phFs
      rw [rf_new v.1, rf_new v.2.1, rf_new v.2.2]
    | ca k =>
      have hk : k < σ.n := hc
      show O.ins _ (caFs _ k ((grown σ p).ca k)) = O.ins _ (caFs loc k (σ.ca k))
      rw [hne k hk]
      unfold caFs
      rw [newLoc_old (c := .way k) hk, newLoc_old (c := .ppl k) hk]
    | way k =>
      have hk : k < σ.n := hc
      show O.ins _ (wayFs _ ((grown σ p).ca k).c _ _ ((grown σ p).ca k).y) = O.ins _ (wayFs _ (σ.ca k).c _ _ (σ.ca k).y)
      rw [hne k hk, newLoc_old (c := .chain k) hk, newLoc_old (c := .leads k) hk]
      rfl
    | chain k =>
      show O.lst (intsW ((grown σ p).ca k).y.chain) = O.lst (intsW (σ.ca k).y.chain)
      rw [hne k hc]
    | leads k =>
      show O.lst (((grown σ p).ca k).y.leads.map pairW) = O.lst ((σ.ca k).y.leads.map pairW)
      rw [hne k hc]
    | ppl k =>
      show O.lst (intsW ((grown σ p).ca k).ppl) = O.lst (intsW (σ.ca k).ppl)
      rw [hne k hc]
    | book => rfl
    | dict => rfl
  have hs : (grown σ p).ca σ.n = Ca.new p := if_pos rfl
  refine ⟨fun c hc => ?_, fun c d hc hd e => ?_, ?_⟩
  · have hc : okC (σ.n + 1) c := hc
    by_cases ho : okC σ.n c
    · rw [newLoc_old ho, old c ho]
      exact get_app (h.at_ c ho)
    · rcases newLoc_new (loc := loc) (m := S.length) hc ho with ⟨rfl, e⟩ | ⟨rfl, e⟩ | ⟨rfl, e⟩ | ⟨rfl, e⟩ | ⟨rfl, e⟩
      · rw [e]
        show _ = some (O.ins _ (wayFs _ ((grown σ p).ca σ.n).c (newLoc loc σ.n S.length (.chain σ.n)) (newLoc loc σ.n S.length (.leads σ.n)) ((grown σ p).ca σ.n).y))
        rw [hs, show newLoc loc σ.n S.length (.chain σ.n) = S.length + 1 from if_pos rfl, show newLoc loc σ.n S.length (.leads σ.n) = S.length + 2 from if_pos rfl]
        exact nth_new0
      · rw [e]
        show _ = some (O.lst (intsW ((grown σ p).ca σ.n).y.chain))
        rw [hs]
        exact nth_new (i := 1)
      · rw [e]
        show _ = some (O.lst (((grown σ p).ca σ.n).y.leads.map pairW))
        rw [hs]
        exact nth_new (i := 2)
      · rw [e]
        show _ = some (O.ins _ (caFs _ σ.n ((grown σ p).ca σ.n)))
        rw [hs]
        unfold caFs
        rw [show newLoc loc σ.n S.length (.way σ.n) = S.length from if_pos rfl, show newLoc loc σ.n S.length (.ppl σ.n) = S.length + 4 from if_pos rfl]
        exact nth_new (i := 3)
      · rw [e]
        show _ = some (O.lst (intsW ((grown σ p).ca σ.n).ppl))
        rw [hs]
        exact nth_new (i := 4)
  · have hc : okC (σ.n + 1) c := hc
    have hd : okC (σ.n + 1) d := hd
    by_cases ho : okC σ.n c
    · by_cases hp : okC σ.n d
      · rw [newLoc_old ho, newLoc_old hp] at e
        exact h.inj c d ho hp e
      · have l := h.lt ho
        rw [newLoc_old ho] at e
        rcases newLoc_new (loc := loc) (m := S.length) hd hp with ⟨_, z⟩ | ⟨_, z⟩ | ⟨_, z⟩ | ⟨_, z⟩ | ⟨_, z⟩ <;> (rw [z] at e; omega)
    · by_cases hp : okC σ.n d
      · have l := h.lt hp
        rw [newLoc_old hp] at e
        rcases newLoc_new (loc := loc) (m := S.length) hc ho with ⟨_, z⟩ | ⟨_, z⟩ | ⟨_, z⟩ | ⟨_, z⟩ | ⟨_, z⟩ <;> (rw [z] at e; omega)
      · rcases newLoc_new (loc := loc) (m := S.length) hc ho with ⟨z1, z⟩ | ⟨z1, z⟩ | ⟨z1, z⟩ | ⟨z1, z⟩ | ⟨z1, z⟩ <;> rcases newLoc_new (loc := loc) (m := S.length) hd hp with ⟨y1, y⟩ | ⟨y1, y⟩ | ⟨y1, y⟩ | ⟨y1, y⟩ | ⟨y1, y⟩ <;> (rw [z, y] at e; first | omega | rw [z1, y1])
  · exact ⟨fun k hk => Nat.lt_succ_of_lt (h.vd.op k hk), fun r h0 h5 => by
      have v := h.vd.ph r h0 h5
      exact ⟨fun k e => Nat.lt_succ_of_lt (v.1 k e), fun k e => Nat.lt_succ_of_lt (v.2.1 k e), fun k e => Nat.lt_succ_of_lt (v.2.2 k e)⟩⟩
theorem at_phs {loc : Pl} {p : Int} (h0 : 0 ≤ p) (h5 : p ≤ 5) : atI ((List.range 6).map fun i : Nat => W.ref (loc (.ph (i : Int)))) p = some (.ref (loc (.ph p))) := by
  obtain ⟨n, rfl⟩ : ∃ n : Nat, p = n := ⟨p.toNat, by omega⟩
  have hn : n < 6 := by omega
  unfold atI ixN
  rw [if_pos h0, List.length_map, List.length_range, if_pos (by omega)]
  show ((List.range 6).map fun i : Nat => W.ref (loc (.ph (i : Int))))[((n : Int)).toNat]? = _
  rw [Int.toNat_natCast, List.getElem?_map, List.getElem?_range hn]
  rfl
theorem wS.imp {X : Cx} {Ψ : AX} {E : AEnv} {S : Sto} {st : Stmt} {A A' : AE} (h : wS X Ψ st E S A) (g1 : ∀ w S', A.nx w S' → A'.nx w S') (g2 : ∀ w S', A.rt w S' → A'.rt w S') (g3 : ∀ w S', A.bk w S' → A'.bk w S') (g4 : ∀ w S', A.ct w S' → A'.ct w S') : wS X Ψ st E S A' :=
  ⟨fun M σ H r ev x D q => h.run M σ H r ev x D ⟨fun σ E M2 S2 H2 p => q.nx σ E M2 S2 H2 (g1 _ _ p), fun v w M2 S2 H2 p => q.rt v w M2 S2 H2 (g2 _ _ p), fun σ E M2 S2 H2 p => q.bk σ E M2 S2 H2 (g3 _ _ p), fun σ E M2 S2 H2 p => q.ct σ E M2 S2 H2 (g4 _ _ p)⟩⟩
theorem wS.less {X : Cx} {Ψ : AX} {E : AEnv} {S S1 : Sto} {st : Stmt} {A : AE} (i : Imp S S1) (h : wS X Ψ st E S1 A) : wS X Ψ st E S A := ⟨fun M σ H r ev x D q => h.run M σ H (i _ _ r) ev x D q⟩
/-! ### fields put -/
theorem fpB0 {loc : Pl} {q : Ph} : putFW "bell" .non (phFs loc q) = phFs loc { q with bell := none } := by kernel_rfl
theorem fpN0 {loc : Pl} {q : Ph} : putFW "now" .non (phFs loc q) = phFs loc { q with now := none } := by kernel_rfl
theorem fpK0 {loc : Pl} {q : Ph} : putFW "kept" .non (phFs loc q) = phFs loc { q with kept := none } := by kernel_rfl
theorem fpN1 {loc : Pl} {q : Ph} {k : Nat} : putFW "now" (.ref (loc (.ca k))) (phFs loc q) = phFs loc { q with now := some k } := by kernel_rfl
theorem fpB1 {loc : Pl} {q : Ph} {k : Nat} : putFW "bell" (.ref (loc (.ca k))) (phFs loc q) = phFs loc { q with bell := some k } := by kernel_rfl
theorem ov_tt {q : Ph} {k : Nat} (h1 : q.now = some k) (h2 : q.kept = some k) : (⟨q.up, none, none, q.bell, "busy"⟩ : Ph) = (q.ov1 k).ov2 k := by
  unfold Ph.ov1
  rw [if_pos h1]
  unfold Ph.ov2
  rw [if_pos (show q.kept = some k from h2)]
theorem ov_tf {q : Ph} {k : Nat} (h1 : q.now = some k) (h2 : ¬ q.kept = some k) : (⟨q.up, none, q.kept, q.bell, "busy"⟩ : Ph) = (q.ov1 k).ov2 k := by
  unfold Ph.ov1
  rw [if_pos h1]
  unfold Ph.ov2
  rw [if_neg (show ¬ q.kept = some k from h2)]
theorem ov_ft {q : Ph} {k : Nat} (h1 : ¬ q.now = some k) (h2 : q.kept = some k) : (⟨q.up, q.now, none, q.bell, q.tone⟩ : Ph) = (q.ov1 k).ov2 k := by
  unfold Ph.ov1
  rw [if_neg h1]
  unfold Ph.ov2
  rw [if_pos h2]
theorem ov_ff {q : Ph} {k : Nat} (h1 : ¬ q.now = some k) (h2 : ¬ q.kept = some k) : (q.ov1 k).ov2 k = q := by
  unfold Ph.ov1
  rw [if_neg h1]
  unfold Ph.ov2
  rw [if_neg h2]
theorem fpB {loc : Pl} {q : Ph} {o : Option Nat} : putFW "bell" (rfW loc o) (phFs loc q) = phFs loc { q with bell := o } := by kernel_rfl
theorem fpN {loc : Pl} {q : Ph} {o : Option Nat} : putFW "now" (rfW loc o) (phFs loc q) = phFs loc { q with now := o } := by kernel_rfl
theorem fpK {loc : Pl} {q : Ph} {o : Option Nat} : putFW "kept" (rfW loc o) (phFs loc q) = phFs loc { q with kept := o } := by kernel_rfl
theorem fpU {loc : Pl} {q : Ph} {b : Bool} : putFW "is_up" (.bl b) (phFs loc q) = phFs loc { q with up := b } := by kernel_rfl
theorem fpT {loc : Pl} {q : Ph} {t : Str} : putFW "tone" (.str t) (phFs loc q) = phFs loc { q with tone := t } := by kernel_rfl
theorem fcA {loc : Pl} {k : Nat} {c : Ca} {a : Int} : putFW "age" (.int a) (caFs loc k c) = caFs loc k { c with age := a } := by kernel_rfl
theorem fcT {loc : Pl} {k : Nat} {c : Ca} {b : Bool} : putFW "is_talk" (.bl b) (caFs loc k c) = caFs loc k { c with talk := b } := by kernel_rfl
theorem fwE0 {jb : Nat} {c : Int} {ch ld : Nat} {y : Wy} : putFW "ears" (.tup []) (wayFs jb c ch ld y) = wayFs jb c ch ld y.noEars := by kernel_rfl
theorem fwE {jb : Nat} {c : Int} {ch ld : Nat} {y : Wy} {l : List Int} : putFW "ears" (.tup (intsW l)) (wayFs jb c ch ld y) = wayFs jb c ch ld { y with ears := l } := by kernel_rfl

-- HH2
theorem HallAt.app {C : Cs} {S T : Sto} {loc : Pl} {xs : List Wish} {σ : Hl} (h : HallAt C S loc xs σ) : HallAt C (S ++ T) loc xs σ := ⟨fun c hc => get_app (h.at_ c hc), h.inj, h.vd⟩
theorem Nx.app {loc loc' : Pl} {n n' : Nat} {S S' T : Sto} (h : Nx loc loc' n n' S S') : Nx loc loc' n n' S (S' ++ T) where
  len := by rw [List.length_append]; have := h.len; omega
  le := h.le
  same := h.same
  new := h.new
  off := fun i hi hc => by
    have := h.len
    rw [List.getElem?_append_left (by omega)]
    exact h.off i hi hc
theorem Fr.grow {C : Cs} {S S' : Sto} {loc : Pl} {n : Nat} {p : Int} {jb : Nat} (fr : Fr (newLoc loc n S.length) (n + 1) (S ++ moreO C jb S.length p) S') : Nx loc (newLoc loc n S.length) n (n + 1) S S' where
  len := by rw [fr.len, List.length_append]; omega
  le := Nat.le_succ n
  same := fun c hc => newLoc_old hc
  new := fun c hc hn => by
    rcases newLoc_new (loc := loc) (m := S.length) hc hn with ⟨_, z⟩ | ⟨_, z⟩ | ⟨_, z⟩ | ⟨_, z⟩ | ⟨_, z⟩ <;> (rw [z]; omega)
  off := fun i hi hc => by
    rw [fr.off i fun c h2 => ?_, List.getElem?_append_left hi]
    by_cases e : okC n c
    · rw [newLoc_old e]
      exact hc c e
    · rcases newLoc_new (loc := loc) (m := S.length) h2 e with ⟨_, z⟩ | ⟨_, z⟩ | ⟨_, z⟩ | ⟨_, z⟩ | ⟨_, z⟩ <;> (rw [z]; omega)

-- HH3
/-! ### a hall that is new -/
def iniLoc (m : Nat) : Pl := fun c => match c with
  | .hall => m
  | .book => m + 1
  | .dict => m + 2
  | .ph p => m + 3 + p.toNat
  | .calls => m + 9
  | _ => m
def iniO (C : Cs) (m : Nat) (xs : List Wish) : Sto :=
  [.ins C.CH [("book", .ref (m + 1)), ("phones", .lst ((List.range 6).map fun i : Nat => W.ref (m + 3 + i))), ("calls", .ref (m + 9))], .ins C.CB [("wanted", .ref (m + 2))], .dt (bookD xs)] ++
  (List.replicate 6 (.ins C.CP [("is_up", .bl false), ("now", .non), ("kept", .non), ("bell", .non), ("tone", .str "quiet")]) ++ [.lst []])
theorem HallAt.ini {C : Cs} {S : Sto} {xs : List Wish} : HallAt C (S ++ iniO C S.length xs) (iniLoc S.length) xs Hl.new := by
  have at' : ∀ i, (S ++ iniO C S.length xs)[S.length + i]? = (iniO C S.length xs)[i]? := fun i => by
    rw [List.getElem?_append_right (by omega)]
    congr 1
    omega
  refine ⟨fun c hc => ?_, fun c d hc hd e => ?_, ⟨fun k hk => (by cases hk), fun p _ _ => ⟨fun k z => (by cases z), fun k z => (by cases z), fun k z => (by cases z)⟩⟩⟩
  · cases c with
    | hall => exact (at' 0).trans rfl
    | book => exact (at' 1).trans rfl
    | dict => exact (at' 2).trans rfl
    | calls => exact (at' 9).trans rfl
    | ph p =>
      obtain ⟨h0, h5⟩ : 0 ≤ p ∧ p ≤ 5 := hc
      have h : p = 0 ∨ p = 1 ∨ p = 2 ∨ p = 3 ∨ p = 4 ∨ p = 5 := by omega
      rcases h with rfl | rfl | rfl | rfl | rfl | rfl
      · exact (at' 3).trans rfl
      · exact (at' 4).trans rfl
      · exact (at' 5).trans rfl
      · exact (at' 6).trans rfl
      · exact (at' 7).trans rfl
      · exact (at' 8).trans rfl
    | ca k => exact absurd hc (Nat.not_lt_zero k)
    | way k => exact absurd hc (Nat.not_lt_zero k)
    | chain k => exact absurd hc (Nat.not_lt_zero k)
    | leads k => exact absurd hc (Nat.not_lt_zero k)
    | ppl k => exact absurd hc (Nat.not_lt_zero k)
  · have nk : ∀ k : Nat, ¬ k < (Hl.new).n := fun k => Nat.not_lt_zero k
    cases c <;> cases d <;> first
      | rfl
      | exact absurd hc (nk _)
      | exact absurd hd (nk _)
      | (exfalso; simp only [iniLoc] at e; simp only [okC] at hc hd; omega)
      | (simp only [iniLoc] at e; simp only [okC] at hc hd; congr 1; omega)
theorem iniLoc_le {m : Nat} {c : Cell} : m ≤ iniLoc m c := by
  cases c <;> simp only [iniLoc] <;> omega

-- HI
/-! ### ways that go on -/
/-- how far a way may be when a call goes on -/
structure WyOk (y : Wy) : Prop where
  nd : y.chain.Nodup
  ph : ∀ p ∈ y.chain, 0 ≤ p ∧ p ≤ 5
  ld : y.leads.length ≤ y.chain.length
theorem WyOk.len {y : Wy} (h : WyOk y) : y.chain.length ≤ 6 := phones_len h.nd h.ph
theorem pair_nodup {l : List Int} (h : l.Pairwise (· < ·)) : l.Nodup := h.imp fun h => Int.ne_of_lt h
theorem ms_pairwise : ∀ {l : List Int}, (∀ (k : Nat) (a b : Int), l[k]? = some a → l[k + 1]? = some b → a < b) → l.Pairwise (· < ·)
  | [], _ => .nil
  | [a], _ => by simp
  | a :: b :: l, h => by
    have ih := ms_pairwise (l := b :: l) fun k x y h1 h2 => h (k + 1) x y (by simpa using h1) (by simpa using h2)
    have hab : a < b := h 0 a b rfl rfl
    refine List.pairwise_cons.mpr ⟨fun x hx => ?_, ih⟩
    rcases List.mem_cons.mp hx with rfl | hx
    · exact hab
    · exact Int.lt_trans hab ((List.pairwise_cons.mp ih).1 x hx)
theorem members_nodup {xs : List Wish} (ho : ∀ x ∈ xs, x.ok) {g : Int} : (membersF xs g).Nodup := by
  unfold membersF
  cases e : getB xs [.inr "group", .inl g] with
  | none => exact List.nodup_nil
  | some x =>
    cases x with
    | group g' ms =>
      have := ho _ (getB_key e).2
      exact pair_nodup (ms_pairwise this.2.2.2.2.2)
    | _ => exact List.nodup_nil
/-- who may ring, or be knocked at -/
def mayRing (st kn : List Bool) (e : Int) : Prop := 0 ≤ e ∧ e ≤ 5 ∧ (busyF st e = false ∨ kn.getD e.toNat default = true)
structure GoOk (st kn : List Bool) (y' : Wy) : Prop where
  wy : WyOk y'
  er : ∀ e ∈ y'.ears, mayRing st kn e
  nd : y'.ears.Nodup
  ld : y'.ears ≠ [] → y'.group = none → y'.leads.length < y'.chain.length
theorem next_ears {xs : List Wish} {c p : Int} {st kn : List Bool} {w : Str} {l : List Int} (h0 : 0 ≤ p) (h5 : p ≤ 5) (h : nextF xs c p st kn = .inr (w, l)) : (∀ e ∈ l, mayRing st kn e) ∧ l.Nodup := by
  unfold nextF at h
  split at h
  · cases h; exact ⟨fun e he => (by cases he), List.nodup_nil⟩
  · split at h
    · cases h
    · split at h
      · cases h; exact ⟨fun e he => (by cases he), List.nodup_nil⟩
      · split at h
        · rename_i hb
          cases h
          refine ⟨fun e he => ?_, by simp⟩
          rw [List.mem_singleton.mp he]
          simp only [Bool.and_eq_true, Bool.not_eq_true'] at hb
          exact ⟨h0, h5, .inl hb.2⟩
        · split at h
          · rename_i hb
            cases h
            refine ⟨fun e he => ?_, by simp⟩
            rw [List.mem_singleton.mp he]
            simp only [Bool.and_eq_true] at hb
            exact ⟨h0, h5, .inr hb.2.2⟩
          · split at h
            · cases h
            · cases h; exact ⟨fun e he => (by cases he), List.nodup_nil⟩
theorem snoc_ok {y : Wy} (hy : WyOk y) {n : Int} (h0 : 0 ≤ n) (h5 : n ≤ 5) (hn : n ∉ y.chain) : (y.chain ++ [n]).Nodup ∧ ∀ p ∈ y.chain ++ [n], 0 ≤ p ∧ p ≤ 5 := by
  refine ⟨List.nodup_append.mpr ⟨hy.nd, by simp, fun a ha b hb => ?_⟩, fun p hp => ?_⟩
  · rw [List.mem_singleton.mp hb]
    intro z
    exact hn (z ▸ ha)
  · rcases List.mem_append.mp hp with hp | hp
    · exact hy.ph p hp
    · rw [List.mem_singleton.mp hp]
      exact ⟨h0, h5⟩
theorem go_ok {xs : List Wish} (ho : ∀ x ∈ xs, x.ok) {c : Int} {st kn : List Bool} : ∀ (f : Nat) (y : Wy) (n : Int), WyOk y → y.ears = [] → y.group = none → 0 ≤ n → n ≤ 7 → GoOk st kn (goF xs c st kn f y n)
  | 0, y, n, hy, he, hg, _, _ => ⟨hy, fun e h => (by rw [goF, he] at h; cases h), by rw [goF, he]; exact List.nodup_nil, fun h => absurd he h⟩
  | f + 1, y, n, hy, he, hg, h0, h7 => by
    rw [goF]
    unfold stepF
    by_cases h6 : 6 ≤ n
    · rw [if_pos h6]
      refine ⟨⟨hy.nd, hy.ph, hy.ld⟩, fun e hm => ?_, ?_, fun _ h => nomatch h⟩
      · have hm : e ∈ ringsF xs c n st := hm
        unfold ringsF at hm
        obtain ⟨h1, h2⟩ := List.mem_filter.mp hm
        have := members_ok ho h1
        unfold ringsOk at h2
        simp only [Bool.and_eq_true, Bool.not_eq_true'] at h2
        exact ⟨this.1, this.2, .inl h2.2⟩
      · show (ringsF xs c n st).Nodup
        unfold ringsF
        exact (members_nodup ho).filter _
    · rw [if_neg h6]
      by_cases hn : n ∈ y.chain
      · rw [if_pos hn]
        exact ⟨⟨hy.nd, hy.ph, hy.ld⟩, fun e hm => (by cases hm), List.nodup_nil, fun h => absurd rfl h⟩
      · rw [if_neg hn]
        have h5 : n ≤ 5 := by omega
        obtain ⟨s1, s2⟩ := snoc_ok hy h0 h5 hn
        cases e : nextF xs c n st kn with
        | inl g =>
          have hq := next_ok ho e
          refine go_ok ho f _ g ⟨s1, s2, ?_⟩ he hg hq.1 hq.2
          show (y.leads ++ [(n, g)]).length ≤ (y.chain ++ [n]).length
          have := hy.ld
          simp only [List.length_append, List.length_singleton]
          omega
        | inr r =>
          obtain ⟨w, l⟩ := r
          obtain ⟨q1, q2⟩ := next_ears h0 h5 e
          refine ⟨⟨s1, s2, ?_⟩, q1, q2, fun _ _ => ?_⟩
          · show y.leads.length ≤ (y.chain ++ [n]).length
            have := hy.ld
            simp only [List.length_append, List.length_singleton]
            omega
          · show y.leads.length < (y.chain ++ [n]).length
            have := hy.ld
            simp only [List.length_append, List.length_singleton]
            omega
theorem st_at {σ : Hl} {e : Int} (h0 : 0 ≤ e) (h5 : e ≤ 5) : busyF (stF σ) e = busyP (σ.ph e) := by
  have h : e = 0 ∨ e = 1 ∨ e = 2 ∨ e = 3 ∨ e = 4 ∨ e = 5 := by omega
  rcases h with rfl | rfl | rfl | rfl | rfl | rfl <;> rfl
theorem kn_at {σ : Hl} {e : Int} (h0 : 0 ≤ e) (h5 : e ≤ 5) : (knF σ).getD e.toNat default = mayF σ e := by
  have h : e = 0 ∨ e = 1 ∨ e = 2 ∨ e = 3 ∨ e = 4 ∨ e = 5 := by omega
  rcases h with rfl | rfl | rfl | rfl | rfl | rfl <;> rfl
theorem ring_free {σ : Hl} {e : Int} (h : mayRing (stF σ) (knF σ) e) : (σ.ph e).bell = none := by
  obtain ⟨h0, h5, h⟩ := h
  rcases h with h | h
  · rw [st_at h0 h5] at h
    unfold busyP at h
    simp only [Bool.or_eq_false_iff] at h
    cases z : (σ.ph e).bell with
    | none => rfl
    | some k => rw [z] at h; cases h.2
  · rw [kn_at h0 h5] at h
    unfold mayF at h
    simp only [Bool.and_eq_true] at h
    cases z : (σ.ph e).bell with
    | none => rfl
    | some k => rw [z] at h; cases h.2
/-! ### what holds of a hall -/
structure CaOk (E : Int → Nat → Prop) (L : Nat → Prop) (σ : Hl) (k : Nat) : Prop where
  ppn : (σ.ca k).ppl.Nodup
  pph : ∀ p ∈ (σ.ca k).ppl, 0 ≤ p ∧ p ≤ 5 ∧ ((σ.ph p).now = some k ∨ (σ.ph p).kept = some k ∨ E p k)
  ern : (σ.ca k).y.ears.Nodup
  erh : ∀ p ∈ (σ.ca k).y.ears, 0 ≤ p ∧ p ≤ 5 ∧ (σ.ph p).bell = some k
  tk : (σ.ca k).talk = true → (σ.ca k).y.ears = [] ∧ 2 ≤ (σ.ca k).ppl.length
  nt : (σ.ca k).talk = false → (σ.ca k).ppl = [(σ.ca k).c] ∧ ((σ.ph (σ.ca k).c).now = some k ∨ E (σ.ca k).c k) ∧ WyOk (σ.ca k).y ∧ ((σ.ca k).y.group = none → (σ.ca k).y.leads.length < (σ.ca k).y.chain.length ∨ L k) ∧ ((σ.ca k).y.ears = [] → L k)
structure InvG (E : Int → Nat → Prop) (L : Nat → Prop) (σ : Hl) : Prop where
  opn : σ.op.Nodup
  opl : ∀ k ∈ σ.op, k < σ.n
  now : ∀ p k, 0 ≤ p → p ≤ 5 → (σ.ph p).now = some k → k ∈ σ.op ∧ p ∈ (σ.ca k).ppl
  kept : ∀ p k, 0 ≤ p → p ≤ 5 → (σ.ph p).kept = some k → k ∈ σ.op ∧ p ∈ (σ.ca k).ppl ∧ (σ.ca k).talk = true
  bell : ∀ p k, 0 ≤ p → p ≤ 5 → (σ.ph p).bell = some k → k ∈ σ.op ∧ p ∈ (σ.ca k).y.ears
  nk : ∀ p k, 0 ≤ p → p ≤ 5 → (σ.ph p).now = some k → (σ.ph p).kept ≠ some k
  dn : ∀ p, 0 ≤ p → p ≤ 5 → (σ.ph p).up = false → (σ.ph p).now = none ∧ (σ.ph p).kept = none
  ca : ∀ k ∈ σ.op, CaOk E L σ k
abbrev noE : Int → Nat → Prop := fun _ _ => False
abbrev noL : Nat → Prop := fun _ => False
abbrev Inv (σ : Hl) : Prop := InvG noE noL σ
theorem inv_new : Inv Hl.new where
  opn := List.nodup_nil
  opl := fun k h => (by cases h)
  now := fun p k _ _ h => (by cases h)
  kept := fun p k _ _ h => (by cases h)
  bell := fun p k _ _ h => (by cases h)
  nk := fun p k _ _ h => (by cases h)
  dn := fun p _ _ _ => ⟨rfl, rfl⟩
  ca := fun k h => (by cases h)
theorem sil_now {q : Ph} {k : Nat} : (q.sil k).now = q.now := by unfold Ph.sil; split <;> rfl
theorem sil_kept {q : Ph} {k : Nat} : (q.sil k).kept = q.kept := by unfold Ph.sil; split <;> rfl
theorem sil_up {q : Ph} {k : Nat} : (q.sil k).up = q.up := by unfold Ph.sil; split <;> rfl
theorem sil_bell {q : Ph} {k j : Nat} : (q.sil k).bell = some j ↔ q.bell = some j ∧ j ≠ k := by
  unfold Ph.sil
  split
  · rename_i h
    constructor
    · intro z; cases z
    · rintro ⟨z, ne⟩
      rw [h] at z
      cases z
      exact absurd rfl ne
  · rename_i h
    constructor
    · intro z
      exact ⟨z, fun e => h (by rw [z, e])⟩
    · exact fun z => z.1
theorem ov_now {q : Ph} {k j : Nat} : ((q.ov1 k).ov2 k).now = some j ↔ q.now = some j ∧ j ≠ k := by
  have e2 : ((q.ov1 k).ov2 k).now = (q.ov1 k).now := by unfold Ph.ov2; split <;> rfl
  rw [e2]
  unfold Ph.ov1
  split
  · rename_i h
    constructor
    · intro z; cases z
    · rintro ⟨z, ne⟩
      rw [h] at z
      cases z
      exact absurd rfl ne
  · rename_i h
    constructor
    · intro z
      exact ⟨z, fun e => h (by rw [z, e])⟩
    · exact fun z => z.1
theorem ov_kept {q : Ph} {k j : Nat} : ((q.ov1 k).ov2 k).kept = some j ↔ q.kept = some j ∧ j ≠ k := by
  have e1 : (q.ov1 k).kept = q.kept := by unfold Ph.ov1; split <;> rfl
  unfold Ph.ov2
  rw [e1]
  split
  · rename_i h
    constructor
    · intro z; cases z
    · rintro ⟨z, ne⟩
      rw [h] at z
      cases z
      exact absurd rfl ne
  · rename_i h
    rw [e1]
    constructor
    · intro z
      exact ⟨z, fun e => h (by rw [z, e])⟩
    · exact fun z => z.1
theorem ov_bell {q : Ph} {k : Nat} : ((q.ov1 k).ov2 k).bell = q.bell := by
  unfold Ph.ov2 Ph.ov1
  split <;> split <;> rfl
theorem ov_up {q : Ph} {k : Nat} : ((q.ov1 k).ov2 k).up = q.up := by
  unfold Ph.ov2 Ph.ov1
  split <;> split <;> rfl
theorem overF_ph {σ : Hl} {k : Nat} {p : Int} : (overF σ k).ph p = (((σ.ph p).sil k).ov1 k).ov2 k := rfl
theorem overF_ca {σ : Hl} {k j : Nat} (h : j ≠ k) : (overF σ k).ca j = σ.ca j := if_neg h
/-- all but what concerns a call that is to be over -/
structure InvX (E : Int → Nat → Prop) (L : Nat → Prop) (σ : Hl) (k : Nat) : Prop where
  opn : σ.op.Nodup
  opl : ∀ j ∈ σ.op, j < σ.n
  now : ∀ p j, 0 ≤ p → p ≤ 5 → j ≠ k → (σ.ph p).now = some j → j ∈ σ.op ∧ p ∈ (σ.ca j).ppl
  kept : ∀ p j, 0 ≤ p → p ≤ 5 → j ≠ k → (σ.ph p).kept = some j → j ∈ σ.op ∧ p ∈ (σ.ca j).ppl ∧ (σ.ca j).talk = true
  bell : ∀ p j, 0 ≤ p → p ≤ 5 → j ≠ k → (σ.ph p).bell = some j → j ∈ σ.op ∧ p ∈ (σ.ca j).y.ears
  nk : ∀ p j, 0 ≤ p → p ≤ 5 → j ≠ k → (σ.ph p).now = some j → (σ.ph p).kept ≠ some j
  dn : ∀ p, 0 ≤ p → p ≤ 5 → (σ.ph p).up = false → (σ.ph p).now = none ∧ (σ.ph p).kept = none
  ca : ∀ j ∈ σ.op, j ≠ k → CaOk E L σ j
theorem InvG.x {E : Int → Nat → Prop} {L : Nat → Prop} {σ : Hl} (h : InvG E L σ) (k : Nat) : InvX E L σ k :=
  ⟨h.opn, h.opl, fun p j a b _ => h.now p j a b, fun p j a b _ => h.kept p j a b, fun p j a b _ => h.bell p j a b, fun p j a b _ => h.nk p j a b, h.dn, fun j hj _ => h.ca j hj⟩
theorem over_inv {E E' : Int → Nat → Prop} {L L' : Nat → Prop} {σ : Hl} {k : Nat} (h : InvX E L σ k) (hE : ∀ p j, j ≠ k → E p j → E' p j) (hL : ∀ j, j ≠ k → L j → L' j) : InvG E' L' (overF σ k) where
  opn := h.opn.erase k
  opl := fun j hj => h.opl j (List.mem_of_mem_erase hj)
  now := fun p j h0 h5 e => by
    rw [overF_ph, ov_now, sil_now] at e
    obtain ⟨e1, ne⟩ := e
    obtain ⟨q1, q2⟩ := h.now p j h0 h5 ne e1
    exact ⟨(List.mem_erase_of_ne ne).mpr q1, by rw [overF_ca ne]; exact q2⟩
  kept := fun p j h0 h5 e => by
    rw [overF_ph, ov_kept, sil_kept] at e
    obtain ⟨e1, ne⟩ := e
    obtain ⟨q1, q2, q3⟩ := h.kept p j h0 h5 ne e1
    exact ⟨(List.mem_erase_of_ne ne).mpr q1, by rw [overF_ca ne]; exact q2, by rw [overF_ca ne]; exact q3⟩
  bell := fun p j h0 h5 e => by
    rw [overF_ph, ov_bell, sil_bell] at e
    obtain ⟨e1, ne⟩ := e
    obtain ⟨q1, q2⟩ := h.bell p j h0 h5 ne e1
    exact ⟨(List.mem_erase_of_ne ne).mpr q1, by rw [overF_ca ne]; exact q2⟩
  nk := fun p j h0 h5 e e2 => by
    rw [overF_ph, ov_now, sil_now] at e
    rw [overF_ph, ov_kept, sil_kept] at e2
    exact h.nk p j h0 h5 e.2 e.1 e2.1
  dn := fun p h0 h5 e => by
    rw [overF_ph, ov_up, sil_up] at e
    obtain ⟨q1, q2⟩ := h.dn p h0 h5 e
    constructor
    · cases z : ((overF σ k).ph p).now with
      | none => rfl
      | some j =>
        rw [overF_ph, ov_now, sil_now, q1] at z
        cases z.1
    · cases z : ((overF σ k).ph p).kept with
      | none => rfl
      | some j =>
        rw [overF_ph, ov_kept, sil_kept, q2] at z
        cases z.1
  ca := fun j hj => by
    have ne : j ≠ k := fun z => by
      subst z
      exact absurd hj (List.Nodup.not_mem_erase h.opn)
    have c := h.ca j (List.mem_of_mem_erase hj) ne
    have e : (overF σ k).ca j = σ.ca j := overF_ca ne
    refine ⟨by rw [e]; exact c.ppn, fun p hp => ?_, by rw [e]; exact c.ern, fun p hp => ?_, by rw [e]; exact c.tk, fun ht => ?_⟩
    · rw [e] at hp
      obtain ⟨q0, q5, q⟩ := c.pph p hp
      refine ⟨q0, q5, ?_⟩
      rcases q with q | q | q
      · exact .inl (by rw [overF_ph, ov_now, sil_now]; exact ⟨q, ne⟩)
      · exact .inr (.inl (by rw [overF_ph, ov_kept, sil_kept]; exact ⟨q, ne⟩))
      · exact .inr (.inr (hE p j ne q))
    · rw [e] at hp
      obtain ⟨q0, q5, q⟩ := c.erh p hp
      exact ⟨q0, q5, by rw [overF_ph, ov_bell, sil_bell]; exact ⟨q, ne⟩⟩
    · rw [e] at ht ⊢
      obtain ⟨q1, q2, q3, q4, q6⟩ := c.nt ht
      refine ⟨q1, ?_, q3, fun hg => (q4 hg).imp id (hL j ne), fun he => hL j ne (q6 he)⟩
      rcases q2 with q | q
      · exact .inl (by rw [overF_ph, ov_now, sil_now]; exact ⟨q, ne⟩)
      · exact .inr (hE _ j ne q)
theorem leave_inv {E E' : Int → Nat → Prop} {L : Nat → Prop} {σ : Hl} {k : Nat} {p : Int} (h : InvG E L σ) (hE1 : ∀ r j, E r j → r = p) (hE : ∀ r j, j ≠ k → E r j → E' r j) (hk : k ∈ σ.op) (hp : p ∈ (σ.ca k).ppl) (hn : (σ.ph p).now ≠ some k) (hkp : (σ.ph p).kept ≠ some k) : InvG E' L (leaveF σ (some k) p) := by
  have key : ∀ j, j ≠ k → (σ.setCa k { σ.ca k with ppl := (σ.ca k).ppl.erase p }).ca j = σ.ca j := fun j ne => if_neg ne
  have kk : (σ.setCa k { σ.ca k with ppl := (σ.ca k).ppl.erase p }).ca k = { σ.ca k with ppl := (σ.ca k).ppl.erase p } := if_pos rfl
  have cs : ∀ j ∈ σ.op, j ≠ k → CaOk E L (σ.setCa k { σ.ca k with ppl := (σ.ca k).ppl.erase p }) j := by
    intro j hj ne
    have c := h.ca j hj
    exact ⟨by rw [key j ne]; exact c.ppn, by rw [key j ne]; exact c.pph, by rw [key j ne]; exact c.ern, by rw [key j ne]; exact c.erh, by rw [key j ne]; exact c.tk, by rw [key j ne]; exact c.nt⟩
  have X : InvX E L (σ.setCa k { σ.ca k with ppl := (σ.ca k).ppl.erase p }) k :=
    ⟨h.opn, h.opl, fun q j h0 h5 ne e => by rw [key j ne]; exact h.now q j h0 h5 e, fun q j h0 h5 ne e => by rw [key j ne]; exact h.kept q j h0 h5 e, fun q j h0 h5 ne e => by rw [key j ne]; exact h.bell q j h0 h5 e, fun q j h0 h5 _ => h.nk q j h0 h5, h.dn, cs⟩
  by_cases hl : ((σ.ca k).ppl.erase p).length < 2
  · have e : leaveF σ (some k) p = overF (σ.setCa k { σ.ca k with ppl := (σ.ca k).ppl.erase p }) k := if_pos hl
    rw [e]
    exact over_inv X hE fun _ _ z => z
  · have e : leaveF σ (some k) p = σ.setCa k { σ.ca k with ppl := (σ.ca k).ppl.erase p } := if_neg hl
    rw [e]
    have ck := h.ca k hk
    refine ⟨h.opn, h.opl, fun q j h0 h5 e => ?_, fun q j h0 h5 e => ?_, fun q j h0 h5 e => ?_, h.nk, h.dn, fun j hj => ?_⟩
    · by_cases ne : j = k
      · subst ne
        obtain ⟨q1, q2⟩ := h.now q j h0 h5 e
        rw [kk]
        exact ⟨q1, (List.mem_erase_of_ne (fun z => hn (by rw [← z]; exact e))).mpr q2⟩
      · rw [key j ne]
        exact h.now q j h0 h5 e
    · by_cases ne : j = k
      · subst ne
        obtain ⟨q1, q2, q3⟩ := h.kept q j h0 h5 e
        rw [kk]
        exact ⟨q1, (List.mem_erase_of_ne (fun z => hkp (by rw [← z]; exact e))).mpr q2, q3⟩
      · rw [key j ne]
        exact h.kept q j h0 h5 e
    · by_cases ne : j = k
      · subst ne
        rw [kk]
        exact h.bell q j h0 h5 e
      · rw [key j ne]
        exact h.bell q j h0 h5 e
    · by_cases ne : j = k
      · subst ne
        refine ⟨by rw [kk]; exact ck.ppn.erase p, fun r hr => ?_, by rw [kk]; exact ck.ern, by rw [kk]; exact ck.erh, fun ht => ?_, fun ht => ?_⟩
        · rw [kk] at hr
          obtain ⟨q0, q5, q⟩ := ck.pph r (List.mem_of_mem_erase hr)
          refine ⟨q0, q5, ?_⟩
          rcases q with q | q | q
          · exact .inl q
          · exact .inr (.inl q)
          · have := hE1 r j q
            subst this
            exact absurd hr (List.Nodup.not_mem_erase ck.ppn)
        · rw [kk] at ht ⊢
          exact ⟨(ck.tk ht).1, by show 2 ≤ ((σ.ca j).ppl.erase p).length; omega⟩
        · rw [kk] at ht
          have q1 := (ck.nt ht).1
          rw [q1] at hl hp
          rw [List.mem_singleton.mp hp] at hl
          simp at hl
      · have c := cs j hj ne
        refine ⟨c.ppn, fun r hr => ?_, c.ern, c.erh, c.tk, fun ht => ?_⟩
        · obtain ⟨q0, q5, q⟩ := c.pph r hr
          exact ⟨q0, q5, q.imp id fun q => q.imp id (hE r j ne)⟩
        · obtain ⟨q1, q2, q3⟩ := c.nt ht
          exact ⟨q1, q2.imp id (hE _ j ne), q3⟩
/-- a phone is written whose calls stay -/
theorem ph_inv {E E' : Int → Nat → Prop} {L : Nat → Prop} {σ : Hl} {p : Int} {q : Ph} (h : InvG E L σ) (hE : ∀ r j, E r j → E' r j) (hb : q.bell = (σ.ph p).bell)
    (hn : ∀ k, q.now = some k → k ∈ σ.op ∧ p ∈ (σ.ca k).ppl) (hk : ∀ k, q.kept = some k → k ∈ σ.op ∧ p ∈ (σ.ca k).ppl ∧ (σ.ca k).talk = true) (hnk : ∀ k, q.now = some k → q.kept ≠ some k) (hd : q.up = false → q.now = none ∧ q.kept = none)
    (ho : ∀ k, (σ.ph p).now = some k ∨ (σ.ph p).kept = some k → q.now = some k ∨ q.kept = some k ∨ E' p k) (hc : ∀ k, (σ.ph p).now = some k → (σ.ca k).talk = false → q.now = some k ∨ E' p k) : InvG E' L (σ.setPh p q) := by
  have pe : (σ.setPh p q).ph p = q := if_pos rfl
  have pn : ∀ r, r ≠ p → (σ.setPh p q).ph r = σ.ph r := fun r ne => if_neg ne
  refine ⟨h.opn, h.opl, fun r k h0 h5 e => ?_, fun r k h0 h5 e => ?_, fun r k h0 h5 e => ?_, fun r k h0 h5 e => ?_, fun r h0 h5 e => ?_, fun k hk' => ?_⟩
  · by_cases ne : r = p
    · subst ne; rw [pe] at e; exact hn k e
    · rw [pn r ne] at e; exact h.now r k h0 h5 e
  · by_cases ne : r = p
    · subst ne; rw [pe] at e; exact hk k e
    · rw [pn r ne] at e; exact h.kept r k h0 h5 e
  · by_cases ne : r = p
    · subst ne; rw [pe, hb] at e; exact h.bell r k h0 h5 e
    · rw [pn r ne] at e; exact h.bell r k h0 h5 e
  · by_cases ne : r = p
    · subst ne; rw [pe] at e ⊢; exact hnk k e
    · rw [pn r ne] at e ⊢; exact h.nk r k h0 h5 e
  · by_cases ne : r = p
    · subst ne; rw [pe] at e ⊢; exact hd e
    · rw [pn r ne] at e ⊢; exact h.dn r h0 h5 e
  · have c := h.ca k hk'
    refine ⟨c.ppn, fun r hr => ?_, c.ern, fun r hr => ?_, c.tk, fun ht => ?_⟩
    · obtain ⟨q0, q5, z⟩ := c.pph r hr
      refine ⟨q0, q5, ?_⟩
      by_cases ne : r = p
      · subst ne
        rw [pe]
        rcases z with z | z | z
        · exact ho k (.inl z)
        · exact ho k (.inr z)
        · exact .inr (.inr (hE _ _ z))
      · rw [pn r ne]
        exact z.imp id fun z => z.imp id (hE _ _)
    · obtain ⟨q0, q5, z⟩ := c.erh r hr
      refine ⟨q0, q5, ?_⟩
      by_cases ne : r = p
      · subst ne; rw [pe, hb]; exact z
      · rw [pn r ne]; exact z
    · have ht : (σ.ca k).talk = false := ht
      obtain ⟨z1, z2, z3⟩ := c.nt ht
      refine ⟨z1, ?_, z3⟩
      show ((σ.setPh p q).ph (σ.ca k).c).now = some k ∨ E' (σ.ca k).c k
      by_cases ne : (σ.ca k).c = p
      · rw [ne, pe]
        rw [ne] at z2
        rcases z2 with z | z
        · exact hc k z ht
        · exact .inr (hE _ _ z)
      · rw [pn _ ne]
        exact z2.imp id (hE _ _)
theorem drop_inv {σ : Hl} {p : Int} (h : Inv σ) (h0 : 0 ≤ p) (h5 : p ≤ 5) : Inv (dropF σ p) := by
  have h1 : InvG (fun r j => r = p ∧ ((σ.ph p).now = some j ∨ (σ.ph p).kept = some j)) noL (σ.setPh p { σ.ph p with up := false, now := none, kept := none, tone := "quiet" }) :=
    ph_inv h (fun _ _ z => z.elim) rfl (fun k z => (by cases z)) (fun k z => (by cases z)) (fun k z => (by cases z)) (fun _ => ⟨rfl, rfl⟩) (fun k z => .inr (.inr ⟨rfl, z⟩)) (fun k z _ => .inr ⟨rfl, .inl z⟩)
  have pe : (σ.setPh p { σ.ph p with up := false, now := none, kept := none, tone := "quiet" }).ph p = { σ.ph p with up := false, now := none, kept := none, tone := "quiet" } := if_pos rfl
  unfold dropF
  have h2 : InvG (fun r j => r = p ∧ (σ.ph p).kept = some j) noL (leaveF (σ.setPh p { σ.ph p with up := false, now := none, kept := none, tone := "quiet" }) (σ.ph p).now p) := by
    cases e : (σ.ph p).now with
    | none =>
      refine ⟨h1.opn, h1.opl, h1.now, h1.kept, h1.bell, h1.nk, h1.dn, fun k hk => ?_⟩
      have c := h1.ca k hk
      refine ⟨c.ppn, fun r hr => ?_, c.ern, c.erh, c.tk, fun ht => ?_⟩
      · obtain ⟨q0, q5, z⟩ := c.pph r hr
        refine ⟨q0, q5, z.imp id fun z => z.imp id fun z => ⟨z.1, z.2.elim (fun y => by rw [e] at y; cases y) id⟩⟩
      · obtain ⟨z1, z2, z3⟩ := c.nt ht
        exact ⟨z1, z2.imp id fun z => ⟨z.1, z.2.elim (fun y => by rw [e] at y; cases y) id⟩, z3⟩
    | some k =>
      obtain ⟨q1, q2⟩ := h.now p k h0 h5 e
      refine leave_inv h1 (fun r j z => z.1) (fun r j ne z => ⟨z.1, z.2.elim (fun y => by rw [e] at y; cases y; exact absurd rfl ne) id⟩) q1 q2 ?_ ?_
      · rw [pe]; exact fun z => nomatch z
      · rw [pe]; exact fun z => nomatch z
  cases e : (σ.ph p).kept with
  | none =>
    refine ⟨h2.opn, h2.opl, h2.now, h2.kept, h2.bell, h2.nk, h2.dn, fun k hk => ?_⟩
    have c := h2.ca k hk
    refine ⟨c.ppn, fun r hr => ?_, c.ern, c.erh, c.tk, fun ht => ?_⟩
    · obtain ⟨q0, q5, z⟩ := c.pph r hr
      exact ⟨q0, q5, z.imp id fun z => z.imp id fun z => by rw [e] at z; cases z.2⟩
    · obtain ⟨z1, z2, z3⟩ := c.nt ht
      exact ⟨z1, z2.imp id (fun z => by rw [e] at z; cases z.2), z3⟩
  | some k =>
    obtain ⟨q1, q2, q3⟩ := h.kept p k h0 h5 e
    have nn : ¬ (σ.ph p).now = some k := fun z => h.nk p k h0 h5 z e
    have lop : k ∈ (leaveF (σ.setPh p { σ.ph p with up := false, now := none, kept := none, tone := "quiet" }) (σ.ph p).now p).op ∧ ((leaveF (σ.setPh p { σ.ph p with up := false, now := none, kept := none, tone := "quiet" }) (σ.ph p).now p).ca k).ppl = (σ.ca k).ppl ∧ ((leaveF (σ.setPh p { σ.ph p with up := false, now := none, kept := none, tone := "quiet" }) (σ.ph p).now p).ph p).now = none ∧ ((leaveF (σ.setPh p { σ.ph p with up := false, now := none, kept := none, tone := "quiet" }) (σ.ph p).now p).ph p).kept = none := by
      cases e2 : (σ.ph p).now with
      | none => exact ⟨q1, rfl, by show ((σ.setPh p _).ph p).now = none; rw [pe], by show ((σ.setPh p _).ph p).kept = none; rw [pe]⟩
      | some j =>
        have ne : k ≠ j := fun z => nn (by rw [e2, z])
        unfold leaveF
        dsimp only
        split
        · refine ⟨(List.mem_erase_of_ne ne).mpr q1, ?_, ?_, ?_⟩
          · rw [overF_ca ne]
            show (if k = j then _ else σ.ca k).ppl = _
            rw [if_neg ne]
          · cases z : ((overF ((σ.setPh p { σ.ph p with up := false, now := none, kept := none, tone := "quiet" }).setCa j { (σ.setPh p { σ.ph p with up := false, now := none, kept := none, tone := "quiet" }).ca j with ppl := ((σ.setPh p { σ.ph p with up := false, now := none, kept := none, tone := "quiet" }).ca j).ppl.erase p }) j).ph p).now with
            | none => rfl
            | some i =>
              rw [overF_ph, ov_now, sil_now] at z
              have z1 : ((σ.setPh p { σ.ph p with up := false, now := none, kept := none, tone := "quiet" }).ph p).now = some i := z.1
              rw [pe] at z1
              cases z1
          · cases z : ((overF ((σ.setPh p { σ.ph p with up := false, now := none, kept := none, tone := "quiet" }).setCa j { (σ.setPh p { σ.ph p with up := false, now := none, kept := none, tone := "quiet" }).ca j with ppl := ((σ.setPh p { σ.ph p with up := false, now := none, kept := none, tone := "quiet" }).ca j).ppl.erase p }) j).ph p).kept with
            | none => rfl
            | some i =>
              rw [overF_ph, ov_kept, sil_kept] at z
              have z1 : ((σ.setPh p { σ.ph p with up := false, now := none, kept := none, tone := "quiet" }).ph p).kept = some i := z.1
              rw [pe] at z1
              cases z1
        · refine ⟨q1, ?_, ?_, ?_⟩
          · show (if k = j then _ else σ.ca k).ppl = _
            rw [if_neg ne]
          · show ((σ.setPh p _).ph p).now = none
            rw [pe]
          · show ((σ.setPh p _).ph p).kept = none
            rw [pe]
    refine leave_inv h2 (fun r j z => z.1) (fun r j ne z => ne (by have := z.2; rw [e] at this; exact (Option.some.inj this).symm)) lop.1 (by rw [lop.2.1]; exact q2) ?_ ?_
    · rw [lop.2.2.1]; exact fun z => nomatch z
    · rw [lop.2.2.2]; exact fun z => nomatch z
theorem hold_inv {σ : Hl} {p : Int} (h : Inv σ) (h0 : 0 ≤ p) (h5 : p ≤ 5) (hu : (σ.ph p).up = true) (ht : inTalk σ p = true) (hk : (σ.ph p).kept = none) : Inv (holdF σ p) := by
  have tk : ∀ k, (σ.ph p).now = some k → (σ.ca k).talk = true := fun k e => by
    unfold inTalk at ht
    rw [e] at ht
    exact ht
  refine ph_inv h (fun _ _ z => z) rfl (fun k z => (by cases z)) (fun k z => ?_) (fun k z => (by cases z)) (fun z => ?_) (fun k z => ?_) (fun k z y => ?_)
  · have z : (σ.ph p).now = some k := z
    exact ⟨(h.now p k h0 h5 z).1, (h.now p k h0 h5 z).2, tk k z⟩
  · have z : (σ.ph p).up = false := z
    rw [hu] at z
    cases z
  · rcases z with z | z
    · exact .inr (.inl z)
    · rw [hk] at z
      cases z
  · rw [tk k z] at y
    cases y
theorem swap_inv {σ : Hl} {p : Int} (h : Inv σ) (h0 : 0 ≤ p) (h5 : p ≤ 5) (hu : (σ.ph p).up = true) (ht : (σ.ph p).now = none ∨ inTalk σ p = true) : Inv (swapF σ p) := by
  have tk : ∀ k, (σ.ph p).now = some k → (σ.ca k).talk = true := fun k e => by
    rcases ht with z | z
    · rw [e] at z
      cases z
    · unfold inTalk at z
      rw [e] at z
      exact z
  refine ph_inv h (fun _ _ z => z) rfl (fun k z => ?_) (fun k z => ?_) (fun k z y => ?_) (fun z => ?_) (fun k z => ?_) (fun k z y => ?_)
  · have := h.kept p k h0 h5 z
    exact ⟨this.1, this.2.1⟩
  · have z : (σ.ph p).now = some k := z
    exact ⟨(h.now p k h0 h5 z).1, (h.now p k h0 h5 z).2, tk k z⟩
  · exact h.nk p k h0 h5 y z
  · have z : (σ.ph p).up = false := z
    rw [hu] at z
    cases z
  · rcases z with z | z
    · exact .inr (.inl z)
    · exact .inl z
  · rw [tk k z] at y
    cases y

-- HI2
/-! ### a call is taken -/
theorem CaOk.mk' {E : Int → Nat → Prop} {L : Nat → Prop} {σ : Hl} {k : Nat} {c : Ca} (e : σ.ca k = c) (ppn : c.ppl.Nodup) (pph : ∀ p ∈ c.ppl, 0 ≤ p ∧ p ≤ 5 ∧ ((σ.ph p).now = some k ∨ (σ.ph p).kept = some k ∨ E p k))
    (ern : c.y.ears.Nodup) (erh : ∀ p ∈ c.y.ears, 0 ≤ p ∧ p ≤ 5 ∧ (σ.ph p).bell = some k) (tk : c.talk = true → c.y.ears = [] ∧ 2 ≤ c.ppl.length)
    (nt : c.talk = false → c.ppl = [c.c] ∧ ((σ.ph c.c).now = some k ∨ E c.c k) ∧ WyOk c.y ∧ (c.y.group = none → c.y.leads.length < c.y.chain.length ∨ L k) ∧ (c.y.ears = [] → L k)) : CaOk E L σ k := by
  subst e
  exact ⟨ppn, pph, ern, erh, tk, nt⟩
theorem ans_inv {σ : Hl} {p : Int} {k : Nat} {q : Ph} (h : Inv σ) (h0 : 0 ≤ p) (h5 : p ≤ 5) (hb : (σ.ph p).bell = some k) (hq : q.bell = some k) (hu : q.up = true)
    (hkk : ∀ j, q.kept = some j → j ∈ σ.op ∧ p ∈ (σ.ca j).ppl ∧ (σ.ca j).talk = true) (hold : ∀ j, (σ.ph p).now = some j ∨ (σ.ph p).kept = some j → q.kept = some j)
    (htk : ∀ j, (σ.ph p).now = some j → (σ.ca j).talk = true) : Inv (ansF (σ.setPh p q) k p) := by
  obtain ⟨b1, b2⟩ := h.bell p k h0 h5 hb
  have ck := h.ca k b1
  have tf : (σ.ca k).talk = false := by
    cases z : (σ.ca k).talk with
    | false => rfl
    | true => rw [(ck.tk z).1] at b2; cases b2
  obtain ⟨n1, n2, n3, n4, n5⟩ := ck.nt tf
  have n2 : (σ.ph (σ.ca k).c).now = some k := n2.elim id fun z => z.elim
  have pc : p ≠ (σ.ca k).c := fun z => by
    rw [← z] at n2
    have := htk k n2
    rw [tf] at this
    cases this
  have cc := ck.pph (σ.ca k).c (by rw [n1]; exact List.mem_singleton.mpr rfl)
  have ep : (ansF (σ.setPh p q) k p).ph p = { q.sil k with now := some k } := by
    show (if p = p then { ((σ.setPh p q).ph p).sil k with now := some k } else _) = _
    rw [if_pos rfl]
    show ({ (if p = p then q else σ.ph p).sil k with now := some k } : Ph) = _
    rw [if_pos rfl]
  have er : ∀ r, r ≠ p → (ansF (σ.setPh p q) k p).ph r = (σ.ph r).sil k := fun r ne => by
    show (if r = p then _ else ((if r = p then q else σ.ph r).sil k)) = _
    rw [if_neg ne, if_neg ne]
  have ek : (ansF (σ.setPh p q) k p).ca k = { (σ.ca k).noEars with talk := true, ppl := (σ.ca k).ppl ++ [p] } := by
    show (if k = k then _ else _) = _
    rw [if_pos rfl]; rfl
  have ej : ∀ j, j ≠ k → (ansF (σ.setPh p q) k p).ca j = σ.ca j := fun j ne => by
    show (if j = k then _ else (if j = k then _ else σ.ca j)) = _
    rw [if_neg ne, if_neg ne]
  have qk : ∀ j, q.kept = some j → j ≠ k := fun j z e => by
    have := (hkk j z).2.2
    rw [e, tf] at this
    cases this
  refine ⟨h.opn, h.opl, fun r j r0 r5 e => ?_, fun r j r0 r5 e => ?_, fun r j r0 r5 e => ?_, fun r j r0 r5 e e2 => ?_, fun r r0 r5 e => ?_, fun j hj => ?_⟩
  · by_cases ne : r = p
    · subst ne
      rw [ep] at e
      cases e
      exact ⟨b1, by rw [ek]; exact List.mem_append.mpr (.inr (List.mem_singleton.mpr rfl))⟩
    · rw [er r ne, sil_now] at e
      obtain ⟨q1, q2⟩ := h.now r j r0 r5 e
      refine ⟨q1, ?_⟩
      by_cases nj : j = k
      · subst nj
        rw [ek]
        exact List.mem_append.mpr (.inl q2)
      · rw [ej j nj]
        exact q2
  · by_cases ne : r = p
    · subst ne
      rw [ep] at e
      have e : (q.sil k).kept = some j := e
      rw [sil_kept] at e
      rw [ej j (qk j e)]
      exact hkk j e
    · rw [er r ne, sil_kept] at e
      have q1 := h.kept r j r0 r5 e
      have nj : j ≠ k := fun z => by
        have := q1.2.2
        rw [z, tf] at this
        cases this
      rw [ej j nj]
      exact q1
  · by_cases ne : r = p
    · subst ne
      rw [ep] at e
      have e : (q.sil k).bell = some j := e
      rw [sil_bell, hq] at e
      exact absurd (Option.some.inj e.1).symm e.2
    · rw [er r ne, sil_bell] at e
      rw [ej j e.2]
      exact h.bell r j r0 r5 e.1
  · by_cases ne : r = p
    · subst ne
      rw [ep] at e e2
      cases e
      have e2 : (q.sil k).kept = some k := e2
      rw [sil_kept] at e2
      exact qk k e2 rfl
    · rw [er r ne, sil_now] at e
      rw [er r ne, sil_kept] at e2
      exact h.nk r j r0 r5 e e2
  · by_cases ne : r = p
    · subst ne
      rw [ep] at e
      have e : (q.sil k).up = false := e
      rw [sil_up, hu] at e
      cases e
    · rw [er r ne, sil_up] at e
      rw [er r ne, sil_now, sil_kept]
      exact h.dn r r0 r5 e
  · have hj : j ∈ σ.op := hj
    by_cases nj : j = k
    · subst nj
      refine ⟨?_, fun r hr => ?_, by rw [ek]; exact List.nodup_nil, fun r hr => (by rw [ek] at hr; cases hr), fun _ => ?_, fun z => (by rw [ek] at z; cases z)⟩
      · rw [ek]
        show ((σ.ca j).ppl ++ [p]).Nodup
        rw [n1]
        simp [Ne.symm pc]
      · rw [ek] at hr
        rcases List.mem_append.mp hr with hr | hr
        · rw [n1] at hr
          rw [List.mem_singleton.mp hr]
          refine ⟨cc.1, cc.2.1, .inl ?_⟩
          rw [er _ (Ne.symm pc), sil_now]
          exact n2
        · rw [List.mem_singleton.mp hr]
          exact ⟨h0, h5, .inl (by rw [ep])⟩
      · rw [ek]
        refine ⟨rfl, ?_⟩
        show 2 ≤ ((σ.ca j).ppl ++ [p]).length
        rw [n1]
        simp
    · have c := h.ca j hj
      refine ⟨by rw [ej j nj]; exact c.ppn, fun r hr => ?_, by rw [ej j nj]; exact c.ern, fun r hr => ?_, by rw [ej j nj]; exact c.tk, fun ht => ?_⟩
      · rw [ej j nj] at hr
        obtain ⟨r0, r5, z⟩ := c.pph r hr
        refine ⟨r0, r5, ?_⟩
        by_cases ne : r = p
        · subst ne
          refine .inr (.inl ?_)
          rw [ep]
          show (q.sil k).kept = some j
          rw [sil_kept]
          exact hold j (z.imp id fun z => z.elim id fun z => z.elim)
        · rw [er r ne, sil_now, sil_kept]
          exact z
      · rw [ej j nj] at hr
        obtain ⟨r0, r5, z⟩ := c.erh r hr
        refine ⟨r0, r5, ?_⟩
        by_cases ne : r = p
        · subst ne
          rw [hb] at z
          exact absurd (Option.some.inj z).symm nj
        · rw [er r ne, sil_bell]
          exact ⟨z, nj⟩
      · rw [ej j nj] at ht ⊢
        obtain ⟨z1, z2, z3⟩ := c.nt ht
        refine ⟨z1, .inl ?_, z3⟩
        have z2 : (σ.ph (σ.ca j).c).now = some j := z2.elim id fun z => z.elim
        have ne : (σ.ca j).c ≠ p := fun z => by
          rw [z] at z2
          have := htk j z2
          rw [ht] at this
          cases this
        rw [er _ ne, sil_now]
        exact z2
theorem lift_inv {σ : Hl} {p : Int} (h : Inv σ) (h0 : 0 ≤ p) (h5 : p ≤ 5) (hu : (σ.ph p).up = false) : Inv (liftF σ p) := by
  obtain ⟨d1, d2⟩ := h.dn p h0 h5 hu
  unfold liftF
  cases e : (σ.ph p).bell with
  | none =>
    refine ph_inv h (fun _ _ z => z) rfl (fun k z => h.now p k h0 h5 z) (fun k z => h.kept p k h0 h5 z) (fun k z => h.nk p k h0 h5 z) (fun z => (by cases z)) (fun k z => z.imp id .inl) (fun k z _ => .inl z)
  | some k =>
    refine ans_inv h h0 h5 e e rfl (fun j z => ?_) (fun j z => ?_) (fun j z => ?_)
    · have z : (σ.ph p).kept = some j := z
      rw [d2] at z
      cases z
    · rw [d1, d2] at z
      exact z.elim (fun z => nomatch z) fun z => nomatch z
    · rw [d1] at z
      cases z
theorem take_inv {σ : Hl} {p : Int} (h : Inv σ) (h0 : 0 ≤ p) (h5 : p ≤ 5) (hu : (σ.ph p).up = true) (ht : inTalk σ p = true) (hk : (σ.ph p).kept = none) : Inv (takeF σ p) := by
  have tk : ∀ k, (σ.ph p).now = some k → (σ.ca k).talk = true := fun k e => by
    unfold inTalk at ht
    rw [e] at ht
    exact ht
  unfold takeF
  cases e : (σ.ph p).bell with
  | none => exact h
  | some k =>
    refine ans_inv h h0 h5 e e hu (fun j z => ?_) (fun j z => ?_) tk
    · exact ⟨(h.now p j h0 h5 z).1, (h.now p j h0 h5 z).2, tk j z⟩
    · rcases z with z | z
      · exact z
      · rw [hk] at z
        cases z
/-! ### talks are one -/
theorem jn_now {q : Ph} {c o : Nat} : (q.jn c o).now = if q.now = some o then some c else q.now := by
  unfold Ph.jn Ph.jn3 Ph.jn2 Ph.jn1
  split <;> split <;> split <;> rfl
theorem jn_kept {q : Ph} {c o : Nat} : (q.jn c o).kept = if (if q.kept = some o then some c else q.kept) = (q.jn c o).now then none else (if q.kept = some o then some c else q.kept) := by
  have e1 : (q.jn1 c o).kept = q.kept := by unfold Ph.jn1; split <;> rfl
  have e2 : ((q.jn1 c o).jn2 c o).kept = if q.kept = some o then some c else q.kept := by
    unfold Ph.jn2
    rw [e1]
    by_cases z : q.kept = some o
    · rw [if_pos z, if_pos z]
    · rw [if_neg z, if_neg z]; exact e1
  have e3 : ((q.jn1 c o).jn2 c o).jn3.now = ((q.jn1 c o).jn2 c o).now := by unfold Ph.jn3; split <;> rfl
  unfold Ph.jn
  rw [e3, ← e2]
  unfold Ph.jn3
  by_cases z : ((q.jn1 c o).jn2 c o).kept = ((q.jn1 c o).jn2 c o).now
  · rw [if_pos z, if_pos z]
  · rw [if_neg z, if_neg z]
theorem jn_bell {q : Ph} {c o : Nat} : (q.jn c o).bell = q.bell := by
  unfold Ph.jn Ph.jn3 Ph.jn2 Ph.jn1
  split <;> split <;> split <;> rfl
theorem jn_up {q : Ph} {c o : Nat} : (q.jn c o).up = q.up := by
  unfold Ph.jn Ph.jn3 Ph.jn2 Ph.jn1
  split <;> split <;> split <;> rfl
theorem jn_now_of {q : Ph} {c o j : Nat} (h : (q.jn c o).now = some j) : (j ≠ o ∧ q.now = some j) ∨ (j = c ∧ q.now = some o) := by
  rw [jn_now] at h
  split at h
  · rename_i z
    exact .inr ⟨(Option.some.inj h).symm, z⟩
  · rename_i z
    exact .inl ⟨fun e => z (by rw [h, e]), h⟩
theorem jn_kept_of {q : Ph} {c o j : Nat} (h : (q.jn c o).kept = some j) : ((j ≠ o ∧ q.kept = some j) ∨ (j = c ∧ q.kept = some o)) ∧ (q.jn c o).now ≠ some j := by
  rw [jn_kept] at h
  by_cases y : (if q.kept = some o then some c else q.kept) = (q.jn c o).now
  · rw [if_pos y] at h
    cases h
  · rw [if_neg y] at h
    refine ⟨?_, fun e => y (h.trans e.symm)⟩
    by_cases z : q.kept = some o
    · rw [if_pos z] at h
      exact .inr ⟨(Option.some.inj h).symm, z⟩
    · rw [if_neg z] at h
      exact .inl ⟨fun e => z (by rw [h, e]), h⟩
/-! ### a call goes on -/
theorem ring_now {σ : Hl} {k : Nat} {y : Wy} {p : Int} : ((ringF σ k y).ph p).now = (σ.ph p).now := by
  show (if p ∈ y.ears then _ else _ : Ph).now = _
  split <;> rfl
theorem ring_kept {σ : Hl} {k : Nat} {y : Wy} {p : Int} : ((ringF σ k y).ph p).kept = (σ.ph p).kept := by
  show (if p ∈ y.ears then _ else _ : Ph).kept = _
  split <;> rfl
theorem ring_up {σ : Hl} {k : Nat} {y : Wy} {p : Int} : ((ringF σ k y).ph p).up = (σ.ph p).up := by
  show (if p ∈ y.ears then _ else _ : Ph).up = _
  split <;> rfl
theorem ring_bell {σ : Hl} {k : Nat} {y : Wy} {p : Int} : ((ringF σ k y).ph p).bell = if p ∈ y.ears then some k else (σ.ph p).bell := by
  show (if p ∈ y.ears then _ else _ : Ph).bell = _
  split <;> rfl
/-- what a call must be to go on -/
structure Limbo (σ : Hl) (k : Nat) : Prop where
  inv : InvG noE (· = k) σ
  mem : k ∈ σ.op
  tk : (σ.ca k).talk = false
  er : (σ.ca k).y.ears = []
  gr : (σ.ca k).y.group = none
theorem Limbo.wy {σ : Hl} {k : Nat} (h : Limbo σ k) : WyOk (σ.ca k).y := ((h.inv.ca k h.mem).nt h.tk).2.2.1
theorem Limbo.go {σ : Hl} {k : Nat} {xs : List Wish} {g : Int} (h : Limbo σ k) (ho : ∀ x ∈ xs, x.ok) (g0 : 0 ≤ g) (g7 : g ≤ 7) : GoOk (stF σ) (knF σ) (onY σ xs k g) :=
  go_ok ho _ _ _ h.wy h.er h.gr g0 g7
theorem on_inv {σ : Hl} {k : Nat} {xs : List Wish} {g : Int} (L : Limbo σ k) (ho : ∀ x ∈ xs, x.ok) (g0 : 0 ≤ g) (g7 : g ≤ 7) : Inv (onF σ xs k g) := by
  have G := L.go ho g0 g7
  have h := L.inv
  unfold onF
  generalize onY σ xs k g = y at G
  have ek : (ringF σ k y).ca k = { σ.ca k with y := y, age := 0 } := if_pos rfl
  have ej : ∀ j, j ≠ k → (ringF σ k y).ca j = σ.ca j := fun j ne => if_neg ne
  have cs : ∀ j ∈ σ.op, j ≠ k → CaOk noE (· = k) (ringF σ k y) j := fun j hj ne => by
    have c := h.ca j hj
    refine CaOk.mk' (ej j ne) (c.ppn) (fun p hp => ?_) (c.ern) (fun p hp => ?_) (c.tk) (fun z => ?_)
    · rw [ring_now, ring_kept]
      exact c.pph p hp
    · obtain ⟨q0, q5, z⟩ := c.erh p hp
      refine ⟨q0, q5, ?_⟩
      rw [ring_bell]
      by_cases m : p ∈ y.ears
      · have := ring_free (G.er p m)
        rw [this] at z
        cases z
      · rw [if_neg m]
        exact z
    · obtain ⟨z1, z2, z3⟩ := c.nt z
      exact ⟨z1, by rw [ring_now]; exact z2, z3⟩
  by_cases e : y.ears = []
  · dsimp only
    rw [if_pos e]
    refine over_inv (E := noE) (L := (· = k)) ⟨h.opn, h.opl, fun p j p0 p5 ne z => ?_, fun p j p0 p5 ne z => ?_, fun p j p0 p5 ne z => ?_, fun p j p0 p5 ne z => ?_, fun p p0 p5 z => ?_, cs⟩ (fun _ _ _ z => z) (fun j ne z => ne z)
    · rw [ring_now] at z
      rw [ej j ne]
      exact h.now p j p0 p5 z
    · rw [ring_kept] at z
      rw [ej j ne]
      exact h.kept p j p0 p5 z
    · rw [ring_bell, e, if_neg (fun x => nomatch x)] at z
      rw [ej j ne]
      exact h.bell p j p0 p5 z
    · rw [ring_now] at z
      rw [ring_kept]
      exact h.nk p j p0 p5 z
    · rw [ring_up] at z
      rw [ring_now, ring_kept]
      exact h.dn p p0 p5 z
  · dsimp only
    rw [if_neg e]
    refine ⟨h.opn, h.opl, fun p j p0 p5 z => ?_, fun p j p0 p5 z => ?_, fun p j p0 p5 z => ?_, fun p j p0 p5 z => ?_, fun p p0 p5 z => ?_, fun j hj => ?_⟩
    · rw [ring_now] at z
      obtain ⟨q1, q2⟩ := h.now p j p0 p5 z
      refine ⟨q1, ?_⟩
      by_cases ne : j = k
      · subst ne; rw [ek]; exact q2
      · rw [ej j ne]; exact q2
    · rw [ring_kept] at z
      obtain ⟨q1, q2⟩ := h.kept p j p0 p5 z
      refine ⟨q1, ?_⟩
      by_cases ne : j = k
      · subst ne; rw [ek]; exact q2
      · rw [ej j ne]; exact q2
    · rw [ring_bell] at z
      by_cases m : p ∈ y.ears
      · rw [if_pos m] at z
        cases z
        exact ⟨L.mem, by rw [ek]; exact m⟩
      · rw [if_neg m] at z
        obtain ⟨q1, q2⟩ := h.bell p j p0 p5 z
        have ne : j ≠ k := fun x => by
          rw [x, L.er] at q2
          cases q2
        rw [ej j ne]
        exact ⟨q1, q2⟩
    · rw [ring_now] at z
      rw [ring_kept]
      exact h.nk p j p0 p5 z
    · rw [ring_up] at z
      rw [ring_now, ring_kept]
      exact h.dn p p0 p5 z
    · have hj : j ∈ σ.op := hj
      by_cases ne : j = k
      · subst ne
        have c := h.ca j hj
        refine CaOk.mk' (ek) (c.ppn) (fun p hp => ?_) (G.nd) (fun p hp => ?_) (fun z => ?_) (fun z => ?_)
        · rw [ring_now, ring_kept]
          exact c.pph p hp
        · refine ⟨(G.er p hp).1, (G.er p hp).2.1, ?_⟩
          rw [ring_bell]
          exact if_pos hp
        · have z : (σ.ca j).talk = true := z
          rw [L.tk] at z
          cases z
        · obtain ⟨z1, z2, z3⟩ := c.nt L.tk
          exact ⟨z1, by rw [ring_now]; exact z2, G.wy, fun w => .inl (G.ld e w), fun w => absurd w e⟩
      · have c := cs j hj ne
        exact ⟨c.ppn, c.pph, c.ern, c.erh, c.tk, fun z => ⟨(c.nt z).1, (c.nt z).2.1, (c.nt z).2.2.1, fun w => ((c.nt z).2.2.2.1 w).imp id ne, fun w => ne ((c.nt z).2.2.2.2 w)⟩⟩
theorem dial_limbo {σ : Hl} {p : Int} (h : Inv σ) (h0 : 0 ≤ p) (h5 : p ≤ 5) (hu : (σ.ph p).up = true) (hn : (σ.ph p).now = none) : Limbo (dial0 σ p) σ.n := by
  have fr : ∀ j ∈ σ.op, j ≠ σ.n := fun j hj => Nat.ne_of_lt (h.opl j hj)
  have ek : (dial0 σ p).ca σ.n = Ca.new p := if_pos rfl
  have ej : ∀ j ∈ σ.op, (dial0 σ p).ca j = σ.ca j := fun j hj => if_neg (fr j hj)
  have ep : (dial0 σ p).ph p = { σ.ph p with now := some σ.n } := if_pos rfl
  have er : ∀ r, r ≠ p → (dial0 σ p).ph r = σ.ph r := fun r ne => if_neg ne
  have mk : ∀ j, j ∈ σ.op → j ∈ (dial0 σ p).op := fun j hj => List.mem_append.mpr (.inl hj)
  have mn : σ.n ∈ (dial0 σ p).op := List.mem_append.mpr (.inr (List.mem_singleton.mpr rfl))
  refine ⟨⟨?_, fun j hj => ?_, fun r j r0 r5 e => ?_, fun r j r0 r5 e => ?_, fun r j r0 r5 e => ?_, fun r j r0 r5 e y => ?_, fun r r0 r5 e => ?_, fun j hj => ?_⟩, mn, by rw [ek]; rfl, by rw [ek]; rfl, by rw [ek]; rfl⟩
  · refine List.nodup_append.mpr ⟨h.opn, by simp, fun a ha b hb => ?_⟩
    rw [List.mem_singleton.mp hb]
    exact fr a ha
  · show j < σ.n + 1
    rcases List.mem_append.mp hj with hj | hj
    · exact Nat.lt_succ_of_lt (h.opl j hj)
    · rw [List.mem_singleton.mp hj]
      exact Nat.lt_succ_self _
  · by_cases ne : r = p
    · subst ne
      rw [ep] at e
      cases e
      exact ⟨mn, by rw [ek]; exact List.mem_singleton.mpr rfl⟩
    · rw [er r ne] at e
      obtain ⟨q1, q2⟩ := h.now r j r0 r5 e
      exact ⟨mk j q1, by rw [ej j q1]; exact q2⟩
  · have e : (σ.ph r).kept = some j := by
      by_cases ne : r = p
      · subst ne
        rw [ep] at e
        exact e
      · rw [er r ne] at e
        exact e
    obtain ⟨q1, q2⟩ := h.kept r j r0 r5 e
    exact ⟨mk j q1, by rw [ej j q1]; exact q2⟩
  · have e : (σ.ph r).bell = some j := by
      by_cases ne : r = p
      · subst ne
        rw [ep] at e
        exact e
      · rw [er r ne] at e
        exact e
    obtain ⟨q1, q2⟩ := h.bell r j r0 r5 e
    exact ⟨mk j q1, by rw [ej j q1]; exact q2⟩
  · by_cases ne : r = p
    · subst ne
      rw [ep] at e y
      cases e
      have y : (σ.ph r).kept = some σ.n := y
      exact fr _ (h.kept r _ r0 r5 y).1 rfl
    · rw [er r ne] at e y
      exact h.nk r j r0 r5 e y
  · by_cases ne : r = p
    · subst ne
      rw [ep] at e
      have e : (σ.ph r).up = false := e
      rw [hu] at e
      cases e
    · rw [er r ne] at e ⊢
      exact h.dn r r0 r5 e
  · rcases List.mem_append.mp hj with hj | hj
    · have c := h.ca j hj
      rw [show CaOk noE (· = σ.n) (dial0 σ p) j ↔ CaOk noE (· = σ.n) (dial0 σ p) j from Iff.rfl]
      refine CaOk.mk' (ej j hj) (c.ppn) (fun r hr => ?_) (c.ern) (fun r hr => ?_) (c.tk) (fun z => ?_)
      · obtain ⟨r0, r5, z⟩ := c.pph r hr
        refine ⟨r0, r5, ?_⟩
        by_cases ne : r = p
        · subst ne
          rw [ep]
          rcases z with z | z | z
          · rw [hn] at z
            cases z
          · exact .inr (.inl z)
          · exact z.elim
        · rw [er r ne]
          exact z
      · obtain ⟨r0, r5, z⟩ := c.erh r hr
        refine ⟨r0, r5, ?_⟩
        by_cases ne : r = p
        · subst ne
          rw [ep]
          exact z
        · rw [er r ne]
          exact z
      · obtain ⟨z1, z2, z3, z4, z5⟩ := c.nt z
        refine ⟨z1, .inl ?_, z3, fun w => (z4 w).imp id (fun x => x.elim), fun w => (z5 w).elim⟩
        have z2 : (σ.ph (σ.ca j).c).now = some j := z2.elim id fun z => z.elim
        by_cases ne : (σ.ca j).c = p
        · rw [ne, hn] at z2
          cases z2
        · rw [er _ ne]
          exact z2
    · rw [List.mem_singleton.mp hj]
      refine CaOk.mk' (ek) (List.nodup_cons.mpr ⟨(fun x => nomatch x), List.nodup_nil⟩) (fun r hr => ?_) (List.nodup_nil) (fun r hr => nomatch hr) (fun z => nomatch z) (fun z => ?_)
      · rw [List.mem_singleton.mp hr]
        exact ⟨h0, h5, .inl (by rw [ep])⟩
      · exact ⟨rfl, .inl (by show ((dial0 σ p).ph p).now = _; rw [ep]), ⟨List.nodup_nil, (fun x hx => nomatch hx), Nat.le_refl _⟩, fun _ => .inr rfl, fun _ => rfl⟩
theorem dial_inv {σ : Hl} {p g : Int} {xs : List Wish} (h : Inv σ) (ho : ∀ x ∈ xs, x.ok) (h0 : 0 ≤ p) (h5 : p ≤ 5) (g0 : 0 ≤ g) (g7 : g ≤ 7) (hu : (σ.ph p).up = true) (hn : (σ.ph p).now = none) : Inv (dialF σ xs p g) :=
  on_inv (dial_limbo h h0 h5 hu hn) ho g0 g7

-- HI3
theorem age_inv {E : Int → Nat → Prop} {L : Nat → Prop} {σ : Hl} {k : Nat} {a : Int} (h : InvG E L σ) : InvG E L (σ.setCa k { σ.ca k with age := a }) := by
  have ek : (σ.setCa k { σ.ca k with age := a }).ca k = { σ.ca k with age := a } := if_pos rfl
  have ej : ∀ j, j ≠ k → (σ.setCa k { σ.ca k with age := a }).ca j = σ.ca j := fun j ne => if_neg ne
  have ew : ∀ j, ((σ.setCa k { σ.ca k with age := a }).ca j).ppl = (σ.ca j).ppl ∧ ((σ.setCa k { σ.ca k with age := a }).ca j).talk = (σ.ca j).talk ∧ ((σ.setCa k { σ.ca k with age := a }).ca j).y = (σ.ca j).y := fun j => by
    by_cases ne : j = k
    · subst ne; rw [ek]; exact ⟨rfl, rfl, rfl⟩
    · rw [ej j ne]; exact ⟨rfl, rfl, rfl⟩
  refine ⟨h.opn, h.opl, fun p j p0 p5 z => ?_, fun p j p0 p5 z => ?_, fun p j p0 p5 z => ?_, h.nk, h.dn, fun j hj => ?_⟩
  · rw [(ew j).1]; exact h.now p j p0 p5 z
  · rw [(ew j).1, (ew j).2.1]; exact h.kept p j p0 p5 z
  · rw [(ew j).2.2]; exact h.bell p j p0 p5 z
  · have c := h.ca j hj
    by_cases ne : j = k
    · subst ne
      exact CaOk.mk' ek c.ppn c.pph c.ern c.erh c.tk c.nt
    · exact CaOk.mk' (ej j ne) c.ppn c.pph c.ern c.erh c.tk c.nt
theorem late_ok {xs : List Wish} (ho : ∀ x ∈ xs, x.ok) {p t g : Int} (h : lateB xs p = some (t, g)) : 0 ≤ g ∧ g ≤ 7 := by
  unfold lateB at h
  split at h
  · rename_i q g' t' e
    cases h
    have := ho _ (getB_key e).2
    exact ⟨this.2.2.1, this.2.2.2.1⟩
  · cases h
theorem late_limbo {σ : Hl} {k : Nat} {p g : Int} (h : Inv σ) (hk : k ∈ σ.op) (ht : (σ.ca k).talk = false) (hg : (σ.ca k).y.group = none) : Limbo (late0 σ k p g) k := by
  have ek : (late0 σ k p g).ca k = { (σ.ca k).noEars with y := { (σ.ca k).y.noEars with leads := (σ.ca k).y.leads ++ [(p, g)] } } := if_pos rfl
  have ej : ∀ j, j ≠ k → (late0 σ k p g).ca j = σ.ca j := fun j ne => by
    show (if j = k then _ else (if j = k then _ else σ.ca j)) = _
    rw [if_neg ne, if_neg ne]
  have ep : ∀ r, (late0 σ k p g).ph r = (σ.ph r).sil k := fun r => rfl
  refine ⟨⟨h.opn, h.opl, fun r j r0 r5 e => ?_, fun r j r0 r5 e => ?_, fun r j r0 r5 e => ?_, fun r j r0 r5 e y => ?_, fun r r0 r5 e => ?_, fun j hj => ?_⟩, hk, by rw [ek]; exact ht, by rw [ek]; rfl, by rw [ek]; exact hg⟩
  · rw [ep, sil_now] at e
    obtain ⟨q1, q2⟩ := h.now r j r0 r5 e
    refine ⟨q1, ?_⟩
    by_cases ne : j = k
    · subst ne; rw [ek]; exact q2
    · rw [ej j ne]; exact q2
  · rw [ep, sil_kept] at e
    obtain ⟨q1, q2⟩ := h.kept r j r0 r5 e
    refine ⟨q1, ?_⟩
    by_cases ne : j = k
    · subst ne; rw [ek]; exact q2
    · rw [ej j ne]; exact q2
  · rw [ep, sil_bell] at e
    rw [ej j e.2]
    exact h.bell r j r0 r5 e.1
  · rw [ep, sil_now] at e
    rw [ep, sil_kept] at y
    exact h.nk r j r0 r5 e y
  · rw [ep, sil_up] at e
    rw [ep, sil_now, sil_kept]
    exact h.dn r r0 r5 e
  · have hj : j ∈ σ.op := hj
    have c := h.ca j hj
    by_cases ne : j = k
    · subst ne
      obtain ⟨z1, z2, z3, z4, z5⟩ := c.nt ht
      refine CaOk.mk' ek c.ppn (fun r hr => ?_) List.nodup_nil (fun r hr => nomatch hr) (fun z => ?_) (fun z => ?_)
      · rw [ep, sil_now, sil_kept]
        obtain ⟨r0, r5, z⟩ := c.pph r hr
        exact ⟨r0, r5, z.imp id fun z => z.imp id fun z => z.elim⟩
      · have z : (σ.ca j).talk = true := z
        rw [ht] at z
        cases z
      · refine ⟨z1, ?_, ⟨z3.nd, z3.ph, ?_⟩, fun _ => .inr rfl, fun _ => rfl⟩
        · rw [ep, sil_now]
          exact z2.imp id fun z => z.elim
        · have q := (z4 hg).elim id fun z => z.elim
          show ((σ.ca j).y.leads ++ [(p, g)]).length ≤ (σ.ca j).y.chain.length
          rw [List.length_append, List.length_singleton]
          exact q
    · refine CaOk.mk' (ej j ne) c.ppn (fun r hr => ?_) c.ern (fun r hr => ?_) c.tk (fun z => ?_)
      · rw [ep, sil_now, sil_kept]
        obtain ⟨r0, r5, z⟩ := c.pph r hr
        exact ⟨r0, r5, z.imp id fun z => z.imp id fun z => z.elim⟩
      · obtain ⟨r0, r5, z⟩ := c.erh r hr
        refine ⟨r0, r5, ?_⟩
        rw [ep, sil_bell]
        exact ⟨z, ne⟩
      · obtain ⟨z1, z2, z3, z4, z5⟩ := c.nt z
        refine ⟨z1, ?_, z3, fun w => (z4 w).imp id (fun x => x.elim), fun w => (z5 w).elim⟩
        rw [ep, sil_now]
        exact z2.imp id fun z => z.elim
theorem lateOf_ok {xs : List Wish} (ho : ∀ x ∈ xs, x.ok) {c : Ca} {p t g : Int} (h : lateOf xs c = some (p, t, g)) : c.y.group = none ∧ c.y.chain.getLast? = some p ∧ lateB xs p = some (t, g) ∧ 0 ≤ g ∧ g ≤ 7 := by
  unfold lateOf at h
  split at h
  · rename_i q h1 h2
    cases e : lateB xs q with
    | none => rw [e] at h; cases h
    | some r =>
      rw [e] at h
      cases h
      exact ⟨h1, h2, e, late_ok ho e⟩
  · cases h
theorem late_inv {σ : Hl} {k : Nat} {xs : List Wish} (h : Inv σ) (ho : ∀ x ∈ xs, x.ok) (hk : k ∈ σ.op) (ht : (σ.ca k).talk = false) : Inv (lateF σ xs k) := by
  have ov : Inv (overF σ k) := over_inv (h.x k) (fun _ _ _ z => z) (fun _ _ z => z)
  unfold lateF
  cases e : lateOf xs (σ.ca k) with
  | none =>
    dsimp only
    split
    · exact ov
    · exact h
  | some r =>
    obtain ⟨p, t, g⟩ := r
    obtain ⟨e1, e2, e3, e4, e5⟩ := lateOf_ok ho e
    dsimp only
    split
    · exact on_inv (late_limbo h hk ht e1) ho e4 e5
    · split
      · exact ov
      · exact h
theorem beat1_inv {σ : Hl} {k : Nat} {xs : List Wish} (h : Inv σ) (ho : ∀ x ∈ xs, x.ok) : Inv (beat1 xs σ k) := by
  unfold beat1
  split
  · rename_i z
    refine late_inv (age_inv h) ho z.1 ?_
    show (if k = k then _ else _ : Ca).talk = false
    rw [if_pos rfl]
    exact z.2
  · exact h
theorem beats_inv {xs : List Wish} (ho : ∀ x ∈ xs, x.ok) : ∀ {l : List Nat} {σ : Hl}, Inv σ → Inv (l.foldl (beat1 xs) σ)
  | [], _, h => h
  | _ :: l, _, h => beats_inv ho (l := l) (beat1_inv h ho)
theorem beat_inv {σ : Hl} {xs : List Wish} (h : Inv σ) (ho : ∀ x ∈ xs, x.ok) : Inv (beatF σ xs) := beats_inv ho h

-- LH
/-! ### the law's own hall in the store -/
inductive LC
  | root | phones | calls | opn | ph (p : Int) | ca (k : Nat) | chain (k : Nat) | leads (k : Nat) | all (k : Nat)
  deriving DecidableEq
def okL (n : Nat) : LC → Prop
  | .ph p => 0 ≤ p ∧ p ≤ 5
  | .ca k => k < n | .chain k => k < n | .leads k => k < n | .all k => k < n
  | _ => True
abbrev Ll := LC → Nat
def onW (o : Option Nat) : W := optW (o.map fun k : Nat => (k : Int))
def rootL (loc : Ll) (xs : List Wish) : List (Key × W) := [(.inr "wishes", .lst (xs.map Wish.w)), (.inr "phones", .ref (loc .phones)), (.inr "calls", .ref (loc .calls)), (.inr "many", .int 0), (.inr "open", .ref (loc .opn))]
def phL (q : Ph) : List (Key × W) := [(.inr "up", .bl q.up), (.inr "now", onW q.now), (.inr "kept", onW q.kept), (.inr "bell", onW q.bell), (.inr "tone", .str q.tone)]
def caL (loc : Ll) (k : Nat) (c : Ca) : List (Key × W) := [(.inr "caller", .int c.c), (.inr "chain", .ref (loc (.chain k))), (.inr "leads", .ref (loc (.leads k))), (.inr "group", optW c.y.group), (.inr "ears", .tup (intsW c.y.ears)), (.inr "age", .int c.age), (.inr "talk", .bl c.talk), (.inr "all", .ref (loc (.all k)))]
def natsW (l : List Nat) : List W := l.map fun k : Nat => W.int (k : Int)
def holdsL (loc : Ll) (xs : List Wish) (σ : Hl) (c : LC) (x : Option O) : Prop := match c with
  | .root => x = some (.dk (rootL loc xs))
  | .phones => x = some (.lst ((List.range 6).map fun i : Nat => W.ref (loc (.ph (i : Int)))))
  | .calls => x = some (.lst ((List.range σ.n).map fun k : Nat => W.ref (loc (.ca k))))
  | .opn => x = some (.lst (natsW σ.op))
  | .ph p => x = some (.dk (phL (σ.ph p)))
  | .ca k => x = some (.dk (caL loc k (σ.ca k)))
  | .chain k => x = some (.lst (intsW (σ.ca k).y.chain))
  | .leads k => ∃ l : List (Int × Int), x = some (.lst (l.map pairW)) ∧ l.length ≤ (σ.ca k).y.chain.length
  | .all k => x = some (.lst (intsW (σ.ca k).ppl))
structure LhAt (S : Sto) (loc : Ll) (xs : List Wish) (σ : Hl) : Prop where
  at_ : ∀ c, okL σ.n c → holdsL loc xs σ c S[loc c]?
  inj : ∀ c d, okL σ.n c → okL σ.n d → loc c = loc d → c = d
  vd : Vd σ
section
variable {S : Sto} {loc : Ll} {xs : List Wish} {σ τ : Hl}
theorem holdsL.eqv (e : Eqv σ τ) {c : LC} (hc : okL σ.n c) {x : Option O} (h : holdsL loc xs σ c x) : holdsL loc xs τ c x := by
  cases c with
  | root => exact h
  | phones => exact h
  | calls => show x = _; rw [e.n]; exact h
  | opn => show x = _; rw [e.op]; exact h
  | ph p => show x = _; rw [e.ph p hc.1 hc.2]; exact h
  | ca k => show x = _; rw [e.ca k hc]; exact h
  | chain k => show x = _; rw [e.ca k hc]; exact h
  | leads k => show ∃ l, _ ∧ _; rw [e.ca k hc]; exact h
  | all k => show x = _; rw [e.ca k hc]; exact h
theorem LhAt.eqv (h : LhAt S loc xs σ) (e : Eqv σ τ) : LhAt S loc xs τ :=
  ⟨fun c hc => (h.at_ c (by rw [← e.n]; exact hc)).eqv e (by rw [← e.n]; exact hc), fun c d hc hd => h.inj c d (by rw [← e.n]; exact hc) (by rw [← e.n]; exact hd), h.vd.eqv e⟩
theorem LhAt.root (h : LhAt S loc xs σ) : S[loc .root]? = some (.dk (rootL loc xs)) := h.at_ .root trivial
theorem LhAt.phones (h : LhAt S loc xs σ) : S[loc .phones]? = some (.lst ((List.range 6).map fun i : Nat => W.ref (loc (.ph (i : Int))))) := h.at_ .phones trivial
theorem LhAt.calls (h : LhAt S loc xs σ) : S[loc .calls]? = some (.lst ((List.range σ.n).map fun k : Nat => W.ref (loc (.ca k)))) := h.at_ .calls trivial
theorem LhAt.opn (h : LhAt S loc xs σ) : S[loc .opn]? = some (.lst (natsW σ.op)) := h.at_ .opn trivial
theorem LhAt.ph (h : LhAt S loc xs σ) {p : Int} (h0 : 0 ≤ p) (h5 : p ≤ 5) : S[loc (.ph p)]? = some (.dk (phL (σ.ph p))) := h.at_ (.ph p) ⟨h0, h5⟩
theorem LhAt.ca (h : LhAt S loc xs σ) {k : Nat} (hk : k < σ.n) : S[loc (.ca k)]? = some (.dk (caL loc k (σ.ca k))) := h.at_ (.ca k) hk
theorem LhAt.chain (h : LhAt S loc xs σ) {k : Nat} (hk : k < σ.n) : S[loc (.chain k)]? = some (.lst (intsW (σ.ca k).y.chain)) := h.at_ (.chain k) hk
theorem LhAt.leads (h : LhAt S loc xs σ) {k : Nat} (hk : k < σ.n) : ∃ l : List (Int × Int), S[loc (.leads k)]? = some (.lst (l.map pairW)) ∧ l.length ≤ (σ.ca k).y.chain.length := h.at_ (.leads k) hk
theorem LhAt.all (h : LhAt S loc xs σ) {k : Nat} (hk : k < σ.n) : S[loc (.all k)]? = some (.lst (intsW (σ.ca k).ppl)) := h.at_ (.all k) hk
theorem LhAt.lt (h : LhAt S loc xs σ) {c : LC} (hc : okL σ.n c) : loc c < S.length := by
  have q := h.at_ c hc
  have key : ∀ o, S[loc c]? = some o → loc c < S.length := fun o e => (List.getElem?_eq_some_iff.mp e).1
  cases c with
  | leads k => obtain ⟨l, e, _⟩ := q; exact key _ e
  | _ => exact key _ q
theorem LhAt.put (h : LhAt S loc xs σ) (c0 : LC) (v0 : okL σ.n c0) {o : O} (hn : τ.n = σ.n) (vd : Vd τ) (e1 : holdsL loc xs τ c0 (some o)) (e2 : ∀ c, okL σ.n c → c ≠ c0 → ∀ x, holdsL loc xs σ c x → holdsL loc xs τ c x) : LhAt (S.set (loc c0) o) loc xs τ := by
  refine ⟨fun c hc => ?_, fun c d hc hd => h.inj c d (by rw [← hn]; exact hc) (by rw [← hn]; exact hd), vd⟩
  rw [hn] at hc
  by_cases e : c = c0
  · subst e
    rw [List.getElem?_set_self (h.lt hc)]
    exact e1
  · rw [List.getElem?_set_ne (fun z => e (h.inj c c0 hc v0 z.symm))]
    exact e2 c hc e _ (h.at_ c hc)
theorem LhAt.app (h : LhAt S loc xs σ) (T : Sto) : LhAt (S ++ T) loc xs σ := ⟨fun c hc => by
  rw [List.getElem?_append_left (h.lt hc)]
  exact h.at_ c hc, h.inj, h.vd⟩
def upL (loc : Ll) (c0 : LC) (j : Nat) : Ll := fun c => if c = c0 then j else loc c
theorem upL_self {loc : Ll} {c0 : LC} {j : Nat} : upL loc c0 j c0 = j := if_pos rfl
theorem upL_ne {loc : Ll} {c0 c : LC} {j : Nat} (h : c ≠ c0) : upL loc c0 j c = loc c := if_neg h
theorem LhAt.putPh (h : LhAt S loc xs σ) {p : Int} (h0 : 0 ≤ p) (h5 : p ≤ 5) {q : Ph} (hq : q.vd σ.n) : LhAt (S.set (loc (.ph p)) (.dk (phL q))) loc xs (σ.setPh p q) := by
  refine h.put (.ph p) ⟨h0, h5⟩ rfl (h.vd.setPh hq) (by show some _ = some (O.dk (phL ((σ.setPh p q).ph p))); rw [setPh_self]) (fun c hc ne x hx => ?_)
  cases c with
  | ph r =>
    have nr : r ≠ p := fun z => ne (by rw [z])
    show x = some (.dk (phL ((σ.setPh p q).ph r)))
    rw [setPh_ne nr]
    exact hx
  | _ => exact hx
theorem holdsL.setCa {k : Nat} {c : LC} {a : Ca} {x : Option O} (hc : ∀ j, c = .ca j ∨ c = .chain j ∨ c = .leads j ∨ c = .all j → j ≠ k) (hx : holdsL loc xs σ c x) : holdsL loc xs (σ.setCa k a) c x := by
  cases c with
  | ca j => show x = _; rw [setCa_ne (hc j (by simp))]; exact hx
  | chain j => show x = _; rw [setCa_ne (hc j (by simp))]; exact hx
  | leads j => show ∃ l, _ ∧ _; rw [setCa_ne (hc j (by simp))]; exact hx
  | all j => show x = _; rw [setCa_ne (hc j (by simp))]; exact hx
  | _ => exact hx
theorem LhAt.putCa (h : LhAt S loc xs σ) {k : Nat} (hk : k < σ.n) {a : Ca} (e1 : a.y.chain = (σ.ca k).y.chain) (e2 : a.ppl = (σ.ca k).ppl) : LhAt (S.set (loc (.ca k)) (.dk (caL loc k a))) loc xs (σ.setCa k a) := by
  refine h.put (.ca k) hk rfl h.vd.setCa (by show some _ = some (O.dk (caL loc k ((σ.setCa k a).ca k))); rw [setCa_self]) (fun c hc ne x hx => ?_)
  cases c with
  | ca j => exact holdsL.setCa (fun i hi z => by subst z; simp at hi; exact ne (by rw [hi])) hx
  | chain j =>
    by_cases z : j = k
    · subst z; show x = _; rw [setCa_self, e1]; exact hx
    · exact holdsL.setCa (fun i hi => by simp at hi; rw [← hi]; exact z) hx
  | leads j =>
    by_cases z : j = k
    · subst z; show ∃ l, _ ∧ _; rw [setCa_self, e1]; exact hx
    · exact holdsL.setCa (fun i hi => by simp at hi; rw [← hi]; exact z) hx
  | all j =>
    by_cases z : j = k
    · subst z; show x = _; rw [setCa_self, e2]; exact hx
    · exact holdsL.setCa (fun i hi => by simp at hi; rw [← hi]; exact z) hx
  | _ => exact hx
end
/-! ### what stays -/
structure Lx (loc loc' : Ll) (n n' : Nat) (S S' : Sto) : Prop where
  le : S.length ≤ S'.length
  nn : n ≤ n'
  root : loc' .root = loc .root
  keep : ∀ c, okL n c → loc' c = loc c ∨ S.length ≤ loc' c
  new : ∀ c, okL n' c → ¬ okL n c → S.length ≤ loc' c
  off : ∀ i, i < S.length → (∀ c, okL n c → loc c ≠ i) → S'[i]? = S[i]?
theorem okL.mono {n m : Nat} (h : n ≤ m) {c : LC} (hc : okL n c) : okL m c := by
  cases c <;> first | exact hc | exact Nat.lt_of_lt_of_le hc h
theorem Lx.refl {loc : Ll} {n : Nat} (S : Sto) : Lx loc loc n n S S := ⟨Nat.le_refl _, Nat.le_refl _, rfl, fun _ _ => .inl rfl, fun _ a b => absurd a b, fun _ _ _ => rfl⟩
theorem Lx.trans {l1 l2 l3 : Ll} {n1 n2 n3 : Nat} {S1 S2 S3 : Sto} (h : Lx l1 l2 n1 n2 S1 S2) (g : Lx l2 l3 n2 n3 S2 S3) : Lx l1 l3 n1 n3 S1 S3 := by
  refine ⟨Nat.le_trans h.le g.le, Nat.le_trans h.nn g.nn, g.root.trans h.root, fun c hc => ?_, fun c hc nc => ?_, fun i hi ho => ?_⟩
  · rcases g.keep c (hc.mono h.nn) with e | e
    · rcases h.keep c hc with e' | e'
      · exact .inl (e.trans e')
      · exact .inr (by rw [e]; exact e')
    · exact .inr (Nat.le_trans h.le e)
  · by_cases q : okL n2 c
    · have q1 := h.new c q nc
      rcases g.keep c q with e | e
      · rw [e]; exact q1
      · exact Nat.le_trans h.le e
    · exact Nat.le_trans h.le (g.new c hc q)
  · rw [g.off i (Nat.lt_of_lt_of_le hi h.le) (fun c hc e => ?_), h.off i hi ho]
    by_cases q : okL n1 c
    · rcases h.keep c q with e' | e'
      · exact ho c q (by rw [← e', e])
      · rw [e] at e'
        omega
    · have := h.new c hc q
      rw [e] at this
      omega
theorem Lx.set {l1 l2 : Ll} {n1 n2 : Nat} {S T : Sto} (h : Lx l1 l2 n1 n2 S T) {c : LC} (hc : okL n2 c) {o : O} : Lx l1 l2 n1 n2 S (T.set (l2 c) o) :=
  h.trans ⟨by rw [List.length_set]; exact Nat.le_refl _, Nat.le_refl _, rfl, fun _ _ => .inl rfl, fun _ a b => absurd a b, fun i hi ho => List.getElem?_set_ne (ho c hc)⟩
theorem Lx.app {l1 l2 : Ll} {n1 n2 : Nat} {S T : Sto} (h : Lx l1 l2 n1 n2 S T) (U : Sto) : Lx l1 l2 n1 n2 S (T ++ U) :=
  h.trans ⟨by rw [List.length_append]; omega, Nat.le_refl _, rfl, fun _ _ => .inl rfl, fun _ a b => absurd a b, fun i hi ho => List.getElem?_append_left hi⟩
theorem Lx.up {l1 l2 : Ll} {n1 n2 : Nat} {S T : Sto} (h : Lx l1 l2 n1 n2 S T) {c0 : LC} {j : Nat} (hj : S.length ≤ j) (hr : c0 ≠ .root) (hf : ∀ c, okL n2 c → l2 c ≠ j) : Lx l1 (upL l2 c0 j) n1 n2 S T := by
  refine ⟨h.le, h.nn, (upL_ne (Ne.symm hr)).trans h.root, fun c hc => ?_, fun c hc nc => ?_, h.off⟩
  · by_cases e : c = c0
    · subst e; rw [upL_self]; exact .inr hj
    · rw [upL_ne e]; exact h.keep c hc
  · by_cases e : c = c0
    · subst e; rw [upL_self]; exact hj
    · rw [upL_ne e]; exact h.new c hc nc

-- LH2
/-! ### a call more -/
def newL (loc : Ll) (n m : Nat) : Ll := fun c => match c with
  | .chain k => if k = n then m else loc c
  | .leads k => if k = n then m + 1 else loc c
  | .ca k => if k = n then m + 2 else loc c
  | .all k => if k = n then m + 3 else loc c
  | _ => loc c
theorem newL_old {loc : Ll} {n m : Nat} {c : LC} (h : okL n c) : newL loc n m c = loc c := by
  cases c with
  | ca k => exact if_neg (Nat.ne_of_lt h)
  | chain k => exact if_neg (Nat.ne_of_lt h)
  | leads k => exact if_neg (Nat.ne_of_lt h)
  | all k => exact if_neg (Nat.ne_of_lt h)
  | _ => rfl
theorem newL_new {loc : Ll} {n m : Nat} {c : LC} (h : okL (n + 1) c) (h2 : ¬ okL n c) : (c = .chain n ∧ newL loc n m c = m) ∨ (c = .leads n ∧ newL loc n m c = m + 1) ∨ (c = .ca n ∧ newL loc n m c = m + 2) ∨ (c = .all n ∧ newL loc n m c = m + 3) := by
  cases c with
  | chain k =>
    have e : k = n := by have h : k < n + 1 := h; have h2 : ¬ k < n := h2; omega
    subst e
    exact .inl ⟨rfl, if_pos rfl⟩
  | leads k =>
    have e : k = n := by have h : k < n + 1 := h; have h2 : ¬ k < n := h2; omega
    subst e
    exact .inr (.inl ⟨rfl, if_pos rfl⟩)
  | ca k =>
    have e : k = n := by have h : k < n + 1 := h; have h2 : ¬ k < n := h2; omega
    subst e
    exact .inr (.inr (.inl ⟨rfl, if_pos rfl⟩))
  | all k =>
    have e : k = n := by have h : k < n + 1 := h; have h2 : ¬ k < n := h2; omega
    subst e
    exact .inr (.inr (.inr ⟨rfl, if_pos rfl⟩))
  | ph p => exact absurd h h2
  | root => exact absurd trivial h2
  | phones => exact absurd trivial h2
  | calls => exact absurd trivial h2
  | opn => exact absurd trivial h2
def caNew (p : Int) (m : Nat) : List (Key × W) := [(.inr "caller", .int p), (.inr "chain", .ref m), (.inr "leads", .ref (m + 1)), (.inr "group", .non), (.inr "ears", .tup []), (.inr "age", .int 0), (.inr "talk", .bl false), (.inr "all", .ref (m + 3))]
theorem LhAt.grow {S : Sto} {loc : Ll} {xs : List Wish} {σ : Hl} (h : LhAt S loc xs σ) (p : Int) (t : O) : LhAt ((S ++ [.lst [], .lst [], .dk (caNew p S.length), .lst [.int p], t]).set (loc .calls) (.lst ((List.range (σ.n + 1)).map fun k : Nat => W.ref (newL loc σ.n S.length (.ca k))))) (newL loc σ.n S.length) xs (grown σ p) := by
  have hs : (grown σ p).ca σ.n = Ca.new p := if_pos rfl
  have hne : ∀ k, k < σ.n → (grown σ p).ca k = σ.ca k := fun k hk => if_neg (Nat.ne_of_lt hk)
  have lc := h.lt (c := .calls) trivial
  have at' : ∀ i, i < 5 → ((S ++ [.lst [], .lst [], .dk (caNew p S.length), .lst [.int p], t]).set (loc .calls) (.lst ((List.range (σ.n + 1)).map fun k : Nat => W.ref (newL loc σ.n S.length (.ca k)))))[S.length + i]? = [O.lst [], .lst [], .dk (caNew p S.length), .lst [.int p], t][i]? := fun i hi => by
    rw [List.getElem?_set_ne (by omega), List.getElem?_append_right (by omega)]
    congr 1
    omega
  refine ⟨fun c hc => ?_, fun c d hc hd e => ?_, ?_⟩
  · have hc : okL (σ.n + 1) c := hc
    by_cases ho : okL σ.n c
    · rw [newL_old ho]
      by_cases e : c = .calls
      · subst e
        rw [List.getElem?_set_self (by rw [List.length_append]; omega)]
        rfl
      · have q := h.at_ c ho
        rw [List.getElem?_set_ne (fun z => e (h.inj .calls c trivial ho z).symm), List.getElem?_append_left (h.lt ho)]
        cases c with
        | calls => exact absurd rfl e
        | ca k =>
          show _ = some (O.dk (caL _ k ((grown σ p).ca k)))
          rw [hne k ho]
          have z : caL (newL loc σ.n S.length) k (σ.ca k) = caL loc k (σ.ca k) := by
            unfold caL
            rw [newL_old (c := .chain k) ho, newL_old (c := .leads k) ho, newL_old (c := .all k) ho]
          rw [z]
          exact q
        | chain k => show _ = some (O.lst (intsW ((grown σ p).ca k).y.chain)); rw [hne k ho]; exact q
        | leads k => show ∃ l, _ ∧ _; rw [hne k ho]; exact q
        | all k => show _ = some (O.lst (intsW ((grown σ p).ca k).ppl)); rw [hne k ho]; exact q
        | _ => exact q
    · rcases newL_new (loc := loc) (m := S.length) hc ho with ⟨rfl, e⟩ | ⟨rfl, e⟩ | ⟨rfl, e⟩ | ⟨rfl, e⟩
      · rw [e]
        show _ = some (O.lst (intsW ((grown σ p).ca σ.n).y.chain))
        rw [hs]
        exact at' 0 (by decide)
      · rw [e]
        show ∃ l, _ ∧ _
        rw [hs]
        exact ⟨[], at' 1 (by decide), Nat.le_refl _⟩
      · rw [e]
        show _ = some (O.dk (caL _ σ.n ((grown σ p).ca σ.n)))
        rw [hs]
        have z : caL (newL loc σ.n S.length) σ.n (Ca.new p) = caNew p S.length := by
          unfold caL
          rw [show newL loc σ.n S.length (.chain σ.n) = S.length from if_pos rfl, show newL loc σ.n S.length (.leads σ.n) = S.length + 1 from if_pos rfl, show newL loc σ.n S.length (.all σ.n) = S.length + 3 from if_pos rfl]
          rfl
        rw [z]
        exact at' 2 (by decide)
      · rw [e]
        show _ = some (O.lst (intsW ((grown σ p).ca σ.n).ppl))
        rw [hs]
        exact at' 3 (by decide)
  · have hc : okL (σ.n + 1) c := hc
    have hd : okL (σ.n + 1) d := hd
    by_cases ho : okL σ.n c
    · by_cases hp : okL σ.n d
      · rw [newL_old ho, newL_old hp] at e
        exact h.inj c d ho hp e
      · have l := h.lt ho
        rw [newL_old ho] at e
        rcases newL_new (loc := loc) (m := S.length) hd hp with ⟨_, z⟩ | ⟨_, z⟩ | ⟨_, z⟩ | ⟨_, z⟩ <;> (rw [z] at e; omega)
    · by_cases hp : okL σ.n d
      · have l := h.lt hp
        rw [newL_old hp] at e
        rcases newL_new (loc := loc) (m := S.length) hc ho with ⟨_, z⟩ | ⟨_, z⟩ | ⟨_, z⟩ | ⟨_, z⟩ <;> (rw [z] at e; omega)
      · rcases newL_new (loc := loc) (m := S.length) hc ho with ⟨z1, z⟩ | ⟨z1, z⟩ | ⟨z1, z⟩ | ⟨z1, z⟩ <;> rcases newL_new (loc := loc) (m := S.length) hd hp with ⟨y1, y⟩ | ⟨y1, y⟩ | ⟨y1, y⟩ | ⟨y1, y⟩ <;> (rw [z, y] at e; first | omega | rw [z1, y1])
  · exact ⟨fun k hk => Nat.lt_succ_of_lt (h.vd.op k hk), fun r h0 h5 => by
      have v := h.vd.ph r h0 h5
      exact ⟨fun k e => Nat.lt_succ_of_lt (v.1 k e), fun k e => Nat.lt_succ_of_lt (v.2.1 k e), fun k e => Nat.lt_succ_of_lt (v.2.2 k e)⟩⟩
theorem Lx.grow {S : Sto} {loc : Ll} {n : Nat} {T : Sto} {o : O} : Lx loc (newL loc n S.length) n (n + 1) S ((S ++ T).set (loc .calls) o) := by
  refine ⟨by rw [List.length_set, List.length_append]; omega, Nat.le_succ _, rfl, fun c hc => .inl (newL_old hc), fun c hc nc => ?_, fun i hi ho => ?_⟩
  · rcases newL_new (loc := loc) (m := S.length) hc nc with ⟨_, z⟩ | ⟨_, z⟩ | ⟨_, z⟩ | ⟨_, z⟩ <;> (rw [z]; omega)
  · rw [List.getElem?_set_ne (ho .calls trivial), List.getElem?_append_left hi]
/-! ### the fields of its dicts -/
section
variable {loc : Ll} {xs : List Wish} {q : Ph} {k : Nat} {c : Ca}
theorem vR1 : valW (rootL loc xs) (.inr "wishes") = some (.lst (xs.map Wish.w)) := by kernel_rfl
theorem vR2 : valW (rootL loc xs) (.inr "phones") = some (.ref (loc .phones)) := by kernel_rfl
theorem vR3 : valW (rootL loc xs) (.inr "calls") = some (.ref (loc .calls)) := by kernel_rfl
theorem vR4 : valW (rootL loc xs) (.inr "open") = some (.ref (loc .opn)) := by kernel_rfl
theorem vP1 : valW (phL q) (.inr "up") = some (.bl q.up) := by kernel_rfl
theorem vP2 : valW (phL q) (.inr "now") = some (onW q.now) := by kernel_rfl
theorem vP3 : valW (phL q) (.inr "kept") = some (onW q.kept) := by kernel_rfl
theorem vP4 : valW (phL q) (.inr "bell") = some (onW q.bell) := by kernel_rfl
theorem vP5 : valW (phL q) (.inr "tone") = some (.str q.tone) := by kernel_rfl
theorem vC1 : valW (caL loc k c) (.inr "caller") = some (.int c.c) := by kernel_rfl
theorem vC2 : valW (caL loc k c) (.inr "chain") = some (.ref (loc (.chain k))) := by kernel_rfl
theorem vC3 : valW (caL loc k c) (.inr "leads") = some (.ref (loc (.leads k))) := by kernel_rfl
theorem vC4 : valW (caL loc k c) (.inr "group") = some (optW c.y.group) := by kernel_rfl
theorem vC5 : valW (caL loc k c) (.inr "ears") = some (.tup (intsW c.y.ears)) := by kernel_rfl
theorem vC6 : valW (caL loc k c) (.inr "age") = some (.int c.age) := by kernel_rfl
theorem vC7 : valW (caL loc k c) (.inr "talk") = some (.bl c.talk) := by kernel_rfl
theorem vC8 : valW (caL loc k c) (.inr "all") = some (.ref (loc (.all k))) := by kernel_rfl
theorem uR {l' : Ll} (h1 : l' .phones = loc .phones) (h2 : l' .calls = loc .calls) : putW (rootL loc xs) (.inr "open") (.ref (l' .opn)) = rootL l' xs := by
  have e : rootL l' xs = [(.inr "wishes", .lst (xs.map Wish.w)), (.inr "phones", .ref (loc .phones)), (.inr "calls", .ref (loc .calls)), (.inr "many", .int 0), (.inr "open", .ref (l' .opn))] := by unfold rootL; rw [h1, h2]
  rw [e]
  kernel_rfl
theorem uP1 {b : Bool} : putW (phL q) (.inr "up") (.bl b) = phL { q with up := b } := by kernel_rfl
theorem uP2 {o : Option Nat} : putW (phL q) (.inr "now") (onW o) = phL { q with now := o } := by kernel_rfl
theorem uP3 {o : Option Nat} : putW (phL q) (.inr "kept") (onW o) = phL { q with kept := o } := by kernel_rfl
theorem uP4 {o : Option Nat} : putW (phL q) (.inr "bell") (onW o) = phL { q with bell := o } := by kernel_rfl
theorem uP5 {t : Str} : putW (phL q) (.inr "tone") (.str t) = phL { q with tone := t } := by kernel_rfl
theorem uC4 {g : Option Int} : putW (caL loc k c) (.inr "group") (optW g) = caL loc k { c with y := { c.y with group := g } } := by kernel_rfl
theorem uC5 {l : List Int} : putW (caL loc k c) (.inr "ears") (.tup (intsW l)) = caL loc k { c with y := { c.y with ears := l } } := by kernel_rfl
theorem uC6 {a : Int} : putW (caL loc k c) (.inr "age") (.int a) = caL loc k { c with age := a } := by kernel_rfl
theorem uC7 {b : Bool} : putW (caL loc k c) (.inr "talk") (.bl b) = caL loc k { c with talk := b } := by kernel_rfl
theorem uC8 {j : Nat} : putW (caL loc k c) (.inr "all") (.ref j) = caL (upL loc (.all k) j) k c := by
  have e : caL (upL loc (.all k) j) k c = [(.inr "caller", .int c.c), (.inr "chain", .ref (loc (.chain k))), (.inr "leads", .ref (loc (.leads k))), (.inr "group", optW c.y.group), (.inr "ears", .tup (intsW c.y.ears)), (.inr "age", .int c.age), (.inr "talk", .bl c.talk), (.inr "all", .ref j)] := by
    unfold caL
    rw [upL_ne (by simp), upL_ne (by simp), upL_self]
  rw [e]
  kernel_rfl
end
theorem dgV {S : Sto} {j : Nat} {fs : List (Key × W)} {s : Str} {w : W} (h : S[j]? = some (.dk fs)) (v : valW fs (.inr s) = some w) : dgetW S j (.str s) = some (some w) := (dget_k h rfl).trans (congrArg some v)
theorem dpV {S : Sto} {j : Nat} {fs gs : List (Key × W)} {s : Str} {w : W} (h : S[j]? = some (.dk fs)) (v : putW fs (.inr s) w = gs) : dputW S j (.str s) w = some (S.set j (.dk gs)) := (dput_k h rfl).trans (by rw [v])
/-! ### what the own hall does otherwise -/
theorem uR1 {loc : Ll} {xs : List Wish} {j : Nat} : putW (rootL loc xs) (.inr "open") (.ref j) = rootL (upL loc .opn j) xs := by
  have e := uR (loc := loc) (xs := xs) (l' := upL loc .opn j) (upL_ne (by decide)) (upL_ne (by decide))
  rw [upL_self] at e
  exact e
theorem LhAt.turn {S : Sto} {loc : Ll} {xs : List Wish} {σ : Hl} {f : Int → Ph → Ph} {i : Nat} (h : LhAt S loc xs (mapI σ f i)) (hi : i < 6) (hq : (f (i : Int) (σ.ph (i : Int))).vd σ.n) : LhAt (S.set (loc (.ph (i : Int))) (.dk (phL (f (i : Int) (σ.ph (i : Int)))))) loc xs (mapI σ f (i + 1)) :=
  (h.putPh (by omega) (by omega) hq).eqv (mapI_set σ f i)
theorem LhAt.skip {S : Sto} {loc : Ll} {xs : List Wish} {σ : Hl} {f : Int → Ph → Ph} {i : Nat} (h : LhAt S loc xs (mapI σ f i)) (e : f (i : Int) (σ.ph (i : Int)) = σ.ph (i : Int)) : LhAt S loc xs (mapI σ f (i + 1)) := h.eqv (mapI_skip σ f i e)
theorem LhAt.at6 {S : Sto} {loc : Ll} {xs : List Wish} {σ : Hl} {f : Int → Ph → Ph} {i : Nat} (h : LhAt S loc xs (mapI σ f i)) (hi : i = 6) : LhAt S loc xs (σ.mapPh f) := by
  subst hi
  exact h.eqv (mapI_6 σ f)
theorem LhAt.phI {S : Sto} {loc : Ll} {xs : List Wish} {σ : Hl} {f : Int → Ph → Ph} {i : Nat} (h : LhAt S loc xs (mapI σ f i)) (hi : i < 6) : S[loc (.ph (i : Int))]? = some (.dk (phL (σ.ph (i : Int)))) := by
  have q := h.ph (p := (i : Int)) (by omega) (by omega)
  rw [mapI_at] at q
  exact q
structure BE (σ : Hl) (k : Nat) : Prop where
  rg : ∀ p ∈ (σ.ca k).y.ears, 0 ≤ p ∧ p ≤ 5
  be : ∀ p, 0 ≤ p → p ≤ 5 → ((σ.ph p).bell = some k ↔ p ∈ (σ.ca k).y.ears)
theorem InvG.be {E : Int → Nat → Prop} {L : Nat → Prop} {σ : Hl} (h : InvG E L σ) {k : Nat} (hk : k ∈ σ.op) : BE σ k :=
  ⟨fun p hp => ⟨((h.ca k hk).erh p hp).1, ((h.ca k hk).erh p hp).2.1⟩, fun p h0 h5 => ⟨fun e => (h.bell p k h0 h5 e).2, fun e => ((h.ca k hk).erh p e).2.2⟩⟩

-- LP2
def jq (c o : Nat) (q : Ph) : Nat → Ph
  | 0 => q
  | 1 => q.jn1 c o
  | _ => (q.jn1 c o).jn2 c o
theorem Ph.vd.jn {n c o : Nat} {q : Ph} (h : q.vd n) (hc : c < n) : (((q.jn1 c o).jn2 c o).jn3).vd n := by
  refine ⟨fun k e => ?_, fun k e => ?_, fun k e => ?_⟩
  · rcases jn_now_of (q := q) (c := c) (o := o) e with z | z
    · exact h.1 k z.2
    · rw [z.1]; exact hc
  · rcases (jn_kept_of (q := q) (c := c) (o := o) e).1 with z | z
    · exact h.2.1 k z.2
    · rw [z.1]; exact hc
  · have : (q.jn c o).bell = q.bell := jn_bell
    exact h.2.2 k (by rw [← this]; exact e)

-- LH3
/-- halls that are told alike -/
structure Sim (σ τ : Hl) : Prop where
  n : τ.n = σ.n
  op : τ.op = σ.op
  ph : ∀ p, 0 ≤ p → p ≤ 5 → τ.ph p = σ.ph p
  ca : ∀ k, k < σ.n → (τ.ca k).c = (σ.ca k).c ∧ (τ.ca k).y.chain = (σ.ca k).y.chain ∧ (τ.ca k).y.group = (σ.ca k).y.group ∧ (τ.ca k).y.ears = (σ.ca k).y.ears ∧ (τ.ca k).ppl = (σ.ca k).ppl ∧ (τ.ca k).age = (σ.ca k).age ∧ (τ.ca k).talk = (σ.ca k).talk
theorem LhAt.sim {S : Sto} {loc : Ll} {xs : List Wish} {σ τ : Hl} (h : LhAt S loc xs σ) (e : Sim σ τ) : LhAt S loc xs τ := by
  refine ⟨fun c hc => ?_, fun c d hc hd => h.inj c d (by rw [← e.n]; exact hc) (by rw [← e.n]; exact hd), ⟨fun k hk => by rw [e.n]; exact h.vd.op k (by rw [← e.op]; exact hk), fun p a b => by rw [e.ph p a b, e.n]; exact h.vd.ph p a b⟩⟩
  rw [e.n] at hc
  have q := h.at_ c hc
  cases c with
  | root => exact q
  | phones => exact q
  | calls => show _ = _; rw [e.n]; exact q
  | opn => show _ = _; rw [e.op]; exact q
  | ph p => show _ = _; rw [e.ph p hc.1 hc.2]; exact q
  | ca k =>
    obtain ⟨e1, e2, e3, e4, e5, e6, e7⟩ := e.ca k hc
    show _ = some (O.dk (caL loc k (τ.ca k)))
    unfold caL
    rw [e1, e3, e4, e6, e7]
    exact q
  | chain k => show _ = _; rw [(e.ca k hc).2.1]; exact q
  | leads k => show ∃ l, _ ∧ _; rw [(e.ca k hc).2.1]; exact q
  | all k => show _ = _; rw [(e.ca k hc).2.2.2.2.1]; exact q
theorem Sim.setCa {σ : Hl} {k : Nat} {a b : Ca} (h : b.c = a.c ∧ b.y.chain = a.y.chain ∧ b.y.group = a.y.group ∧ b.y.ears = a.y.ears ∧ b.ppl = a.ppl ∧ b.age = a.age ∧ b.talk = a.talk) : Sim (σ.setCa k a) (σ.setCa k b) := ⟨rfl, rfl, fun _ _ _ => rfl, fun j hj => by
  by_cases z : j = k
  · subst z
    rw [setCa_self, setCa_self]
    exact h
  · rw [setCa_ne z, setCa_ne z]
    exact ⟨rfl, rfl, rfl, rfl, rfl, rfl, rfl⟩⟩
theorem LhAt.putLeads {S : Sto} {loc : Ll} {xs : List Wish} {σ : Hl} (h : LhAt S loc xs σ) {k : Nat} (hk : k < σ.n) {l : List (Int × Int)} (hl : l.length ≤ (σ.ca k).y.chain.length) : LhAt (S.set (loc (.leads k)) (.lst (l.map pairW))) loc xs σ := by
  refine h.put (.leads k) hk rfl h.vd ⟨l, rfl, hl⟩ (fun c hc ne x hx => hx)

-- LP3
/-! ### the own hall, new -/
def iniL (m : Nat) : Ll := fun c => match c with
  | .phones => m
  | .ph p => m + 1 + p.toNat
  | .calls => m + 7
  | .opn => m + 8
  | .root => m + 9
  | _ => m
abbrev pdO : O := .dk [(.inr "up", .bl false), (.inr "now", .non), (.inr "kept", .non), (.inr "bell", .non), (.inr "tone", .str "quiet")]
def iniLO (m : Nat) (xs : List Wish) : Sto :=
  [.lst ((List.range 6).map fun i : Nat => W.ref (m + 1 + i))] ++ (List.replicate 6 pdO ++ [.lst [], .lst [], .dk [(.inr "wishes", .lst (xs.map Wish.w)), (.inr "phones", .ref m), (.inr "calls", .ref (m + 7)), (.inr "many", .int 0), (.inr "open", .ref (m + 8))]])
theorem LhAt.ini {S : Sto} {xs : List Wish} : LhAt (S ++ iniLO S.length xs) (iniL S.length) xs Hl.new := by
  have at' : ∀ i, (S ++ iniLO S.length xs)[S.length + i]? = (iniLO S.length xs)[i]? := fun i => by
    rw [List.getElem?_append_right (by omega)]
    congr 1
    omega
  refine ⟨fun c hc => ?_, fun c d hc hd e => ?_, ⟨fun k hk => (by cases hk), fun p _ _ => ⟨fun k z => (by cases z), fun k z => (by cases z), fun k z => (by cases z)⟩⟩⟩
  · cases c with
    | phones => exact (at' 0).trans rfl
    | calls => exact (at' 7).trans rfl
    | opn => exact (at' 8).trans rfl
    | root => exact (at' 9).trans rfl
    | ph p =>
      obtain ⟨h0, h5⟩ : 0 ≤ p ∧ p ≤ 5 := hc
      have h : p = 0 ∨ p = 1 ∨ p = 2 ∨ p = 3 ∨ p = 4 ∨ p = 5 := by omega
      rcases h with rfl | rfl | rfl | rfl | rfl | rfl
      · exact (at' 1).trans rfl
      · exact (at' 2).trans rfl
      · exact (at' 3).trans rfl
      · exact (at' 4).trans rfl
      · exact (at' 5).trans rfl
      · exact (at' 6).trans rfl
    | ca k => exact absurd hc (Nat.not_lt_zero k)
    | chain k => exact absurd hc (Nat.not_lt_zero k)
    | leads k => exact absurd hc (Nat.not_lt_zero k)
    | all k => exact absurd hc (Nat.not_lt_zero k)
  · have nk : ∀ k : Nat, ¬ k < (Hl.new).n := fun k => Nat.not_lt_zero k
    cases c <;> cases d <;> first
      | rfl
      | exact absurd hc (nk _)
      | exact absurd hd (nk _)
      | (exfalso; simp only [iniL] at e; simp only [okL] at hc hd; omega)
      | (simp only [iniL] at e; simp only [okL] at hc hd; congr 1; omega)
theorem iniL_le {m : Nat} {c : LC} : m ≤ iniL m c := by
  cases c <;> simp only [iniL] <;> omega

-- LP5
/-- tones are told -/
def TnOk (σ : Hl) : Prop := ∀ p : Int, 0 ≤ p → p ≤ 5 → (σ.ph p).tone = "quiet" ∨ (σ.ph p).tone = "dial" ∨ (σ.ph p).tone = "busy"
theorem TnOk.str {σ : Hl} (h : TnOk σ) {p : Int} (h0 : 0 ≤ p) (h5 : p ≤ 5) : PyData.strOk (σ.ph p).tone = true := by
  rcases h p h0 h5 with e | e | e <;> (rw [e]; decide +kernel)
theorem sil_tone {q : Ph} {k : Nat} : (q.sil k).tone = q.tone := by unfold Ph.sil; split <;> rfl
theorem TnOk.new : TnOk Hl.new := fun _ _ _ => .inl rfl
theorem TnOk.setPh {σ : Hl} (h : TnOk σ) {p : Int} {q : Ph} (hq : q.tone = "quiet" ∨ q.tone = "dial" ∨ q.tone = "busy") : TnOk (σ.setPh p q) := fun r h0 h5 => by
  by_cases z : r = p
  · subst z; rw [setPh_self]; exact hq
  · rw [setPh_ne z]; exact h r h0 h5
theorem TnOk.map {σ : Hl} (h : TnOk σ) {f : Int → Ph → Ph} (hf : ∀ r q, (f r q).tone = q.tone ∨ (f r q).tone = "busy") : TnOk (σ.mapPh f) := fun r h0 h5 => by
  show (f r (σ.ph r)).tone = "quiet" ∨ (f r (σ.ph r)).tone = "dial" ∨ (f r (σ.ph r)).tone = "busy"
  rcases hf r (σ.ph r) with e | e
  · rw [e]; exact h r h0 h5
  · exact .inr (.inr e)
theorem TnOk.sil {σ : Hl} (h : TnOk σ) (k : Nat) : TnOk (silF σ k) := h.map (f := fun _ => Ph.sil k) fun r q => .inl sil_tone
theorem TnOk.over {σ : Hl} (h : TnOk σ) (k : Nat) : TnOk (overF σ k) := (h.sil k).map (f := fun _ q => (q.ov1 k).ov2 k) fun r q => by
  unfold Ph.ov2 Ph.ov1
  split <;> split <;> simp
theorem TnOk.ans {σ : Hl} (h : TnOk σ) {k : Nat} {p : Int} (h0 : 0 ≤ p) (h5 : p ≤ 5) : TnOk (ansF σ k p) := fun r r0 r5 => by
  unfold ansF
  by_cases z : r = p
  · subst z
    rw [setPh_self]
    show ((σ.ph r).sil k).tone = "quiet" ∨ ((σ.ph r).sil k).tone = "dial" ∨ ((σ.ph r).sil k).tone = "busy"
    rw [sil_tone]
    exact h r r0 r5
  · rw [setPh_ne z]
    exact h.sil k r r0 r5
theorem TnOk.leave {σ : Hl} (h : TnOk σ) {o : Option Nat} {p : Int} : TnOk (leaveF σ o p) := by
  cases o with
  | none => exact h
  | some k =>
    unfold leaveF
    dsimp only
    split
    · exact TnOk.over (σ := σ.setCa k _) h k
    · exact h
theorem TnOk.lift {σ : Hl} (h : TnOk σ) {p : Int} (h0 : 0 ≤ p) (h5 : p ≤ 5) : TnOk (liftF σ p) := by
  have h1 : TnOk (σ.setPh p { σ.ph p with up := true, tone := "dial" }) := h.setPh (.inr (.inl rfl))
  unfold liftF
  cases (σ.ph p).bell with
  | none => exact h1
  | some k => exact h1.ans h0 h5
theorem TnOk.drop {σ : Hl} (h : TnOk σ) {p : Int} : TnOk (dropF σ p) := ((h.setPh (.inl rfl)).leave).leave
theorem TnOk.hold {σ : Hl} (h : TnOk σ) {p : Int} : TnOk (holdF σ p) := h.setPh (.inr (.inl rfl))
theorem TnOk.swap {σ : Hl} (h : TnOk σ) {p : Int} (h0 : 0 ≤ p) (h5 : p ≤ 5) : TnOk (swapF σ p) := h.setPh (h p h0 h5)
theorem TnOk.take {σ : Hl} (h : TnOk σ) {p : Int} (h0 : 0 ≤ p) (h5 : p ≤ 5) : TnOk (takeF σ p) := by
  unfold takeF
  cases (σ.ph p).bell with
  | none => exact h
  | some k => exact (h.setPh (q := { σ.ph p with kept := (σ.ph p).now }) (h p h0 h5)).ans h0 h5
theorem jn_tone {q : Ph} {c o : Nat} : (q.jn c o).tone = q.tone := by
  unfold Ph.jn Ph.jn3 Ph.jn2 Ph.jn1
  split <;> split <;> split <;> rfl
theorem TnOk.join {σ : Hl} (h : TnOk σ) {p : Int} : TnOk (joinF σ p) := by
  unfold joinF
  split
  · rename_i c o _ _
    exact TnOk.map (σ := σ.setCa c _) h (f := fun _ q => q.jn c o) fun r q => .inl jn_tone
  · exact h
theorem TnOk.ring {σ : Hl} (h : TnOk σ) {k : Nat} {y : Wy} : TnOk (ringF σ k y) := TnOk.map (σ := σ.setCa k _) h fun r q => .inl (by split <;> rfl)
theorem TnOk.on {σ : Hl} (h : TnOk σ) {k : Nat} {xs : List Wish} {g : Int} : TnOk (onF σ xs k g) := by
  unfold onF
  dsimp only
  split
  · exact h.ring.over k
  · exact h.ring
theorem TnOk.dial {σ : Hl} (h : TnOk σ) {p g : Int} {xs : List Wish} (h0 : 0 ≤ p) (h5 : p ≤ 5) : TnOk (dialF σ xs p g) :=
  TnOk.on (σ := dial0 σ p) (fun r r0 r5 => h.setPh (p := p) (q := { σ.ph p with now := some σ.n }) (h p h0 h5) r r0 r5)
theorem TnOk.late {σ : Hl} (h : TnOk σ) {k : Nat} {xs : List Wish} : TnOk (lateF σ xs k) := by
  unfold lateF
  split
  · split
    · exact TnOk.on (σ := late0 σ k _ _) (h.sil k)
    · split
      · exact h.over k
      · exact h
  · split
    · exact h.over k
    · exact h
theorem TnOk.beat1 {σ : Hl} (h : TnOk σ) {k : Nat} {xs : List Wish} : TnOk (beat1 xs σ k) := by
  unfold AM.beat1
  split
  · exact TnOk.late (σ := σ.setCa k _) h
  · exact h
theorem TnOk.beats {xs : List Wish} : ∀ {l : List Nat} {σ : Hl}, TnOk σ → TnOk (l.foldl (AM.beat1 xs) σ)
  | [], _, h => h
  | _ :: l, _, h => TnOk.beats (l := l) h.beat1

-- LP6
abbrev dropA (σ : Hl) (p : Int) : Hl := σ.setPh p { σ.ph p with up := false, now := none, kept := none, tone := "quiet" }
/-! ### the program's hall and the own one beside one another -/
structure Both (C : Cs) (S0 S : Sto) (loh : Pl) (σ : Hl) (lol : Ll) (τ : Hl) (xs : List Wish) : Prop where
  hh : HallAt C S loh xs σ
  hl : LhAt S lol xs τ
  dj : ∀ c d, okC σ.n c → okL τ.n d → loh c ≠ lol d
  f1 : ∀ c, okC σ.n c → S0.length ≤ loh c
  f2 : ∀ d, okL τ.n d → S0.length ≤ lol d
  kp : ∀ i, i < S0.length → S[i]? = S0[i]?
  le : S0.length ≤ S.length
theorem HallAt.keepAt {C : Cs} {S S' : Sto} {loc : Pl} {xs : List Wish} {σ : Hl} (h : HallAt C S loc xs σ) (k : ∀ c, okC σ.n c → S'[loc c]? = S[loc c]?) : HallAt C S' loc xs σ :=
  ⟨fun c hc => (k c hc).trans (h.at_ c hc), h.inj, h.vd⟩
theorem LhAt.keepAt {S S' : Sto} {loc : Ll} {xs : List Wish} {σ : Hl} (h : LhAt S loc xs σ) (k : ∀ c, okL σ.n c → S'[loc c]? = S[loc c]?) : LhAt S' loc xs σ :=
  ⟨fun c hc => by rw [k c hc]; exact h.at_ c hc, h.inj, h.vd⟩
section
variable {C : Cs} {S0 S S' : Sto} {loh loh' : Pl} {σ σ' τ τ' : Hl} {lol lol' : Ll} {xs : List Wish}
theorem Both.own (b : Both C S0 S loh σ lol τ xs) (h : LhAt S' lol' xs τ') (x : Lx lol lol' τ.n τ'.n S S') : Both C S0 S' loh σ lol' τ' xs where
  hh := b.hh.keepAt fun c hc => x.off (loh c) (b.hh.lt hc) fun d hd e => b.dj c d hc hd e.symm
  hl := h
  dj := fun c d hc hd => by
    have lt := b.hh.lt hc
    by_cases z : okL τ.n d
    · rcases x.keep d z with e | e
      · rw [e]; exact b.dj c d hc z
      · omega
    · have := x.new d hd z
      omega
  f1 := b.f1
  f2 := fun d hd => by
    by_cases z : okL τ.n d
    · rcases x.keep d z with e | e
      · rw [e]; exact b.f2 d z
      · exact Nat.le_trans b.le e
    · exact Nat.le_trans b.le (x.new d hd z)
  kp := fun i hi => by
    rw [← b.kp i hi]
    exact x.off i (Nat.lt_of_lt_of_le hi b.le) fun d hd e => by
      have := b.f2 d hd
      omega
  le := Nat.le_trans b.le x.le
theorem Both.prog (b : Both C S0 S loh σ lol τ xs) (h : HallAt C S' loh' xs σ') (x : Nx loh loh' σ.n σ'.n S S') : Both C S0 S' loh' σ' lol τ xs where
  hh := h
  hl := b.hl.keepAt fun d hd => x.off (lol d) (b.hl.lt hd) fun c hc e => b.dj c d hc hd e
  dj := fun c d hc hd => by
    have lt := b.hl.lt hd
    by_cases z : okC σ.n c
    · rw [x.same c z]; exact b.dj c d z hd
    · have := x.new c hc z
      omega
  f1 := fun c hc => by
    by_cases z : okC σ.n c
    · rw [x.same c z]; exact b.f1 c z
    · exact Nat.le_trans b.le (x.new c hc z)
  f2 := b.f2
  kp := fun i hi => by
    rw [← b.kp i hi]
    exact x.off i (Nat.lt_of_lt_of_le hi b.le) fun c hc e => by
      have := b.f1 c hc
      omega
  le := Nat.le_trans b.le x.len
theorem Both.app (b : Both C S0 S loh σ lol τ xs) (T : Sto) : Both C S0 (S ++ T) loh σ lol τ xs where
  hh := b.hh.app
  hl := b.hl.app T
  dj := b.dj
  f1 := b.f1
  f2 := b.f2
  kp := fun i hi => by rw [← b.kp i hi]; exact List.getElem?_append_left (Nat.lt_of_lt_of_le hi b.le)
  le := by rw [List.length_append]; exact Nat.le_trans b.le (Nat.le_add_right _ _)
theorem Both.put (b : Both C S0 S loh σ lol τ xs) {j : Nat} {o : O} (h0 : S0.length ≤ j) (h1 : ∀ c, okC σ.n c → loh c ≠ j) (h2 : ∀ d, okL τ.n d → lol d ≠ j) : Both C S0 (S.set j o) loh σ lol τ xs where
  hh := b.hh.keepAt fun c hc => List.getElem?_set_ne (h1 c hc).symm
  hl := b.hl.keepAt fun d hd => List.getElem?_set_ne (h2 d hd).symm
  dj := b.dj
  f1 := b.f1
  f2 := b.f2
  kp := fun i hi => by rw [← b.kp i hi]; exact List.getElem?_set_ne (by omega)
  le := by rw [List.length_set]; exact b.le
theorem Both.new {R : Sto} : Both C R ((R ++ iniO C R.length xs) ++ iniLO (R ++ iniO C R.length xs).length xs) (iniLoc R.length) Hl.new (iniL (R ++ iniO C R.length xs).length) Hl.new xs where
  hh := HallAt.app HallAt.ini
  hl := LhAt.ini
  dj := fun c d hc hd => by
    have h1 := (HallAt.ini (C := C) (S := R) (xs := xs)).lt hc
    have h2 := iniL_le (m := (R ++ iniO C R.length xs).length) (c := d)
    omega
  f1 := fun c _ => iniLoc_le
  f2 := fun d _ => Nat.le_trans (by rw [List.length_append]; omega) iniL_le
  kp := fun i hi => by
    rw [List.append_assoc]
    exact List.getElem?_append_left hi
  le := by rw [List.append_assoc, List.length_append]; omega
theorem Both.low {R : Sto} (b : Both C (S0 ++ R) S loh σ lol τ xs) : Both C S0 S loh σ lol τ xs where
  hh := b.hh
  hl := b.hl
  dj := b.dj
  f1 := fun c hc => Nat.le_trans (by rw [List.length_append]; omega) (b.f1 c hc)
  f2 := fun c hc => Nat.le_trans (by rw [List.length_append]; omega) (b.f2 c hc)
  kp := fun i hi => by
    rw [b.kp i (by rw [List.length_append]; omega)]
    exact List.getElem?_append_left hi
  le := Nat.le_trans (by rw [List.length_append]; omega) b.le
theorem Both.split {U : Sto} (b : Both C S0 S loh σ lol τ xs) (hU : U <+: S0) : S = U ++ S.drop U.length := by
  obtain ⟨R, e⟩ := hU
  have le := b.le
  rw [← e, List.length_append] at le
  refine List.ext_getElem? fun i => ?_
  by_cases hi : i < U.length
  · rw [List.getElem?_append_left hi, b.kp i (by rw [← e, List.length_append]; omega), ← e, List.getElem?_append_left hi]
  · rw [List.getElem?_append_right (by omega), List.getElem?_drop]
    congr 1
    omega
end

-- K7
/-! ### a phone that is up doesn't hear quiet -/
def TnU (σ : Hl) : Prop := ∀ p : Int, 0 ≤ p → p ≤ 5 → (σ.ph p).up = true → (σ.ph p).tone ≠ "quiet"
theorem TnU.new : TnU Hl.new := fun _ _ _ z => nomatch z
theorem TnU.setPh {σ : Hl} (h : TnU σ) {p : Int} {q : Ph} (hq : q.up = true → q.tone ≠ "quiet") : TnU (σ.setPh p q) := fun r h0 h5 => by
  by_cases z : r = p
  · subst z; rw [setPh_self]; exact hq
  · rw [setPh_ne z]; exact h r h0 h5
theorem TnU.map {σ : Hl} (h : TnU σ) {f : Int → Ph → Ph} (hf : ∀ r q, (f r q).up = q.up ∧ ((f r q).tone = q.tone ∨ (f r q).tone = "busy")) : TnU (σ.mapPh f) := fun r h0 h5 hu => by
  have hu : (f r (σ.ph r)).up = true := hu
  show (f r (σ.ph r)).tone ≠ "quiet"
  rcases hf r (σ.ph r) with ⟨e0, e | e⟩
  · rw [e]; exact h r h0 h5 (by rw [← e0]; exact hu)
  · rw [e]; decide
theorem TnU.sil {σ : Hl} (h : TnU σ) (k : Nat) : TnU (silF σ k) := h.map (f := fun _ => Ph.sil k) fun r q => ⟨sil_up, .inl sil_tone⟩
theorem TnU.over {σ : Hl} (h : TnU σ) (k : Nat) : TnU (overF σ k) := (h.sil k).map (f := fun _ q => (q.ov1 k).ov2 k) fun r q => ⟨ov_up, by
  unfold Ph.ov2 Ph.ov1
  split <;> split <;> simp⟩
theorem TnU.ans {σ : Hl} (h : TnU σ) {k : Nat} {p : Int} (h0 : 0 ≤ p) (h5 : p ≤ 5) : TnU (ansF σ k p) := fun r r0 r5 => by
  unfold ansF
  by_cases z : r = p
  · subst z
    rw [setPh_self]
    show ((σ.ph r).sil k).up = true → ((σ.ph r).sil k).tone ≠ "quiet"
    rw [sil_tone, sil_up]
    exact h r r0 r5
  · rw [setPh_ne z]
    exact h.sil k r r0 r5
theorem TnU.leave {σ : Hl} (h : TnU σ) {o : Option Nat} {p : Int} : TnU (leaveF σ o p) := by
  cases o with
  | none => exact h
  | some k =>
    unfold leaveF
    dsimp only
    split
    · exact TnU.over (σ := σ.setCa k _) h k
    · exact h
theorem TnU.lift {σ : Hl} (h : TnU σ) {p : Int} (h0 : 0 ≤ p) (h5 : p ≤ 5) : TnU (liftF σ p) := by
  have h1 : TnU (σ.setPh p { σ.ph p with up := true, tone := "dial" }) := h.setPh (fun _ => by show ("dial" : Str) ≠ "quiet"; decide)
  unfold liftF
  cases (σ.ph p).bell with
  | none => exact h1
  | some k => exact h1.ans h0 h5
theorem TnU.drop {σ : Hl} (h : TnU σ) {p : Int} : TnU (dropF σ p) := ((h.setPh (fun (z : false = true) => nomatch z)).leave).leave
theorem TnU.hold {σ : Hl} (h : TnU σ) {p : Int} : TnU (holdF σ p) := h.setPh (fun _ => by show ("dial" : Str) ≠ "quiet"; decide)
theorem TnU.swap {σ : Hl} (h : TnU σ) {p : Int} (h0 : 0 ≤ p) (h5 : p ≤ 5) : TnU (swapF σ p) := h.setPh (h p h0 h5)
theorem TnU.take {σ : Hl} (h : TnU σ) {p : Int} (h0 : 0 ≤ p) (h5 : p ≤ 5) : TnU (takeF σ p) := by
  unfold takeF
  cases (σ.ph p).bell with
  | none => exact h
  | some k => exact (h.setPh (q := { σ.ph p with kept := (σ.ph p).now }) (h p h0 h5)).ans h0 h5
theorem TnU.join {σ : Hl} (h : TnU σ) {p : Int} : TnU (joinF σ p) := by
  unfold joinF
  split
  · rename_i c o _ _
    exact TnU.map (σ := σ.setCa c _) h (f := fun _ q => q.jn c o) fun r q => ⟨jn_up, .inl jn_tone⟩
  · exact h
theorem TnU.ring {σ : Hl} (h : TnU σ) {k : Nat} {y : Wy} : TnU (ringF σ k y) := TnU.map (σ := σ.setCa k _) h fun r q => ⟨by split <;> rfl, .inl (by split <;> rfl)⟩
theorem TnU.on {σ : Hl} (h : TnU σ) {k : Nat} {xs : List Wish} {g : Int} : TnU (onF σ xs k g) := by
  unfold onF
  dsimp only
  split
  · exact h.ring.over k
  · exact h.ring
theorem TnU.dial {σ : Hl} (h : TnU σ) {p g : Int} {xs : List Wish} (h0 : 0 ≤ p) (h5 : p ≤ 5) : TnU (dialF σ xs p g) :=
  TnU.on (σ := dial0 σ p) (fun r r0 r5 => h.setPh (p := p) (q := { σ.ph p with now := some σ.n }) (h p h0 h5) r r0 r5)
theorem TnU.late {σ : Hl} (h : TnU σ) {k : Nat} {xs : List Wish} : TnU (lateF σ xs k) := by
  unfold lateF
  split
  · split
    · exact TnU.on (σ := late0 σ k _ _) (h.sil k)
    · split
      · exact h.over k
      · exact h
  · split
    · exact h.over k
    · exact h
theorem TnU.beat1 {σ : Hl} (h : TnU σ) {k : Nat} {xs : List Wish} : TnU (beat1 xs σ k) := by
  unfold AM.beat1
  split
  · exact TnU.late (σ := σ.setCa k _) h
  · exact h
theorem TnU.beats {xs : List Wish} : ∀ {l : List Nat} {σ : Hl}, TnU σ → TnU (l.foldl (AM.beat1 xs) σ)
  | [], _, h => h
  | _ :: l, _, h => TnU.beats (l := l) h.beat1
/-! ### bells are just where calls ring -/
/-! ### what a phone hears -/
inductive Hear (σ : Hl) (p : Int) : Prop
  | down (b : Bool) (h1 : (σ.ph p).up = false) (h2 : (σ.ph p).bell.isSome = b) (h3 : hearF σ p = ((if b = true then ("bell" : Str) else "quiet"), ([] : List Int), false))
  | tone (t : Str) (h1 : t = "dial" ∨ t = "busy") (h3 : hearF σ p = (t, [], (σ.ph p).bell.isSome))
  | rings (k : Nat) (h1 : (σ.ph p).now = some k) (h2 : (σ.ca k).talk = false) (h3 : hearF σ p = (("rings" : Str), ([] : List Int), (σ.ph p).bell.isSome))
  | music (k : Nat) (h1 : (σ.ph p).now = some k) (h3 : hearF σ p = (("music" : Str), ([] : List Int), (σ.ph p).bell.isSome))
  | talk (k : Nat) (h1 : (σ.ph p).now = some k) (h2 : (σ.ca k).talk = true) (h4 : voices σ k p ≠ []) (h3 : hearF σ p = (("talk" : Str), sortI (voices σ k p), (σ.ph p).bell.isSome))
theorem sortI_perm {l : List Int} : (sortI l).Perm l := List.mergeSort_perm l _
theorem sortI_mem {l : List Int} {x : Int} : x ∈ sortI l ↔ x ∈ l := sortI_perm.mem_iff
/-! ### the calls a phone is in -/
/-! ### by other numbers -/
structure Ren (ν μ : Int → Int) : Prop where
  l : ∀ i, μ (ν i) = i
  r : ∀ i, ν (μ i) = i
  p : ∀ i, (0 ≤ ν i ∧ ν i ≤ 5) ↔ (0 ≤ i ∧ i ≤ 5)
  g : ∀ i, 6 ≤ ν i ↔ 6 ≤ i
  t : ∀ i, ν i ≤ 7 ↔ i ≤ 7
section
variable {ν μ : Int → Int}
theorem Ren.inj (h : Ren ν μ) {i j : Int} (e : ν i = ν j) : i = j := by rw [← h.l i, ← h.l j, e]
theorem Ren.eq (h : Ren ν μ) {i j : Int} : ν i = ν j ↔ i = j := ⟨h.inj, fun e => by rw [e]⟩
theorem Ren.mu (h : Ren ν μ) {r p : Int} : μ r = p ↔ r = ν p := ⟨fun e => by rw [← e, h.r], fun e => by rw [e, h.l]⟩
theorem Ren.mem (h : Ren ν μ) {p : Int} {l : List Int} : ν p ∈ l.map ν ↔ p ∈ l := by
  rw [List.mem_map]
  exact ⟨fun ⟨x, hx, e⟩ => by rw [← h.inj e]; exact hx, fun hx => ⟨p, hx, rfl⟩⟩
theorem Ren.mem' (h : Ren ν μ) {r : Int} {l : List Int} : r ∈ l.map ν ↔ μ r ∈ l := by
  have := h.mem (p := μ r) (l := l)
  rwa [h.r] at this
theorem Ren.erase (h : Ren ν μ) {p : Int} : ∀ {l : List Int}, (l.map ν).erase (ν p) = (l.erase p).map ν
  | [] => rfl
  | a :: l => by
    by_cases e : a = p
    · subst e
      rw [List.map_cons, List.erase_cons_head, List.erase_cons_head]
    · have e2 : ν a ≠ ν p := fun z => e (h.inj z)
      rw [List.map_cons, List.erase_cons_tail (by simpa using e2), List.erase_cons_tail (by simpa using e), List.map_cons, h.erase]
theorem sortI_nil : sortI [] = [] := by unfold sortI; rw [List.mergeSort_nil]
theorem sortI_one {a : Int} : sortI [a] = [a] := by unfold sortI; rw [List.mergeSort_singleton]
theorem sortI_le {l : List Int} : (sortI l).Pairwise (· ≤ ·) := by
  have := List.pairwise_mergeSort (le := fun x y : Int => decide (x ≤ y)) (fun a b c h1 h2 => by simp at *; omega) (fun a b => by simp; omega) l
  exact this.imp fun z => of_decide_eq_true z
theorem sorted_eq {a b : List Int} (p : a.Perm b) (h1 : a.Pairwise (· ≤ ·)) (h2 : b.Pairwise (· ≤ ·)) : a = b :=
  List.Perm.eq_of_pairwise (le := fun x y : Int => x ≤ y) (fun x y _ _ h1 h2 => Int.le_antisymm h1 h2) h1 h2 p
theorem sortI_of_perm {a b : List Int} (p : a.Perm b) : sortI a = sortI b := sorted_eq ((sortI_perm (l := a)).trans (p.trans (sortI_perm (l := b)).symm)) sortI_le sortI_le
theorem sortI_filter {a : List Int} {f : Int → Bool} : (sortI a).filter f = sortI (a.filter f) :=
  sorted_eq (((sortI_perm (l := a)).filter f).trans (sortI_perm (l := a.filter f)).symm) (sortI_le.sublist List.filter_sublist) sortI_le
theorem sortI_isnil {a : List Int} : sortI a = [] ↔ a = [] := by
  constructor
  · intro e
    have := (sortI_perm (l := a)).length_eq
    rw [e] at this
    exact List.eq_nil_of_length_eq_zero this.symm
  · rintro rfl; exact sortI_nil
theorem sortI_isone {a : List Int} {x : Int} : sortI a = [x] ↔ a = [x] := by
  constructor
  · intro e
    have q := sortI_perm (l := a)
    rw [e] at q
    exact (List.singleton_perm.mp q).symm
  · rintro rfl; exact sortI_one
theorem Ren.filter (h : Ren ν μ) {f g : Int → Bool} {l : List Int} (e : ∀ x ∈ l, g (ν x) = f x) : (l.map ν).filter g = (l.filter f).map ν := by
  rw [List.filter_map]
  congr 1
  exact List.filter_congr fun x hx => e x hx
/-- wishes -/
def Wish.re (ν : Int → Int) : Wish → Wish
  | .all p g => .all (ν p) (ν g)
  | .busy p g => .busy (ν p) (ν g)
  | .late p g t => .late (ν p) (ν g) t
  | .wait p => .wait (ν p)
  | .still p => .still (ν p)
  | .bar p o => .bar (ν p) (ν o)
  | .group g ms => .group (ν g) (sortI (ms.map ν))
def kr (ν : Int → Int) : Key → Key
  | .inl i => .inl (ν i)
  | .inr x => .inr x
theorem Wish.re_key (ν : Int → Int) (x : Wish) : (x.re ν).key = x.key.map (kr ν) := by cases x <;> rfl
theorem Ren.kr (h : Ren ν μ) {a b : Key} (e : AM.kr ν a = AM.kr ν b) : a = b := by
  cases a <;> cases b <;> simp only [AM.kr, Sum.inl.injEq, Sum.inr.injEq] at e
  · rw [h.inj e]
  · cases e
  · cases e
  · rw [e]
theorem Ren.krs (h : Ren ν μ) : ∀ {a b : List Key}, a.map (AM.kr ν) = b.map (AM.kr ν) → a = b
  | [], [], _ => rfl
  | [], _ :: _, e => by cases e
  | _ :: _, [], e => by cases e
  | x :: a, y :: b, e => by
    obtain ⟨e1, e2⟩ := List.cons.inj e
    rw [h.kr e1, h.krs e2]
theorem Ren.get (h : Ren ν μ) (xs : List Wish) (k : List Key) : getB (xs.map (Wish.re ν)) (k.map (AM.kr ν)) = (getB xs k).map (Wish.re ν) := by
  unfold getB
  rw [List.find?_map]
  congr 2
  funext x
  show decide ((x.re ν).key = _) = _
  rw [Wish.re_key]
  exact decide_eq_decide.mpr ⟨h.krs, fun e => by rw [e]⟩
theorem Ren.has (h : Ren ν μ) (xs : List Wish) (k : List Key) : hasB (xs.map (Wish.re ν)) (k.map (AM.kr ν)) = hasB xs k := by
  unfold hasB
  rw [h.get]
  cases getB xs k <;> rfl
theorem Ren.bars (h : Ren ν μ) {xs : List Wish} {p c : Int} : barsF (xs.map (Wish.re ν)) (ν p) (ν c) = barsF xs p c := h.has xs [.inr "bar", .inl p, .inl c]
theorem Ren.still (h : Ren ν μ) {xs : List Wish} {p : Int} : stillF (xs.map (Wish.re ν)) (ν p) = stillF xs p := h.has xs [.inr "still", .inl p]
theorem Ren.wait (h : Ren ν μ) {xs : List Wish} {p : Int} : waitF (xs.map (Wish.re ν)) (ν p) = waitF xs p := h.has xs [.inr "wait", .inl p]
theorem Ren.goal (h : Ren ν μ) {xs : List Wish} {w : Str} {p : Int} : goalF (xs.map (Wish.re ν)) w (ν p) = (goalF xs w p).map ν := by
  unfold goalF
  have e := h.get xs [.inr w, .inl p]
  have e : getB (xs.map (Wish.re ν)) [.inr w, .inl (ν p)] = _ := e
  rw [e]
  cases getB xs [.inr w, .inl p] with
  | none => rfl
  | some x => cases x <;> rfl
theorem Ren.members (h : Ren ν μ) {xs : List Wish} {g : Int} : membersF (xs.map (Wish.re ν)) (ν g) = sortI ((membersF xs g).map ν) := by
  unfold membersF
  have e := h.get xs [.inr "group", .inl g]
  have e : getB (xs.map (Wish.re ν)) [.inr "group", .inl (ν g)] = _ := e
  rw [e]
  cases getB xs [.inr "group", .inl g] with
  | none => exact sortI_nil.symm
  | some x => cases x <;> first | rfl | exact sortI_nil.symm
theorem Ren.late (h : Ren ν μ) {xs : List Wish} {p : Int} : lateB (xs.map (Wish.re ν)) (ν p) = (lateB xs p).map fun r => (r.1, ν r.2) := by
  unfold lateB
  have e := h.get xs [.inr "late", .inl p]
  have e : getB (xs.map (Wish.re ν)) [.inr "late", .inl (ν p)] = _ := e
  rw [e]
  cases getB xs [.inr "late", .inl p] with
  | none => rfl
  | some x => cases x <;> rfl
/-! ways -/
def Wy.re (ν : Int → Int) (y : Wy) : Wy := ⟨y.chain.map ν, y.leads.map fun q => (ν q.1, ν q.2), y.group.map ν, y.word, sortI (y.ears.map ν)⟩
theorem Wy.re_new : Wy.new.re ν = Wy.new := by
  unfold Wy.re Wy.new
  rw [List.map_nil, sortI_nil]
  rfl
theorem Wy.re_no {y : Wy} : y.noEars.re ν = (y.re ν).noEars := by
  unfold Wy.re Wy.noEars
  rw [List.map_nil, sortI_nil]
theorem Wy.re_nil {y : Wy} : (y.re ν).ears = [] ↔ y.ears = [] := by
  show sortI (y.ears.map ν) = [] ↔ _
  rw [sortI_isnil, List.map_eq_nil_iff]
/-- states by other numbers -/
def StR (ν : Int → Int) (st st' : List Bool) : Prop := ∀ p, 0 ≤ p → p ≤ 5 → st'.getD (ν p).toNat default = st.getD p.toNat default
theorem goal_rng {xs : List Wish} (ho : ∀ x ∈ xs, x.ok) {w : Str} {p g : Int} (h : goalF xs w p = some g) : 0 ≤ g ∧ g ≤ 7 := by
  unfold goalF at h
  split at h
  · rename_i a b e
    cases h
    have := ho _ (getB_key e).2
    exact ⟨this.2.2.1, this.2.2.2.1⟩
  · rename_i a b e
    cases h
    have := ho _ (getB_key e).2
    exact ⟨this.2.2.1, this.2.2.2.1⟩
  · cases h
theorem late_rng {xs : List Wish} (ho : ∀ x ∈ xs, x.ok) {p g t : Int} (h : lateB xs p = some (t, g)) : 0 ≤ g ∧ g ≤ 7 := by
  unfold lateB at h
  split at h
  · rename_i a b c e
    cases h
    have := ho _ (getB_key e).2
    exact ⟨this.2.2.1, this.2.2.2.1⟩
  · cases h
def renN (ν : Int → Int) : Int ⊕ (Str × List Int) → Int ⊕ (Str × List Int)
  | .inl g => .inl (ν g)
  | .inr (w, l) => .inr (w, l.map ν)
theorem Ren.next (h : Ren ν μ) {xs : List Wish} {c p : Int} {st kn st' kn' : List Bool} (p0 : 0 ≤ p) (p5 : p ≤ 5) (hs : StR ν st st') (hk : StR ν kn kn') : nextF (xs.map (Wish.re ν)) (ν c) (ν p) st' kn' = renN ν (nextF xs c p st kn) := by
  have e1 : busyF st' (ν p) = busyF st p := hs p p0 p5
  have e2 : decide (ν p = ν c) = decide (p = c) := decide_eq_decide.mpr h.eq
  unfold nextF
  rw [h.bars, h.goal, h.still, h.goal, h.wait, e1, e2, hk p p0 p5]
  split
  · rfl
  · cases goalF xs "all" p with
    | some g => rfl
    | none =>
      dsimp only [Option.map]
      split
      · rfl
      · split
        · rfl
        · split
          · rfl
          · cases goalF xs "busy" p <;> rfl
theorem Ren.rings (h : Ren ν μ) {xs : List Wish} (ho : ∀ x ∈ xs, x.ok) {c g : Int} {st st' : List Bool} (hs : StR ν st st') : ringsF (xs.map (Wish.re ν)) (ν c) (ν g) st' = sortI ((ringsF xs c g st).map ν) := by
  unfold ringsF
  rw [h.members, sortI_filter]
  congr 1
  refine h.filter fun x hx => ?_
  obtain ⟨x0, x5⟩ := members_ok ho hx
  unfold ringsOk
  rw [h.bars, h.still, decide_eq_decide.mpr (h.eq (i := x) (j := c))]
  have e1 : busyF st' (ν x) = busyF st x := hs x x0 x5
  rw [e1]
theorem Ren.step (h : Ren ν μ) {xs : List Wish} (ho : ∀ x ∈ xs, x.ok) {c n : Int} {st kn st' kn' : List Bool} (n0 : 0 ≤ n) (hs : StR ν st st') (hk : StR ν kn kn') (y : Wy) :
    stepF (xs.map (Wish.re ν)) (ν c) st' kn' (y.re ν) (ν n) = ((stepF xs c st kn y n).1.re ν, (stepF xs c st kn y n).2.map ν) := by
  unfold stepF
  by_cases n6 : 6 ≤ n
  · rw [if_pos n6, if_pos ((h.g n).mpr n6), h.rings ho hs]
    dsimp only
    have e : (if sortI (List.map ν (ringsF xs c n st)) = [] then ("nobody" : Str) else "rings") = if ringsF xs c n st = [] then ("nobody" : Str) else "rings" := by
      by_cases z : ringsF xs c n st = []
      · rw [if_pos z, if_pos (by rw [z, List.map_nil, sortI_nil])]
      · rw [if_neg z, if_neg (by rw [sortI_isnil, List.map_eq_nil_iff]; exact z)]
    rw [e]
    rfl
  · rw [if_neg n6, if_neg (fun z => n6 ((h.g n).mp z))]
    by_cases m : n ∈ y.chain
    · rw [if_pos m, if_pos (show ν n ∈ (y.re ν).chain from h.mem.mpr m)]
      dsimp only [Option.map]
      unfold Wy.re
      rw [List.map_nil, sortI_nil]
    · rw [if_neg m, if_neg (fun z : ν n ∈ (y.re ν).chain => m (h.mem.mp z)), h.next n0 (by omega) hs hk]
      have e1 : ∀ {l : List Int}, (y.re ν).chain ++ [ν n] = (y.chain ++ [n]).map ν := fun {l} => by rw [List.map_append]; rfl
      have e2 : ∀ g, (y.re ν).leads ++ [(ν n, ν g)] = (y.leads ++ [(n, g)]).map fun q => (ν q.1, ν q.2) := fun g => by rw [List.map_append]; rfl
      cases hx : nextF xs c n st kn with
      | inl g =>
        dsimp only [renN]
        rw [e1 (l := []), e2]
        rfl
      | inr q =>
        obtain ⟨w, l⟩ := q
        dsimp only [renN]
        rw [e1 (l := [])]
        have e3 : l.map ν = sortI (l.map ν) := by
          have hl : l = [] ∨ ∃ a, l = [a] := by
            unfold nextF at hx
            repeat' split at hx
            all_goals first | (cases hx; exact .inl rfl) | (cases hx; exact .inr ⟨_, rfl⟩) | cases hx
          rcases hl with rfl | ⟨a, rfl⟩
          · exact sortI_nil.symm
          · exact sortI_one.symm
        rw [e3]
        rfl
theorem step_rng {xs : List Wish} (ho : ∀ x ∈ xs, x.ok) {c n g : Int} {st kn : List Bool} {y y' : Wy} (e : stepF xs c st kn y n = (y', some g)) : 0 ≤ g ∧ g ≤ 7 := by
  unfold stepF at e
  split at e
  · cases e
  · split at e
    · cases e
    · split at e
      · rename_i g' hx
        cases e
        unfold nextF at hx
        repeat' split at hx
        all_goals first | (cases hx; done) | (rename_i z; cases hx; exact goal_rng ho z)
      · cases e
theorem Ren.go (h : Ren ν μ) {xs : List Wish} (ho : ∀ x ∈ xs, x.ok) {c : Int} {st kn st' kn' : List Bool} (hs : StR ν st st') (hk : StR ν kn kn') : ∀ (f : Nat) (y : Wy) (n : Int), 0 ≤ n →
    goF (xs.map (Wish.re ν)) (ν c) st' kn' f (y.re ν) (ν n) = (goF xs c st kn f y n).re ν
  | 0, _, _, _ => rfl
  | f + 1, y, n, n0 => by
    unfold goF
    rw [h.step ho n0 hs hk]
    cases e : stepF xs c st kn y n with
    | mk y' o =>
      cases o with
      | none => rfl
      | some g => exact h.go ho hs hk f y' g (step_rng ho e).1
/-! halls -/
def Ca.re (ν : Int → Int) (c : Ca) : Ca := ⟨ν c.c, c.y.re ν, c.ppl.map ν, c.age, c.talk⟩
def Hl.re (ν μ : Int → Int) (σ : Hl) : Hl := ⟨fun p => σ.ph (μ p), fun k => (σ.ca k).re ν, σ.n, σ.op⟩
theorem Hl.ext {a b : Hl} (h1 : ∀ p, a.ph p = b.ph p) (h2 : ∀ k, a.ca k = b.ca k) (h3 : a.n = b.n) (h4 : a.op = b.op) : a = b := by
  obtain ⟨a1, a2, a3, a4⟩ := a
  obtain ⟨b1, b2, b3, b4⟩ := b
  have e1 : a1 = b1 := funext h1
  have e2 : a2 = b2 := funext h2
  have e3 : a3 = b3 := h3
  have e4 : a4 = b4 := h4
  rw [e1, e2, e3, e4]
theorem Ren.setPh (h : Ren ν μ) {σ : Hl} {p : Int} {q : Ph} : (σ.setPh p q).re ν μ = (σ.re ν μ).setPh (ν p) q := by
  refine Hl.ext (fun r => ?_) (fun k => rfl) rfl rfl
  show (if μ r = p then q else σ.ph (μ r)) = if r = ν p then q else σ.ph (μ r)
  by_cases e : μ r = p
  · rw [if_pos e, if_pos (h.mu.mp e)]
  · rw [if_neg e, if_neg fun z => e (h.mu.mpr z)]
theorem re_setCa {σ : Hl} {k : Nat} {c : Ca} : (σ.setCa k c).re ν μ = (σ.re ν μ).setCa k (c.re ν) := by
  refine Hl.ext (fun r => rfl) (fun j => ?_) rfl rfl
  show Ca.re ν (if j = k then c else σ.ca j) = if j = k then c.re ν else (σ.ca j).re ν
  split <;> rfl
theorem Ren.ph (h : Ren ν μ) {σ : Hl} {p : Int} : (σ.re ν μ).ph (ν p) = σ.ph p := by show σ.ph (μ (ν p)) = _; rw [h.l]
theorem Ca.re_no {c : Ca} : c.noEars.re ν = (c.re ν).noEars := by
  show (⟨_, Wy.re ν c.y.noEars, _, _, _⟩ : Ca) = _
  rw [Wy.re_no]
  rfl
theorem re_sil {σ : Hl} {k : Nat} : (silF σ k).re ν μ = silF (σ.re ν μ) k := by
  unfold silF
  rw [re_setCa, Ca.re_no]
  rfl
theorem re_over {σ : Hl} {k : Nat} : (overF σ k).re ν μ = overF (σ.re ν μ) k := by
  have e := re_sil (ν := ν) (μ := μ) (σ := σ) (k := k)
  unfold overF
  refine Hl.ext (fun r => ?_) (fun j => ?_) ?_ rfl
  · have := congrArg (fun t => ((t.ph r).ov1 k).ov2 k) e
    exact this
  · exact congrArg (fun t => t.ca j) e
  · exact congrArg (fun t => t.n) e
theorem Ren.ans (h : Ren ν μ) {σ : Hl} {k : Nat} {p : Int} : (ansF σ k p).re ν μ = ansF (σ.re ν μ) k (ν p) := by
  unfold ansF
  rw [h.setPh, re_setCa, re_sil, h.ph]
  congr 2
  show (⟨_, Wy.re ν (σ.ca k).y.noEars, List.map ν ((σ.ca k).ppl ++ [p]), _, _⟩ : Ca) = _
  rw [Wy.re_no, List.map_append]
  rfl
theorem Ren.leave (h : Ren ν μ) {σ : Hl} {o : Option Nat} {p : Int} : (leaveF σ o p).re ν μ = leaveF (σ.re ν μ) o (ν p) := by
  cases o with
  | none => rfl
  | some k =>
    unfold leaveF
    dsimp only
    have e : ((σ.re ν μ).ca k).ppl.erase (ν p) = ((σ.ca k).ppl.erase p).map ν := h.erase
    have e2 : ({ (σ.re ν μ).ca k with ppl := ((σ.re ν μ).ca k).ppl.erase (ν p) } : Ca) = Ca.re ν { σ.ca k with ppl := (σ.ca k).ppl.erase p } := by
      rw [e]
      rfl
    rw [e2, ← re_setCa, e, List.length_map]
    split
    · exact re_over
    · rfl
theorem Ren.lift (h : Ren ν μ) {σ : Hl} {p : Int} : (liftF σ p).re ν μ = liftF (σ.re ν μ) (ν p) := by
  unfold liftF
  dsimp only
  rw [h.ph]
  cases (σ.ph p).bell with
  | none => exact h.setPh
  | some k =>
    dsimp only
    rw [h.ans, h.setPh]
theorem Ren.drop (h : Ren ν μ) {σ : Hl} {p : Int} : (dropF σ p).re ν μ = dropF (σ.re ν μ) (ν p) := by
  unfold dropF
  rw [h.leave, h.leave, h.setPh, h.ph]
theorem Ren.hold (h : Ren ν μ) {σ : Hl} {p : Int} : (holdF σ p).re ν μ = holdF (σ.re ν μ) (ν p) := by
  unfold holdF
  rw [h.setPh, h.ph]
theorem Ren.swap (h : Ren ν μ) {σ : Hl} {p : Int} : (swapF σ p).re ν μ = swapF (σ.re ν μ) (ν p) := by
  unfold swapF
  rw [h.setPh, h.ph]
theorem Ren.take (h : Ren ν μ) {σ : Hl} {p : Int} : (takeF σ p).re ν μ = takeF (σ.re ν μ) (ν p) := by
  unfold takeF
  rw [h.ph]
  cases (σ.ph p).bell with
  | none => rfl
  | some k =>
    dsimp only
    rw [h.ans, h.setPh]
theorem Ren.more (h : Ren ν μ) : ∀ {b a : List Int}, (moreP a b).map ν = moreP (a.map ν) (b.map ν)
  | [], a => rfl
  | x :: b, a => by
    show (moreP (if x ∈ a then a else a ++ [x]) b).map ν = moreP (if ν x ∈ a.map ν then a.map ν else a.map ν ++ [ν x]) (b.map ν)
    rw [h.more]
    by_cases e : x ∈ a
    · rw [if_pos e, if_pos (h.mem.mpr e)]
    · rw [if_neg e, if_neg (fun z => e (h.mem.mp z)), List.map_append]
      rfl
theorem Ren.join (h : Ren ν μ) {σ : Hl} {p : Int} : (joinF σ p).re ν μ = joinF (σ.re ν μ) (ν p) := by
  unfold joinF
  rw [h.ph]
  cases e1 : (σ.ph p).now with
  | none => rfl
  | some c =>
    cases e2 : (σ.ph p).kept with
    | none => rfl
    | some o =>
      dsimp only
      have e3 : ({ (σ.re ν μ).ca c with ppl := moreP ((σ.re ν μ).ca c).ppl ((σ.re ν μ).ca o).ppl } : Ca) = Ca.re ν { σ.ca c with ppl := moreP (σ.ca c).ppl (σ.ca o).ppl } := by
        show (⟨_, _, moreP ((σ.ca c).ppl.map ν) ((σ.ca o).ppl.map ν), _, _⟩ : Ca) = _
        rw [← h.more]
        rfl
      unfold join2
      refine Hl.ext (fun r => rfl) (fun j => ?_) rfl rfl
      show Ca.re ν (if j = c then _ else σ.ca j) = if j = c then _ else Ca.re ν (σ.ca j)
      split
      · exact e3.symm
      · rfl
theorem Ren.talk (h : Ren ν μ) {σ : Hl} {p : Int} : inTalk (σ.re ν μ) (ν p) = inTalk σ p := by
  unfold inTalk
  rw [h.ph]
  cases (σ.ph p).now <;> rfl
theorem Ren.may (h : Ren ν μ) {σ : Hl} {p : Int} : mayF (σ.re ν μ) (ν p) = mayF σ p := by
  unfold mayF
  rw [h.talk, h.ph]
theorem six_at {f : Int → Bool} {p : Int} (p0 : 0 ≤ p) (p5 : p ≤ 5) : ((List.range 6).map fun i : Nat => f (i : Int)).getD p.toNat default = f p := by
  obtain ⟨n, rfl⟩ : ∃ n : Nat, p = n := ⟨p.toNat, by omega⟩
  rw [List.getD_eq_getElem?_getD, Int.toNat_natCast, List.getElem?_map, List.getElem?_range (by omega)]
  rfl
theorem Ren.st (h : Ren ν μ) {σ : Hl} : StR ν (stF σ) (stF (σ.re ν μ)) := fun p p0 p5 => by
  obtain ⟨q0, q5⟩ := (h.p p).mpr ⟨p0, p5⟩
  unfold stF
  rw [six_at (f := fun i => busyP ((σ.re ν μ).ph i)) q0 q5, six_at (f := fun i => busyP (σ.ph i)) p0 p5, h.ph]
theorem Ren.kn (h : Ren ν μ) {σ : Hl} : StR ν (knF σ) (knF (σ.re ν μ)) := fun p p0 p5 => by
  obtain ⟨q0, q5⟩ := (h.p p).mpr ⟨p0, p5⟩
  unfold knF
  rw [six_at (f := fun i => mayF (σ.re ν μ) i) q0 q5, six_at (f := fun i => mayF σ i) p0 p5, h.may]
theorem Ren.onY (h : Ren ν μ) {xs : List Wish} (ho : ∀ x ∈ xs, x.ok) {σ : Hl} {k : Nat} {g : Int} (g0 : 0 ≤ g) : onY (σ.re ν μ) (xs.map (Wish.re ν)) k (ν g) = (onY σ xs k g).re ν := by
  unfold AM.onY
  have e : ((σ.re ν μ).ca k).y.chain.length = (σ.ca k).y.chain.length := List.length_map _
  rw [e]
  exact h.go ho h.st h.kn _ (σ.ca k).y g g0
theorem Ren.ring (h : Ren ν μ) {σ : Hl} {k : Nat} {y : Wy} : (ringF σ k y).re ν μ = ringF (σ.re ν μ) k (y.re ν) := by
  unfold ringF
  refine Hl.ext (fun r => ?_) (fun j => ?_) rfl rfl
  · show (if μ r ∈ y.ears then { σ.ph (μ r) with bell := some k } else σ.ph (μ r)) = if r ∈ sortI (y.ears.map ν) then { σ.ph (μ r) with bell := some k } else σ.ph (μ r)
    have e : r ∈ sortI (y.ears.map ν) ↔ μ r ∈ y.ears := sortI_mem.trans h.mem'
    by_cases z : μ r ∈ y.ears
    · rw [if_pos z, if_pos (e.mpr z)]
    · rw [if_neg z, if_neg fun q => z (e.mp q)]
  · show Ca.re ν (if j = k then _ else σ.ca j) = if j = k then _ else Ca.re ν (σ.ca j)
    split <;> rfl
theorem Ren.on (h : Ren ν μ) {xs : List Wish} (ho : ∀ x ∈ xs, x.ok) {σ : Hl} {k : Nat} {g : Int} (g0 : 0 ≤ g) : (onF σ xs k g).re ν μ = onF (σ.re ν μ) (xs.map (Wish.re ν)) k (ν g) := by
  unfold onF
  dsimp only
  rw [h.onY ho g0]
  by_cases z : (AM.onY σ xs k g).ears = []
  · rw [if_pos z, if_pos (Wy.re_nil.mpr z), re_over, h.ring]
  · rw [if_neg z, if_neg (fun q => z (Wy.re_nil.mp q)), h.ring]
theorem Ca.re_new {p : Int} : (Ca.new p).re ν = Ca.new (ν p) := by
  show (⟨_, Wy.re ν Wy.new, _, _, _⟩ : Ca) = _
  rw [Wy.re_new]
  rfl
theorem Ren.dial (h : Ren ν μ) {xs : List Wish} (ho : ∀ x ∈ xs, x.ok) {σ : Hl} {p g : Int} (g0 : 0 ≤ g) : (dialF σ xs p g).re ν μ = dialF (σ.re ν μ) (xs.map (Wish.re ν)) (ν p) (ν g) := by
  unfold dialF
  have e : (dial0 σ p).re ν μ = dial0 (σ.re ν μ) (ν p) := by
    unfold dial0
    refine Hl.ext (fun r => ?_) (fun j => ?_) rfl rfl
    · show (if μ r = p then _ else σ.ph (μ r)) = if r = ν p then _ else σ.ph (μ r)
      rw [h.ph]
      by_cases e : μ r = p
      · rw [if_pos e, if_pos (h.mu.mp e)]
        rfl
      · rw [if_neg e, if_neg fun z => e (h.mu.mpr z)]
    · show Ca.re ν (if j = σ.n then Ca.new p else σ.ca j) = if j = σ.n then Ca.new (ν p) else Ca.re ν (σ.ca j)
      split
      · exact Ca.re_new
      · rfl
  rw [h.on ho g0, e]
  rfl
theorem Ren.lateF (h : Ren ν μ) {xs : List Wish} (ho : ∀ x ∈ xs, x.ok) {σ : Hl} {k : Nat} : (lateF σ xs k).re ν μ = lateF (σ.re ν μ) (xs.map (Wish.re ν)) k := by
  unfold AM.lateF
  have el : lateOf (xs.map (Wish.re ν)) ((σ.re ν μ).ca k) = (lateOf xs (σ.ca k)).map fun r => (ν r.1, r.2.1, ν r.2.2) := by
    unfold lateOf
    have e1 : ((σ.re ν μ).ca k).y.group = (σ.ca k).y.group.map ν := rfl
    have e2 : ((σ.re ν μ).ca k).y.chain.getLast? = (σ.ca k).y.chain.getLast?.map ν := List.getLast?_map
    rw [e1, e2]
    cases (σ.ca k).y.group with
    | some g => rfl
    | none =>
      cases (σ.ca k).y.chain.getLast? with
      | none => rfl
      | some p =>
        dsimp only [Option.map]
        have := h.late (xs := xs) (p := p)
        rw [this]
        cases lateB xs p <;> rfl
  have ea : ((σ.re ν μ).ca k).age = (σ.ca k).age := rfl
  rw [el, ea]
  cases e : lateOf xs (σ.ca k) with
  | none =>
    dsimp only [Option.map]
    split
    · exact re_over
    · rfl
  | some r =>
    obtain ⟨p, t, g⟩ := r
    dsimp only [Option.map]
    split
    · have g0 : 0 ≤ g := by
        unfold lateOf at e
        split at e
        · rename_i p' e1 e2
          cases e3 : lateB xs p' with
          | none => rw [e3] at e; cases e
          | some q =>
            rw [e3] at e
            cases e
            exact (late_rng ho (t := q.1) (g := q.2) e3).1
        · cases e
      rw [h.on ho g0]
      congr 1
      unfold late0
      rw [re_setCa, re_sil]
      congr 1
      show (⟨_, (⟨_, _, _, _, _⟩ : Wy), _, _, _⟩ : Ca) = ⟨_, ⟨_, _, _, _, _⟩, _, _, _⟩
      dsimp only [Ca.noEars, Wy.noEars, Ca.re, Wy.re, Hl.re]
      rw [List.map_append, List.map_nil, sortI_nil]
      rfl
    · split
      · exact re_over
      · rfl
theorem Ren.beat1 (h : Ren ν μ) {xs : List Wish} (ho : ∀ x ∈ xs, x.ok) {σ : Hl} {k : Nat} : (beat1 xs σ k).re ν μ = beat1 (xs.map (Wish.re ν)) (σ.re ν μ) k := by
  unfold AM.beat1
  by_cases z : k ∈ σ.op ∧ (σ.ca k).talk = false
  · rw [if_pos z, if_pos (show k ∈ (σ.re ν μ).op ∧ ((σ.re ν μ).ca k).talk = false from z), h.lateF ho, re_setCa]
    rfl
  · rw [if_neg z, if_neg (show ¬ (k ∈ (σ.re ν μ).op ∧ ((σ.re ν μ).ca k).talk = false) from z)]
theorem Ren.beats (h : Ren ν μ) {xs : List Wish} (ho : ∀ x ∈ xs, x.ok) : ∀ {l : List Nat} {σ : Hl}, (l.foldl (AM.beat1 xs) σ).re ν μ = l.foldl (AM.beat1 (xs.map (Wish.re ν))) (σ.re ν μ)
  | [], _ => rfl
  | k :: l, σ => by rw [List.foldl_cons, List.foldl_cons, h.beats ho, h.beat1 ho]
theorem Ren.beat (h : Ren ν μ) {xs : List Wish} (ho : ∀ x ∈ xs, x.ok) {σ : Hl} : (beatF σ xs).re ν μ = beatF (σ.re ν μ) (xs.map (Wish.re ν)) := h.beats ho
theorem Ren.voices (h : Ren ν μ) {σ : Hl} {k : Nat} {p : Int} : voices (σ.re ν μ) k (ν p) = (voices σ k p).map ν := by
  unfold AM.voices
  refine h.filter fun x _ => ?_
  rw [h.ph, decide_eq_decide.mpr (h.eq (i := x) (j := p))]
theorem Ren.hear (h : Ren ν μ) {σ : Hl} {p : Int} : hearF (σ.re ν μ) (ν p) = ((hearF σ p).1, sortI ((hearF σ p).2.1.map ν), (hearF σ p).2.2) := by
  unfold hearF
  rw [h.ph]
  dsimp only
  by_cases u : (σ.ph p).up = false
  · rw [if_pos u, if_pos u]
    dsimp only
    rw [List.map_nil, sortI_nil]
  · rw [if_neg u, if_neg u]
    cases (σ.ph p).now with
    | none =>
      dsimp only
      rw [List.map_nil, sortI_nil]
    | some k =>
      dsimp only
      have et : ((σ.re ν μ).ca k).talk = (σ.ca k).talk := rfl
      rw [et]
      by_cases t : (σ.ca k).talk = false
      · rw [if_pos t, if_pos t]
        dsimp only
        rw [List.map_nil, sortI_nil]
      · rw [if_neg t, if_neg t, h.voices]
        dsimp only
        have e1 : (List.map ν (AM.voices σ k p) = []) = (AM.voices σ k p = []) := propext List.map_eq_nil_iff
        have e2 : sortI (List.map ν (AM.voices σ k p)) = sortI (List.map ν (sortI (AM.voices σ k p))) := sortI_of_perm ((sortI_perm (l := AM.voices σ k p)).symm.map ν)
        rw [← e2]
        congr 1
        simp only [List.map_eq_nil_iff]
end

-- KR3
section
variable {ν μ : Int → Int}
/-! ### ways and wants by other numbers -/
theorem Ren.way (h : Ren ν μ) {xs : List Wish} (ho : ∀ x ∈ xs, x.ok) {c n : Int} {st kn st' kn' : List Bool} (n0 : 0 ≤ n) (hs : StR ν st st') (hk : StR ν kn kn') :
    wayF (xs.map (Wish.re ν)) (ν c) (ν n) st' kn' = (wayF xs c n st kn).re ν := by
  have := h.go ho (c := c) hs hk 8 Wy.new n n0
  rw [Wy.re_new] at this
  exact this
theorem Ren.allK (h : Ren ν μ) : StR ν allKn allKn := fun p p0 p5 => by
  obtain ⟨q0, q5⟩ := (h.p p).mpr ⟨p0, p5⟩
  have e : ∀ q : Int, 0 ≤ q → q ≤ 5 → AM.allKn.getD q.toNat default = true := fun q a b => by
    have hq : q = 0 ∨ q = 1 ∨ q = 2 ∨ q = 3 ∨ q = 4 ∨ q = 5 := by omega
    rcases hq with rfl | rfl | rfl | rfl | rfl | rfl <;> rfl
  rw [e _ q0 q5, e _ p0 p5]
theorem rings_le {xs : List Wish} {c g : Int} {st : List Bool} (ho : ∀ x ∈ xs, x.ok) : (ringsF xs c g st).Pairwise (· ≤ ·) := by
  unfold ringsF
  refine List.Pairwise.sublist List.filter_sublist ?_
  unfold membersF
  split
  · rename_i ms e
    exact (ms_pairwise (ho _ (getB_key e).2).2.2.2.2.2).imp fun z => Int.le_of_lt z
  · exact List.Pairwise.nil
theorem step_le {xs : List Wish} (ho : ∀ x ∈ xs, x.ok) {c n : Int} {st kn : List Bool} {y : Wy} (hy : y.ears.Pairwise (· ≤ ·)) : (stepF xs c st kn y n).1.ears.Pairwise (· ≤ ·) := by
  unfold stepF
  split
  · exact rings_le ho
  · split
    · exact List.Pairwise.nil
    · split
      · exact hy
      · rename_i w l hx
        have hl : l = [] ∨ ∃ a, l = [a] := by
          unfold nextF at hx
          repeat' split at hx
          all_goals first | (cases hx; exact .inl rfl) | (cases hx; exact .inr ⟨_, rfl⟩) | cases hx
        rcases hl with rfl | ⟨a, rfl⟩
        · exact List.Pairwise.nil
        · exact List.pairwise_singleton _ _
theorem go_le {xs : List Wish} (ho : ∀ x ∈ xs, x.ok) {c : Int} {st kn : List Bool} : ∀ (f : Nat) (y : Wy) (n : Int), y.ears.Pairwise (· ≤ ·) → (goF xs c st kn f y n).ears.Pairwise (· ≤ ·)
  | 0, _, _, h => h
  | f + 1, y, n, h => by
    have q := step_le ho (c := c) (n := n) (st := st) (kn := kn) h
    unfold goF
    cases e : stepF xs c st kn y n with
    | mk y' o =>
      rw [e] at q
      cases o with
      | none => exact q
      | some g => exact go_le ho f y' g q
theorem way_le {xs : List Wish} (ho : ∀ x ∈ xs, x.ok) {c n : Int} {st kn : List Bool} : (wayF xs c n st kn).ears.Pairwise (· ≤ ·) := go_le ho 8 _ _ List.Pairwise.nil
theorem Ren.sort_inj (h : Ren ν μ) {a b : List Int} (ha : a.Pairwise (· ≤ ·)) (hb : b.Pairwise (· ≤ ·)) : sortI (a.map ν) = sortI (b.map ν) ↔ a = b := by
  constructor
  · intro e
    have p : (a.map ν).Perm (b.map ν) := (sortI_perm (l := a.map ν)).symm.trans (by rw [e]; exact sortI_perm)
    have p2 : a.Perm b := by
      have := p.map μ
      rw [List.map_map, List.map_map] at this
      have e2 : μ ∘ ν = id := funext h.l
      rw [e2, List.map_id, List.map_id] at this
      exact this
    exact sorted_eq p2 ha hb
  · rintro rfl; rfl
theorem Ren.had (h : Ren ν μ) {x : Wish} (hx : x.ok) {y : Wy} (hy : y.ears.Pairwise (· ≤ ·)) {c : Int} {st st' : List Bool} (hs : StR ν st st') : hadF (x.re ν) (y.re ν) (ν c) st' = hadF x y c st := by
  have hm : ∀ p, decide (ν p ∈ (y.re ν).chain) = decide (p ∈ y.chain) := fun p => decide_eq_decide.mpr h.mem
  have hl : ∀ p g, decide ((ν p, ν g) ∈ (y.re ν).leads) = decide ((p, g) ∈ y.leads) := fun p g => decide_eq_decide.mpr (by
    show (ν p, ν g) ∈ y.leads.map (fun q => (ν q.1, ν q.2)) ↔ _
    rw [List.mem_map]
    constructor
    · rintro ⟨q, hq, e⟩
      have e1 := h.inj (Prod.mk.inj e).1
      have e2 := h.inj (Prod.mk.inj e).2
      obtain ⟨a, b⟩ := q
      dsimp only at e1 e2
      rw [← e1, ← e2]; exact hq
    · intro q; exact ⟨_, q, rfl⟩)
  have hc : ∀ p, decide (ν p = ν c) = decide (p = c) := fun p => decide_eq_decide.mpr h.eq
  have ew : (y.re ν).word = y.word := rfl
  cases x with
  | all p g =>
    show (if ν p ∈ (y.re ν).chain then some (decide ((ν p, ν g) ∈ (y.re ν).leads) && wordIn (y.re ν).word) else none) = if p ∈ y.chain then some (decide ((p, g) ∈ y.leads) && wordIn y.word) else none
    rw [hl, ew]
    by_cases z : p ∈ y.chain
    · rw [if_pos z, if_pos (of_decide_eq_true ((hm p).trans (decide_eq_true z)))]
    · rw [if_neg z, if_neg (of_decide_eq_false ((hm p).trans (decide_eq_false z)))]
  | busy p g =>
    have e1 : busyF st' (ν p) = busyF st p := hs p hx.1 hx.2.1
    show (if ν p ∈ (y.re ν).chain then if (!busyF st' (ν p) || decide (ν p = ν c)) = true then none else some (decide ((ν p, ν g) ∈ (y.re ν).leads) && wordIn (y.re ν).word) else none) = if p ∈ y.chain then if (!busyF st p || decide (p = c)) = true then none else some (decide ((p, g) ∈ y.leads) && wordIn y.word) else none
    rw [hl, ew, e1, hc]
    by_cases z : p ∈ y.chain
    · rw [if_pos z, if_pos (of_decide_eq_true ((hm p).trans (decide_eq_true z)))]
    · rw [if_neg z, if_neg (of_decide_eq_false ((hm p).trans (decide_eq_false z)))]
  | late p g t => rfl
  | wait p =>
    have e1 : busyF st' (ν p) = busyF st p := hs p hx.1 hx.2
    have e2 : decide ((y.re ν).ears = [ν p]) = decide (y.ears = [p]) := decide_eq_decide.mpr (by
      show sortI (y.ears.map ν) = [ν p] ↔ _
      rw [sortI_isone]
      constructor
      · intro e
        obtain ⟨a, ea, e3⟩ := List.map_eq_singleton_iff.mp e
        rw [ea, h.inj e3]
      · intro e; rw [e]; rfl)
    show (if ν p ∈ (y.re ν).chain then if (!busyF st' (ν p) || decide (ν p = ν c)) = true then none else some (decide ((y.re ν).word = "knocks") && decide ((y.re ν).ears = [ν p])) else none) = if p ∈ y.chain then if (!busyF st p || decide (p = c)) = true then none else some (decide (y.word = "knocks") && decide (y.ears = [p])) else none
    rw [ew, e1, hc, e2]
    by_cases z : p ∈ y.chain
    · rw [if_pos z, if_pos (of_decide_eq_true ((hm p).trans (decide_eq_true z)))]
    · rw [if_neg z, if_neg (of_decide_eq_false ((hm p).trans (decide_eq_false z)))]
  | still p => rfl
  | bar p o => rfl
  | group g ms =>
    have ef : (sortI (ms.map ν)).filter (fun m => !decide (m = ν c)) = sortI ((ms.filter fun m => !decide (m = c)).map ν) := by
      rw [sortI_filter]
      congr 1
      exact h.filter fun m _ => by rw [hc]
    have e1 : decide ((y.re ν).group = some (ν g)) = decide (y.group = some g) := decide_eq_decide.mpr (by
      show y.group.map ν = some (ν g) ↔ _
      cases y.group with
      | none => simp
      | some a => simp [h.eq])
    have e2 : (sortI ((ms.filter fun m => !decide (m = c)).map ν)).isEmpty = (ms.filter fun m => !decide (m = c)).isEmpty := by
      rw [Bool.eq_iff_iff, List.isEmpty_iff, List.isEmpty_iff, sortI_isnil, List.map_eq_nil_iff]
    have hs2 : (ms.filter fun m => !decide (m = c)).Pairwise (· ≤ ·) := ((ms_pairwise hx.2.2.2.2.2).imp fun z => Int.le_of_lt z).sublist List.filter_sublist
    have e3 : decide ((y.re ν).ears = sortI ((ms.filter fun m => !decide (m = c)).map ν)) = decide (y.ears = ms.filter fun m => !decide (m = c)) := decide_eq_decide.mpr (h.sort_inj hy hs2)
    show (if (decide ((y.re ν).group = some (ν g)) && !((sortI (ms.map ν)).filter fun m => !decide (m = ν c)).isEmpty) = true then some (decide ((y.re ν).ears = (sortI (ms.map ν)).filter fun m => !decide (m = ν c))) else none) = _
    rw [ef, e1, e2, e3]
    rfl
theorem Ren.wants (h : Ren ν μ) {xs : List Wish} (ho : ∀ x ∈ xs, x.ok) {x : Wish} (hx : x ∈ xs) {c n : Int} (n0 : 0 ≤ n) {st st' : List Bool} (hs : StR ν st st') :
    wantF (xs.map (Wish.re ν)) (x.re ν) (ν c) (ν n) st' = wantF xs x c n st := by
  unfold wantF
  rw [if_pos hx, if_pos (List.mem_map.mpr ⟨x, hx, rfl⟩), h.way ho n0 hs h.allK, h.had (ho x hx) (way_le ho) hs]
/-! ### wishes that are good stay good -/
theorem sorted_ms {l : List Int} (nd : l.Nodup) : (sortI l).Pairwise (· < ·) :=
  (List.Pairwise.and sortI_le ((sortI_perm (l := l)).nodup_iff.mpr nd)).imp fun h => by omega
theorem ms_of {l : List Int} (h1 : l ≠ []) (h2 : l.length ≤ 6) (h3 : ∀ m ∈ l, 0 ≤ m ∧ m ≤ 5) (h4 : l.Pairwise (· < ·)) : msOk l := by
  refine ⟨h1, h2, h3, fun k a b e1 e2 => ?_⟩
  obtain ⟨l1, rfl⟩ := List.getElem?_eq_some_iff.mp e1
  obtain ⟨l2, rfl⟩ := List.getElem?_eq_some_iff.mp e2
  exact List.pairwise_iff_getElem.mp h4 k (k + 1) l1 l2 (by omega)
theorem Ren.phone (h : Ren ν μ) {i : Int} (h0 : 0 ≤ i) (h5 : i ≤ 5) : 0 ≤ ν i ∧ ν i ≤ 5 := (h.p i).mpr ⟨h0, h5⟩
theorem Ren.num (h : Ren ν μ) {i : Int} (h0 : 0 ≤ i) (h7 : i ≤ 7) : 0 ≤ ν i ∧ ν i ≤ 7 := by
  by_cases z : i ≤ 5
  · have := h.phone h0 z
    omega
  · have h1 := (h.g i).mpr (by omega)
    have h2 := (h.t i).mpr h7
    omega
theorem Ren.ok (h : Ren ν μ) {x : Wish} (hx : x.ok) : (x.re ν).ok := by
  cases x with
  | all p g => exact ⟨(h.phone hx.1 hx.2.1).1, (h.phone hx.1 hx.2.1).2, (h.num hx.2.2.1 hx.2.2.2.1).1, (h.num hx.2.2.1 hx.2.2.2.1).2, fun e => hx.2.2.2.2 (h.inj e)⟩
  | busy p g => exact ⟨(h.phone hx.1 hx.2.1).1, (h.phone hx.1 hx.2.1).2, (h.num hx.2.2.1 hx.2.2.2.1).1, (h.num hx.2.2.1 hx.2.2.2.1).2, fun e => hx.2.2.2.2 (h.inj e)⟩
  | late p g t => exact ⟨(h.phone hx.1 hx.2.1).1, (h.phone hx.1 hx.2.1).2, (h.num hx.2.2.1 hx.2.2.2.1).1, (h.num hx.2.2.1 hx.2.2.2.1).2, fun e => hx.2.2.2.2.1 (h.inj e), hx.2.2.2.2.2⟩
  | wait p => exact h.phone hx.1 hx.2
  | still p => exact h.phone hx.1 hx.2
  | bar p o => exact ⟨(h.phone hx.1 hx.2.1).1, (h.phone hx.1 hx.2.1).2, (h.phone hx.2.2.1 hx.2.2.2.1).1, (h.phone hx.2.2.1 hx.2.2.2.1).2, fun e => hx.2.2.2.2 (h.inj e)⟩
  | group g ms =>
    obtain ⟨g6, g7, m1, m2, m3, m4⟩ := hx
    refine ⟨(h.g g).mpr g6, (h.t g).mpr g7, ms_of ?_ ?_ ?_ ?_⟩
    · rw [Ne, sortI_isnil, List.map_eq_nil_iff]; exact m1
    · rw [(sortI_perm (l := ms.map ν)).length_eq, List.length_map]; exact m2
    · intro m hm
      obtain ⟨x, hx, rfl⟩ := List.mem_map.mp (sortI_mem.mp hm)
      exact h.phone (m3 x hx).1 (m3 x hx).2
    · refine sorted_ms ?_
      refine List.pairwise_map.mpr ((pair_nodup (ms_pairwise m4)).imp fun ne e => ne (h.inj e))
theorem Ren.keys (h : Ren ν μ) {xs : List Wish} (hn : (xs.map Wish.key).Nodup) : ((xs.map (Wish.re ν)).map Wish.key).Nodup := by
  rw [List.map_map]
  refine List.pairwise_map.mpr ((List.pairwise_map.mp hn).imp fun ne e => ne ?_)
  have e : (Wish.re ν _).key = (Wish.re ν _).key := e
  rw [Wish.re_key, Wish.re_key] at e
  exact h.krs e
/-! ### the invariants go with it -/
theorem Ren.maps_nd (h : Ren ν μ) {l : List Int} (nd : l.Nodup) : (l.map ν).Nodup := List.pairwise_map.mpr (nd.imp fun ne e => ne (h.inj e))
theorem Ren.mup (h : Ren ν μ) {r : Int} (r0 : 0 ≤ r) (r5 : r ≤ 5) : 0 ≤ μ r ∧ μ r ≤ 5 := by
  have := (h.p (μ r)).mp (by rw [h.r]; exact ⟨r0, r5⟩)
  exact this
theorem Ren.inv (h : Ren ν μ) {σ : Hl} (v : Inv σ) : Inv (σ.re ν μ) where
  opn := v.opn
  opl := v.opl
  now := fun p k p0 p5 e => by
    obtain ⟨a, b⟩ := v.now (μ p) k (h.mup p0 p5).1 (h.mup p0 p5).2 e
    exact ⟨a, h.mem'.mpr b⟩
  kept := fun p k p0 p5 e => by
    obtain ⟨a, b, c⟩ := v.kept (μ p) k (h.mup p0 p5).1 (h.mup p0 p5).2 e
    exact ⟨a, h.mem'.mpr b, c⟩
  bell := fun p k p0 p5 e => by
    obtain ⟨a, b⟩ := v.bell (μ p) k (h.mup p0 p5).1 (h.mup p0 p5).2 e
    exact ⟨a, sortI_mem.mpr (h.mem'.mpr b)⟩
  nk := fun p k p0 p5 e => v.nk (μ p) k (h.mup p0 p5).1 (h.mup p0 p5).2 e
  dn := fun p p0 p5 e => v.dn (μ p) (h.mup p0 p5).1 (h.mup p0 p5).2 e
  ca := fun k hk => by
    have c := v.ca k hk
    refine ⟨h.maps_nd c.ppn, fun p hp => ?_, ?_, fun p hp => ?_, fun t => ?_, fun t => ?_⟩
    · obtain ⟨x, hx, rfl⟩ := List.mem_map.mp hp
      obtain ⟨a, b, d⟩ := c.pph x hx
      refine ⟨(h.phone a b).1, (h.phone a b).2, ?_⟩
      show ((σ.re ν μ).ph (ν x)).now = some k ∨ ((σ.re ν μ).ph (ν x)).kept = some k ∨ False
      rw [h.ph]; exact d
    · exact (sortI_perm (l := (σ.ca k).y.ears.map ν)).nodup_iff.mpr (h.maps_nd c.ern)
    · obtain ⟨x, hx, rfl⟩ := List.mem_map.mp (sortI_mem.mp hp)
      obtain ⟨a, b, d⟩ := c.erh x hx
      refine ⟨(h.phone a b).1, (h.phone a b).2, ?_⟩
      rw [h.ph]; exact d
    · obtain ⟨a, b⟩ := c.tk t
      refine ⟨?_, by show 2 ≤ ((σ.ca k).ppl.map ν).length; rw [List.length_map]; exact b⟩
      show sortI ((σ.ca k).y.ears.map ν) = []
      rw [a, List.map_nil, sortI_nil]
    · obtain ⟨a, b, d, e, f⟩ := c.nt t
      refine ⟨?_, ?_, ⟨h.maps_nd d.nd, fun p hp => ?_, ?_⟩, ?_, ?_⟩
      · show (σ.ca k).ppl.map ν = [ν (σ.ca k).c]
        rw [a]; rfl
      · show ((σ.re ν μ).ph (ν (σ.ca k).c)).now = some k ∨ False
        rw [h.ph]; exact b
      · obtain ⟨x, hx, rfl⟩ := List.mem_map.mp hp
        exact h.phone (d.ph x hx).1 (d.ph x hx).2
      · show ((σ.ca k).y.leads.map _).length ≤ ((σ.ca k).y.chain.map ν).length
        rw [List.length_map, List.length_map]; exact d.ld
      · intro g
        have g : (σ.ca k).y.group.map ν = none := g
        have g : (σ.ca k).y.group = none := by cases z : (σ.ca k).y.group with | none => rfl | some a => rw [z] at g; cases g
        show ((σ.ca k).y.leads.map _).length < ((σ.ca k).y.chain.map ν).length ∨ False
        rw [List.length_map, List.length_map]; exact e g
      · intro g
        exact f (Wy.re_nil.mp g)
end

-- KT
/-! ### two halls of the program and the own one beside one another -/
structure Trio (C : Cs) (S0 S : Sto) (loh : Pl) (σ : Hl) (lok : Pl) (ρ : Hl) (lol : Ll) (τ : Hl) (xs ys : List Wish) : Prop where
  b : Both C S0 S loh σ lol τ xs
  h : HallAt C S lok ys ρ
  d1 : ∀ c d, okC σ.n c → okC ρ.n d → loh c ≠ lok d
  d2 : ∀ c d, okC ρ.n c → okL τ.n d → lok c ≠ lol d
  f : ∀ c, okC ρ.n c → S0.length ≤ lok c
section
variable {C : Cs} {S0 S S' : Sto} {loh loh' lok lok' : Pl} {σ σ' ρ ρ' τ τ' : Hl} {lol lol' : Ll} {xs ys : List Wish}
theorem Trio.own (t : Trio C S0 S loh σ lok ρ lol τ xs ys) (h : LhAt S' lol' xs τ') (x : Lx lol lol' τ.n τ'.n S S') : Trio C S0 S' loh σ lok ρ lol' τ' xs ys where
  b := t.b.own h x
  h := t.h.keepAt fun c hc => x.off (lok c) (t.h.lt hc) fun d hd e => t.d2 c d hc hd e.symm
  d1 := t.d1
  d2 := fun c d hc hd => by
    have lt := t.h.lt hc
    by_cases z : okL τ.n d
    · rcases x.keep d z with e | e
      · rw [e]; exact t.d2 c d hc z
      · omega
    · have := x.new d hd z
      omega
  f := t.f
theorem Trio.prog (t : Trio C S0 S loh σ lok ρ lol τ xs ys) (h : HallAt C S' loh' xs σ') (x : Nx loh loh' σ.n σ'.n S S') : Trio C S0 S' loh' σ' lok ρ lol τ xs ys where
  b := t.b.prog h x
  h := t.h.keepAt fun d hd => x.off (lok d) (t.h.lt hd) fun c hc e => t.d1 c d hc hd e
  d1 := fun c d hc hd => by
    have lt := t.h.lt hd
    by_cases z : okC σ.n c
    · rw [x.same c z]; exact t.d1 c d z hd
    · have := x.new c hc z
      omega
  d2 := t.d2
  f := t.f
theorem Trio.app (t : Trio C S0 S loh σ lok ρ lol τ xs ys) (T : Sto) : Trio C S0 (S ++ T) loh σ lok ρ lol τ xs ys :=
  ⟨t.b.app T, t.h.app, t.d1, t.d2, t.f⟩
theorem Trio.split {U : Sto} (t : Trio C S0 S loh σ lok ρ lol τ xs ys) (hU : U <+: S0) : S = U ++ S.drop U.length := t.b.split hU
end
theorem HallAt.iniR {C : Cs} {S : Sto} {xs : List Wish} {ν μ : Int → Int} : HallAt C (S ++ iniO C S.length xs) (iniLoc S.length) xs (Hl.new.re ν μ) := by
  have at' : ∀ i, (S ++ iniO C S.length xs)[S.length + i]? = (iniO C S.length xs)[i]? := fun i => by
    rw [List.getElem?_append_right (by omega)]
    congr 1
    omega
  refine ⟨fun c hc => ?_, fun c d hc hd e => ?_, ⟨fun k hk => (by cases hk), fun p _ _ => ⟨fun k z => (by cases z), fun k z => (by cases z), fun k z => (by cases z)⟩⟩⟩
  · cases c with
    | hall => exact (at' 0).trans rfl
    | book => exact (at' 1).trans rfl
    | dict => exact (at' 2).trans rfl
    | calls => exact (at' 9).trans rfl
    | ph p =>
      obtain ⟨h0, h5⟩ : 0 ≤ p ∧ p ≤ 5 := hc
      have h : p = 0 ∨ p = 1 ∨ p = 2 ∨ p = 3 ∨ p = 4 ∨ p = 5 := by omega
      rcases h with rfl | rfl | rfl | rfl | rfl | rfl
      · exact (at' 3).trans rfl
      · exact (at' 4).trans rfl
      · exact (at' 5).trans rfl
      · exact (at' 6).trans rfl
      · exact (at' 7).trans rfl
      · exact (at' 8).trans rfl
    | ca k => exact absurd hc (Nat.not_lt_zero k)
    | way k => exact absurd hc (Nat.not_lt_zero k)
    | chain k => exact absurd hc (Nat.not_lt_zero k)
    | leads k => exact absurd hc (Nat.not_lt_zero k)
    | ppl k => exact absurd hc (Nat.not_lt_zero k)
  · exact (HallAt.ini (C := C) (S := S) (xs := xs)).inj c d hc hd e
theorem Trio.new {C : Cs} {R : Sto} {xs ys : List Wish} {ν μ : Int → Int} :
    Trio C R (((R ++ iniO C R.length xs) ++ iniO C (R ++ iniO C R.length xs).length ys) ++ iniLO ((R ++ iniO C R.length xs) ++ iniO C (R ++ iniO C R.length xs).length ys).length xs)
      (iniLoc R.length) Hl.new (iniLoc (R ++ iniO C R.length xs).length) (Hl.new.re ν μ) (iniL ((R ++ iniO C R.length xs) ++ iniO C (R ++ iniO C R.length xs).length ys).length) Hl.new xs ys where
  b :=
    { hh := HallAt.app (HallAt.app HallAt.ini)
      hl := LhAt.ini
      dj := fun c d hc hd => by
        have h1 := (HallAt.ini (C := C) (S := R) (xs := xs)).lt hc
        have h2 := iniL_le (m := ((R ++ iniO C R.length xs) ++ iniO C (R ++ iniO C R.length xs).length ys).length) (c := d)
        have h3 := List.length_append (as := R ++ iniO C R.length xs) (bs := iniO C (R ++ iniO C R.length xs).length ys)
        omega
      f1 := fun c _ => iniLoc_le
      f2 := fun d _ => Nat.le_trans (by rw [List.length_append, List.length_append]; omega) iniL_le
      kp := fun i hi => by
        rw [List.append_assoc, List.append_assoc]
        exact List.getElem?_append_left hi
      le := by rw [List.append_assoc, List.append_assoc, List.length_append]; omega }
  h := HallAt.app HallAt.iniR
  d1 := fun c d hc hd => by
    have h1 := (HallAt.ini (C := C) (S := R) (xs := xs)).lt hc
    have h2 := iniLoc_le (m := (R ++ iniO C R.length xs).length) (c := d)
    omega
  d2 := fun c d hc hd => by
    have h1 := (HallAt.iniR (C := C) (S := R ++ iniO C R.length xs) (xs := ys) (ν := ν) (μ := μ)).lt hc
    have h2 := iniL_le (m := ((R ++ iniO C R.length xs) ++ iniO C (R ++ iniO C R.length xs).length ys).length) (c := d)
    omega
  f := fun c _ => Nat.le_trans (by rw [List.length_append]; omega) iniLoc_le
/-! ### the names -/
/-- numbers by a list of eight -/
def nuF (l : List Int) (i : Int) : Int := if 0 ≤ i ∧ i ≤ 7 then l.getD i.toNat 0 else i
def muF (l : List Int) (i : Int) : Int := if 0 ≤ i ∧ i ≤ 7 then ((List.range 8).find? fun k : Nat => decide (l.getD k 0 = i)).elim i (fun k : Nat => (k : Int)) else i
theorem ren_of {a : List Int} {g h : Int} (pa : a.Perm [0, 1, 2, 3, 4, 5]) (gh : (g = 6 ∧ h = 7) ∨ (g = 7 ∧ h = 6)) : Ren (nuF (a ++ [g, h])) (muF (a ++ [g, h])) := by
  have hl : a.length = 6 := pa.length_eq
  have nda : a.Nodup := pa.nodup_iff.mpr (by decide)
  have lo : ∀ k, k < 6 → 0 ≤ (a ++ [g, h]).getD k 0 ∧ (a ++ [g, h]).getD k 0 ≤ 5 := fun k hk => by
    rw [List.getD_eq_getElem?_getD, List.getElem?_append_left (by omega), List.getElem?_eq_getElem (by omega)]
    have q := pa.mem_iff.mp (List.getElem_mem (l := a) (n := k) (by omega))
    simp only [List.mem_cons, List.not_mem_nil, or_false] at q
    show 0 ≤ a[k] ∧ a[k] ≤ 5
    omega
  have e6 : (a ++ [g, h]).getD 6 0 = g := by
    rw [List.getD_eq_getElem?_getD, List.getElem?_append_right (by omega), hl]; rfl
  have e7 : (a ++ [g, h]).getD 7 0 = h := by
    rw [List.getD_eq_getElem?_getD, List.getElem?_append_right (by omega), hl]; rfl
  have inj : ∀ i j, i < 8 → j < 8 → (a ++ [g, h]).getD i 0 = (a ++ [g, h]).getD j 0 → i = j := fun i j hi hj e => by
    by_cases zi : i < 6
    · by_cases zj : j < 6
      · rw [List.getD_eq_getElem?_getD, List.getElem?_append_left (by omega), List.getElem?_eq_getElem (by omega), List.getD_eq_getElem?_getD, List.getElem?_append_left (by omega), List.getElem?_eq_getElem (by omega)] at e
        exact (List.getElem_inj nda).mp e
      · have q := lo i zi
        have hj : j = 6 ∨ j = 7 := by omega
        rcases hj with rfl | rfl
        · rw [e6] at e; omega
        · rw [e7] at e; omega
    · have hi' : i = 6 ∨ i = 7 := by omega
      by_cases zj : j < 6
      · have q := lo j zj
        rcases hi' with rfl | rfl
        · rw [e6] at e; omega
        · rw [e7] at e; omega
      · have hj' : j = 6 ∨ j = 7 := by omega
        rcases hi' with rfl | rfl <;> rcases hj' with rfl | rfl <;> first | rfl | (rw [e6, e7] at e; omega) | (rw [e7, e6] at e; omega)
  have sur : ∀ i, 0 ≤ i → i ≤ 7 → ∃ k, k < 8 ∧ (a ++ [g, h]).getD k 0 = i := fun i h0 h7 => by
    by_cases z : i ≤ 5
    · have q : i ∈ a := pa.mem_iff.mpr (by simp only [List.mem_cons, List.not_mem_nil, or_false]; omega)
      obtain ⟨k, hk, e⟩ := List.mem_iff_getElem.mp q
      refine ⟨k, by omega, ?_⟩
      rw [List.getD_eq_getElem?_getD, List.getElem?_append_left hk, List.getElem?_eq_getElem hk]
      exact e
    · rcases gh with ⟨rfl, rfl⟩ | ⟨rfl, rfl⟩
      · by_cases z6 : i = 6
        · exact ⟨6, by decide, by rw [e6, z6]⟩
        · exact ⟨7, by decide, by rw [e7]; omega⟩
      · by_cases z6 : i = 6
        · exact ⟨7, by decide, by rw [e7, z6]⟩
        · exact ⟨6, by decide, by rw [e6]; omega⟩
  have rng : ∀ k, k < 8 → 0 ≤ (a ++ [g, h]).getD k 0 ∧ (a ++ [g, h]).getD k 0 ≤ 7 := fun k hk => by
    by_cases z : k < 6
    · have := lo k z; omega
    · have hk : k = 6 ∨ k = 7 := by omega
      rcases hk with rfl | rfl
      · rw [e6]; omega
      · rw [e7]; omega
  generalize hn : a ++ [g, h] = n at *
  have nin : ∀ i, 0 ≤ i → i ≤ 7 → nuF n i = n.getD i.toNat 0 := fun i h0 h7 => if_pos ⟨h0, h7⟩
  have nout : ∀ i, ¬ (0 ≤ i ∧ i ≤ 7) → nuF n i = i := fun i z => if_neg z
  have mat : ∀ k, k < 8 → muF n (n.getD k 0) = k := fun k hk => by
    unfold muF
    rw [if_pos (rng k hk)]
    have : (List.range 8).find? (fun j : Nat => decide (n.getD j 0 = n.getD k 0)) = some k := by
      rw [List.find?_range_eq_some]
      exact ⟨by simp, List.mem_range.mpr hk, fun j hj => by
        have : ¬ n.getD j 0 = n.getD k 0 := fun e => by have := inj j k (by omega) hk e; omega
        simpa using this⟩
    rw [this]
    rfl
  have phon : ∀ i, (0 ≤ nuF n i ∧ nuF n i ≤ 5) ↔ (0 ≤ i ∧ i ≤ 5) := fun i => by
    by_cases z : 0 ≤ i ∧ i ≤ 7
    · rw [nin i z.1 z.2]
      by_cases z5 : i ≤ 5
      · have := lo i.toNat (by omega)
        omega
      · have hi : i = 6 ∨ i = 7 := by omega
        rcases hi with rfl | rfl
        · show (0 ≤ n.getD 6 0 ∧ n.getD 6 0 ≤ 5) ↔ _
          rw [e6]; omega
        · show (0 ≤ n.getD 7 0 ∧ n.getD 7 0 ≤ 5) ↔ _
          rw [e7]; omega
    · rw [nout i z]
  refine ⟨fun i => ?_, fun i => ?_, phon, fun i => ?_, fun i => ?_⟩
  · by_cases z : 0 ≤ i ∧ i ≤ 7
    · rw [nin i z.1 z.2, mat i.toNat (by omega)]
      omega
    · rw [nout i z]
      exact if_neg z
  · by_cases z : 0 ≤ i ∧ i ≤ 7
    · obtain ⟨k, hk, e⟩ := sur i z.1 z.2
      rw [← e, mat k hk, nin k (by omega) (by omega), Int.toNat_natCast]
    · have e : muF n i = i := if_neg z
      rw [e, nout i z]
  · by_cases z : 0 ≤ i ∧ i ≤ 7
    · have q := phon i
      have r := rng i.toNat (by omega)
      rw [← nin i z.1 z.2] at r
      omega
    · rw [nout i z]
  · by_cases z : 0 ≤ i ∧ i ≤ 7
    · have r := rng i.toNat (by omega)
      rw [← nin i z.1 z.2] at r
      omega
    · rw [nout i z]

-- KY

/-! ### knocking, taking, exchanging: plainly, for the phones 0 to 5; other ones by Ren -/
section
variable {ν μ : Int → Int}
theorem Ren.phr (h : Ren ν μ) (σ : Hl) (p : Int) : (σ.re ν μ).ph (ν p) = σ.ph p := by
  show σ.ph (μ (ν p)) = _
  rw [h.l]
end
def tX (on : Bool) : List Wish := .wait 1 :: (if on then [.busy 1 3] else [])
def tA : Hl := liftF (liftF (liftF Hl.new 0) 2) 3
def tB (on : Bool) : Hl := dialF tA (tX on) 0 1
def tC (on : Bool) : Hl := liftF (tB on) 1
def tD (on : Bool) : Hl := dialF (tC on) (tX on) 2 1
def tE (on : Bool) : Hl := dropF (tD on) 1
def tF (on : Bool) : Hl := liftF (tE on) 1
def tT (on : Bool) : Hl := takeF (tD on) 1
/-- 1 talks to x (call i), holds the one with y (call j); 3 is up and free -/
structure Tri (σ : Hl) (x y : Int) (i j : Nat) : Prop where
  xy : (x = 2 ∧ y = 0 ∧ i = 1 ∧ j = 0) ∨ (x = 0 ∧ y = 2 ∧ i = 0 ∧ j = 1)
  n : 2 ≤ σ.n
  op : σ.op = [0, 1]
  p1 : ∃ t, σ.ph 1 = ⟨true, some i, some j, none, t⟩
  px : ∃ t, σ.ph x = ⟨true, some i, none, none, t⟩
  py : ∃ t, σ.ph y = ⟨true, some j, none, none, t⟩
  p3 : σ.ph 3 = ⟨true, none, none, none, "dial"⟩
  p4 : σ.ph 4 = Ph.new
  p5 : σ.ph 5 = Ph.new
  ti : (σ.ca i).talk = true
  li : (σ.ca i).ppl = [x, 1]
  tj : (σ.ca j).talk = true
  lj : (σ.ca j).ppl = [y, 1]
theorem tri_T (on : Bool) : Tri (tT on) 2 0 1 0 := by
  refine ⟨.inl ⟨rfl, rfl, rfl, rfl⟩, ?_, ?_, ⟨"dial", ?_⟩, ⟨"dial", ?_⟩, ⟨"dial", ?_⟩, ?_, ?_, ?_, ?_, ?_, ?_, ?_⟩ <;> cases on <;> first | kernel_rfl | decide +kernel
theorem tri_hear {σ : Hl} {x y : Int} {i j : Nat} (h : Tri σ x y i j) : hearF σ 1 = (("talk" : Str), [x], false) ∧ hearF σ x = (("talk" : Str), [1], false) ∧ hearF σ y = (("music" : Str), [], false) := by
  obtain ⟨xy, n, op, ⟨t1, p1⟩, ⟨t2, px⟩, ⟨t3, py⟩, p3, p4, p5, ti, li, tj, lj⟩ := h
  rcases xy with ⟨rfl, rfl, rfl, rfl⟩ | ⟨rfl, rfl, rfl, rfl⟩ <;> refine ⟨?_, ?_, ?_⟩ <;> simp [hearF, voices, p1, px, py, ti, li, tj, lj, sortI_one, sortI_nil]
theorem tri_swap {σ : Hl} {x y : Int} {i j : Nat} (h : Tri σ x y i j) : Tri (swapF σ 1) y x j i := by
  obtain ⟨xy, n, op, ⟨t1, p1⟩, ⟨t2, px⟩, ⟨t3, py⟩, p3, p4, p5, ti, li, tj, lj⟩ := h
  have e : ∀ r : Int, r ≠ 1 → (swapF σ 1).ph r = σ.ph r := fun r hr => if_neg hr
  have e1 : (swapF σ 1).ph 1 = ⟨true, some j, some i, none, t1⟩ := by
    show (if (1 : Int) = 1 then ({ σ.ph 1 with now := (σ.ph 1).kept, kept := (σ.ph 1).now } : Ph) else σ.ph 1) = _
    rw [if_pos rfl, p1]
  refine ⟨by rcases xy with ⟨a, b, c, d⟩ | ⟨a, b, c, d⟩ <;> simp [a, b, c, d], n, op, ⟨t1, e1⟩, ⟨t3, ?_⟩, ⟨t2, ?_⟩, (e 3 (by decide)).trans p3, (e 4 (by decide)).trans p4, (e 5 (by decide)).trans p5, tj, lj, ti, li⟩
  · exact (e y (by rcases xy with ⟨a, b, c, d⟩ | ⟨a, b, c, d⟩ <;> simp [b])).trans py
  · exact (e x (by rcases xy with ⟨a, b, c, d⟩ | ⟨a, b, c, d⟩ <;> simp [a])).trans px
theorem tri_drop {σ : Hl} {x y : Int} {i j : Nat} (h : Tri σ x y i j) :
    ((hearF (dropF σ x) 1).1 = "busy" ∧ (hearF (dropF σ x) y).1 = "music") ∧ ((hearF (dropF σ y) 1).1 = "talk" ∧ (hearF (dropF σ y) x).1 = "talk") ∧ (hearF (dropF σ 1) x).1 = "busy" ∧ (hearF (dropF σ 1) y).1 = "busy" := by
  obtain ⟨xy, n, op, ⟨t1, p1⟩, ⟨t2, px⟩, ⟨t3, py⟩, p3, p4, p5, ti, li, tj, lj⟩ := h
  rcases xy with ⟨rfl, rfl, rfl, rfl⟩ | ⟨rfl, rfl, rfl, rfl⟩ <;> refine ⟨⟨?_, ?_⟩, ⟨?_, ?_⟩, ?_, ?_⟩ <;>
    simp [hearF, voices, dropF, leaveF, overF, silF, Hl.setPh, Hl.setCa, Hl.mapPh, Ph.sil, Ph.ov1, Ph.ov2, Ca.noEars, p1, px, py, ti, li, tj, lj, sortI_one, sortI_nil]
def yB (on : Bool) : Wy := if on then ⟨[1, 3], [(1, 3)], none, "busy", []⟩ else ⟨[1], [], none, "busy", []⟩
theorem tri_go (on : Bool) {st kn : List Bool} (h1 : busyF st 1 = true) (h2 : kn.getD 1 default = false) : goF (tX on) 3 st kn 8 Wy.new 1 = yB on := by
  cases on
  · have e : nextF (tX false) 3 1 st kn = .inr ("busy", []) := by
      show (if (!decide ((1 : Int) = 3) && !busyF st 1) = true then _ else if (!decide ((1 : Int) = 3) && (waitF (tX false) 1 && kn.getD 1 default)) = true then _ else _) = _
      rw [h1, h2]
      rfl
    show (match stepF (tX false) 3 st kn Wy.new 1 with | (y', none) => y' | (y', some g) => goF (tX false) 3 st kn 7 y' g) = _
    unfold stepF
    rw [if_neg (by decide), if_neg (by decide), e]
    rfl
  · have e : nextF (tX true) 3 1 st kn = .inl 3 := by
      show (if (!decide ((1 : Int) = 3) && !busyF st 1) = true then _ else if (!decide ((1 : Int) = 3) && (waitF (tX true) 1 && kn.getD 1 default)) = true then _ else _) = _
      rw [h1, h2]
      rfl
    have e3 : nextF (tX true) 3 3 st kn = .inr ("busy", []) := by
      show (if (!decide ((3 : Int) = 3) && !busyF st 3) = true then _ else if (!decide ((3 : Int) = 3) && (waitF (tX true) 3 && kn.getD 3 default)) = true then _ else _) = _
      rw [if_neg (by simp), if_neg (by simp)]
      rfl
    show (match stepF (tX true) 3 st kn Wy.new 1 with | (y', none) => y' | (y', some g) => goF (tX true) 3 st kn 7 y' g) = _
    have s1 : stepF (tX true) 3 st kn Wy.new 1 = (⟨[1], [(1, 3)], none, "nobody", []⟩, some 3) := by
      unfold stepF
      rw [if_neg (by decide), if_neg (by decide), e]
      rfl
    rw [s1]
    show (match stepF (tX true) 3 st kn ⟨[1], [(1, 3)], none, "nobody", []⟩ 3 with | (y', none) => y' | (y', some g) => goF (tX true) 3 st kn 6 y' g) = _
    have s3 : stepF (tX true) 3 st kn ⟨[1], [(1, 3)], none, "nobody", []⟩ 3 = (⟨[1, 3], [(1, 3)], none, "busy", []⟩, none) := by
      unfold stepF
      rw [if_neg (by decide), if_neg (by simp), e3]
      rfl
    rw [s3]
    rfl
theorem tri_on {σ : Hl} {x y : Int} {i j : Nat} (h : Tri σ x y i j) (on : Bool) : onY (dial0 σ 3) (tX on) σ.n 1 = yB on := by
  obtain ⟨xy, n, op, ⟨t1, p1⟩, ⟨t2, px⟩, ⟨t3, py⟩, p3, p4, p5, ti, li, tj, lj⟩ := h
  have e1 : (dial0 σ 3).ca σ.n = Ca.new 3 := if_pos rfl
  have e2' : (dial0 σ 3).ph 1 = σ.ph 1 := by
    show (if (1 : Int) = 3 then ({ σ.ph 3 with now := some σ.n } : Ph) else σ.ph 1) = _
    exact if_neg (by decide)
  have e2 : (dial0 σ 3).ph 1 = ⟨true, some i, some j, none, t1⟩ := e2'.trans p1
  unfold onY
  rw [e1]
  refine tri_go on ?_ ?_
  · show ((List.range 6).map fun i : Nat => busyP ((dial0 σ 3).ph i)).getD 1 _ = true
    show busyP ((dial0 σ 3).ph 1) = true
    rw [e2]
    rfl
  · show mayF (dial0 σ 3) 1 = false
    unfold mayF
    rw [e2]
    simp
theorem tri_dial {σ : Hl} {x y : Int} {i j : Nat} (h : Tri σ x y i j) (on : Bool) :
    (dialF σ (tX on) 3 1).n = σ.n + 1 ∧ ((dialF σ (tX on) 3 1).ca σ.n).y = yB on ∧ (dialF σ (tX on) 3 1).ph 3 = ⟨true, none, none, none, "busy"⟩ ∧ (∀ r, r ≠ 3 → (dialF σ (tX on) 3 1).ph r = ((σ.ph r).ov1 σ.n).ov2 σ.n ∨ (σ.ph r).bell = some σ.n) ∧ (∀ k, k ≠ σ.n → (dialF σ (tX on) 3 1).ca k = σ.ca k) ∧ (dialF σ (tX on) 3 1).op = σ.op := by
  have ho := tri_on h on
  obtain ⟨xy, n, op, ⟨t1, p1⟩, ⟨t2, px⟩, ⟨t3, py⟩, p3, p4, p5, ti, li, tj, lj⟩ := h
  have ee : (yB on).ears = [] := by cases on <;> rfl
  have ed : dialF σ (tX on) 3 1 = overF (ringF (dial0 σ 3) σ.n (yB on)) σ.n := by
    unfold dialF onF
    dsimp only
    rw [ho, if_pos ee]
  have er : ∀ r, (ringF (dial0 σ 3) σ.n (yB on)).ph r = (dial0 σ 3).ph r := fun r => by
    unfold ringF
    show (if r ∈ (yB on).ears then _ else _) = _
    rw [ee]
    exact if_neg (fun z => nomatch z)
  have eca : ∀ k, (ringF (dial0 σ 3) σ.n (yB on)).ca k = if k = σ.n then ({ Ca.new 3 with y := yB on, age := 0 } : Ca) else σ.ca k := fun k => by
    unfold ringF
    show (if k = σ.n then ({ (dial0 σ 3).ca σ.n with y := yB on, age := 0 } : Ca) else (dial0 σ 3).ca k) = _
    by_cases e : k = σ.n
    · rw [if_pos e, if_pos e, show (dial0 σ 3).ca σ.n = Ca.new 3 from if_pos rfl]
    · rw [if_neg e, if_neg e]
      exact if_neg e
  have eph : ∀ r, (overF (ringF (dial0 σ 3) σ.n (yB on)) σ.n).ph r = ((((dial0 σ 3).ph r).sil σ.n).ov1 σ.n).ov2 σ.n := fun r => by
    rw [overF_ph, er]
  rw [ed]
  refine ⟨rfl, ?_, ?_, fun r hr => ?_, fun k hk => ?_, ?_⟩
  · show ((if σ.n = σ.n then _ else _ : Ca)).y = _
    rw [if_pos rfl, eca, if_pos rfl]
    show (yB on).noEars = yB on
    unfold Wy.noEars
    rw [← ee]
  · rw [eph]
    have e3 : (dial0 σ 3).ph 3 = ⟨true, some σ.n, none, none, "dial"⟩ := by
      show (if (3 : Int) = 3 then ({ σ.ph 3 with now := some σ.n } : Ph) else σ.ph 3) = _
      rw [if_pos rfl, p3]
    rw [e3]
    simp [Ph.sil, Ph.ov1, Ph.ov2]
  · rw [eph]
    have e3 : (dial0 σ 3).ph r = σ.ph r := if_neg hr
    rw [e3]
    by_cases z : (σ.ph r).bell = some σ.n
    · exact .inr z
    · refine .inl ?_
      rw [show (σ.ph r).sil σ.n = σ.ph r from if_neg z]
  · show (if k = σ.n then _ else (ringF (dial0 σ 3) σ.n (yB on)).ca k) = _
    rw [if_neg hk, eca, if_neg hk]
  · show (σ.op ++ [σ.n]).erase σ.n = σ.op
    rw [op]
    have a : ¬ (0 : Nat) = σ.n := by omega
    have b : ¬ (1 : Nat) = σ.n := by omega
    simp [List.erase_cons, a, b]
/-- it dials in vain, hangs up, is lifted again -/
theorem tri_vain {σ : Hl} {x y : Int} {i j : Nat} (h : Tri σ x y i j) (on : Bool) :
    (hearF (dialF σ (tX on) 3 1) 3).1 = "busy" ∧ ((dropF (dialF σ (tX on) 3 1) 3).ph 3) = ⟨false, none, none, none, "quiet"⟩ ∧ Tri (liftF (dropF (dialF σ (tX on) 3 1) 3) 3) x y i j := by
  obtain ⟨d1, d2, d3, d4, d5, d6⟩ := tri_dial h on
  obtain ⟨xy, n, op, ⟨t1, p1⟩, ⟨t2, px⟩, ⟨t3, py⟩, p3, p4, p5, ti, li, tj, lj⟩ := h
  have ij : i < σ.n ∧ j < σ.n := by rcases xy with ⟨_, _, a, b⟩ | ⟨_, _, a, b⟩ <;> omega
  generalize dialF σ (tX on) 3 1 = ρ at d1 d2 d3 d4 d5 d6
  have e0 : hearF ρ 3 = (("busy" : Str), [], false) := by
    unfold hearF
    rw [d3]
    rfl
  have ed : dropF ρ 3 = ρ.setPh 3 ⟨false, none, none, none, "quiet"⟩ := by
    unfold dropF
    rw [d3]
    rfl
  have e1 : (dropF ρ 3).ph 3 = ⟨false, none, none, none, "quiet"⟩ := by rw [ed]; exact setPh_self
  have el : liftF (dropF ρ 3) 3 = (dropF ρ 3).setPh 3 ⟨true, none, none, none, "dial"⟩ := by
    unfold liftF
    rw [e1]
  refine ⟨by rw [e0], e1, ?_⟩
  rw [el, ed]
  have q : ∀ r, r ≠ 3 → (σ.ph r).bell = none → ((ρ.setPh 3 ⟨false, none, none, none, "quiet"⟩).setPh 3 ⟨true, none, none, none, "dial"⟩).ph r = ((σ.ph r).ov1 σ.n).ov2 σ.n := fun r hr hb => by
    have e : ((ρ.setPh 3 ⟨false, none, none, none, "quiet"⟩).setPh 3 ⟨true, none, none, none, "dial"⟩).ph r = ρ.ph r := (if_neg hr).trans (if_neg hr)
    rw [e]
    rcases d4 r hr with z | z
    · exact z
    · rw [hb] at z; cases z
  have ni : i ≠ σ.n := by omega
  have nj : j ≠ σ.n := by omega
  have x3 : x ≠ 3 := by rcases xy with ⟨a, _⟩ | ⟨a, _⟩ <;> omega
  have y3 : y ≠ 3 := by rcases xy with ⟨_, a, _⟩ | ⟨_, a, _⟩ <;> omega
  refine ⟨xy, by show 2 ≤ ρ.n; omega, by show ρ.op = _; rw [d6, op], ⟨t1, ?_⟩, ⟨t2, ?_⟩, ⟨t3, ?_⟩, setPh_self, ?_, ?_, ?_, ?_, ?_, ?_⟩
  · rw [q 1 (by decide) (by rw [p1]), p1]
    simp [Ph.ov1, Ph.ov2, ni, nj]
  · rw [q x x3 (by rw [px]), px]
    simp [Ph.ov1, Ph.ov2, ni]
  · rw [q y y3 (by rw [py]), py]
    simp [Ph.ov1, Ph.ov2, nj]
  · rw [q 4 (by decide) (by rw [p4]; rfl), p4]
    rfl
  · rw [q 5 (by decide) (by rw [p5]; rfl), p5]
    rfl
  · show (ρ.ca i).talk = true
    rw [d5 i ni]; exact ti
  · show (ρ.ca i).ppl = _
    rw [d5 i ni]; exact li
  · show (ρ.ca j).talk = true
    rw [d5 j nj]; exact tj
  · show (ρ.ca j).ppl = _
    rw [d5 j nj]; exact lj

-- KY2
/-! ### the second part of k11: two knock, one is led on late, one holds and dials while knocked at -/
def lX (m : Nat) : List Wish := [.wait 0, .wait 1, .late 5 6 (m : Int)]
def lA : Hl := liftF (liftF (liftF (liftF Hl.new 0) 2) 3) 4
def lB (m : Nat) : Hl := dialF lA (lX m) 0 1
def lC (m : Nat) : Hl := liftF (lB m) 1
def lD (m : Nat) : Hl := dialF (lC m) (lX m) 2 0
def lE (m : Nat) : Hl := dialF (lD m) (lX m) 3 1
def lF (m : Nat) : Hl := dialF (lE m) (lX m) 4 5
def lG (m : Nat) : Nat → Hl
  | 0 => lF m
  | k + 1 => beatF (lG m k) (lX m)
def lH (m : Nat) : Hl := dropF (lG m m) 4
def lI (m : Nat) : Hl := holdF (lH m) 0
def lJ (m : Nat) : Hl := dialF (lI m) (lX m) 0 4
def lK (m : Nat) : Hl := liftF (lJ m) 4
theorem nine {P : Nat → Prop} (h : P 1 ∧ P 2 ∧ P 3 ∧ P 4 ∧ P 5 ∧ P 6 ∧ P 7 ∧ P 8 ∧ P 9) {m : Nat} (h1 : 1 ≤ m) (h9 : m ≤ 9) : P m := by
  have e : m = 1 ∨ m = 2 ∨ m = 3 ∨ m = 4 ∨ m = 5 ∨ m = 6 ∨ m = 7 ∨ m = 8 ∨ m = 9 := by omega
  obtain ⟨a, b, c, d, e1, f, g, h, i⟩ := h
  rcases e with rfl | rfl | rfl | rfl | rfl | rfl | rfl | rfl | rfl <;> assumption
theorem lX_ok {m : Nat} (h1 : 1 ≤ m) (h9 : m ≤ 9) : ∀ x ∈ lX m, x.ok := by
  intro x hx
  simp only [lX, List.mem_cons, List.not_mem_nil, or_false] at hx
  rcases hx with rfl | rfl | rfl <;> simp [Wish.ok] <;> omega
theorem lD_y (m : Nat) : ((lD m).ca 1).y = ⟨[0], [], none, "knocks", [0]⟩ := by kernel_rfl
theorem lE_y (m : Nat) : ((lE m).ca 2).y = ⟨[1], [], none, "knocks", [1]⟩ := by kernel_rfl
theorem lF_n (m : Nat) : (lB m).n = 1 ∧ (lC m).n = 1 ∧ (lD m).n = 2 ∧ (lE m).n = 3 ∧ (lF m).n = 4 := ⟨by kernel_rfl, by kernel_rfl, by kernel_rfl, by kernel_rfl, by kernel_rfl⟩
def lUp : Ph := ⟨true, none, none, none, "dial"⟩
theorem lA_ph : lA.ph 0 = lUp := by kernel_rfl
theorem lB_ph (m : Nat) : ((lB m).ph 1).up = false := by kernel_rfl
theorem lC_ph (m : Nat) : (lC m).ph 2 = lUp := by kernel_rfl
theorem lD_ph (m : Nat) : (lD m).ph 3 = lUp := by kernel_rfl
theorem lE_ph (m : Nat) : (lE m).ph 4 = lUp := by kernel_rfl
theorem lE_op (m : Nat) : lA.op.length ≤ 1000 ∧ (lC m).op.length ≤ 1000 ∧ (lD m).op.length ≤ 1000 ∧ (lE m).op.length ≤ 1000 := ⟨Nat.le_of_ble_eq_true (by kernel_rfl), Nat.le_of_ble_eq_true (by kernel_rfl), Nat.le_of_ble_eq_true (by kernel_rfl), Nat.le_of_ble_eq_true (by kernel_rfl)⟩
/-- the phones lifted one by one -/
def sF (l : List Int) (i : Nat) : Hl := (l.take i).foldl liftF Hl.new
theorem sF_step {l : List Int} (hl : l = [0, 2, 3, 4] ∨ l = [0, 2, 3]) : ∀ {i : Nat} {p : Int}, l[i]? = some p → 0 ≤ p ∧ p ≤ 5 ∧ ((sF l i).ph p).up = false ∧ sF l (i + 1) = liftF (sF l i) p ∧ (sF l i).n = 0 := by
  intro i p h
  rcases hl with rfl | rfl
  · match i, h with
    | 0, h => cases h; exact ⟨by decide, by decide, by kernel_rfl, rfl, by kernel_rfl⟩
    | 1, h => cases h; exact ⟨by decide, by decide, by kernel_rfl, rfl, by kernel_rfl⟩
    | 2, h => cases h; exact ⟨by decide, by decide, by kernel_rfl, rfl, by kernel_rfl⟩
    | 3, h => cases h; exact ⟨by decide, by decide, by kernel_rfl, rfl, by kernel_rfl⟩
    | _ + 4, h => cases h
  · match i, h with
    | 0, h => cases h; exact ⟨by decide, by decide, by kernel_rfl, rfl, by kernel_rfl⟩
    | 1, h => cases h; exact ⟨by decide, by decide, by kernel_rfl, rfl, by kernel_rfl⟩
    | 2, h => cases h; exact ⟨by decide, by decide, by kernel_rfl, rfl, by kernel_rfl⟩
    | _ + 3, h => cases h
theorem sF_inv {l : List Int} (hl : l = [0, 2, 3, 4] ∨ l = [0, 2, 3]) : ∀ i, i ≤ l.length → Inv (sF l i)
  | 0, _ => by unfold sF; exact inv_new
  | i + 1, h => by
    have hi : l[i]? = some l[i] := List.getElem?_eq_getElem (by omega)
    obtain ⟨p0, p5, up, e, _⟩ := sF_step hl hi
    rw [e]
    exact lift_inv (sF_inv hl i (by omega)) p0 p5 up
theorem lG_chk : ((List.range 10).all fun m => (List.range 10).all fun k => !(decide (1 ≤ m) && decide (k < m)) || decide (hearF (lG m k) 4 = (("rings" : Str), [], false))) = true := by kernel_rfl
theorem lG_hear {m k : Nat} (h1 : 1 ≤ m) (h9 : m ≤ 9) (hk : k < m) : hearF (lG m k) 4 = (("rings" : Str), [], false) := by
  have a := List.all_eq_true.mp lG_chk m (List.mem_range.mpr (by omega))
  have b := List.all_eq_true.mp a k (List.mem_range.mpr (by omega))
  simpa [h1, hk] using b
theorem lG_nc : ((List.range 10).all fun m => (List.range 11).all fun k => !(decide (1 ≤ m) && decide (k ≤ m)) || decide ((lG m k).n = 4)) = true := by kernel_rfl
theorem lG_n {m k : Nat} (h1 : 1 ≤ m) (h9 : m ≤ 9) (hk : k ≤ m) : (lG m k).n = 4 := by
  have a := List.all_eq_true.mp lG_nc m (List.mem_range.mpr (by omega))
  have b := List.all_eq_true.mp a k (List.mem_range.mpr (by omega))
  simpa [h1, hk] using b
theorem lG_opc : ((List.range 10).all fun m => (List.range 11).all fun k => !(decide (1 ≤ m) && decide (k ≤ m)) || decide ((lG m k).op.length ≤ 1000)) = true := by kernel_rfl
theorem lG_op {m k : Nat} (h1 : 1 ≤ m) (h9 : m ≤ 9) (hk : k ≤ m) : (lG m k).op.length ≤ 1000 := by
  have a := List.all_eq_true.mp lG_opc m (List.mem_range.mpr (by omega))
  have b := List.all_eq_true.mp a k (List.mem_range.mpr (by omega))
  simpa [h1, hk] using b
structure LY (m : Nat) : Prop where
  nA : lA.n = 0
  nB : (lB m).n = 1
  nC : (lC m).n = 1
  nD : (lD m).n = 2
  nE : (lE m).n = 3
  nF : (lF m).n = 4
  oA : lA.op.length ≤ 1000
  oC : (lC m).op.length ≤ 1000
  oD : (lD m).op.length ≤ 1000
  oE : (lE m).op.length ≤ 1000
theorem ly (m : Nat) : LY m := ⟨by kernel_rfl, (lF_n m).1, (lF_n m).2.1, (lF_n m).2.2.1, (lF_n m).2.2.2.1, (lF_n m).2.2.2.2, (lE_op m).1, (lE_op m).2.1, (lE_op m).2.2.1, (lE_op m).2.2.2⟩
/-- behind the beats -/
structure LZ (m : Nat) : Prop where
  g4 : hearF (lG m m) 4 = (("busy" : Str), [], false)
  u4 : ((lG m m).ph 4).up = true
  h0 : ((lH m).ph 0).up = true ∧ inTalk (lH m) 0 = true ∧ ((lH m).ph 0).kept = none
  i0 : ((lI m).ph 0).up = true ∧ ((lI m).ph 0).now = none ∧ ((lI m).ph 0).tone = "dial"
  io : (lI m).op.length ≤ 1000 ∧ (lI m).n = 4
  yJ : ((dialF (lI m) (lX m) 0 4).ca (lI m).n).y = ⟨[4], [], none, "rings", [4]⟩
  j0 : hearF (lJ m) 0 = (("rings" : Str), [], true)
  sJ : ((lJ m).ph 0).up = true ∧ ((lJ m).ph 0).now = some 4 ∧ ((lJ m).ca 4).talk = false ∧ ((lJ m).ph 0).kept = some 0
  j4 : ((lJ m).ph 4).up = false
  tK : ((lK m).ph 0).up = true ∧ ((lK m).ph 0).now = some 4 ∧ ((lK m).ca 4).talk = true ∧ ((lK m).ph 0).kept = some 0 ∧ ((lK m).ph 0).bell = some 1
  k0 : hearF (lK m) 0 = (("talk" : Str), [4], true)
theorem lz {m : Nat} (h1 : 1 ≤ m) (h9 : m ≤ 9) : LZ m := by
  refine nine (P := LZ) ⟨?_, ?_, ?_, ?_, ?_, ?_, ?_, ?_, ?_⟩ h1 h9 <;>
    exact ⟨by kernel_rfl, by kernel_rfl, ⟨by kernel_rfl, by kernel_rfl, by kernel_rfl⟩, ⟨by kernel_rfl, by kernel_rfl, by kernel_rfl⟩, ⟨Nat.le_of_ble_eq_true (by kernel_rfl), by kernel_rfl⟩, by kernel_rfl, by kernel_rfl, ⟨by kernel_rfl, by kernel_rfl, by kernel_rfl, by kernel_rfl⟩, by kernel_rfl, ⟨by kernel_rfl, by kernel_rfl, by kernel_rfl, by kernel_rfl, by kernel_rfl⟩,
      (show hearF _ 0 = (("talk" : Str), sortI [4], true) by kernel_rfl).trans (by rw [sortI_one])⟩
theorem l_inv {m : Nat} (h1 : 1 ≤ m) (h9 : m ≤ 9) : Inv lA ∧ Inv (lB m) ∧ Inv (lC m) ∧ Inv (lD m) ∧ Inv (lE m) ∧ (∀ k, Inv (lG m k)) ∧ Inv (lH m) ∧ Inv (lI m) ∧ Inv (lJ m) ∧ Inv (lK m) := by
  have ok := lX_ok h1 h9
  have z := lz h1 h9
  have a : Inv lA := sF_inv (.inl rfl) 4 (by decide)
  have b : Inv (lB m) := dial_inv a ok (by decide) (by decide) (by decide) (by decide) (by rw [lA_ph]; rfl) (by rw [lA_ph]; rfl)
  have c : Inv (lC m) := lift_inv b (by decide) (by decide) (lB_ph m)
  have d : Inv (lD m) := dial_inv c ok (by decide) (by decide) (by decide) (by decide) (by rw [lC_ph]; rfl) (by rw [lC_ph]; rfl)
  have e : Inv (lE m) := dial_inv d ok (by decide) (by decide) (by decide) (by decide) (by rw [lD_ph]; rfl) (by rw [lD_ph]; rfl)
  have f : Inv (lF m) := dial_inv e ok (by decide) (by decide) (by decide) (by decide) (by rw [lE_ph]; rfl) (by rw [lE_ph]; rfl)
  have g : ∀ k, Inv (lG m k) := fun k => by
    induction k with
    | zero => exact f
    | succ k ih => exact beat_inv ih ok
  have h : Inv (lH m) := drop_inv (g m) (by decide) (by decide)
  have i : Inv (lI m) := hold_inv h (by decide) (by decide) z.h0.1 z.h0.2.1 z.h0.2.2
  have j : Inv (lJ m) := dial_inv i ok (by decide) (by decide) (by decide) (by decide) z.i0.1 z.i0.2.1
  exact ⟨a, b, c, d, e, g, h, i, j, lift_inv j (by decide) (by decide) z.j4⟩
theorem lw_a : sF [0, 2, 3, 4] 4 = lA := by kernel_rfl
theorem lw_f (m : Nat) : dialF (lE m) (lX m) 4 5 = lG m 0 := by kernel_rfl
theorem lw_g (m k : Nat) : beatF (lG m k) (lX m) = lG m (k + 1) := by kernel_rfl
theorem lw_y (m : Nat) : ((lG m 0).ca 3).y = ⟨[5], [], none, "rings", [5]⟩ := by kernel_rfl
theorem lw_b (m : Nat) : dialF lA (lX m) 0 1 = lB m ∧ liftF (lB m) 1 = lC m ∧ dialF (lC m) (lX m) 2 0 = lD m ∧ dialF (lD m) (lX m) 3 1 = lE m ∧ dropF (lG m m) 4 = lH m ∧ holdF (lH m) 0 = lI m ∧ dialF (lI m) (lX m) 0 4 = lJ m ∧ liftF (lJ m) 4 = lK m :=
  ⟨by kernel_rfl, by kernel_rfl, by kernel_rfl, by kernel_rfl, by kernel_rfl, by kernel_rfl, by kernel_rfl, by kernel_rfl⟩
/-- all states of the second part, by names that hide them -/
structure LW (m : Nat) (sA sB sC sD sE : Hl) (sG : Nat → Hl) (sH sI sJ sK : Hl) : Prop where
  a : sF [0, 2, 3, 4] 4 = sA
  b : dialF sA (lX m) 0 1 = sB
  c : liftF sB 1 = sC
  d : dialF sC (lX m) 2 0 = sD
  e : dialF sD (lX m) 3 1 = sE
  f : dialF sE (lX m) 4 5 = sG 0
  g : ∀ k, beatF (sG k) (lX m) = sG (k + 1)
  h : dropF (sG m) 4 = sH
  i : holdF sH 0 = sI
  j : dialF sI (lX m) 0 4 = sJ
  k : liftF sJ 4 = sK
  iA : Inv sA
  iB : Inv sB
  iC : Inv sC
  iD : Inv sD
  iE : Inv sE
  iG : ∀ k, Inv (sG k)
  iH : Inv sH
  iI : Inv sI
  iJ : Inv sJ
  iK : Inv sK
  nA : sA.n = 0
  nB : sB.n = 1
  nC : sC.n = 1
  nD : sD.n = 2
  nE : sE.n = 3
  nG : ∀ k, k ≤ m → (sG k).n = 4
  nH : sH.n = 4
  nI : sI.n = 4
  nJ : sJ.n = 5
  oA : sA.op.length ≤ 1000
  oC : sC.op.length ≤ 1000
  oD : sD.op.length ≤ 1000
  oE : sE.op.length ≤ 1000
  oG : ∀ k, k ≤ m → (sG k).op.length ≤ 1000
  oI : sI.op.length ≤ 1000
  pA : sA.ph 0 = lUp
  pB : (sB.ph 1).up = false
  pC : sC.ph 2 = lUp
  pD : sD.ph 3 = lUp
  pE : sE.ph 4 = lUp
  yD : (sD.ca 1).y = ⟨[0], [], none, "knocks", [0]⟩
  yE : (sE.ca 2).y = ⟨[1], [], none, "knocks", [1]⟩
  yF : ((sG 0).ca 3).y = ⟨[5], [], none, "rings", [5]⟩
  hG : ∀ k, k < m → hearF (sG k) 4 = (("rings" : Str), [], false)
  g4 : hearF (sG m) 4 = (("busy" : Str), [], false)
  u4 : ((sG m).ph 4).up = true
  h0 : (sH.ph 0).up = true
  h1 : inTalk sH 0 = true
  h2 : (sH.ph 0).kept = none
  i0 : (sI.ph 0).up = true
  i1 : (sI.ph 0).now = none
  i2 : (sI.ph 0).tone = "dial"
  yJ : (sJ.ca 4).y = ⟨[4], [], none, "rings", [4]⟩
  j0 : hearF sJ 0 = (("rings" : Str), [], true)
  s0 : (sJ.ph 0).up = true
  s1 : (sJ.ph 0).now = some 4
  s2 : (sJ.ca 4).talk = false
  s3 : (sJ.ph 0).kept = some 0
  j4 : (sJ.ph 4).up = false
  k0 : (sK.ph 0).up = true
  k1 : (sK.ph 0).now = some 4
  k2 : (sK.ca 4).talk = true
  k3 : (sK.ph 0).kept = some 0
  k4 : (sK.ph 0).bell = some 1
  kh : hearF sK 0 = (("talk" : Str), [4], true)
theorem lw {m : Nat} (h1 : 1 ≤ m) (h9 : m ≤ 9) : ∃ sA sB sC sD sE sG sH sI sJ sK, LW m sA sB sC sD sE sG sH sI sJ sK := by
  have Z := lz h1 h9
  have Y := ly m
  obtain ⟨iA, iB, iC, iD, iE, iG, iH, iI, iJ, iK⟩ := l_inv h1 h9
  refine ⟨lA, lB m, lC m, lD m, lE m, lG m, lH m, lI m, lJ m, lK m, ?_⟩
  have q : (lH m).n = 4 ∧ (lJ m).n = 5 ∧ ((lJ m).ca 4).y = ⟨[4], [], none, "rings", [4]⟩ := by
    refine nine (P := fun m => (lH m).n = 4 ∧ (lJ m).n = 5 ∧ ((lJ m).ca 4).y = ⟨[4], [], none, "rings", [4]⟩) ⟨?_, ?_, ?_, ?_, ?_, ?_, ?_, ?_, ?_⟩ h1 h9 <;> exact ⟨by kernel_rfl, by kernel_rfl, by kernel_rfl⟩
  obtain ⟨b1, b2, b3, b4, b5, b6, b7, b8⟩ := lw_b m
  exact { a := lw_a, b := b1, c := b2, d := b3, e := b4, f := lw_f m, g := lw_g m, h := b5, i := b6, j := b7, k := b8, iA := iA, iB := iB, iC := iC, iD := iD, iE := iE, iG := iG, iH := iH, iI := iI, iJ := iJ, iK := iK, nA := Y.nA, nB := Y.nB, nC := Y.nC, nD := Y.nD, nE := Y.nE, nG := fun k hk => lG_n h1 h9 hk, nH := q.1, nI := Z.io.2, nJ := q.2.1, oA := Y.oA, oC := Y.oC, oD := Y.oD, oE := Y.oE, oG := fun k hk => lG_op h1 h9 hk, oI := Z.io.1, pA := lA_ph, pB := lB_ph m, pC := lC_ph m, pD := lD_ph m, pE := lE_ph m, yD := lD_y m, yE := lE_y m, yF := lw_y m, hG := fun k hk => lG_hear h1 h9 hk, g4 := Z.g4, u4 := Z.u4, h0 := Z.h0.1, h1 := Z.h0.2.1, h2 := Z.h0.2.2, i0 := Z.i0.1, i1 := Z.i0.2.1, i2 := Z.i0.2.2, yJ := q.2.2, j0 := Z.j0, s0 := Z.sJ.1, s1 := Z.sJ.2.1, s2 := Z.sJ.2.2.1, s3 := Z.sJ.2.2.2, j4 := Z.j4, k0 := Z.tK.1, k1 := Z.tK.2.1, k2 := Z.tK.2.2.1, k3 := Z.tK.2.2.2.1, k4 := Z.tK.2.2.2.2, kh := Z.k0 }

-- KY3
theorem tX_ok (on : Bool) : ∀ x ∈ tX on, x.ok := by
  intro x hx
  cases on
  · simp only [tX, List.mem_cons, List.not_mem_nil, or_false, if_neg, Bool.false_eq_true, if_false] at hx
    subst hx
    simp [Wish.ok]
  · simp only [tX, List.mem_cons, List.not_mem_nil, or_false, if_true] at hx
    rcases hx with rfl | rfl <;> simp [Wish.ok]
structure LV (on : Bool) (sA sB sC sD sE sU sT : Hl) : Prop where
  a : sF [0, 2, 3] 3 = sA
  b : dialF sA (tX on) 0 1 = sB
  c : liftF sB 1 = sC
  d : dialF sC (tX on) 2 1 = sD
  e : dropF sD 1 = sE
  f : liftF sE 1 = sU
  t : takeF sD 1 = sT
  iA : Inv sA
  iB : Inv sB
  iC : Inv sC
  iD : Inv sD
  iE : Inv sE
  iU : Inv sU
  iT : Inv sT
  nA : sA.n = 0
  nB : sB.n = 1
  nC : sC.n = 1
  nD : sD.n = 2
  nE : sE.n = 2
  nT : sT.n = 2
  oA : sA.op.length ≤ 1000
  oC : sC.op.length ≤ 1000
  pA : sA.ph 0 = lUp
  pB : (sB.ph 1).up = false
  pC : sC.ph 2 = lUp
  yB : (sB.ca 0).y = ⟨[1], [], none, "rings", [1]⟩
  yD : (sD.ca 1).y = ⟨[1], [], none, "knocks", [1]⟩
  hD1 : hearF sD 1 = (("talk" : Str), [0], true)
  hD2 : hearF sD 2 = (("rings" : Str), [], false)
  uD : (sD.ph 1).up = true
  tD : inTalk sD 1 = true
  kD : (sD.ph 1).kept = none
  bD : (sD.ph 1).bell = some 1
  hE1 : hearF sE 1 = (("bell" : Str), [], false)
  hE0 : hearF sE 0 = (("busy" : Str), [], false)
  hE2 : hearF sE 2 = (("rings" : Str), [], false)
  uE : (sE.ph 1).up = false
  hU1 : hearF sU 1 = (("talk" : Str), [2], false)
  hU2 : hearF sU 2 = (("talk" : Str), [1], false)
  tri : Tri sT 2 0 1 0
theorem on_two {P : Bool → Prop} (h : P false ∧ P true) (on : Bool) : P on := by cases on; exact h.1; exact h.2
theorem lv_1 (on : Bool) : sF [0, 2, 3] 3 = tA ∧ dialF tA (tX on) 0 1 = tB on ∧ liftF (tB on) 1 = tC on ∧ dialF (tC on) (tX on) 2 1 = tD on ∧ dropF (tD on) 1 = tE on ∧ liftF (tE on) 1 = tF on ∧ takeF (tD on) 1 = tT on :=
  ⟨by kernel_rfl, by kernel_rfl, by kernel_rfl, by kernel_rfl, by kernel_rfl, by kernel_rfl, by kernel_rfl⟩
theorem lv_n (on : Bool) : tA.n = 0 ∧ (tB on).n = 1 ∧ (tC on).n = 1 ∧ (tD on).n = 2 ∧ (tE on).n = 2 ∧ (tT on).n = 2 := on_two (P := fun on => tA.n = 0 ∧ (tB on).n = 1 ∧ (tC on).n = 1 ∧ (tD on).n = 2 ∧ (tE on).n = 2 ∧ (tT on).n = 2)
  ⟨⟨by kernel_rfl, by kernel_rfl, by kernel_rfl, by kernel_rfl, by kernel_rfl, by kernel_rfl⟩, ⟨by kernel_rfl, by kernel_rfl, by kernel_rfl, by kernel_rfl, by kernel_rfl, by kernel_rfl⟩⟩ on
theorem lv_p (on : Bool) : tA.ph 0 = lUp ∧ ((tB on).ph 1).up = false ∧ (tC on).ph 2 = lUp ∧ ((tD on).ph 1).up = true ∧ inTalk (tD on) 1 = true ∧ ((tD on).ph 1).kept = none ∧ ((tD on).ph 1).bell = some 1 ∧ ((tE on).ph 1).up = false :=
  on_two (P := fun on => tA.ph 0 = lUp ∧ ((tB on).ph 1).up = false ∧ (tC on).ph 2 = lUp ∧ ((tD on).ph 1).up = true ∧ inTalk (tD on) 1 = true ∧ ((tD on).ph 1).kept = none ∧ ((tD on).ph 1).bell = some 1 ∧ ((tE on).ph 1).up = false)
  ⟨⟨by kernel_rfl, by kernel_rfl, by kernel_rfl, by kernel_rfl, by kernel_rfl, by kernel_rfl, by kernel_rfl, by kernel_rfl⟩, ⟨by kernel_rfl, by kernel_rfl, by kernel_rfl, by kernel_rfl, by kernel_rfl, by kernel_rfl, by kernel_rfl, by kernel_rfl⟩⟩ on
theorem lv_y (on : Bool) : ((tB on).ca 0).y = ⟨[1], [], none, "rings", [1]⟩ ∧ ((tD on).ca 1).y = ⟨[1], [], none, "knocks", [1]⟩ :=
  on_two (P := fun on => ((tB on).ca 0).y = ⟨[1], [], none, "rings", [1]⟩ ∧ ((tD on).ca 1).y = ⟨[1], [], none, "knocks", [1]⟩) ⟨⟨by kernel_rfl, by kernel_rfl⟩, ⟨by kernel_rfl, by kernel_rfl⟩⟩ on
theorem lv_h (on : Bool) : hearF (tD on) 1 = (("talk" : Str), sortI [0], true) ∧ hearF (tD on) 2 = (("rings" : Str), [], false) ∧ hearF (tE on) 1 = (("bell" : Str), [], false) ∧ hearF (tE on) 0 = (("busy" : Str), [], false) ∧ hearF (tE on) 2 = (("rings" : Str), [], false) ∧ hearF (tF on) 1 = (("talk" : Str), sortI [2], false) ∧ hearF (tF on) 2 = (("talk" : Str), sortI [1], false) :=
  on_two (P := fun on => hearF (tD on) 1 = (("talk" : Str), sortI [0], true) ∧ hearF (tD on) 2 = (("rings" : Str), [], false) ∧ hearF (tE on) 1 = (("bell" : Str), [], false) ∧ hearF (tE on) 0 = (("busy" : Str), [], false) ∧ hearF (tE on) 2 = (("rings" : Str), [], false) ∧ hearF (tF on) 1 = (("talk" : Str), sortI [2], false) ∧ hearF (tF on) 2 = (("talk" : Str), sortI [1], false))
  ⟨⟨by kernel_rfl, by kernel_rfl, by kernel_rfl, by kernel_rfl, by kernel_rfl, by kernel_rfl, by kernel_rfl⟩, ⟨by kernel_rfl, by kernel_rfl, by kernel_rfl, by kernel_rfl, by kernel_rfl, by kernel_rfl, by kernel_rfl⟩⟩ on
theorem lv_o (on : Bool) : tA.op.length ≤ 1000 ∧ (tC on).op.length ≤ 1000 := on_two (P := fun on => tA.op.length ≤ 1000 ∧ (tC on).op.length ≤ 1000) ⟨⟨Nat.le_of_ble_eq_true (by kernel_rfl), Nat.le_of_ble_eq_true (by kernel_rfl)⟩, ⟨Nat.le_of_ble_eq_true (by kernel_rfl), Nat.le_of_ble_eq_true (by kernel_rfl)⟩⟩ on
theorem lv (on : Bool) : ∃ sA sB sC sD sE sU sT, LV on sA sB sC sD sE sU sT := by
  obtain ⟨a, b, c, d, e, f, t⟩ := lv_1 on
  obtain ⟨n1, n2, n3, n4, n5, n6⟩ := lv_n on
  obtain ⟨p1, p2, p3, p4, p5, p6, p7, p8⟩ := lv_p on
  obtain ⟨y1, y2⟩ := lv_y on
  obtain ⟨h1, h2, h3, h4, h5, h6, h7⟩ := lv_h on
  obtain ⟨o1, o2⟩ := lv_o on
  rw [sortI_one] at h1 h6 h7
  have ok := tX_ok on
  have tr := tri_T on
  have iA : Inv tA := by
    have := sF_inv (.inr rfl : ([0, 2, 3] : List Int) = [0, 2, 3, 4] ∨ ([0, 2, 3] : List Int) = [0, 2, 3]) 3 (by decide)
    rw [a] at this
    exact this
  generalize tA = sA at *
  have iB := dial_inv (p := 0) (g := 1) iA ok (by decide) (by decide) (by decide) (by decide) (by rw [p1]; rfl) (by rw [p1]; rfl)
  rw [b] at iB
  generalize tB on = sB at *
  have iC := lift_inv (p := 1) iB (by decide) (by decide) p2
  rw [c] at iC
  generalize tC on = sC at *
  have iD := dial_inv (p := 2) (g := 1) iC ok (by decide) (by decide) (by decide) (by decide) (by rw [p3]; rfl) (by rw [p3]; rfl)
  rw [d] at iD
  generalize tD on = sD at *
  have iE := drop_inv iD (p := 1) (by decide) (by decide)
  rw [e] at iE
  generalize tE on = sE at *
  have iU := lift_inv (p := 1) iE (by decide) (by decide) p8
  rw [f] at iU
  have iT := take_inv (p := 1) iD (by decide) (by decide) p4 p5 p6
  rw [t] at iT
  exact ⟨sA, sB, sC, sD, sE, tF on, tT on, ⟨a, b, c, d, e, f, t, iA, iB, iC, iD, iE, iU, iT, n1, n2, n3, n4, n5, n6, o1, o2, p1, p2, p3, y1, y2, h1, h2, p4, p5, p6, p7, h3, h4, h5, p8, h6, h7, tr⟩⟩
theorem due_m {a b : Int} {p q : W} (h1 : a ≠ b) : mergeW [] [((.inl a : Key), p), (.inl b, q)] = [(.inl a, p), (.inl b, q)] := by
  simp [mergeW, putW, h1]
theorem due_p {a b c : Int} {p q r : W} (h2 : a ≠ c) (h3 : b ≠ c) : putW [((.inl a : Key), p), (.inl b, q)] (.inl c) r = [(.inl a, p), (.inl b, q), (.inl c, r)] := by
  simp [putW, h2, h3]
theorem due_1 {a : Int} {p : W} {l : List (Key × W)} : valW (((.inl a : Key), p) :: l) (.inl a) = some p := by simp [valW, List.find?_cons]
theorem due_2 {a b : Int} {p q : W} {l : List (Key × W)} (h1 : a ≠ b) : valW (((.inl a : Key), p) :: (.inl b, q) :: l) (.inl b) = some q := by simp [valW, List.find?_cons, h1]
theorem due_3 {a b c : Int} {p q r : W} {l : List (Key × W)} (h2 : a ≠ c) (h3 : b ≠ c) : valW (((.inl a : Key), p) :: (.inl b, q) :: (.inl c, r) :: l) (.inl c) = some r := by simp [valW, List.find?_cons, h2, h3]
theorem lift_n {σ : Hl} {p : Int} : (liftF σ p).n = σ.n := by
  unfold liftF
  dsimp only
  split <;> rfl
theorem tri_hb {σ : Hl} {x y : Int} {i j : Nat} (h : Tri σ x y i j) (on : Bool) : hearF (dialF σ (tX on) 3 1) 3 = (("busy" : Str), [], false) := by
  unfold hearF
  rw [(tri_dial h on).2.2.1]
  rfl
theorem Tri.talk {σ : Hl} {x y : Int} {i j : Nat} (h : Tri σ x y i j) : inTalk σ 1 = true ∧ (σ.ph 1).up = true ∧ (σ.ph 1).kept ≠ none ∧ (σ.ph x).up = true ∧ (σ.ph y).up = true ∧ 0 ≤ x ∧ x ≤ 5 ∧ 0 ≤ y ∧ y ≤ 5 ∧ x ≠ y ∧ x ≠ 1 ∧ y ≠ 1 := by
  obtain ⟨xy, n, op, ⟨t1, p1⟩, ⟨t2, px⟩, ⟨t3, py⟩, p3, p4, p5, ti, li, tj, lj⟩ := h
  refine ⟨by unfold inTalk; rw [p1]; exact ti, by rw [p1], by rw [p1]; exact fun z => (nomatch z), by rw [px], by rw [py], ?_⟩
  rcases xy with ⟨a, b, _⟩ | ⟨a, b, _⟩ <;> subst a <;> subst b <;> decide
/-- what is heard behind a drop, whole -/
theorem tri_dropw {σ : Hl} {x y : Int} {i j : Nat} (h : Tri σ x y i j) :
    (∃ l b, hearF (dropF σ x) 1 = (("busy" : Str), l, b)) ∧ (∃ l b, hearF (dropF σ x) y = (("music" : Str), l, b)) ∧ (∃ l b, hearF (dropF σ y) 1 = (("talk" : Str), l, b)) ∧ (∃ l b, hearF (dropF σ y) x = (("talk" : Str), l, b)) ∧ (∃ l b, hearF (dropF σ 1) x = (("busy" : Str), l, b)) ∧ ∃ l b, hearF (dropF σ 1) y = (("busy" : Str), l, b) := by
  obtain ⟨⟨a, b⟩, ⟨c, d⟩, e, f⟩ := tri_drop h
  have q : ∀ (z : Str × List Int × Bool) (w : Str), z.1 = w → ∃ l b, z = (w, l, b) := fun z w e => ⟨z.2.1, z.2.2, by rw [← e]⟩
  exact ⟨q _ _ a, q _ _ b, q _ _ c, q _ _ d, q _ _ e, q _ _ f⟩
def onL (ν : Int → Int) : Bool → List W
  | true => [.tup [.str "busy", .int (ν 1), .int (ν 3)]]
  | false => []

-- G_k11
def top (i : Nat) : Stmt := PySem.Challenge.pw_phonehall_k11_knocking_taking_exchanging.main.body.getD i (.Pass ⟨0, 0, 0, 0⟩)
structure GL (mg : Str → Option Value) : Prop where
  b_isinstance : mg "isinstance" = none
  b_int : mg "int" = none
  b_bool : mg "bool" = none
  b_tuple : mg "tuple" = none
  b_str : mg "str" = none
  b_list : mg "list" = none
  b_len : mg "len" = none
  b_range : mg "range" = none
  b_enumerate : mg "enumerate" = none
  b_sorted : mg "sorted" = none
  c_PHONES : MgI mg "PHONES" 6
  c_NUMBERS : MgI mg "NUMBERS" 8
  c_MOST_LATE : MgI mg "MOST_LATE" 9
  c_MOST_WISHES : MgI mg "MOST_WISHES" 24
  c_ALL : MgS mg "ALL" "all"
  c_BUSY : MgS mg "BUSY" "busy"
  c_LATE : MgS mg "LATE" "late"
  c_WAIT : MgS mg "WAIT" "wait"
  c_STILL : MgS mg "STILL" "still"
  c_BAR : MgS mg "BAR" "bar"
  c_GROUP : MgS mg "GROUP" "group"
  c_FREE : MgS mg "FREE" "free"
  c_RINGS : MgS mg "RINGS" "rings"
  c_KNOCKS : MgS mg "KNOCKS" "knocks"
  c_BARRED : MgS mg "BARRED" "barred"
  c_ROUND : MgS mg "ROUND" "round"
  c_NOBODY : MgS mg "NOBODY" "nobody"
  c_QUIET : MgS mg "QUIET" "quiet"
  c_DIAL : MgS mg "DIAL" "dial"
  c_BELL : MgS mg "BELL" "bell"
  c_TALK : MgS mg "TALK" "talk"
  c_MUSIC : MgS mg "MUSIC" "music"
  c_MOST_AGE : MgI mg "MOST_AGE" 12
section
abbrev s_BadWish_init : Stmt := (inClass (top 3) 0)
theorem sc_BadWish_init : FnScope ["self", "number"] ["self", "number"] (defScope s_BadWish_init) := ⟨rfl, rfl, rfl, by decide +kernel, rfl, by decide +kernel, by decide +kernel⟩
abbrev s_is_number : Stmt := (top 20)
theorem sc_is_number : FnScope ["part", "low", "high"] ["part", "low", "high"] (defScope s_is_number) := ⟨rfl, rfl, rfl, by decide +kernel, rfl, by decide +kernel, by decide +kernel⟩
abbrev s_is_phone : Stmt := (top 21)
theorem sc_is_phone : FnScope ["part"] ["part"] (defScope s_is_phone) := ⟨rfl, rfl, rfl, by decide +kernel, rfl, by decide +kernel, by decide +kernel⟩
abbrev s_need_phone : Stmt := (top 22)
theorem sc_need_phone : FnScope ["phone"] ["phone"] (defScope s_need_phone) := ⟨rfl, rfl, rfl, by decide +kernel, rfl, by decide +kernel, by decide +kernel⟩
abbrev s_need_number : Stmt := (top 23)
theorem sc_need_number : FnScope ["number"] ["number"] (defScope s_need_number) := ⟨rfl, rfl, rfl, by decide +kernel, rfl, by decide +kernel, by decide +kernel⟩
abbrev s_are_members : Stmt := (top 24)
theorem sc_are_members : FnScope ["part", "one", "k"] ["part"] (defScope s_are_members) := ⟨rfl, rfl, rfl, by decide +kernel, rfl, by decide +kernel, by decide +kernel⟩
abbrev s_is_wish : Stmt := (top 25)
theorem sc_is_wish : FnScope ["wish", "word", "rest"] ["wish"] (defScope s_is_wish) := ⟨rfl, rfl, rfl, by decide +kernel, rfl, by decide +kernel, by decide +kernel⟩
abbrev s_key_of : Stmt := (top 26)
theorem sc_key_of : FnScope ["wish"] ["wish"] (defScope s_key_of) := ⟨rfl, rfl, rfl, by decide +kernel, rfl, by decide +kernel, by decide +kernel⟩
abbrev s_need_wishes : Stmt := (top 27)
theorem sc_need_wishes : FnScope ["wishes", "known", "number", "wish"] ["wishes"] (defScope s_need_wishes) := ⟨rfl, rfl, rfl, by decide +kernel, rfl, by decide +kernel, by decide +kernel⟩
abbrev s_Book_init : Stmt := (inClass (top 28) 0)
theorem sc_Book_init : FnScope ["self", "wishes", "wish"] ["self", "wishes"] (defScope s_Book_init) := ⟨rfl, rfl, rfl, by decide +kernel, rfl, by decide +kernel, by decide +kernel⟩
abbrev s_Book_has : Stmt := (inClass (top 28) 1)
theorem sc_Book_has : FnScope ["self", "word", "phone"] ["self", "word", "phone"] (defScope s_Book_has) := ⟨rfl, rfl, rfl, by decide +kernel, rfl, by decide +kernel, by decide +kernel⟩
abbrev s_Book_goal : Stmt := (inClass (top 28) 2)
theorem sc_Book_goal : FnScope ["self", "word", "phone"] ["self", "word", "phone"] (defScope s_Book_goal) := ⟨rfl, rfl, rfl, by decide +kernel, rfl, by decide +kernel, by decide +kernel⟩
abbrev s_Book_patience : Stmt := (inClass (top 28) 3)
theorem sc_Book_patience : FnScope ["self", "phone"] ["self", "phone"] (defScope s_Book_patience) := ⟨rfl, rfl, rfl, by decide +kernel, rfl, by decide +kernel, by decide +kernel⟩
abbrev s_Book_bars : Stmt := (inClass (top 28) 4)
theorem sc_Book_bars : FnScope ["self", "phone", "caller"] ["self", "phone", "caller"] (defScope s_Book_bars) := ⟨rfl, rfl, rfl, by decide +kernel, rfl, by decide +kernel, by decide +kernel⟩
abbrev s_Book_members : Stmt := (inClass (top 28) 5)
theorem sc_Book_members : FnScope ["self", "group"] ["self", "group"] (defScope s_Book_members) := ⟨rfl, rfl, rfl, by decide +kernel, rfl, by decide +kernel, by decide +kernel⟩
abbrev s_rings_at : Stmt := (top 35)
theorem sc_rings_at : FnScope ["book", "caller", "group", "states", "found", "phone", "may"] ["book", "caller", "group", "states"] (defScope s_rings_at) := ⟨rfl, rfl, rfl, by decide +kernel, rfl, by decide +kernel, by decide +kernel⟩
abbrev s_next_of : Stmt := (top 36)
theorem sc_next_of : FnScope ["book", "caller", "phone", "states", "knocks"] ["book", "caller", "phone", "states", "knocks"] (defScope s_next_of) := ⟨rfl, rfl, rfl, by decide +kernel, rfl, by decide +kernel, by decide +kernel⟩
abbrev s_Way_init : Stmt := (inClass (top 37) 0)
theorem sc_Way_init : FnScope ["self", "book", "caller"] ["self", "book", "caller"] (defScope s_Way_init) := ⟨rfl, rfl, rfl, by decide +kernel, rfl, by decide +kernel, by decide +kernel⟩
abbrev s_Way_go : Stmt := (inClass (top 37) 1)
theorem sc_Way_go : FnScope ["self", "number", "states", "knocks", "goal"] ["self", "number", "states", "knocks"] (defScope s_Way_go) := ⟨rfl, rfl, rfl, by decide +kernel, rfl, by decide +kernel, by decide +kernel⟩
abbrev s_Way_step : Stmt := (inClass (top 37) 2)
theorem sc_Way_step : FnScope ["self", "number", "states", "knocks", "found"] ["self", "number", "states", "knocks"] (defScope s_Way_step) := ⟨rfl, rfl, rfl, by decide +kernel, rfl, by decide +kernel, by decide +kernel⟩
abbrev s_Call_init : Stmt := (inClass (top 45) 0)
theorem sc_Call_init : FnScope ["self", "way"] ["self", "way"] (defScope s_Call_init) := ⟨rfl, rfl, rfl, by decide +kernel, rfl, by decide +kernel, by decide +kernel⟩
abbrev s_Phone_init : Stmt := (inClass (top 46) 0)
theorem sc_Phone_init : FnScope ["self"] ["self"] (defScope s_Phone_init) := ⟨rfl, rfl, rfl, by decide +kernel, rfl, by decide +kernel, by decide +kernel⟩
abbrev s_Hall_init : Stmt := (inClass (top 47) 0)
theorem sc_Hall_init : FnScope ["self", "wishes", "number"] ["self", "wishes"] (defScope s_Hall_init) := ⟨rfl, rfl, rfl, by decide +kernel, rfl, by decide +kernel, by decide +kernel⟩
abbrev s_Hall_phone : Stmt := (inClass (top 47) 1)
theorem sc_Hall_phone : FnScope ["self", "number", "is_up", "found"] ["self", "number", "is_up"] (defScope s_Hall_phone) := ⟨rfl, rfl, rfl, by decide +kernel, rfl, by decide +kernel, by decide +kernel⟩
abbrev s_Hall_may_be_knocked_at : Stmt := (inClass (top 47) 2)
theorem sc_Hall_may_be_knocked_at : FnScope ["self", "number", "phone", "is_in_talk"] ["self", "number"] (defScope s_Hall_may_be_knocked_at) := ⟨rfl, rfl, rfl, by decide +kernel, rfl, by decide +kernel, by decide +kernel⟩
abbrev s_Hall_go_on : Stmt := (inClass (top 47) 3)
theorem sc_Hall_go_on : FnScope ["self", "call", "number", "states", "phone", "ear"] ["self", "call", "number"] (defScope s_Hall_go_on) := ⟨rfl, rfl, rfl, by decide +kernel, rfl, by decide +kernel, by decide +kernel⟩
abbrev s_Hall_knock_list : Stmt := (inClass (top 47) 4)
theorem sc_Hall_knock_list : FnScope ["self", "states", "number"] ["self", "states"] (defScope s_Hall_knock_list) := ⟨rfl, rfl, rfl, by decide +kernel, rfl, by decide +kernel, by decide +kernel⟩
abbrev s_Hall_silence : Stmt := (inClass (top 47) 5)
theorem sc_Hall_silence : FnScope ["self", "call", "phone"] ["self", "call"] (defScope s_Hall_silence) := ⟨rfl, rfl, rfl, by decide +kernel, rfl, by decide +kernel, by decide +kernel⟩
abbrev s_Hall_over : Stmt := (inClass (top 47) 6)
theorem sc_Hall_over : FnScope ["self", "call", "phone"] ["self", "call"] (defScope s_Hall_over) := ⟨rfl, rfl, rfl, by decide +kernel, rfl, by decide +kernel, by decide +kernel⟩
abbrev s_Hall_answer : Stmt := (inClass (top 47) 7)
theorem sc_Hall_answer : FnScope ["self", "call", "number"] ["self", "call", "number"] (defScope s_Hall_answer) := ⟨rfl, rfl, rfl, by decide +kernel, rfl, by decide +kernel, by decide +kernel⟩
abbrev s_Hall_leave : Stmt := (inClass (top 47) 8)
theorem sc_Hall_leave : FnScope ["self", "call", "number"] ["self", "call", "number"] (defScope s_Hall_leave) := ⟨rfl, rfl, rfl, by decide +kernel, rfl, by decide +kernel, by decide +kernel⟩
abbrev s_Hall_lift : Stmt := (inClass (top 47) 9)
theorem sc_Hall_lift : FnScope ["self", "number", "phone"] ["self", "number"] (defScope s_Hall_lift) := ⟨rfl, rfl, rfl, by decide +kernel, rfl, by decide +kernel, by decide +kernel⟩
abbrev s_Hall_dial : Stmt := (inClass (top 47) 10)
theorem sc_Hall_dial : FnScope ["self", "number", "goal", "phone", "call"] ["self", "number", "goal"] (defScope s_Hall_dial) := ⟨rfl, rfl, rfl, by decide +kernel, rfl, by decide +kernel, by decide +kernel⟩
abbrev s_Hall_drop : Stmt := (inClass (top 47) 11)
theorem sc_Hall_drop : FnScope ["self", "number", "phone", "now", "kept"] ["self", "number"] (defScope s_Hall_drop) := ⟨rfl, rfl, rfl, by decide +kernel, rfl, by decide +kernel, by decide +kernel⟩
abbrev s_Hall_need_talk : Stmt := (inClass (top 47) 12)
theorem sc_Hall_need_talk : FnScope ["self", "phone"] ["self", "phone"] (defScope s_Hall_need_talk) := ⟨rfl, rfl, rfl, by decide +kernel, rfl, by decide +kernel, by decide +kernel⟩
abbrev s_Hall_hold : Stmt := (inClass (top 47) 13)
theorem sc_Hall_hold : FnScope ["self", "number", "phone"] ["self", "number"] (defScope s_Hall_hold) := ⟨rfl, rfl, rfl, by decide +kernel, rfl, by decide +kernel, by decide +kernel⟩
abbrev s_Hall_swap : Stmt := (inClass (top 47) 14)
theorem sc_Hall_swap : FnScope ["self", "number", "phone"] ["self", "number"] (defScope s_Hall_swap) := ⟨rfl, rfl, rfl, by decide +kernel, rfl, by decide +kernel, by decide +kernel⟩
abbrev s_Hall_take : Stmt := (inClass (top 47) 15)
theorem sc_Hall_take : FnScope ["self", "number", "phone"] ["self", "number"] (defScope s_Hall_take) := ⟨rfl, rfl, rfl, by decide +kernel, rfl, by decide +kernel, by decide +kernel⟩
abbrev s_Hall_join : Stmt := (inClass (top 47) 16)
theorem sc_Hall_join : FnScope ["self", "number"] ["self", "number"] (defScope s_Hall_join) := ⟨rfl, rfl, rfl, by decide +kernel, rfl, by decide +kernel, by decide +kernel⟩
abbrev s_Hall_beat : Stmt := (inClass (top 47) 17)
theorem sc_Hall_beat : FnScope ["self", "call"] ["self"] (defScope s_Hall_beat) := ⟨rfl, rfl, rfl, by decide +kernel, rfl, by decide +kernel, by decide +kernel⟩
abbrev s_Hall_late : Stmt := (inClass (top 47) 18)
theorem sc_Hall_late : FnScope ["self", "call", "way", "number", "goal"] ["self", "call"] (defScope s_Hall_late) := ⟨rfl, rfl, rfl, by decide +kernel, rfl, by decide +kernel, by decide +kernel⟩
abbrev s_Hall_hear : Stmt := (inClass (top 47) 19)
theorem sc_Hall_hear : FnScope ["self", "number", "phone", "people", "one"] ["self", "number"] (defScope s_Hall_hear) := ⟨rfl, rfl, rfl, by decide +kernel, rfl, by decide +kernel, by decide +kernel⟩
abbrev s_Hall_all_calls : Stmt := (inClass (top 47) 20)
theorem sc_Hall_all_calls : FnScope ["self"] ["self"] (defScope s_Hall_all_calls) := ⟨rfl, rfl, rfl, by decide +kernel, rfl, by decide +kernel, by decide +kernel⟩
abbrev s_law_taken : Stmt := (top 49)
theorem sc_law_taken : FnScope ["_law_row", "_law_many", "_law_cell"] ["_law_row", "_law_many"] (defScope s_law_taken) := ⟨rfl, rfl, rfl, by decide +kernel, rfl, by decide +kernel, by decide +kernel⟩
abbrev s_law_is_so : Stmt := (top 50)
theorem sc_law_is_so : FnScope ["_law_row", "_law_hall", "_law_some", "_law_on", "_law_kept", "_law_b", "_law_now", "_law_d", "_law_step", "_law_due", "_law_who", "_law_one"] ["_law_row", "_law_hall", "_law_some", "_law_on"] (defScope s_law_is_so) := ⟨rfl, rfl, rfl, by decide +kernel, rfl, by decide +kernel, by decide +kernel⟩
abbrev s_law_is_not_now : Stmt := (top 51)
theorem sc_law_is_not_now : FnScope ["_law_work", "_law_e"] ["_law_work"] (defScope s_law_is_not_now) := ⟨rfl, rfl, rfl, by decide +kernel, rfl, by decide +kernel, by decide +kernel⟩
abbrev s_law_at_length : Stmt := (top 52)
theorem sc_law_at_length : FnScope ["_law_order", "_law_many", "_law_a", "_law_b", "_law_c", "_law_d", "_law_e", "_law_f", "_law_hall", "_law_phone", "_law_beat"] ["_law_order", "_law_many"] (defScope s_law_at_length) := ⟨rfl, rfl, rfl, by decide +kernel, rfl, by decide +kernel, by decide +kernel⟩
abbrev s_law : Stmt := (top 53)
theorem sc_law : FnScope ["_law_script", "_law_row", "_law_turn", "_law_order", "_law_a", "_law_b", "_law_c", "_law_d", "_law_k", "_law_on", "_law_hall", "_law_phone"] ["_law_script"] (defScope s_law) := ⟨rfl, rfl, rfl, by decide +kernel, rfl, by decide +kernel, by decide +kernel⟩
structure DS (K : PySem.W.Frag) (mg : Str → Option Value) (C_Book C_Way C_Call C_Phone C_Hall : Addr) : Prop where
  d_is_number : DefAt K mg "is_number" "is_number" s_is_number ["part", "low", "high"]
  d_is_phone : DefAt K mg "is_phone" "is_phone" s_is_phone ["part"]
  d_need_phone : DefAt K mg "need_phone" "need_phone" s_need_phone ["phone"]
  d_need_number : DefAt K mg "need_number" "need_number" s_need_number ["number"]
  d_are_members : DefAt K mg "are_members" "are_members" s_are_members ["part"]
  d_is_wish : DefAt K mg "is_wish" "is_wish" s_is_wish ["wish"]
  d_key_of : DefAt K mg "key_of" "key_of" s_key_of ["wish"]
  d_need_wishes : DefAt K mg "need_wishes" "need_wishes" s_need_wishes ["wishes"]
  d_Book_init : MakeAt K mg C_Book "Book" "Book.__init__" s_Book_init ["self", "wishes"]
  d_Book_has : MethAt K C_Book "has" "Book.has" s_Book_has ["self", "word", "phone"]
  d_Book_goal : MethAt K C_Book "goal" "Book.goal" s_Book_goal ["self", "word", "phone"]
  d_Book_patience : MethAt K C_Book "patience" "Book.patience" s_Book_patience ["self", "phone"]
  d_Book_bars : MethAt K C_Book "bars" "Book.bars" s_Book_bars ["self", "phone", "caller"]
  d_Book_members : MethAt K C_Book "members" "Book.members" s_Book_members ["self", "group"]
  d_rings_at : DefAt K mg "rings_at" "rings_at" s_rings_at ["book", "caller", "group", "states"]
  d_next_of : DefAt K mg "next_of" "next_of" s_next_of ["book", "caller", "phone", "states", "knocks"]
  d_Way_init : MakeAt K mg C_Way "Way" "Way.__init__" s_Way_init ["self", "book", "caller"]
  d_Way_go : MethAt K C_Way "go" "Way.go" s_Way_go ["self", "number", "states", "knocks"]
  d_Way_step : MethAt K C_Way "step" "Way.step" s_Way_step ["self", "number", "states", "knocks"]
  d_Call_init : MakeAt K mg C_Call "Call" "Call.__init__" s_Call_init ["self", "way"]
  d_Phone_init : MakeAt K mg C_Phone "Phone" "Phone.__init__" s_Phone_init ["self"]
  d_Hall_init : MakeAt K mg C_Hall "Hall" "Hall.__init__" s_Hall_init ["self", "wishes"]
  d_Hall_phone : MethAt K C_Hall "phone" "Hall.phone" s_Hall_phone ["self", "number", "is_up"]
  d_Hall_may_be_knocked_at : MethAt K C_Hall "may_be_knocked_at" "Hall.may_be_knocked_at" s_Hall_may_be_knocked_at ["self", "number"]
  d_Hall_go_on : MethAt K C_Hall "go_on" "Hall.go_on" s_Hall_go_on ["self", "call", "number"]
  d_Hall_knock_list : MethAt K C_Hall "knock_list" "Hall.knock_list" s_Hall_knock_list ["self", "states"]
  d_Hall_silence : MethAt K C_Hall "silence" "Hall.silence" s_Hall_silence ["self", "call"]
  d_Hall_over : MethAt K C_Hall "over" "Hall.over" s_Hall_over ["self", "call"]
  d_Hall_answer : MethAt K C_Hall "answer" "Hall.answer" s_Hall_answer ["self", "call", "number"]
  d_Hall_leave : MethAt K C_Hall "leave" "Hall.leave" s_Hall_leave ["self", "call", "number"]
  d_Hall_lift : MethAt K C_Hall "lift" "Hall.lift" s_Hall_lift ["self", "number"]
  d_Hall_dial : MethAt K C_Hall "dial" "Hall.dial" s_Hall_dial ["self", "number", "goal"]
  d_Hall_drop : MethAt K C_Hall "drop" "Hall.drop" s_Hall_drop ["self", "number"]
  d_Hall_need_talk : MethAt K C_Hall "need_talk" "Hall.need_talk" s_Hall_need_talk ["self", "phone"]
  d_Hall_hold : MethAt K C_Hall "hold" "Hall.hold" s_Hall_hold ["self", "number"]
  d_Hall_swap : MethAt K C_Hall "swap" "Hall.swap" s_Hall_swap ["self", "number"]
  d_Hall_take : MethAt K C_Hall "take" "Hall.take" s_Hall_take ["self", "number"]
  d_Hall_join : MethAt K C_Hall "join" "Hall.join" s_Hall_join ["self", "number"]
  d_Hall_beat : MethAt K C_Hall "beat" "Hall.beat" s_Hall_beat ["self"]
  d_Hall_late : MethAt K C_Hall "late" "Hall.late" s_Hall_late ["self", "call"]
  d_Hall_hear : MethAt K C_Hall "hear" "Hall.hear" s_Hall_hear ["self", "number"]
  d_Hall_all_calls : MethAt K C_Hall "all_calls" "Hall.all_calls" s_Hall_all_calls ["self"]
  d_law_taken : DefAt K mg "_law_taken" "_law_taken" s_law_taken ["_law_row", "_law_many"]
  d_law_is_so : DefAt K mg "_law_is_so" "_law_is_so" s_law_is_so ["_law_row", "_law_hall", "_law_some", "_law_on"]
  d_law_is_not_now : DefAt K mg "_law_is_not_now" "_law_is_not_now" s_law_is_not_now ["_law_work"]
  d_law_at_length : DefAt K mg "_law_at_length" "_law_at_length" s_law_at_length ["_law_order", "_law_many"]
  d_law : DefAt K mg "law" "law" s_law ["_law_script"]
  cls_Book : Cls K C_Book
  na_Book_wanted : NoAttr K C_Book "wanted"
  cls_Way : Cls K C_Way
  na_Way_book : NoAttr K C_Way "book"
  na_Way_caller : NoAttr K C_Way "caller"
  na_Way_chain : NoAttr K C_Way "chain"
  na_Way_leads : NoAttr K C_Way "leads"
  na_Way_group : NoAttr K C_Way "group"
  na_Way_word : NoAttr K C_Way "word"
  na_Way_ears : NoAttr K C_Way "ears"
  cls_Call : Cls K C_Call
  na_Call_way : NoAttr K C_Call "way"
  na_Call_people : NoAttr K C_Call "people"
  na_Call_age : NoAttr K C_Call "age"
  na_Call_is_talk : NoAttr K C_Call "is_talk"
  cls_Phone : Cls K C_Phone
  na_Phone_is_up : NoAttr K C_Phone "is_up"
  na_Phone_now : NoAttr K C_Phone "now"
  na_Phone_kept : NoAttr K C_Phone "kept"
  na_Phone_bell : NoAttr K C_Phone "bell"
  na_Phone_tone : NoAttr K C_Phone "tone"
  cls_Hall : Cls K C_Hall
  na_Hall_book : NoAttr K C_Hall "book"
  na_Hall_phones : NoAttr K C_Hall "phones"
  na_Hall_calls : NoAttr K C_Hall "calls"
  pe_Call : PlainEq K C_Call
end

local macro_rules | `(tactic| specialize "idx") => `(tactic| (focus ((show Idx _ (List.cons _ _) _); (repeat (first | with_reducible exact Idx.here | with_reducible apply Idx.there)) <;> fail)))
local macro_rules | `(tactic| specialize "okl") => `(tactic| first | rfl | exact Wish.wok _ | exact stW_ok | exact oks_ints | ((simp only [W.ok, W.oks, oks_ints, Bool.and_true, Bool.true_and]) <;> fail))
local macro_rules | `(tactic| specialize "ok") => `(tactic| first | rfl | assumption | exact Wish.wok _ | exact wishes_ok _ | exact oks_ints | exact stW_ok | exact sts_ok | exact opt_ok | exact keyT_ok (by decide) | exact keysT_ok (by decide) | (show PyData.strOk _ = true; assumption) | ((simp only [W.ok, W.oks, oks_ints, Bool.and_true, Bool.true_and]) <;> fail) | (refine oks_map ?_ _; intro _; specialize "okl") | decide +kernel | ((simp only [W.ok, W.oks, oks_ints, Bool.and_true, Bool.true_and]); decide +kernel))
local macro_rules | `(tactic| specialize "ev") => `(tactic| ((try simp only [inW_keys, inW_wish, inW_leads, eqW_opt, eqW_intsM, eqW_one, inW_ints, eqW_st, st_in, eqW_nil, eqW_nilT, List.isEmpty_map, eqW_int, eqW_str, eqW_bl, eqW_non, eqW_tt, eqW_t0, eqW_t1, eqW_t2, eqW_ll, eqW_l0, eqW_l1, eqW_l2, eqW_ni, eqW_in, eqW_it, eqW_ti, eqW_is, eqW_si, eqW_tn, eqW_nt, eqW_ints, wish_eq]); exact rfl))
local macro_rules | `(tactic| specialize "tt") => `(tactic| first | rfl | assumption | decide +kernel | (specialize "t2"))
local macro_rules | `(tactic| specialize "nth") => `(tactic| first | rfl | assumption | exact nth_new0 | exact nth_new | ((with_reducible show (_ ++ _)[_]? = some _); refine get_app ?_; (specialize "nth")) | ((with_reducible show (List.set _ _ _)[_]? = some _); first | (apply get_set_self; (specialize "nth")) | (refine get_set_ne ?_ ?_; (focus (specialize "ne")); (specialize "nth"))))
local macro_rules | `(tactic| specialize "ne") => `(tactic| first | assumption | exact Ne.symm (by assumption) | omega)
local macro_rules | `(tactic| specialize "itm") => `(tactic| first | rfl | exact (‹∀ S : Sto, itemsW S _ = some _› _) | exact items_of (by (specialize "nth")))
local macro_rules | `(tactic| specialize "fz") => `(tactic| first | exact .non | exact .bl _ | exact .int _ | exact .str _ | exact fz_ints | exact fz_intsL)
local macro_rules | `(tactic| specialize "fd") => `(tactic| exact fin.drop (Nat.le_refl _) (by assumption) (by (specialize "fz")) (by assumption))
local macro_rules | `(tactic| specialize "ci") => `(tactic| first | exact .inr ⟨by decide, by decide⟩ | exact ⟨by decide, by decide⟩)
local macro_rules | `(tactic| specialize "len") => `(tactic| first | decide | omega | assumption | ((with_reducible show dlenW _ _ ≤ _); first | exact dlen_t (by (specialize "nth")) (by (specialize "len")) | exact dlen_k (by (specialize "nth")) (by (specialize "len"))) | (simp <;> omega))
local macro_rules | `(tactic| specialize "ix") => `(tactic| first | rfl | exact atI_ints (by (specialize "rng")) (by (specialize "rng")) | exact atI_map (by (specialize "rng")) (by (specialize "rng")))
local macro_rules | `(tactic| specialize "rng") => `(tactic| first | omega | (simp only [List.mem_range, len_ints] at *; omega))
local macro_rules | `(tactic| specialize "fi") => `(tactic| (first | refine fin.as (by assumption) | refine fin.eq (by assumption) (by first | rfl | (specialize "t2") | (congr 1; specialize "t2"))))
local macro_rules | `(tactic| specialize "dg") => `(tactic| first | rfl | assumption | exact dget_t (by (specialize "nth")) rfl | exact dget_t (by (specialize "nth")) (keysW_map _) | exact dput_t (by (specialize "nth")) rfl | exact dput_t (by (specialize "nth")) (keysW_map _) | exact dget_k (by (specialize "nth")) rfl | exact dput_k (by (specialize "nth")) rfl)
local macro_rules | `(tactic| specialize "gg") => `(tactic| first
  | ((with_reducible show wG _ _ (Expr.Name _ _) _ _ _ _); refine' xG_name ?k1 (of_decide_eq_true (by kernel_rfl)) ?_; (case k1 => (specialize "idx")))
  | ((with_reducible show wG _ _ (Expr.Tuple _ _ _) _ _ _ _); refine xG_tup rfl (by (repeat (first | exact Each.nil | refine Each.cons rfl ?_))) ?_)
  | ((with_reducible show wG _ _ (Expr.Attribute _ _ _) _ _ _ _); refine xG_fld ?_))
local macro_rules | `(tactic| specialize "st") => `(tactic| first
  | ((with_reducible show wS _ _ (Stmt.Return (some _) _) _ _ _); refine wS_ret ?_)
  | ((with_reducible show wS _ _ (Stmt.If _ _ _ _) _ _ _); refine xS_if ?_)
  | ((with_reducible show wS _ _ (Stmt.Assign [Expr.Name _ _] (Expr.ListComp _ _ _ _) _) _ _ _); (specialize "lcS"))
  | ((with_reducible show wS _ _ (Stmt.Assign [Expr.Name _ _] (Expr.List [] _) _) _ _ _); refine' xS_set ?k1 (of_decide_eq_true (by kernel_rfl)) ?_; (case k1 => (specialize "idx")); refine xE_lstN ?_)
  | ((with_reducible show wS _ _ (Stmt.Assign [Expr.Attribute _ _ _] (Expr.List [] _) _) _ _ _); refine xS_fld ?_; refine xE_lstN ?_)
  | ((with_reducible show wS _ _ (Stmt.Assign [Expr.Name _ _] _ _) _ _ _); refine' xS_set ?k1 (of_decide_eq_true (by kernel_rfl)) ?_; (case k1 => (specialize "idx")))
  | ((with_reducible show wS _ _ (Stmt.Assign [Expr.Tuple [Expr.Name _ _, Expr.Name _ _] _ _] (Expr.Tuple [_, _] _ _) _) _ _ _); refine' xS_par ?k1 ?k2 rfl (of_decide_eq_true (by kernel_rfl)) ?_ ?k3; (case k1 => (specialize "idx")); (case k2 => (specialize "idx")); (case k3 => decide))
  | ((with_reducible show wS _ _ (Stmt.Assign [Expr.Attribute _ _ _] _ _) _ _ _); refine xS_fld ?_)
  | ((with_reducible show wS _ _ (Stmt.Assign [Expr.Tuple _ _ _] _ _) _ _ _); refine xS_asg ?_)
  | ((with_reducible show wS _ _ (Stmt.Assign [Expr.Subscript _ _ _] _ _) _ _ _); refine xS_dput (Room.u65 (by assumption)) ?_)
  | ((with_reducible show wS _ _ (Stmt.Expr _ _) _ _ _); refine wS_expr ?_)
  | ((with_reducible show wS _ _ (Stmt.Return none _) _ _ _); refine wS_retN ?_)
  | ((with_reducible show wS _ _ (Stmt.Pass _) _ _ _); refine wS_pass ?_)
  | ((with_reducible show wS _ _ (Stmt.Break _) _ _ _); refine wS_break ?_)
  | ((with_reducible show wS _ _ (Stmt.Continue _) _ _ _); refine wS_cont ?_))
local macro_rules | `(tactic| specialize "co") => `(tactic| first
  | ((with_reducible show wE _ _ (Expr.Constant (Const.int _) _ _) _ _ _); refine wE_int ?_)
  | ((with_reducible show wE _ _ (Expr.Constant (Const.str _) _ _) _ _ _); refine wE_str ?_)
  | ((with_reducible show wE _ _ (Expr.Constant (Const.bool _) _ _) _ _ _); refine wE_bl ?_)
  | ((with_reducible show wE _ _ (Expr.Constant Const.none _ _) _ _ _); refine wE_non ?_))
local macro_rules | `(tactic| specialize "cmp") => `(tactic| first
  | ((with_reducible show wE _ _ (Expr.Compare _ [CmpOp.Eq] _ _) _ _ _); refine xE_eq (Room.u65 (by assumption)) ?_)
  | ((with_reducible show wE _ _ (Expr.Compare _ [CmpOp.NotEq] _ _) _ _ _); refine xE_ne (Room.u65 (by assumption)) ?_)
  | ((with_reducible show wE _ _ (Expr.Compare _ [CmpOp.Lt] _ _) _ _ _); refine xE_cmpI op_lt ?_)
  | ((with_reducible show wE _ _ (Expr.Compare _ [CmpOp.LtE] _ _) _ _ _); refine xE_cmpI op_le ?_)
  | ((with_reducible show wE _ _ (Expr.Compare _ [CmpOp.Gt] _ _) _ _ _); refine xE_cmpI op_gt ?_)
  | ((with_reducible show wE _ _ (Expr.Compare _ [CmpOp.GtE] _ _) _ _ _); refine xE_cmpI op_ge ?_)
  | ((with_reducible show wE _ _ (Expr.Compare _ [CmpOp.Is] [Expr.Constant Const.none _ _] _) _ _ _); refine xE_isN ?_)
  | ((with_reducible show wE _ _ (Expr.Compare _ [CmpOp.IsNot] [Expr.Constant Const.none _ _] _) _ _ _); refine xE_notN ?_)
  | ((with_reducible show wE _ _ (Expr.Compare _ [CmpOp.In] [Expr.Attribute _ (Str.ofString "wanted") _] _) _ _ _); refine xE_din (Room.u65 (by assumption)) ?_)
  | ((with_reducible show wE _ _ (Expr.Compare _ [CmpOp.In] [Expr.Name (Str.ofString "known") _] _) _ _ _); refine xE_din (Room.u65 (by assumption)) ?_)
  | ((with_reducible show wE _ _ (Expr.Compare _ [CmpOp.In] _ _) _ _ _); refine xE_in (Room.u65 (by assumption)) ?_)
  | ((with_reducible show wE _ _ (Expr.Compare _ [CmpOp.NotIn] _ _) _ _ _); refine xE_notIn (Room.u65 (by assumption)) ?_)
  | ((with_reducible show wE _ _ (Expr.Compare _ [CmpOp.LtE, CmpOp.LtE] _ _) _ _ _); refine xE_chain op_le op_le ?_))
local macro_rules | `(tactic| specialize "cmT") => `(tactic| first
  | ((with_reducible show wT _ _ (Expr.Compare _ [CmpOp.Eq] _ _) _ _ _); refine xT_eq (Room.u65 (by assumption)) ?_)
  | ((with_reducible show wT _ _ (Expr.Compare _ [CmpOp.NotEq] _ _) _ _ _); refine xT_ne (Room.u65 (by assumption)) ?_)
  | ((with_reducible show wT _ _ (Expr.Compare _ [CmpOp.Lt] _ _) _ _ _); refine xT_cmpI op_lt ?_)
  | ((with_reducible show wT _ _ (Expr.Compare _ [CmpOp.LtE] _ _) _ _ _); refine xT_cmpI op_le ?_)
  | ((with_reducible show wT _ _ (Expr.Compare _ [CmpOp.Gt] _ _) _ _ _); refine xT_cmpI op_gt ?_)
  | ((with_reducible show wT _ _ (Expr.Compare _ [CmpOp.GtE] _ _) _ _ _); refine xT_cmpI op_ge ?_)
  | ((with_reducible show wT _ _ (Expr.Compare _ [CmpOp.Is] [Expr.Constant Const.none _ _] _) _ _ _); refine xT_isN ?_)
  | ((with_reducible show wT _ _ (Expr.Compare _ [CmpOp.IsNot] [Expr.Constant Const.none _ _] _) _ _ _); refine xT_notN ?_)
  | ((with_reducible show wT _ _ (Expr.Compare _ [CmpOp.In] [Expr.Attribute _ (Str.ofString "wanted") _] _) _ _ _); refine xT_din (Room.u65 (by assumption)) ?_)
  | ((with_reducible show wT _ _ (Expr.Compare _ [CmpOp.In] [Expr.Name (Str.ofString "known") _] _) _ _ _); refine xT_din (Room.u65 (by assumption)) ?_)
  | ((with_reducible show wT _ _ (Expr.Compare _ [CmpOp.In] _ _) _ _ _); refine xT_in (Room.u65 (by assumption)) ?_)
  | ((with_reducible show wT _ _ (Expr.Compare _ [CmpOp.NotIn] _ _) _ _ _); refine xT_notIn (Room.u65 (by assumption)) ?_))
local macro_rules | `(tactic| specialize "bo") => `(tactic| first
  | ((with_reducible show wE _ _ (Expr.BoolOp BoolOp.And [_] _) _ _ _); refine wE_one ?_)
  | ((with_reducible show wE _ _ (Expr.BoolOp BoolOp.Or [_] _) _ _ _); refine wE_one ?_)
  | ((with_reducible show wE _ _ (Expr.BoolOp BoolOp.And _ _) _ _ _); refine xE_and ?_)
  | ((with_reducible show wE _ _ (Expr.BoolOp BoolOp.Or _ _) _ _ _); refine xE_or ?_))
local macro_rules | `(tactic| specialize "su") => `(tactic| first
  | ((with_reducible show wE _ _ (Expr.Subscript _ (Expr.Slice _ _ none _) _) _ _ _); first | (specialize "slice") | refine xE_slT ?_)
  | ((with_reducible show wE _ _ (Expr.Subscript (Expr.Attribute _ (Str.ofString "wanted") _) _ _) _ _ _); refine xE_dget (Room.u65 (by assumption)) ?_)
  | ((with_reducible show wE _ _ (Expr.Subscript _ (Expr.Constant (Const.str _) _ _) _) _ _ _); refine xE_dget (Room.u65 (by assumption)) ?_)
  | ((with_reducible show wE _ _ (Expr.Subscript _ _ _) _ _ _); refine xE_ix ?_))
local macro_rules | `(tactic| specialize "bi") => `(tactic| first
  | ((with_reducible show wE _ _ (Expr.BinOp _ Operator.Add _ _) _ _ _); first | (specialize "plus") | refine xE_add ?_)
  | ((with_reducible show wE _ _ (Expr.BinOp _ Operator.Sub _ _) _ _ _); refine xE_sub ?_)
  | ((with_reducible show wE _ _ (Expr.BinOp _ Operator.Mod _ _) _ _ _); refine xE_mod ?_)
  | ((with_reducible show wE _ _ (Expr.BinOp _ Operator.FloorDiv _ _) _ _ _); refine xE_fdiv ?_)
  | ((with_reducible show wE _ _ (Expr.BinOp _ Operator.Mult _ _) _ _ _); first | (specialize "times") | refine xE_rep ?_))
local macro_rules | `(tactic| specialize "ex") => `(tactic| first
  | ((with_reducible show wE _ _ (Expr.Name _ _) _ _ _); first | (refine' xE_name ?k1 ?k2 ?_; (case k1 => (specialize "idx")); (case k2 => exact rfl)) | (specialize "glob"))
  | ((with_reducible show wE _ _ (Expr.Constant _ _ _) _ _ _); (specialize "co"))
  | ((with_reducible show wE _ _ (Expr.Compare _ _ _ _) _ _ _); (specialize "cmp"))
  | ((with_reducible show wE _ _ (Expr.Call (Expr.Attribute _ (Str.ofString "append") _) _ _ _) _ _ _); refine xE_append ?_)
  | ((with_reducible show wE _ _ (Expr.Call _ _ _ _) _ _ _); (specialize "fun"))
  | ((with_reducible show wE _ _ (Expr.Subscript _ _ _) _ _ _); (specialize "su"))
  | ((with_reducible show wE _ _ (Expr.Attribute _ _ _) _ _ _); refine xE_fld ?_)
  | ((with_reducible show wE _ _ (Expr.Tuple _ _ _) _ _ _); refine xE_tup ?_)
  | ((with_reducible show wE _ _ (Expr.ListComp _ _ _ _) _ _ _); (specialize "lc"))
  | ((with_reducible show wE _ _ (Expr.BoolOp _ _ _) _ _ _); (specialize "bo"))
  | ((with_reducible show wE _ _ (Expr.BinOp _ _ _ _) _ _ _); (specialize "bi"))
  | ((with_reducible show wE _ _ (Expr.UnaryOp UnaryOp.Not _ _) _ _ _); refine xE_not ?_)
  | ((with_reducible show wE _ _ (Expr.IfExp _ _ _ _) _ _ _); refine xE_if ?_)
  | ((with_reducible show wE _ _ (Expr.Dict [] [] _) _ _ _); first | (specialize "dict") | refine wE_newT ?_)
  | ((with_reducible show wE _ _ (Expr.List _ _) _ _ _); first | (specialize "list") | refine xE_lst ?_))
local macro_rules | `(tactic| specialize "te") => `(tactic| first
  | ((with_reducible show wT _ _ (Expr.BoolOp _ _ _) _ _ _); refine wT_bool ?_)
  | ((with_reducible show wT _ _ (Expr.UnaryOp UnaryOp.Not _ _) _ _ _); refine wT_not ?_)
  | ((with_reducible show wT _ _ (Expr.Compare _ _ _ _) _ _ _); (specialize "cmT"))
  | ((with_reducible show wT _ _ (_) _ _ _); refine xT_val ?_))
local macro_rules | `(tactic| specialize "tw") => `(tactic| first
  | ((with_reducible show wW _ _ (Expr.BoolOp BoolOp.And [_] _) _ _ _); refine wW_and1 ?_)
  | ((with_reducible show wW _ _ (Expr.BoolOp BoolOp.Or [_] _) _ _ _); refine wW_or1 ?_)
  | ((with_reducible show wW _ _ (Expr.BoolOp BoolOp.And _ _) _ _ _); refine xW_and ?_)
  | ((with_reducible show wW _ _ (Expr.BoolOp BoolOp.Or _ _) _ _ _); refine xW_or ?_))
local macro_rules | `(tactic| specialize "s1") => `(tactic| first
  | ((with_reducible show sB _ _ _); refine sB_i ?_)
  | ((with_reducible show sTup _ _ _); refine sTup_i (by first | exact Nat.le_of_ble_eq_true rfl | (specialize "len")) ?_)
  | ((with_reducible show sCall _ _ _ _ _ _); refine sCall_i rfl ?_)
  | ((with_reducible show sIx _ _ _ _); refine sIx_i (by (specialize "itm")) (by (specialize "ix")) ?_)
  | ((with_reducible show sEq false _ _ _ _); refine sEq_i (by (specialize "ok")) (by (specialize "ok")) (by (specialize "ev")) ?_)
  | ((with_reducible show sEq true _ _ _ _); refine sNe_i (by (specialize "ok")) (by (specialize "ok")) (by (specialize "ev")) ?_)
  | ((with_reducible show sIte _ _ _); first | refine sIte_t (by (specialize "tt")) ?_ | refine sIte_f (by (specialize "tt")) ?_)
  | ((with_reducible show sAnd _ _ _ _); first | refine sAnd_f (by (specialize "tt")) ?_ | refine sAnd_t (by (specialize "tt")) ?_ | apply sAnd_p)
  | ((with_reducible show sOr _ _ _ _); first | refine sOr_t (by (specialize "tt")) ?_ | refine sOr_f (by (specialize "tt")) ?_ | apply sOr_p)
  | ((with_reducible show sAndW _ _ _ _); first | refine sAndW_f (by (specialize "tt")) ?_ | refine sAndW_t (by (specialize "tt")) ?_ | apply sAndW_p)
  | ((with_reducible show sOrW _ _ _ _); first | refine sOrW_t (by (specialize "tt")) ?_ | refine sOrW_f (by (specialize "tt")) ?_ | apply sOrW_p)
  | ((with_reducible show sII _ _ _ _ _ _); refine sII_i (by first | trivial | omega | decide | (specialize "ci")) ?_)
  | ((with_reducible show sAdd _ _ _ _); first | refine sAdd_I ?_ | refine sAdd_S (by first | omega | decide) ?_)
  | ((with_reducible show sIn _ _ _ _ _); refine sIn_i (by (specialize "itm")) (by (specialize "ok")) (by (specialize "ok")) (by (specialize "ev")) ?_)
  | ((with_reducible show sFld _ _ _ _ _); refine sFld_i (by (specialize "nth")) rfl (by (specialize "cls")) (by (specialize "noa")) ?_))
local macro_rules | `(tactic| specialize "s2") => `(tactic| first
  | ((with_reducible show sNon _ _ _ _); refine sNon_i rfl ?_)
  | ((with_reducible show sDin _ _ _ _ _); refine sDin_i (by (specialize "dg")) ?_)
  | ((with_reducible show sDget _ _ _ _); refine sDget_i (by (specialize "dg")) ?_)
  | ((with_reducible show sLst _ _ _); refine sLst_i (by first | exact Nat.le_of_ble_eq_true rfl | (specialize "len")) ?_)
  | ((with_reducible show sLstN _ _ _); refine sLstN_i (by first | exact Nat.le_of_ble_eq_true rfl | (specialize "len")) ?_)
  | ((with_reducible show sLen _ _ _ _); first | refine sLen_i (by (specialize "itm")) ?_ | refine sLen_scr ?_)
  | ((with_reducible show sTy _ _ _ _); first | refine sTy_i rfl ?_ | refine sTy_i (by assumption) ?_)
  | ((with_reducible show sItems _ _ _ _); refine sItems_i (by (specialize "itm")) ?_)
  | ((with_reducible show sItemsN _ _ _); refine sItemsN_i (by (specialize "itm")) ?_)
  | ((with_reducible show sBI _ _ _); refine sBI_i ?_)
  | ((with_reducible show sI _ _ _); refine sI_i ?_)
  | ((with_reducible show sCutT _ _ _ _ _); refine sCutT_i ?_)
  | ((with_reducible show sCut _ _ _ _ _); refine sCut_l ?_)
  | ((with_reducible show sChain _ _ _ _ _ _ _); apply sChain_p)
  | ((with_reducible show sCat _ _ _ _); refine sCat_i (by first | exact Nat.le_of_ble_eq_true rfl | (specialize "len")) ?_)
  | ((with_reducible show sRep _ _ _ _); refine sRep_i (by decide) (by decide) (by decide) ?_)
  | ((with_reducible show sPut _ _ _ _ _ _); refine sPut_i (by (specialize "nth")) (Nat.le_of_ble_eq_true rfl) (by (specialize "cls")) (by (specialize "noa")) ?_)
  | ((with_reducible show sDput _ _ _ _ _); refine sDput_i (by (specialize "len")) (by (specialize "dg")) ?_)
  | ((with_reducible show sCallM _ _ _ _ _ _ _); refine sCallM_i rfl ?_)
  | ((with_reducible show sMeth _ _ _ _ _); refine sMeth_i (by (specialize "nth")) rfl ?_)
  | ((with_reducible show sAppO _ _ _); refine sAppO_i (by (specialize "nth")) ?_)
  | ((with_reducible show sApp _ _ _ _); refine sApp_i (by (specialize "nth")) (by (specialize "len")) ?_)
  | ((with_reducible show _ = _ ∧ _ = _); exact ⟨rfl, rfl⟩)
  | ((with_reducible show _ = _ → wE _ _ _ _ _ _); intro _)
  | ((with_reducible show _ = _ → wW _ _ _ _ _ _); intro _))
local macro_rules | `(tactic| specialize "lc") => `(tactic| first
  | (refine' xE_lc (.one _) ?k1 rfl (of_decide_eq_true (by kernel_rfl)) ?k4 ?_; (case k1 => (specialize "idx")); (case k4 => exact blkOk_by (by kernel_rfl)))
  | (refine' xE_lc .no ?k1 rfl (of_decide_eq_true (by kernel_rfl)) ?k4 ?_; (case k1 => (specialize "idx")); (case k4 => exact blkOk_by (by kernel_rfl))))
local macro_rules | `(tactic| specialize "lcS") => `(tactic| first
  | (refine' xS_lc (.one _) ?k1 ?k2 rfl (of_decide_eq_true (by kernel_rfl)) ?k4 ?_ ?k3; (case k1 => (specialize "idx")); (case k2 => (specialize "idx")); (case k3 => rfl); (case k4 => exact blkOk_by (by kernel_rfl)))
  | (refine' xS_lc .no ?k1 ?k2 rfl (of_decide_eq_true (by kernel_rfl)) ?k4 ?_ ?k3; (case k1 => (specialize "idx")); (case k2 => (specialize "idx")); (case k3 => rfl); (case k4 => exact blkOk_by (by kernel_rfl))))
local macro_rules | `(tactic| specialize "wi") => `(tactic| first
  | (specialize "it")
  | (refine xI_tup ?_; (repeat' (specialize "1")); (with_reducible show sWT (W.tup _) _ _); refine sWT_i ?_)
  | (refine xI_list ?_; (repeat' (specialize "1")); (with_reducible show sWL _ _ _); first | refine sWL_l ?_ | refine sWL_r (by (specialize "nth")) ?_))
local macro_rules | `(tactic| specialize "s0") => `(tactic| first
  | ((with_reducible show sLset _ _ _ _ _); refine sLset_i (by (specialize "nth")) rfl ?_)
  | ((with_reducible show sGs _ _ _ _ _ _ _); first | refine sGs_2 ?_ | refine sGs_3 ?_)
  | ((with_reducible show sInK _ _ _ _ _); refine sInK_i (by (specialize "ok")) (by (specialize "ev")) ?_)
  | ((with_reducible show sLc _ _ _ _ _ _ _ _ _ _); apply sLc_i)
  | ((with_reducible show ∀ _, _ → TurnP _ _ _ _ _ _ _ _); intro _ _)
  | exact trivial
  | ((with_reducible show List.length _ ≤ 100000); (specialize "len"))
  | ((with_reducible show sR1 _ _ _); refine sR1_i (by first | decide | omega | (simp <;> omega)) (by first | decide | omega | (simp <;> omega)) ?_)
  | ((with_reducible show sR2 _ _ _ _); refine sR2_i (by first | decide | omega | (simp <;> omega)) (by first | decide | omega | (simp <;> omega)) (by first | decide | omega | (simp <;> omega)) (by first | decide | omega | (simp <;> omega)) ?_)
  | ((with_reducible show sWE _ _ _); refine sWE_l ?_)
  | ((with_reducible show TurnP _ _ (IfK.one _) _ _ _ _ _); apply TurnP.one_i)
  | ((with_reducible show TurnP _ _ IfK.no _ _ _ _ _); apply TurnP.no_i)
  | ((with_reducible show ∀ _ _ _ _ _, wT _ _ _ _ _ _); intro _ _ _ _ _)
  | ((with_reducible show ∀ _ _ _ _ _, wE _ _ _ _ _ _); intro _ _ _ _ _)
  | ((with_reducible show _ = _ → ∀ _ _ _ _ _, wE _ _ _ _ _ _); intro _ _ _ _ _ _))
local macro_rules | `(tactic| specialize "1") => `(tactic| first
  | ((with_reducible show wE _ _ _ _ _ _); (specialize "ex"))
  | ((with_reducible show wT _ _ _ _ _ _); (specialize "te"))
  | ((with_reducible show wB _ _ _ _ _ _); first | refine wB_one ?_ | refine wB_cons ?_ | refine wB_nil ?_)
  | ((with_reducible show wS _ _ _ _ _ _); (specialize "st"))
  | ((with_reducible show wG _ _ _ _ _ _ _); (specialize "gg"))
  | ((with_reducible show wA _ _ _ _ _ _); first | refine wA_nil ?_ | refine wA_cons ?_)
  | ((with_reducible show wW _ _ _ _ _ _); (specialize "tw"))
  | ((with_reducible show wO _ _ _ _ _ _); first | refine wO_none ?_ | refine wO_some ?_)
  | ((with_reducible show wI _ _ _ _ _ _ _); (specialize "wi"))
  | (specialize "s1")
  | (specialize "s2")
  | (specialize "s0")
  | (specialize "s3"))
local macro_rules | `(tactic| specialize "go") => `(tactic| repeat' (specialize "1"))
local macro_rules | `(tactic| specialize "glob") => `(tactic| first
  | ((with_reducible show wE _ _ (Expr.Name (Str.ofString "PHONES") _) _ _ _); refine xE_globI (GL.c_PHONES (by assumption)) ?_)
  | ((with_reducible show wE _ _ (Expr.Name (Str.ofString "NUMBERS") _) _ _ _); refine xE_globI (GL.c_NUMBERS (by assumption)) ?_)
  | ((with_reducible show wE _ _ (Expr.Name (Str.ofString "MOST_LATE") _) _ _ _); refine xE_globI (GL.c_MOST_LATE (by assumption)) ?_)
  | ((with_reducible show wE _ _ (Expr.Name (Str.ofString "MOST_WISHES") _) _ _ _); refine xE_globI (GL.c_MOST_WISHES (by assumption)) ?_)
  | ((with_reducible show wE _ _ (Expr.Name (Str.ofString "ALL") _) _ _ _); refine xE_globS (GL.c_ALL (by assumption)) ?_)
  | ((with_reducible show wE _ _ (Expr.Name (Str.ofString "BUSY") _) _ _ _); refine xE_globS (GL.c_BUSY (by assumption)) ?_)
  | ((with_reducible show wE _ _ (Expr.Name (Str.ofString "LATE") _) _ _ _); refine xE_globS (GL.c_LATE (by assumption)) ?_)
  | ((with_reducible show wE _ _ (Expr.Name (Str.ofString "WAIT") _) _ _ _); refine xE_globS (GL.c_WAIT (by assumption)) ?_)
  | ((with_reducible show wE _ _ (Expr.Name (Str.ofString "STILL") _) _ _ _); refine xE_globS (GL.c_STILL (by assumption)) ?_)
  | ((with_reducible show wE _ _ (Expr.Name (Str.ofString "BAR") _) _ _ _); refine xE_globS (GL.c_BAR (by assumption)) ?_)
  | ((with_reducible show wE _ _ (Expr.Name (Str.ofString "GROUP") _) _ _ _); refine xE_globS (GL.c_GROUP (by assumption)) ?_)
  | ((with_reducible show wE _ _ (Expr.Name (Str.ofString "FREE") _) _ _ _); refine xE_globS (GL.c_FREE (by assumption)) ?_)
  | ((with_reducible show wE _ _ (Expr.Name (Str.ofString "RINGS") _) _ _ _); refine xE_globS (GL.c_RINGS (by assumption)) ?_)
  | ((with_reducible show wE _ _ (Expr.Name (Str.ofString "KNOCKS") _) _ _ _); refine xE_globS (GL.c_KNOCKS (by assumption)) ?_)
  | ((with_reducible show wE _ _ (Expr.Name (Str.ofString "BARRED") _) _ _ _); refine xE_globS (GL.c_BARRED (by assumption)) ?_)
  | ((with_reducible show wE _ _ (Expr.Name (Str.ofString "ROUND") _) _ _ _); refine xE_globS (GL.c_ROUND (by assumption)) ?_)
  | ((with_reducible show wE _ _ (Expr.Name (Str.ofString "NOBODY") _) _ _ _); refine xE_globS (GL.c_NOBODY (by assumption)) ?_)
  | ((with_reducible show wE _ _ (Expr.Name (Str.ofString "QUIET") _) _ _ _); refine xE_globS (GL.c_QUIET (by assumption)) ?_)
  | ((with_reducible show wE _ _ (Expr.Name (Str.ofString "DIAL") _) _ _ _); refine xE_globS (GL.c_DIAL (by assumption)) ?_)
  | ((with_reducible show wE _ _ (Expr.Name (Str.ofString "BELL") _) _ _ _); refine xE_globS (GL.c_BELL (by assumption)) ?_)
  | ((with_reducible show wE _ _ (Expr.Name (Str.ofString "TALK") _) _ _ _); refine xE_globS (GL.c_TALK (by assumption)) ?_)
  | ((with_reducible show wE _ _ (Expr.Name (Str.ofString "MUSIC") _) _ _ _); refine xE_globS (GL.c_MUSIC (by assumption)) ?_)
  | ((with_reducible show wE _ _ (Expr.Name (Str.ofString "MOST_AGE") _) _ _ _); refine xE_globI (GL.c_MOST_AGE (by assumption)) ?_))
local macro_rules | `(tactic| specialize "fun") => `(tactic| first
  | ((with_reducible show wE _ _ (Expr.Call (Expr.Name (Str.ofString "isinstance") _) [_, Expr.Name (Str.ofString "int") _] [] _) _ _ _); refine xE_isi .int (GL.b_isinstance (by assumption)) (GL.b_int (by assumption)) PyProof.Rows.boot_int ?_)
  | ((with_reducible show wE _ _ (Expr.Call (Expr.Name (Str.ofString "isinstance") _) [_, Expr.Name (Str.ofString "bool") _] [] _) _ _ _); refine xE_isi .bl (GL.b_isinstance (by assumption)) (GL.b_bool (by assumption)) PyProof.Rows.boot_bool ?_)
  | ((with_reducible show wE _ _ (Expr.Call (Expr.Name (Str.ofString "isinstance") _) [_, Expr.Name (Str.ofString "tuple") _] [] _) _ _ _); refine xE_isi .tup (GL.b_isinstance (by assumption)) (GL.b_tuple (by assumption)) PyProof.Rows.boot_tuple ?_)
  | ((with_reducible show wE _ _ (Expr.Call (Expr.Name (Str.ofString "isinstance") _) [_, Expr.Name (Str.ofString "str") _] [] _) _ _ _); refine xE_isi .str (GL.b_isinstance (by assumption)) (GL.b_str (by assumption)) PyProof.Rows.boot_str ?_)
  | ((with_reducible show wE _ _ (Expr.Call (Expr.Name (Str.ofString "isinstance") _) [_, Expr.Name (Str.ofString "list") _] [] _) _ _ _); refine xE_isi .lst (GL.b_isinstance (by assumption)) (GL.b_list (by assumption)) PyProof.Rows.boot_list ?_)
  | ((with_reducible show wE _ _ (Expr.Call (Expr.Name (Str.ofString "len") _) _ _ _) _ _ _); refine xE_len (GL.b_len (by assumption)) ?_)
  | ((with_reducible show wE _ _ (Expr.Call (Expr.Name (Str.ofString "tuple") _) _ _ _) _ _ _); refine xE_tuple (GL.b_tuple (by assumption)) ?_)
  | ((with_reducible show wE _ _ (Expr.Call (Expr.Name (Str.ofString "list") _) _ _ _) _ _ _); refine xE_list (GL.b_list (by assumption)) ?_)
  | ((with_reducible show wE _ _ (Expr.Call (Expr.Name (Str.ofString "int") _) _ _ _) _ _ _); refine xE_intB (GL.b_int (by assumption)) ?_))
local macro_rules | `(tactic| specialize "it") => `(tactic| first
  | ((with_reducible show wI _ _ _ (Expr.Call (Expr.Name (Str.ofString "range") _) [_] [] _) _ _ _); refine xI_range1 (GL.b_range (by assumption)) ?_)
  | ((with_reducible show wI _ _ _ (Expr.Call (Expr.Name (Str.ofString "range") _) [_, _] [] _) _ _ _); refine xI_range2 (GL.b_range (by assumption)) ?_)
  | ((with_reducible show wI _ _ _ (Expr.Call (Expr.Name (Str.ofString "enumerate") _) [_] [] _) _ _ _); refine xI_enum (GL.b_enumerate (by assumption)) ?_))
local macro_rules | `(tactic| specialize "cls") => `(tactic| first
  | exact DS.cls_Book (by assumption)
  | exact DS.cls_Way (by assumption)
  | exact DS.cls_Call (by assumption)
  | exact DS.cls_Phone (by assumption)
  | exact DS.cls_Hall (by assumption))
local macro_rules | `(tactic| specialize "noa") => `(tactic| first
  | exact DS.na_Book_wanted (by assumption)
  | exact DS.na_Way_book (by assumption)
  | exact DS.na_Way_caller (by assumption)
  | exact DS.na_Way_chain (by assumption)
  | exact DS.na_Way_leads (by assumption)
  | exact DS.na_Way_group (by assumption)
  | exact DS.na_Way_word (by assumption)
  | exact DS.na_Way_ears (by assumption)
  | exact DS.na_Call_way (by assumption)
  | exact DS.na_Call_people (by assumption)
  | exact DS.na_Call_age (by assumption)
  | exact DS.na_Call_is_talk (by assumption)
  | exact DS.na_Phone_is_up (by assumption)
  | exact DS.na_Phone_now (by assumption)
  | exact DS.na_Phone_kept (by assumption)
  | exact DS.na_Phone_bell (by assumption)
  | exact DS.na_Phone_tone (by assumption)
  | exact DS.na_Hall_book (by assumption)
  | exact DS.na_Hall_phones (by assumption)
  | exact DS.na_Hall_calls (by assumption))

-- P1H
section
variable {P : Program} {w : World} {K : PySem.W.Frag} {mg : Str → Option Value} {base : Heap} {C_Book C_Way C_Call C_Phone C_Hall : Addr}
def isNumW (w : W) (lo hi : Int) : Bool := match w with
  | .int i => decide (lo ≤ i) && decide (i ≤ hi)
  | _ => false
theorem ty_ref {S : Sto} {k : Nat} {t : Ty} (h : tyW S (.ref k) = some t) : t = .lst ∨ t = .dict := by
  unfold tyW at h
  dsimp only at h
  split at h
  · cases h; exact .inl rfl
  · cases h; exact .inr rfl
  · cases h; exact .inr rfl
  · cases h
def asp_is_number : ASp := fun ws S Φ _ => ∃ w lo hi t, ws = [w, .int lo, .int hi] ∧ tyW S w = some t ∧ Φ (.bl (isNumW w lo hi)) S
theorem cf_is_number (G : GL mg) (D : DS K mg C_Book C_Way C_Call C_Phone C_Hall) : CFn P w K mg base "is_number" 1 3 asp_is_number := by
  refine D.d_is_number.fn sc_is_number fun f cdv A outer s H E hr ws S Φ Ψ hl hS ha => ?_
  obtain ⟨w, lo, hi, t, rfl, ht, h⟩ := ha
  cases w with
  | ref k =>
    rcases ty_ref ht with e | e
    all_goals
      subst e
      specialize "go"
      exact fin.as h
  | raw v => cases ht
  | scr K' ns => cases ht
  | _ =>
    cases ht
    specialize "go"
    exact fin.as h
local macro_rules | `(tactic| specialize "fun") => `(tactic| ((with_reducible show wE _ _ (Expr.Call (Expr.Name (Str.ofString "is_number") _) _ _ _) _ _ _); refine xE_call (cf_is_number (by assumption) (by assumption)) (Room.mono (by assumption) (by decide)) ?_))
local macro_rules | `(tactic| specialize "s3") => `(tactic| ((with_reducible show asp_is_number _ _ _ _); refine ⟨_, _, _, _, rfl, (by first | rfl | assumption), ?_⟩))
local macro_rules | `(tactic| specialize "t2") => `(tactic| (simp [isNumW, *] <;> fail))
def asp_is_phone : ASp := fun ws S Φ _ => ∃ w t, ws = [w] ∧ tyW S w = some t ∧ Φ (.bl (isNumW w 0 5)) S
theorem cf_is_phone (G : GL mg) (D : DS K mg C_Book C_Way C_Call C_Phone C_Hall) : CFn P w K mg base "is_phone" 2 1 asp_is_phone := by
  refine D.d_is_phone.fn sc_is_phone fun f cdv A outer s H E hr ws S Φ Ψ hl hS ha => ?_
  obtain ⟨w, t, rfl, ht, h⟩ := ha
  specialize "go"
  exact fin.as h
local macro_rules | `(tactic| specialize "fun") => `(tactic| ((with_reducible show wE _ _ (Expr.Call (Expr.Name (Str.ofString "is_phone") _) _ _ _) _ _ _); refine xE_call (cf_is_phone (by assumption) (by assumption)) (Room.mono (by assumption) (by decide)) ?_))
local macro_rules | `(tactic| specialize "s3") => `(tactic| ((with_reducible show asp_is_phone _ _ _ _); refine ⟨_, _, rfl, (by first | rfl | assumption), ?_⟩))
/-- need_phone, need_number: of what is one -/
def asp_need_phone : ASp := fun ws S Φ _ => ∃ i : Int, ws = [.int i] ∧ 0 ≤ i ∧ i ≤ 5 ∧ Φ .non S
theorem num_yes {i lo hi : Int} (h1 : lo ≤ i) (h2 : i ≤ hi) : isNumW (.int i) lo hi = true := by
  show (decide (lo ≤ i) && decide (i ≤ hi)) = true
  rw [decide_eq_true h1, decide_eq_true h2]
  rfl
theorem cf_need_phone (G : GL mg) (D : DS K mg C_Book C_Way C_Call C_Phone C_Hall) : CFn P w K mg base "need_phone" 3 1 asp_need_phone := by
  refine D.d_need_phone.fn sc_need_phone fun f cdv A outer s H E hr ws S Φ Ψ hl hS ha => ?_
  obtain ⟨i, rfl, h1, h2, h⟩ := ha
  specialize "go"
  exact fin.as h
def asp_need_number : ASp := fun ws S Φ _ => ∃ i : Int, ws = [.int i] ∧ 0 ≤ i ∧ i ≤ 7 ∧ Φ .non S
theorem cf_need_number (G : GL mg) (D : DS K mg C_Book C_Way C_Call C_Phone C_Hall) : CFn P w K mg base "need_number" 3 1 asp_need_number := by
  refine D.d_need_number.fn sc_need_number fun f cdv A outer s H E hr ws S Φ Ψ hl hS ha => ?_
  obtain ⟨i, rfl, h1, h2, h⟩ := ha
  specialize "go"
  exact fin.as h
def asp_are_members : ASp := fun ws S Φ _ => ∃ ms : List Int, ws = [.tup (intsW ms)] ∧ msOk ms ∧ Φ (.bl true) S
theorem cf_are_members (G : GL mg) (D : DS K mg C_Book C_Way C_Call C_Phone C_Hall) : CFn P w K mg base "are_members" 3 1 asp_are_members := by
  refine D.d_are_members.fn sc_are_members fun f cdv A outer s H E hr ws S Φ Ψ hl hS ha => ?_
  obtain ⟨ms, rfl, h1, h⟩ := ha
  have hl6 := h1.2.1
  specialize "go"
  have e1 : (intsW ms).isEmpty = false := by
    cases ms with
    | nil => exact absurd rfl h1.1
    | cons a l => rfl
  have e2 : (List.filter (fun x => !isNumW (W.int x) 0 5) ms) = [] := by
    rw [List.filter_eq_nil_iff]
    intro x hx
    rw [num_yes (h1.2.2.1 x hx).1 (h1.2.2.1 x hx).2]
    exact Bool.false_ne_true
  refine sIte_f (by rw [e1, e2]; rfl) ?_
  specialize "go"
  refine fin.eq h ?_
  congr 1
  rw [List.isEmpty_iff, List.filter_eq_nil_iff]
  intro k hk
  rw [List.mem_range, len_ints] at hk
  have hk' : k + 1 < ms.length := by omega
  have e1 : (1 + (k : Int)).toNat = k + 1 := by omega
  have e2 : (1 + (k : Int) - 1).toNat = k := by omega
  have q := h1.2.2.2 k _ _ (List.getElem?_eq_getElem (by omega : k < ms.length)) (List.getElem?_eq_getElem hk')
  rw [e1, e2, List.getD_eq_getElem?_getD, List.getD_eq_getElem?_getD, List.getElem?_eq_getElem hk', List.getElem?_eq_getElem (by omega : k < ms.length)]
  simp only [Option.getD_some, decide_eq_true_eq]
  omega
local macro_rules | `(tactic| specialize "fun") => `(tactic| ((with_reducible show wE _ _ (Expr.Call (Expr.Name (Str.ofString "are_members") _) _ _ _) _ _ _); refine xE_call (cf_are_members (by assumption) (by assumption)) (Room.mono (by assumption) (by decide)) ?_))
local macro_rules | `(tactic| specialize "s3") => `(tactic| ((with_reducible show asp_are_members _ _ _ _); refine ⟨_, rfl, (by assumption), ?_⟩))
/-- is_wish of a wish -/
def asp_is_wish : ASp := fun ws S Φ _ => ∃ x : Wish, ws = [x.w] ∧ x.ok ∧ Φ (.bl true) S
theorem cf_is_wish (G : GL mg) (D : DS K mg C_Book C_Way C_Call C_Phone C_Hall) : CFn P w K mg base "is_wish" 4 1 asp_is_wish := by
  refine D.d_is_wish.fn sc_is_wish fun f cdv A outer s H E hr ws S Φ Ψ hl hS ha => ?_
  obtain ⟨x, rfl, hx, h⟩ := ha
  cases x with
  | group g ms =>
    obtain ⟨h1, h2, h3⟩ := hx
    specialize "go"
    specialize "fi"
  | wait p =>
    obtain ⟨h1, h2⟩ := hx
    specialize "go"
    specialize "fi"
  | still p =>
    obtain ⟨h1, h2⟩ := hx
    specialize "go"
    specialize "fi"
  | late p g t =>
    obtain ⟨h1, h2, h3, h4, h5, h6, h7⟩ := hx
    specialize "go"
    specialize "fi"
  | _ p g =>
    obtain ⟨h1, h2, h3, h4, h5⟩ := hx
    specialize "go"
    specialize "fi"
local macro_rules | `(tactic| specialize "fun") => `(tactic| ((with_reducible show wE _ _ (Expr.Call (Expr.Name (Str.ofString "is_wish") _) _ _ _) _ _ _); refine xE_call (cf_is_wish (by assumption) (by assumption)) (Room.mono (by assumption) (by decide)) ?_))
local macro_rules | `(tactic| specialize "s3") => `(tactic| ((with_reducible show asp_is_wish _ _ _ _); refine ⟨_, rfl, (by assumption), ?_⟩))
def asp_key_of : ASp := fun ws S Φ _ => ∃ x : Wish, ws = [x.w] ∧ Φ (.tup (x.key.map keyW1)) S
theorem cf_key_of (G : GL mg) (D : DS K mg C_Book C_Way C_Call C_Phone C_Hall) : CFn P w K mg base "key_of" 1 1 asp_key_of := by
  refine D.d_key_of.fn sc_key_of fun f cdv A outer s H E hr ws S Φ Ψ hl hS ha => ?_
  obtain ⟨x, rfl, h⟩ := ha
  cases x <;> (specialize "go") <;> (specialize "fi")
local macro_rules | `(tactic| specialize "fun") => `(tactic| ((with_reducible show wE _ _ (Expr.Call (Expr.Name (Str.ofString "key_of") _) _ _ _) _ _ _); refine xE_call (cf_key_of (by assumption) (by assumption)) (Room.mono (by assumption) (by decide)) ?_))
local macro_rules | `(tactic| specialize "s3") => `(tactic| ((with_reducible show asp_key_of _ _ _ _); refine ⟨_, rfl, ?_⟩))
end

local macro_rules | `(tactic| specialize "fun") => `(tactic| ((with_reducible show wE _ _ (Expr.Call (Expr.Name (Str.ofString "is_number") _) _ _ _) _ _ _); refine xE_call (cf_is_number (by assumption) (by assumption)) (Room.mono (by assumption) (by decide)) ?_))
local macro_rules | `(tactic| specialize "s3") => `(tactic| ((with_reducible show asp_is_number _ _ _ _); refine ⟨_, _, _, _, rfl, (by first | rfl | assumption), ?_⟩))
local macro_rules | `(tactic| specialize "t2") => `(tactic| (simp [isNumW, *] <;> fail))
local macro_rules | `(tactic| specialize "fun") => `(tactic| ((with_reducible show wE _ _ (Expr.Call (Expr.Name (Str.ofString "is_phone") _) _ _ _) _ _ _); refine xE_call (cf_is_phone (by assumption) (by assumption)) (Room.mono (by assumption) (by decide)) ?_))
local macro_rules | `(tactic| specialize "s3") => `(tactic| ((with_reducible show asp_is_phone _ _ _ _); refine ⟨_, _, rfl, (by first | rfl | assumption), ?_⟩))
local macro_rules | `(tactic| specialize "fun") => `(tactic| ((with_reducible show wE _ _ (Expr.Call (Expr.Name (Str.ofString "are_members") _) _ _ _) _ _ _); refine xE_call (cf_are_members (by assumption) (by assumption)) (Room.mono (by assumption) (by decide)) ?_))
local macro_rules | `(tactic| specialize "s3") => `(tactic| ((with_reducible show asp_are_members _ _ _ _); refine ⟨_, rfl, (by assumption), ?_⟩))
local macro_rules | `(tactic| specialize "fun") => `(tactic| ((with_reducible show wE _ _ (Expr.Call (Expr.Name (Str.ofString "is_wish") _) _ _ _) _ _ _); refine xE_call (cf_is_wish (by assumption) (by assumption)) (Room.mono (by assumption) (by decide)) ?_))
local macro_rules | `(tactic| specialize "s3") => `(tactic| ((with_reducible show asp_is_wish _ _ _ _); refine ⟨_, rfl, (by assumption), ?_⟩))
local macro_rules | `(tactic| specialize "fun") => `(tactic| ((with_reducible show wE _ _ (Expr.Call (Expr.Name (Str.ofString "key_of") _) _ _ _) _ _ _); refine xE_call (cf_key_of (by assumption) (by assumption)) (Room.mono (by assumption) (by decide)) ?_))
local macro_rules | `(tactic| specialize "s3") => `(tactic| ((with_reducible show asp_key_of _ _ _ _); refine ⟨_, rfl, ?_⟩))

section
-- P2H
section
variable {P : Program} {w : World} {K : PySem.W.Frag} {mg : Str → Option Value} {base : Heap} {C_Book C_Way C_Call C_Phone C_Hall : Addr}
def asp_need_wishes : ASp := fun ws S Φ _ => ∃ xs : List Wish, ws = [.lst (xs.map Wish.w)] ∧ xs.length ≤ 24 ∧ (∀ x ∈ xs, x.ok) ∧ (xs.map Wish.key).Nodup ∧ Φ .non S
theorem cf_need_wishes (G : GL mg) (D : DS K mg C_Book C_Way C_Call C_Phone C_Hall) : CFn P w K mg base "need_wishes" 5 1 asp_need_wishes := by
  refine D.d_need_wishes.fn sc_need_wishes fun f cdv A outer s H E hr ws S Φ Ψ hl hS ha => ?_
  obtain ⟨xs, rfl, h1, h2, h3, h⟩ := ha
  specialize "go"
  refine wS_for (passes_of rfl) rfl ?_
  specialize "go"
  refine ⟨fun i E' S' => i ≤ xs.length ∧ ∃ a b, E' = [some (.lst (xs.map Wish.w)), some (.ref S.length), a, b] ∧ S' = S ++ [.dt (knownD (xs.take i))], ⟨Nat.zero_le _, none, none, rfl, rfl⟩, fun _ _ _ _ => trivial, ?_, ?_⟩
  · rintro i w E' S' hw ⟨hi, a, b, rfl, rfl⟩
    obtain ⟨u, hu, rfl⟩ := enum_inv hw
    obtain ⟨x, hx, rfl⟩ := map_inv hu
    have hil : i < xs.length := (List.getElem?_eq_some_iff.mp hx).1
    have hxo := h2 x (List.mem_of_getElem? hx)
    have hkn := key_new h3 hx
    specialize "go"
    refine sIte_f (by rw [known_none hkn, decide_eq_false (by omega)]; rfl) ?_
    specialize "go"
    rw [known_put hkn, ← take_succ hx, set_new0]
    dsimp only
    refine dropTo.as (n := (S ++ [O.dt []]).length) ?_
    exact ⟨hil, _, _, rfl, rfl⟩
  · rintro E' S' ⟨hi, a, b, rfl, rfl⟩
    specialize "go"
    exact fin.drop (Nat.le_refl _) hS .non h
local macro_rules | `(tactic| specialize "fun") => `(tactic| ((with_reducible show wE _ _ (Expr.Call (Expr.Name (Str.ofString "need_wishes") _) _ _ _) _ _ _); refine xE_call (cf_need_wishes (by assumption) (by assumption)) (Room.mono (by assumption) (by decide)) ?_))
local macro_rules | `(tactic| specialize "s3") => `(tactic| ((with_reducible show asp_need_wishes _ _ _ _); refine ⟨_, rfl, (by assumption), (by assumption), (by assumption), ?_⟩))
local macro_rules | `(tactic| specialize "fun") => `(tactic| ((with_reducible show wE _ _ (Expr.Call (Expr.Name (Str.ofString "need_phone") _) _ _ _) _ _ _); refine xE_call (cf_need_phone (by assumption) (by assumption)) (Room.mono (by assumption) (by decide)) ?_))
local macro_rules | `(tactic| specialize "s3") => `(tactic| ((with_reducible show asp_need_phone _ _ _ _); refine ⟨_, rfl, (by assumption), (by assumption), ?_⟩))
local macro_rules | `(tactic| specialize "fun") => `(tactic| ((with_reducible show wE _ _ (Expr.Call (Expr.Name (Str.ofString "need_number") _) _ _ _) _ _ _); refine xE_call (cf_need_number (by assumption) (by assumption)) (Room.mono (by assumption) (by decide)) ?_))
local macro_rules | `(tactic| specialize "s3") => `(tactic| ((with_reducible show asp_need_number _ _ _ _); refine ⟨_, rfl, (by assumption), (by assumption), ?_⟩))
end

local macro_rules | `(tactic| specialize "fun") => `(tactic| ((with_reducible show wE _ _ (Expr.Call (Expr.Name (Str.ofString "need_wishes") _) _ _ _) _ _ _); refine xE_call (cf_need_wishes (by assumption) (by assumption)) (Room.mono (by assumption) (by decide)) ?_))
local macro_rules | `(tactic| specialize "s3") => `(tactic| ((with_reducible show asp_need_wishes _ _ _ _); refine ⟨_, rfl, (by assumption), (by assumption), (by assumption), ?_⟩))
local macro_rules | `(tactic| specialize "fun") => `(tactic| ((with_reducible show wE _ _ (Expr.Call (Expr.Name (Str.ofString "need_phone") _) _ _ _) _ _ _); refine xE_call (cf_need_phone (by assumption) (by assumption)) (Room.mono (by assumption) (by decide)) ?_))
local macro_rules | `(tactic| specialize "s3") => `(tactic| ((with_reducible show asp_need_phone _ _ _ _); refine ⟨_, rfl, (by assumption), (by assumption), ?_⟩))
local macro_rules | `(tactic| specialize "fun") => `(tactic| ((with_reducible show wE _ _ (Expr.Call (Expr.Name (Str.ofString "need_number") _) _ _ _) _ _ _); refine xE_call (cf_need_number (by assumption) (by assumption)) (Room.mono (by assumption) (by decide)) ?_))
local macro_rules | `(tactic| specialize "s3") => `(tactic| ((with_reducible show asp_need_number _ _ _ _); refine ⟨_, rfl, (by assumption), (by assumption), ?_⟩))

-- P3H
section
variable {P : Program} {w : World} {K : PySem.W.Frag} {mg : Str → Option Value} {base : Heap} {C_Book C_Way C_Call C_Phone C_Hall : Addr}
def asp_Book_init (C : Addr) : ASp := fun ws S Φ _ => ∃ S0 xs, ws = [.ref S0.length, .lst (xs.map Wish.w)] ∧ S = S0 ++ [.ins C []] ∧ xs.length ≤ 24 ∧ (xs.map Wish.key).Nodup ∧
  Φ .non (S0 ++ [.ins C [("wanted", .ref (S0.length + 1))], .dt (bookD xs)])
theorem cf_Book_init (G : GL mg) (D : DS K mg C_Book C_Way C_Call C_Phone C_Hall) : CMake P w K mg base "Book" C_Book 2 2 (asp_Book_init C_Book) := by
  refine D.d_Book_init.fn sc_Book_init fun f cdv A outer s H E hr ws S Φ Ψ hl hS ha => ?_
  obtain ⟨S0, xs, rfl, rfl, h1, h3, h⟩ := ha
  specialize "go"
  rw [List.append_assoc]
  specialize "go"
  rw [set_new0]
  refine wS_for (passes_of rfl) rfl ?_
  specialize "go"
  refine ⟨fun i E' S' => i ≤ xs.length ∧ ∃ a, E' = [some (.ref S0.length), some (.lst (xs.map Wish.w)), a] ∧ S' = S0 ++ [.ins C_Book [("wanted", .ref (S0.length + 1))], .dt (bookD (xs.take i))], ⟨Nat.zero_le _, none, rfl, by simp [putFW, bookD]⟩, fun _ _ _ _ => trivial, ?_, ?_⟩
  · rintro i w E' S' hw ⟨hi, a, rfl, rfl⟩
    obtain ⟨x, hx, rfl⟩ := map_inv hw
    have hil : i < xs.length := (List.getElem?_eq_some_iff.mp hx).1
    have hkn := key_new h3 hx
    specialize "go"
    rw [put_book hkn, ← take_succ hx, set_new]
    dsimp only
    refine dropTo.as ?_
    exact ⟨hil, _, rfl, rfl⟩
  · rintro E' S' ⟨hi, a, rfl, rfl⟩
    specialize "go"
    rw [List.length_map, List.take_length]
    exact fin.as h
local macro_rules | `(tactic| specialize "fun") => `(tactic| ((with_reducible show wE _ _ (Expr.Call (Expr.Name (Str.ofString "Book") _) _ _ _) _ _ _); refine xE_make (cf_Book_init (by assumption) (by assumption)) (Room.mono (by assumption) (by decide)) ?_))
local macro_rules | `(tactic| specialize "s3") => `(tactic| ((with_reducible show asp_Book_init _ _ _ _ _); refine ⟨_, _, rfl, rfl, (by assumption), (by assumption), ⟨rfl, ?_⟩⟩))
def asp_has (C : Addr) : ASp := fun ws S Φ _ => ∃ j xs word p, ws = [.ref j, .str word, .int p] ∧ BookAt C S j xs ∧ Φ (.bl (hasB xs [.inr word, .inl p])) S
theorem cf_has (G : GL mg) (D : DS K mg C_Book C_Way C_Call C_Phone C_Hall) : CMeth P w K mg base C_Book "has" 1 3 (asp_has C_Book) := by
  refine D.d_Book_has.fn sc_Book_has fun f cdv A outer s H E hr ws S Φ Ψ hl hS ha => ?_
  obtain ⟨j, xs, word, p, rfl, ⟨d, b1, b2⟩, h⟩ := ha
  specialize "go"
  refine fin.eq h ?_
  exact congrArg W.bl val_has
local macro_rules | `(tactic| specialize "fun") => `(tactic| ((with_reducible show wE _ _ (Expr.Call (Expr.Attribute _ (Str.ofString "has") _) _ _ _) _ _ _); refine xE_meth (DS.cls_Book (by assumption)) (cf_has (by assumption) (by assumption)) (Room.mono (by assumption) (by decide)) ?_))
local macro_rules | `(tactic| specialize "s3") => `(tactic| ((with_reducible show asp_has _ _ _ _ _); refine ⟨_, _, _, _, rfl, (by specialize "bk"), ?_⟩))
local macro_rules | `(tactic| specialize "bk") => `(tactic| first | assumption | exact ⟨_, (by specialize "nth"), (by specialize "nth")⟩)
def asp_bars (C : Addr) : ASp := fun ws S Φ _ => ∃ j xs p c, ws = [.ref j, .int p, .int c] ∧ BookAt C S j xs ∧ Φ (.bl (barsF xs p c)) S
theorem cf_bars (G : GL mg) (D : DS K mg C_Book C_Way C_Call C_Phone C_Hall) : CMeth P w K mg base C_Book "bars" 1 3 (asp_bars C_Book) := by
  refine D.d_Book_bars.fn sc_Book_bars fun f cdv A outer s H E hr ws S Φ Ψ hl hS ha => ?_
  obtain ⟨j, xs, p, c, rfl, ⟨d, b1, b2⟩, h⟩ := ha
  specialize "go"
  refine fin.eq h ?_
  exact congrArg W.bl val_has
local macro_rules | `(tactic| specialize "fun") => `(tactic| ((with_reducible show wE _ _ (Expr.Call (Expr.Attribute _ (Str.ofString "bars") _) _ _ _) _ _ _); refine xE_meth (DS.cls_Book (by assumption)) (cf_bars (by assumption) (by assumption)) (Room.mono (by assumption) (by decide)) ?_))
local macro_rules | `(tactic| specialize "s3") => `(tactic| ((with_reducible show asp_bars _ _ _ _ _); refine ⟨_, _, _, _, rfl, (by specialize "bk"), ?_⟩))
def asp_goal (C : Addr) : ASp := fun ws S Φ _ => ∃ j xs word p g x, ws = [.ref j, .str word, .int p] ∧ BookAt C S j xs ∧ getB xs [.inr word, .inl p] = some x ∧ (x = .all p g ∨ x = .busy p g) ∧ Φ (.int g) S
theorem cf_goal (G : GL mg) (D : DS K mg C_Book C_Way C_Call C_Phone C_Hall) : CMeth P w K mg base C_Book "goal" 1 3 (asp_goal C_Book) := by
  refine D.d_Book_goal.fn sc_Book_goal fun f cdv A outer s H E hr ws S Φ Ψ hl hS ha => ?_
  obtain ⟨j, xs, word, p, g, x, rfl, ⟨d, b1, b2⟩, hg, hx, h⟩ := ha
  have hv : dgetW S d (.tup [.str word, .int p]) = some (some x.w) := by
    rw [dget_t b2 rfl, val_book, hg]
    rfl
  specialize "go"
  rcases hx with rfl | rfl
  all_goals
    specialize "go"
    exact fin.as h
local macro_rules | `(tactic| specialize "fun") => `(tactic| ((with_reducible show wE _ _ (Expr.Call (Expr.Attribute _ (Str.ofString "goal") _) _ _ _) _ _ _); refine xE_meth (DS.cls_Book (by assumption)) (cf_goal (by assumption) (by assumption)) (Room.mono (by assumption) (by decide)) ?_))
def asp_members (C : Addr) : ASp := fun ws S Φ _ => ∃ j xs g, ws = [.ref j, .int g] ∧ BookAt C S j xs ∧ Φ (.tup (intsW (membersF xs g))) S
theorem cf_members (G : GL mg) (D : DS K mg C_Book C_Way C_Call C_Phone C_Hall) : CMeth P w K mg base C_Book "members" 1 2 (asp_members C_Book) := by
  refine D.d_Book_members.fn sc_Book_members fun f cdv A outer s H E hr ws S Φ Ψ hl hS ha => ?_
  obtain ⟨j, xs, g, rfl, ⟨d, b1, b2⟩, h⟩ := ha
  specialize "go"
  refine sIte_s (fun e => ?_) (fun e => ?_)
  · have e : hasB xs [.inr "group", .inl g] = true := val_has.symm.trans e
    have hv : dgetW S d (.tup [.str "group", .int g]) = some (some (Wish.group g (membersF xs g)).w) := by
      rw [dget_t b2 rfl, val_book, members_yes e]
      rfl
    specialize "go"
    exact fin.as h
  · have e : hasB xs [.inr "group", .inl g] = false := val_has.symm.trans e
    specialize "go"
    rw [members_no e] at h
    exact fin.as h
local macro_rules | `(tactic| specialize "fun") => `(tactic| ((with_reducible show wE _ _ (Expr.Call (Expr.Attribute _ (Str.ofString "members") _) _ _ _) _ _ _); refine xE_meth (DS.cls_Book (by assumption)) (cf_members (by assumption) (by assumption)) (Room.mono (by assumption) (by decide)) ?_))
local macro_rules | `(tactic| specialize "s3") => `(tactic| ((with_reducible show asp_members _ _ _ _ _); refine ⟨_, _, _, rfl, (by specialize "bk"), ?_⟩))
end

local macro_rules | `(tactic| specialize "fun") => `(tactic| ((with_reducible show wE _ _ (Expr.Call (Expr.Name (Str.ofString "Book") _) _ _ _) _ _ _); refine xE_make (cf_Book_init (by assumption) (by assumption)) (Room.mono (by assumption) (by decide)) ?_))
local macro_rules | `(tactic| specialize "s3") => `(tactic| ((with_reducible show asp_Book_init _ _ _ _ _); refine ⟨_, _, rfl, rfl, (by assumption), (by assumption), ⟨rfl, ?_⟩⟩))
local macro_rules | `(tactic| specialize "fun") => `(tactic| ((with_reducible show wE _ _ (Expr.Call (Expr.Attribute _ (Str.ofString "has") _) _ _ _) _ _ _); refine xE_meth (DS.cls_Book (by assumption)) (cf_has (by assumption) (by assumption)) (Room.mono (by assumption) (by decide)) ?_))
local macro_rules | `(tactic| specialize "s3") => `(tactic| ((with_reducible show asp_has _ _ _ _ _); refine ⟨_, _, _, _, rfl, (by specialize "bk"), ?_⟩))
local macro_rules | `(tactic| specialize "bk") => `(tactic| first | assumption | exact ⟨_, (by specialize "nth"), (by specialize "nth")⟩)
local macro_rules | `(tactic| specialize "fun") => `(tactic| ((with_reducible show wE _ _ (Expr.Call (Expr.Attribute _ (Str.ofString "bars") _) _ _ _) _ _ _); refine xE_meth (DS.cls_Book (by assumption)) (cf_bars (by assumption) (by assumption)) (Room.mono (by assumption) (by decide)) ?_))
local macro_rules | `(tactic| specialize "s3") => `(tactic| ((with_reducible show asp_bars _ _ _ _ _); refine ⟨_, _, _, _, rfl, (by specialize "bk"), ?_⟩))
local macro_rules | `(tactic| specialize "fun") => `(tactic| ((with_reducible show wE _ _ (Expr.Call (Expr.Attribute _ (Str.ofString "goal") _) _ _ _) _ _ _); refine xE_meth (DS.cls_Book (by assumption)) (cf_goal (by assumption) (by assumption)) (Room.mono (by assumption) (by decide)) ?_))
local macro_rules | `(tactic| specialize "fun") => `(tactic| ((with_reducible show wE _ _ (Expr.Call (Expr.Attribute _ (Str.ofString "members") _) _ _ _) _ _ _); refine xE_meth (DS.cls_Book (by assumption)) (cf_members (by assumption) (by assumption)) (Room.mono (by assumption) (by decide)) ?_))
local macro_rules | `(tactic| specialize "s3") => `(tactic| ((with_reducible show asp_members _ _ _ _ _); refine ⟨_, _, _, rfl, (by specialize "bk"), ?_⟩))

-- P4H
section
variable {P : Program} {w : World} {K : PySem.W.Frag} {mg : Str → Option Value} {base : Heap} {C_Book C_Way C_Call C_Phone C_Hall : Addr}
def asp_rings_at (C : Addr) : ASp := fun ws S Φ _ => ∃ j xs c g st sv, ws = [.ref j, .int c, .int g, sv] ∧ (∀ S : Sto, itemsW S sv = some (st.map stW)) ∧ BookAt C S j xs ∧ (∀ x ∈ xs, x.ok) ∧ st.length = 6 ∧ Φ (.tup (intsW (ringsF xs c g st))) S
theorem cf_rings_at (G : GL mg) (D : DS K mg C_Book C_Way C_Call C_Phone C_Hall) : CFn P w K mg base "rings_at" 2 4 (asp_rings_at C_Book) := by
  refine D.d_rings_at.fn sc_rings_at fun f cdv A outer s H E hr ws S Φ Ψ hl hS ha => ?_
  obtain ⟨j, xs, c, g, st, sv, rfl, hsv, ⟨d, b1, b2⟩, ho, h6, h⟩ := ha
  specialize "go"
  refine wS_for (passes_of rfl) rfl ?_
  specialize "go"
  refine ⟨fun i E' S' => i ≤ (membersF xs g).length ∧ ∃ a b, E' = [some (.ref j), some (.int c), some (.int g), some sv, some (.ref S.length), a, b] ∧ S' = S ++ [.lst (intsW (((membersF xs g).take i).filter (ringsOk xs c st)))], ⟨Nat.zero_le _, none, none, rfl, rfl⟩, fun _ _ _ _ => trivial, ?_, ?_⟩
  · rintro i w E' S' hw ⟨hi, a, b, rfl, rfl⟩
    obtain ⟨x, hx, rfl⟩ := map_inv hw
    have hil : i < (membersF xs g).length := (List.getElem?_eq_some_iff.mp hx).1
    have hm := members_ok ho (List.mem_of_getElem? hx)
    obtain ⟨hm0, hm5⟩ := hm
    have hlen : (((membersF xs g).take i).filter (ringsOk xs c st)).length ≤ 6 := Nat.le_trans (List.length_filter_le _ _) (by rw [List.length_take]; have := members_len ho (g := g); omega)
    have hlen' : (intsW (((membersF xs g).take i).filter (ringsOk xs c st))).length ≤ 100000 := by rw [len_ints]; omega
    specialize "go"
    refine sIte_s (fun e => ?_) (fun e => ?_)
    · have e : ringsOk xs c st x = true := e
      specialize "go"
      rw [set_new0]
      dsimp only
      refine dropTo.as ?_
      refine ⟨hil, _, _, rfl, ?_⟩
      rw [take_succ hx, List.filter_append, List.filter_cons_of_pos e]
      simp [intsW]
    · have e : ringsOk xs c st x = false := e
      specialize "go"
      dsimp only
      refine dropTo.as ?_
      refine ⟨hil, _, _, rfl, ?_⟩
      rw [take_succ hx, List.filter_append, List.filter_cons_of_neg (by rw [e]; exact Bool.false_ne_true)]
      simp [intsW]
  · rintro E' S' ⟨hi, a, b, rfl, rfl⟩
    specialize "go"
    rw [len_ints, List.take_length]
    exact fin.drop (Nat.le_refl _) hS fz_ints h
local macro_rules | `(tactic| specialize "fun") => `(tactic| ((with_reducible show wE _ _ (Expr.Call (Expr.Name (Str.ofString "rings_at") _) _ _ _) _ _ _); refine xE_call (cf_rings_at (by assumption) (by assumption)) (Room.mono (by assumption) (by decide)) ?_))
local macro_rules | `(tactic| specialize "s3") => `(tactic| ((with_reducible show asp_rings_at _ _ _ _ _); refine ⟨_, _, _, _, _, _, rfl, (by first | assumption | exact fun _ => rfl), (by specialize "bk"), (by assumption), (by assumption), ?_⟩))
def asp_next_of (C : Addr) : ASp := fun ws S Φ _ => ∃ j xs c p st kn sv, ws = [.ref j, .int c, .int p, sv, .lst (kn.map W.bl)] ∧ (∀ S : Sto, itemsW S sv = some (st.map stW)) ∧ BookAt C S j xs ∧ 0 ≤ p ∧ p ≤ 5 ∧ st.length = 6 ∧ kn.length = 6 ∧ ∃ r, nextF xs c p st kn = r ∧ Φ (nextW r) S
theorem cf_next_of (G : GL mg) (D : DS K mg C_Book C_Way C_Call C_Phone C_Hall) : CFn P w K mg base "next_of" 2 5 (asp_next_of C_Book) := by
  refine D.d_next_of.fn sc_next_of fun f cdv A outer s H E hr ws S Φ Ψ hl hS ha => ?_
  obtain ⟨j, xs, c, p, st, kn, sv, rfl, hsv, ⟨d, b1, b2⟩, hp0, hp5, h6, hk6, r, hq, h⟩ := ha
  subst hq
  cases e1 : barsF xs p c with
  | true =>
    simp [nextF, e1] at h
    specialize "go"
    exact fin.as h
  | false =>
    cases e2 : goalF xs "all" p with
    | some g =>
      simp [nextF, e1, e2] at h
      have e2' : hasB xs [.inr "all", .inl p] = true := by rw [has_all, e2]; rfl
      specialize "go"
      refine ⟨_, _, _, _, g, _, rfl, ⟨_, b1, b2⟩, goal_all e2, .inl rfl, ?_⟩
      exact fin.as h
    | none =>
      have e2' : hasB xs [.inr "all", .inl p] = false := by rw [has_all, e2]; rfl
      cases e3 : stillF xs p with
      | true =>
        simp [nextF, e1, e2, e3] at h
        specialize "go"
        exact fin.as h
      | false =>
        cases e4 : (!decide (p = c) && !busyF st p) with
        | true =>
          have h : Φ (nextW (.inr ("rings", [p]))) S := by
            unfold nextF at h
            rw [e1, e2, e3, e4] at h
            exact h
          specialize "go"
          exact fin.as h
        | false =>
          cases e5 : (!decide (p = c) && (waitF xs p && kn.getD p.toNat default)) with
          | true =>
            have h : Φ (nextW (.inr ("knocks", [p]))) S := by
              unfold nextF at h
              rw [e1, e2, e3, e4, e5] at h
              exact h
            specialize "go"
            exact fin.as h
          | false =>
            have h : Φ (nextW (match goalF xs "busy" p with | some g => .inl g | none => .inr ("busy", []))) S := by
              unfold nextF at h
              rw [e1, e2, e3, e4, e5] at h
              exact h
            cases e6 : goalF xs "busy" p with
            | some g =>
              rw [e6] at h
              have e6' : hasB xs [.inr "busy", .inl p] = true := by rw [has_busy, e6]; rfl
              specialize "go"
              refine ⟨_, _, _, _, g, _, rfl, ⟨_, b1, b2⟩, goal_busy e6, .inr rfl, ?_⟩
              exact fin.as h
            | none =>
              rw [e6] at h
              have e6' : hasB xs [.inr "busy", .inl p] = false := by rw [has_busy, e6]; rfl
              specialize "go"
              exact fin.as h
local macro_rules | `(tactic| specialize "fun") => `(tactic| ((with_reducible show wE _ _ (Expr.Call (Expr.Name (Str.ofString "next_of") _) _ _ _) _ _ _); refine xE_call (cf_next_of (by assumption) (by assumption)) (Room.mono (by assumption) (by decide)) ?_))
local macro_rules | `(tactic| specialize "s3") => `(tactic| ((with_reducible show asp_next_of _ _ _ _ _); refine ⟨_, _, _, _, _, _, _, rfl, (by first | assumption | exact fun _ => rfl), (by specialize "bk"), (by first | assumption | omega), (by first | assumption | omega), (by assumption), (by assumption), _, (by first | assumption | rfl), ?_⟩))
end

local macro_rules | `(tactic| specialize "fun") => `(tactic| ((with_reducible show wE _ _ (Expr.Call (Expr.Name (Str.ofString "rings_at") _) _ _ _) _ _ _); refine xE_call (cf_rings_at (by assumption) (by assumption)) (Room.mono (by assumption) (by decide)) ?_))
local macro_rules | `(tactic| specialize "s3") => `(tactic| ((with_reducible show asp_rings_at _ _ _ _ _); refine ⟨_, _, _, _, _, _, rfl, (by first | assumption | exact fun _ => rfl), (by specialize "bk"), (by assumption), (by assumption), ?_⟩))
local macro_rules | `(tactic| specialize "fun") => `(tactic| ((with_reducible show wE _ _ (Expr.Call (Expr.Name (Str.ofString "next_of") _) _ _ _) _ _ _); refine xE_call (cf_next_of (by assumption) (by assumption)) (Room.mono (by assumption) (by decide)) ?_))
local macro_rules | `(tactic| specialize "s3") => `(tactic| ((with_reducible show asp_next_of _ _ _ _ _); refine ⟨_, _, _, _, _, _, _, rfl, (by first | assumption | exact fun _ => rfl), (by specialize "bk"), (by first | assumption | omega), (by first | assumption | omega), (by assumption), (by assumption), _, (by first | assumption | rfl), ?_⟩))

-- P5H
section
variable {P : Program} {w : World} {K : PySem.W.Frag} {mg : Str → Option Value} {base : Heap} {C_Book C_Way C_Call C_Phone C_Hall : Addr}
def asp_Way_init (C : Addr) : ASp := fun ws S Φ _ => ∃ S0 jb c, ws = [.ref S0.length, .ref jb, .int c] ∧ S = S0 ++ [.ins C []] ∧ Φ .non (S0 ++ [.ins C (wayFs jb c (S0.length + 1) (S0.length + 2) Wy.new), .lst [], .lst []])
theorem cf_Way_init (G : GL mg) (D : DS K mg C_Book C_Way C_Call C_Phone C_Hall) : CMake P w K mg base "Way" C_Way 1 3 (asp_Way_init C_Way) := by
  refine D.d_Way_init.fn sc_Way_init fun f cdv A outer s H E hr ws S Φ Ψ hl hS ha => ?_
  obtain ⟨S0, jb, c, rfl, rfl, h⟩ := ha
  specialize "go"
  simp only [set_new0, List.append_assoc, List.cons_append, List.nil_append, List.set, List.length_append, List.length_cons, List.length_nil, Nat.zero_add]
  specialize "go"
  simp only [set_new0, List.append_assoc, List.cons_append, List.nil_append, List.set, List.length_append, List.length_cons, List.length_nil, Nat.zero_add]
  refine fin.eqS h ?_
  kernel_rfl
local macro_rules | `(tactic| specialize "fun") => `(tactic| ((with_reducible show wE _ _ (Expr.Call (Expr.Name (Str.ofString "Way") _) _ _ _) _ _ _); refine xE_make (cf_Way_init (by assumption) (by assumption)) (Room.mono (by assumption) (by decide)) ?_))
local macro_rules | `(tactic| specialize "s3") => `(tactic| ((with_reducible show asp_Way_init _ _ _ _ _); refine ⟨_, _, _, rfl, rfl, ⟨rfl, ?_⟩⟩))
def asp_Way_step (CB CW : Addr) : ASp := fun ws S Φ _ => ∃ j ch ld jb c y n xs st kn sv, ws = [.ref j, .int n, sv, .lst (kn.map W.bl)] ∧ (∀ S : Sto, itemsW S sv = some (st.map stW)) ∧ WayAt CW S j ch ld jb c y ∧ BookAt CB S jb xs ∧ (∀ x ∈ xs, x.ok) ∧ 0 ≤ n ∧ n ≤ 7 ∧ st.length = 6 ∧ kn.length = 6 ∧ y.chain.length ≤ 6 ∧ y.leads.length ≤ 6 ∧
  Φ (optW (stepF xs c st kn y n).2) (putWay CW S j ch ld jb c (stepF xs c st kn y n).1)
theorem cf_Way_step (G : GL mg) (D : DS K mg C_Book C_Way C_Call C_Phone C_Hall) : CMeth P w K mg base C_Way "step" 3 4 (asp_Way_step C_Book C_Way) := by
  refine D.d_Way_step.fn sc_Way_step fun f cdv A outer s H E hr ws S Φ Ψ hl hS ha => ?_
  obtain ⟨j, ch, ld, jb, c, y, n, xs, st, kn, sv, rfl, hsv, wy, bk, ho, hn0, hn7, h6, hk6, hc6, hl6, h⟩ := ha
  obtain ⟨d, b1, b2, n1, n2, n3, n4, n5, n6⟩ := bk.off wy
  obtain ⟨m1, m2⟩ := wy.nj
  obtain ⟨w1, w2, w3, m3⟩ := id wy
  have hcl : (intsW y.chain).length ≤ 100000 := by rw [len_ints]; omega
  have hll : (y.leads.map pairW).length ≤ 100000 := by rw [List.length_map]; omega
  by_cases e1 : 6 ≤ n
  · have e1' : decide (6 ≤ n) = true := decide_eq_true e1
    simp only [stepF, if_pos e1] at h
    by_cases e2 : ringsF xs c n st = []
    · simp only [if_pos e2] at h
      have e2' : (intsW (ringsF xs c n st)).isEmpty = true := by rw [e2]; rfl
      specialize "go"
      refine sIte_f (by rw [e2']; rfl) ?_
      specialize "go"
      rw [List.set_set, List.set_set]
      dsimp only
      refine fin.eqS h (put_eq1 wy ?_ rfl rfl)
      kernel_rfl
    · simp only [if_neg e2] at h
      have e2' : (intsW (ringsF xs c n st)).isEmpty = false := by
        cases q : ringsF xs c n st with
        | nil => exact absurd q e2
        | cons a l => rfl
      specialize "go"
      rw [List.set_set, List.set_set]
      dsimp only
      refine fin.eqS h (put_eq1 wy ?_ rfl rfl)
      kernel_rfl
  · have e1' : decide (6 ≤ n) = false := decide_eq_false e1
    by_cases e2 : n ∈ y.chain
    · have e2' : decide (n ∈ y.chain) = true := decide_eq_true e2
      simp only [stepF, if_neg e1, if_pos e2] at h
      specialize "go"
      rw [List.set_set]
      dsimp only
      refine fin.eqS h (put_eq1 wy ?_ rfl rfl)
      kernel_rfl
    · have e2' : decide (n ∈ y.chain) = false := decide_eq_false e2
      simp only [stepF, if_neg e1, if_neg e2] at h
      cases e3 : nextF xs c n st kn with
      | inl g =>
        simp only [e3] at h
        specialize "go"
        dsimp only
        refine fin.eqS h (put_eq2 wy ?_ ?_ ?_)
        · simp [intsW]
        · simp [pairW, nextW]
        · rfl
      | inr r =>
        obtain ⟨u, l⟩ := r
        simp only [e3] at h
        specialize "go"
        refine sPut_i (get_set_self (get_set_ne m1.symm w1)) (Nat.le_of_ble_eq_true rfl) (DS.cls_Way (by assumption)) (DS.na_Way_ears (by assumption)) ?_
        specialize "go"
        rw [List.set_set]
        dsimp only
        refine fin.eqS h (put_eq3 wy ?_ ?_ rfl)
        · simp [intsW]
        · kernel_rfl
local macro_rules | `(tactic| specialize "fun") => `(tactic| ((with_reducible show wE _ _ (Expr.Call (Expr.Attribute _ (Str.ofString "step") _) _ _ _) _ _ _); refine xE_meth (DS.cls_Way (by assumption)) (cf_Way_step (by assumption) (by assumption)) (Room.mono (by assumption) (by decide)) ?_))
local macro_rules | `(tactic| specialize "s3") => `(tactic| ((with_reducible show asp_Way_step _ _ _ _ _ _); refine ⟨_, _, _, _, _, _, _, _, _, _, _, rfl, (by first | assumption | exact fun _ => rfl), (by assumption), (by assumption), (by assumption), (by first | assumption | omega), (by first | assumption | omega), (by assumption), (by assumption), (by assumption), (by assumption), ?_⟩))
def asp_Way_go (CB CW : Addr) : ASp := fun ws S Φ _ => ∃ j ch ld jb c n xs st kn sv, ws = [.ref j, .int n, sv, .lst (kn.map W.bl)] ∧ (∀ S : Sto, itemsW S sv = some (st.map stW)) ∧ WayAt CW S j ch ld jb c Wy.new ∧ BookAt CB S jb xs ∧ (∀ x ∈ xs, x.ok) ∧ 0 ≤ n ∧ n ≤ 7 ∧ st.length = 6 ∧ kn.length = 6 ∧
  Φ .non (putWay CW S j ch ld jb c (wayF xs c n st kn))
theorem cf_Way_go (G : GL mg) (D : DS K mg C_Book C_Way C_Call C_Phone C_Hall) : CMeth P w K mg base C_Way "go" 4 4 (asp_Way_go C_Book C_Way) := by
  refine D.d_Way_go.fn sc_Way_go fun f cdv A outer s H E hr ws S Φ Ψ hl hS ha => ?_
  obtain ⟨j, ch, ld, jb, c, n, xs, st, kn, sv, rfl, hsv, wy, bk, ho, hn0, hn7, h6, hk6, h⟩ := ha
  obtain ⟨m1, m2⟩ := wy.nj
  specialize "go"
  refine wS_while (passes_of rfl) ⟨fun m E' S' => ∃ (y : Wy) (g : Option Int), E' = [some (.ref j), some (.int n), some sv, some (.lst (kn.map W.bl)), some (optW g)] ∧ S' = putWay C_Way S j ch ld jb c y ∧
    (match g with
      | none => m = 0 ∧ y = wayF xs c n st kn
      | some g => y.leads.length = y.chain.length ∧ y.chain.Nodup ∧ (∀ p ∈ y.chain, 0 ≤ p ∧ p ≤ 5) ∧ 0 ≤ g ∧ g ≤ 7 ∧ m + y.chain.length = 7 ∧ goF xs c st kn (m + 1) y g = wayF xs c n st kn), ⟨7, Wy.new, some n, rfl, wy.same.symm, rfl, List.nodup_nil, (fun p hp => by cases hp), hn0, hn7, rfl, rfl⟩, ?_⟩
  rintro m E' S' ⟨y, g, rfl, rfl, hg⟩
  cases g with
  | none =>
    obtain ⟨hm, hy⟩ := hg
    specialize "go"
    rw [hy]
    exact fin.as h
  | some g =>
    obtain ⟨hlen, hN, hP, hg0, hg7, hm, hgo⟩ := hg
    have wy' := wy.put y
    have bk' := bk.put wy (y' := y)
    have hc6 := phones_len hN hP
    have hl6 : y.leads.length ≤ 6 := by omega
    obtain ⟨v1, v2, v3, m3⟩ := id wy'
    specialize "go"
    refine (sIte_t rfl ?_ : sIte _ _ _)
    specialize "go"
    rw [put_put m1 m2 wy.ne]
    dsimp only
    refine dropTo.as ?_
    cases e : stepF xs c st kn y g with
    | mk y' r =>
      have hs := hgo
      rw [goF, e] at hs
      cases r with
      | none =>
        refine ⟨0, by omega, y', none, rfl, rfl, rfl, hs⟩
      | some g' =>
        obtain ⟨q1, q2, q3, q4, q6⟩ := step_on e
        have q5 := next_ok ho q3
        have hN' : y'.chain.Nodup := by
          rw [q4]
          exact List.nodup_append.mpr ⟨hN, by simp, fun a ha b hb => by
            rw [List.mem_singleton.mp hb]
            intro z
            exact q2 (z ▸ ha)⟩
        have hP' : ∀ p ∈ y'.chain, 0 ≤ p ∧ p ≤ 5 := by
          rw [q4]
          intro p hp
          rcases List.mem_append.mp hp with hp | hp
          · exact hP p hp
          · rw [List.mem_singleton.mp hp]
            omega
        have hl7 := phones_len hN' hP'
        rw [q4, List.length_append, List.length_singleton] at hl7
        obtain ⟨m', rfl⟩ : ∃ m', m = m' + 1 := ⟨m - 1, by omega⟩
        refine ⟨m', by omega, y', some g', rfl, rfl, ?_, hN', hP', q5.1, q5.2, ?_, hs⟩
        · rw [q4, q6, List.length_append, List.length_append, hlen]
          rfl
        · rw [q4, List.length_append, List.length_singleton]
          omega
local macro_rules | `(tactic| specialize "fun") => `(tactic| ((with_reducible show wE _ _ (Expr.Call (Expr.Attribute _ (Str.ofString "go") _) _ _ _) _ _ _); refine xE_meth (DS.cls_Way (by assumption)) (cf_Way_go (by assumption) (by assumption)) (Room.mono (by assumption) (by decide)) ?_))
end

local macro_rules | `(tactic| specialize "fun") => `(tactic| ((with_reducible show wE _ _ (Expr.Call (Expr.Name (Str.ofString "Way") _) _ _ _) _ _ _); refine xE_make (cf_Way_init (by assumption) (by assumption)) (Room.mono (by assumption) (by decide)) ?_))
local macro_rules | `(tactic| specialize "s3") => `(tactic| ((with_reducible show asp_Way_init _ _ _ _ _); refine ⟨_, _, _, rfl, rfl, ⟨rfl, ?_⟩⟩))
local macro_rules | `(tactic| specialize "fun") => `(tactic| ((with_reducible show wE _ _ (Expr.Call (Expr.Attribute _ (Str.ofString "step") _) _ _ _) _ _ _); refine xE_meth (DS.cls_Way (by assumption)) (cf_Way_step (by assumption) (by assumption)) (Room.mono (by assumption) (by decide)) ?_))
local macro_rules | `(tactic| specialize "s3") => `(tactic| ((with_reducible show asp_Way_step _ _ _ _ _ _); refine ⟨_, _, _, _, _, _, _, _, _, _, _, rfl, (by first | assumption | exact fun _ => rfl), (by assumption), (by assumption), (by assumption), (by first | assumption | omega), (by first | assumption | omega), (by assumption), (by assumption), (by assumption), (by assumption), ?_⟩))
local macro_rules | `(tactic| specialize "fun") => `(tactic| ((with_reducible show wE _ _ (Expr.Call (Expr.Attribute _ (Str.ofString "go") _) _ _ _) _ _ _); refine xE_meth (DS.cls_Way (by assumption)) (cf_Way_go (by assumption) (by assumption)) (Room.mono (by assumption) (by decide)) ?_))

-- PH1
section
variable {P : Program} {w : World} {K : PySem.W.Frag} {mg : Str → Option Value} {base : Heap} {C_Book C_Way C_Call C_Phone C_Hall : Addr}
def asp_silence (C : Cs) : ASp := fun ws S Φ _ => ∃ loc xs σ k, ws = [.ref (loc .hall), .ref (loc (.ca k))] ∧ HallAt C S loc xs σ ∧ k < σ.n ∧ ∀ S', HallAt C S' loc xs (silF σ k) → Fr loc σ.n S S' → Φ .non S'
section
local macro_rules | `(tactic| specialize "cmT") => `(tactic| ((with_reducible show wT _ _ (Expr.Compare (Expr.Attribute (Expr.Name _ _) _ _) [CmpOp.Eq] [_] _) _ _ _); refine xT_eqI (Room.u65 (by assumption)) ?_))
theorem cf_silence (G : GL mg) (D : DS K mg C_Book C_Way C_Call C_Phone C_Hall) : CMeth P w K mg base C_Hall "silence" 1 2 (asp_silence (Cs.mk C_Book C_Way C_Call C_Phone C_Hall)) := by
  refine D.d_Hall_silence.fn sc_Hall_silence fun f cdv A outer s H E hr ws S Φ Ψ hl hS ha => ?_
  obtain ⟨loc, xs, σ, k, rfl, h, hk, hΦ⟩ := ha
  have f1 := h.hall
  specialize "go"
  refine wS_for (passes_of rfl) rfl ?_
  refine xI_list ?_
  specialize "go"
  refine sWL_l ?_
  refine ⟨fun i E' S' => i ≤ 6 ∧ (∃ a, E' = [some (.ref (loc .hall)), some (.ref (loc (.ca k))), a]) ∧ HallAt (Cs.mk C_Book C_Way C_Call C_Phone C_Hall) S' loc xs (mapI σ (fun _ => Ph.sil k) i) ∧ Fr loc σ.n S S',
    ⟨Nat.zero_le _, ⟨_, rfl⟩, h.eqv (mapI_0 _ _), Fr.refl _⟩, fun _ _ _ _ => trivial, ?_, ?_⟩
  · rintro i w E' S' hw ⟨hi, ⟨a, rfl⟩, h', fr⟩
    obtain ⟨p, hp, rfl⟩ := map_inv hw
    obtain ⟨rfl, hi'⟩ := ph_idx hp
    have p1 := h'.phI hi'
    have v1 := h.vd.ph (p : Int) (by omega) (by omega)
    specialize "go"
    refine sEqI_r1 h' (DS.pe_Call D) (fun j e => v1.2.2 j e) hk ?_
    specialize "go"
    refine sIte_s (fun e => ?_) (fun e => ?_)
    · have e' := of_decide_eq_true e
      specialize "go"
      rw [fpB0, sil_yes e']
      dsimp only
      refine dropTo.as ?_
      exact ⟨hi', ⟨_, rfl⟩, h'.turn hi' v1.sil, fr.set (c := .ph (p : Int)) ⟨by omega, by omega⟩⟩
    · have e' := of_decide_eq_false e
      specialize "go"
      dsimp only
      refine dropTo.as ?_
      exact ⟨hi', ⟨_, rfl⟩, h'.skip (sil_no e'), fr⟩
  · rintro E' S' ⟨hi, ⟨a, rfl⟩, h', fr⟩
    have h6 := h'.at6 rfl
    have c1 := h6.ca hk
    have w1 := h6.way hk
    specialize "go"
    rw [fwE0]
    exact fin.as (hΦ _ (h6.putWay hk (y := (σ.ca k).y.noEars) rfl rfl) (fr.set (c := .way k) hk))
end
local macro_rules | `(tactic| specialize "fun") => `(tactic| ((with_reducible show wE _ _ (Expr.Call (Expr.Attribute _ (Str.ofString "silence") _) _ _ _) _ _ _); refine xE_meth (DS.cls_Hall (by assumption)) (cf_silence (by assumption) (by assumption)) (Room.mono (by assumption) (by decide)) ?_))
local macro_rules | `(tactic| specialize "s3") => `(tactic| ((with_reducible show asp_silence _ _ _ _ _); refine ⟨_, _, _, _, rfl, (by assumption), (by assumption), ?_⟩))
def asp_over (C : Cs) : ASp := fun ws S Φ _ => ∃ loc xs σ k, ws = [.ref (loc .hall), .ref (loc (.ca k))] ∧ HallAt C S loc xs σ ∧ k < σ.n ∧ ∀ S', HallAt C S' loc xs (overF σ k) → Fr loc σ.n S S' → Φ .non S'
section
local macro_rules | `(tactic| specialize "cmT") => `(tactic| ((with_reducible show wT _ _ (Expr.Compare (Expr.Attribute (Expr.Name _ _) _ _) [CmpOp.Eq] [_] _) _ _ _); refine xT_eqI (Room.u65 (by assumption)) ?_))
local macro_rules | `(tactic| specialize "cmT") => `(tactic| ((with_reducible show wT _ _ (Expr.Compare (Expr.Name (Str.ofString "call") _) [CmpOp.In] [_] _) _ _ _); refine xT_inI (Room.u65 (by assumption)) ?_))
local macro_rules | `(tactic| specialize "ex") => `(tactic| ((with_reducible show wE _ _ (Expr.Call (Expr.Attribute _ (Str.ofString "remove") _) _ _ _) _ _ _); refine xE_remI (Room.u65 (by assumption)) ?_))
theorem cf_over (G : GL mg) (D : DS K mg C_Book C_Way C_Call C_Phone C_Hall) : CMeth P w K mg base C_Hall "over" 2 2 (asp_over (Cs.mk C_Book C_Way C_Call C_Phone C_Hall)) := by
  refine D.d_Hall_over.fn sc_Hall_over fun f cdv A outer s H E hr ws S Φ Ψ hl hS ha => ?_
  obtain ⟨loc, xs, σ0, k, rfl, h0, hk0, hΦ⟩ := ha
  have f0 := h0.hall
  specialize "go"
  intro S0 h fr0
  have hk : k < (silF σ0 k).n := hk0
  have ef : ∀ S', HallAt (Cs.mk C_Book C_Way C_Call C_Phone C_Hall) S' loc xs { (silF σ0 k).mapPh (fun _ q => (q.ov1 k).ov2 k) with op := σ0.op.erase k } → Fr loc σ0.n S S' → Φ .non S' := hΦ
  have en : (silF σ0 k).n = σ0.n := rfl
  have eo : (silF σ0 k).op = σ0.op := rfl
  rw [← en] at ef fr0
  rw [← eo] at ef
  generalize silF σ0 k = σ at *
  have f1 := h.hall
  specialize "go"
  refine wS_for (passes_of rfl) rfl ?_
  refine xI_list ?_
  specialize "go"
  refine sWL_l ?_
  refine ⟨fun i E' S' => i ≤ 6 ∧ (∃ a, E' = [some (.ref (loc .hall)), some (.ref (loc (.ca k))), a]) ∧ HallAt (Cs.mk C_Book C_Way C_Call C_Phone C_Hall) S' loc xs (mapI σ (fun _ q => (q.ov1 k).ov2 k) i) ∧ Fr loc σ.n S S',
    ⟨Nat.zero_le _, ⟨_, rfl⟩, h.eqv (mapI_0 _ _), fr0⟩, fun _ _ _ _ => trivial, ?_, ?_⟩
  · rintro i w E' S' hw ⟨hi, ⟨a, rfl⟩, h', fr⟩
    obtain ⟨p, hp, rfl⟩ := map_inv hw
    obtain ⟨rfl, hi'⟩ := ph_idx hp
    have p1 := h'.phI hi'
    have v1 := h.vd.ph (p : Int) (by omega) (by omega)
    have p0 : (0 : Int) ≤ (p : Int) := by omega
    have p5 : (p : Int) ≤ 5 := by omega
    specialize "go"
    refine sEqI_r1 h' (DS.pe_Call D) (fun j e => v1.1 j e) hk ?_
    specialize "go"
    refine sIte_s (fun e => ?_) (fun e => ?_)
    · have e' := of_decide_eq_true e
      specialize "go"
      rw [List.set_set, fpN0, fpT]
      have h1 := h'.putPh p0 p5 (q := ⟨(σ.ph (p : Int)).up, none, (σ.ph (p : Int)).kept, (σ.ph (p : Int)).bell, "busy"⟩) ⟨fun j hj => (nomatch hj), v1.2.1, v1.2.2⟩
      have p2 := h1.phS p0 p5
      refine sEqI_r1 h1 (DS.pe_Call D) (fun j e => v1.2.1 j e) hk ?_
      specialize "go"
      refine sIte_s (fun e2 => ?_) (fun e2 => ?_)
      · have e2' := of_decide_eq_true e2
        specialize "go"
        rw [List.set_set, fpK0]
        dsimp only
        refine dropTo.as ?_
        rw [ov_tt e' e2']
        exact ⟨hi', ⟨_, rfl⟩, h'.turn hi' v1.ov1.ov2, fr.set (c := .ph (p : Int)) ⟨by omega, by omega⟩⟩
      · have e2' := of_decide_eq_false e2
        specialize "go"
        dsimp only
        refine dropTo.as ?_
        rw [ov_tf e' e2']
        exact ⟨hi', ⟨_, rfl⟩, h'.turn hi' v1.ov1.ov2, fr.set (c := .ph (p : Int)) ⟨by omega, by omega⟩⟩
    · have e' := of_decide_eq_false e
      specialize "go"
      refine sEqI_r1 h' (DS.pe_Call D) (fun j e => v1.2.1 j e) hk ?_
      specialize "go"
      refine sIte_s (fun e2 => ?_) (fun e2 => ?_)
      · have e2' := of_decide_eq_true e2
        specialize "go"
        rw [fpK0]
        dsimp only
        refine dropTo.as ?_
        rw [ov_ft e' e2']
        exact ⟨hi', ⟨_, rfl⟩, h'.turn hi' v1.ov1.ov2, fr.set (c := .ph (p : Int)) ⟨by omega, by omega⟩⟩
      · have e2' := of_decide_eq_false e2
        specialize "go"
        dsimp only
        refine dropTo.as ?_
        exact ⟨hi', ⟨_, rfl⟩, h'.skip (ov_ff e' e2'), fr⟩
  · rintro E' S' ⟨hi, ⟨a, rfl⟩, h', fr⟩
    have h6 := h'.at6 rfl
    have f6 := h6.hall
    have c6 := h6.calls
    specialize "go"
    refine sInI_r h6 (DS.pe_Call D) hk ?_
    specialize "go"
    refine sIte_s (fun e => ?_) (fun e => ?_)
    · have e' := of_decide_eq_true e
      specialize "go"
      refine sRemI_r h6 (DS.pe_Call D) hk e' ?_
      exact fin.as (ef _ (h6.putOp fun a ha => h6.vd.op a (List.mem_of_mem_erase ha)) (fr.set (c := .calls) trivial))
    · have e' : k ∉ σ.op := of_decide_eq_false e
      specialize "go"
      refine fin.as (ef _ ?_ fr)
      rw [List.erase_of_not_mem e']
      exact h6
end
local macro_rules | `(tactic| specialize "fun") => `(tactic| ((with_reducible show wE _ _ (Expr.Call (Expr.Attribute _ (Str.ofString "over") _) _ _ _) _ _ _); refine xE_meth (DS.cls_Hall (by assumption)) (cf_over (by assumption) (by assumption)) (Room.mono (by assumption) (by decide)) ?_))
local macro_rules | `(tactic| specialize "s3") => `(tactic| ((with_reducible show asp_over _ _ _ _ _); refine ⟨_, _, _, _, rfl, (by assumption), (by assumption), ?_⟩))
def asp_answer (C : Cs) : ASp := fun ws S Φ _ => ∃ loc xs σ k p, ws = [.ref (loc .hall), .ref (loc (.ca k)), .int p] ∧ HallAt C S loc xs σ ∧ k < σ.n ∧ 0 ≤ p ∧ p ≤ 5 ∧ (σ.ca k).ppl.length ≤ 1000 ∧ ∀ S', HallAt C S' loc xs (ansF σ k p) → Fr loc σ.n S S' → Φ .non S'
section
local macro_rules | `(tactic| specialize "ix") => `(tactic| exact at_phs (by assumption) (by assumption))
theorem cf_answer (G : GL mg) (D : DS K mg C_Book C_Way C_Call C_Phone C_Hall) : CMeth P w K mg base C_Hall "answer" 2 3 (asp_answer (Cs.mk C_Book C_Way C_Call C_Phone C_Hall)) := by
  refine D.d_Hall_answer.fn sc_Hall_answer fun f cdv A outer s H E hr ws S Φ Ψ hl hS ha => ?_
  obtain ⟨loc, xs, σ, k, p, rfl, h, hk, hp0, hp5, hpp, hΦ⟩ := ha
  have f0 := h.hall
  specialize "go"
  intro S1 h1 fr1
  have c1 := h1.ca hk
  rw [silF_ca] at c1
  have f1 := h1.hall
  specialize "go"
  rw [fcT]
  have h2 := h1.putCa hk (c := { (σ.ca k).noEars with talk := true }) (by rw [silF_ca]) (by rw [silF_ca]) (by rw [silF_ca])
  have pp2 := h2.ppl hk
  rw [setCa_self] at pp2
  refine sAppO_i pp2 ?_
  specialize "go"
  refine sApp_i pp2 (by rw [len_ints]; exact Nat.le_trans hpp (by decide)) ?_
  rw [ints_snoc]
  have h3 := h2.putPpl hk (l := (σ.ca k).ppl ++ [p])
  rw [setCa_self, setCa2] at h3
  have f3 := h3.hall
  have p3 := h3.ph hp0 hp5
  have v3 := h3.vd.ph p hp0 hp5
  specialize "go"
  rw [fpN1]
  exact fin.as (hΦ _ (h3.putPh hp0 hp5 ⟨fun j e => by cases e; exact hk, v3.2.1, v3.2.2⟩) (((fr1.set (c := .ca k) hk).set (c := .ppl k) hk).set (c := .ph p) ⟨hp0, hp5⟩))
end
local macro_rules | `(tactic| specialize "fun") => `(tactic| ((with_reducible show wE _ _ (Expr.Call (Expr.Attribute _ (Str.ofString "answer") _) _ _ _) _ _ _); refine xE_meth (DS.cls_Hall (by assumption)) (cf_answer (by assumption) (by assumption)) (Room.mono (by assumption) (by decide)) ?_))
local macro_rules | `(tactic| specialize "s3") => `(tactic| ((with_reducible show asp_answer _ _ _ _ _); refine ⟨_, _, _, _, _, rfl, (by assumption), (by assumption), (by assumption), (by assumption), (by assumption), ?_⟩))
def asp_leave (C : Cs) : ASp := fun ws S Φ _ => ∃ loc xs σ o p, ws = [.ref (loc .hall), rfW loc o, .int p] ∧ HallAt C S loc xs σ ∧ (∀ k, o = some k → k < σ.n ∧ p ∈ (σ.ca k).ppl) ∧ ∀ S', HallAt C S' loc xs (leaveF σ o p) → Fr loc σ.n S S' → Φ .non S'
section
local macro_rules | `(tactic| specialize "ex") => `(tactic| ((with_reducible show wE _ _ (Expr.Call (Expr.Attribute _ (Str.ofString "remove") _) _ _ _) _ _ _); refine xE_remove rfl ?_))
theorem cf_leave (G : GL mg) (D : DS K mg C_Book C_Way C_Call C_Phone C_Hall) : CMeth P w K mg base C_Hall "leave" 3 3 (asp_leave (Cs.mk C_Book C_Way C_Call C_Phone C_Hall)) := by
  refine D.d_Hall_leave.fn sc_Hall_leave fun f cdv A outer s H E hr ws S Φ Ψ hl hS ha => ?_
  obtain ⟨loc, xs, σ, o, p, rfl, h, ho, hΦ⟩ := ha
  have f0 := h.hall
  cases o with
  | none =>
    specialize "go"
    exact fin.as (hΦ _ h (Fr.refl _))
  | some k =>
    obtain ⟨hk, hm⟩ := ho k rfl
    have c1 := h.ca hk
    have pp1 := h.ppl hk
    show wB _ _ _ (startW _ [.ref (loc .hall), .ref (loc (.ca k)), .int p]) _ _
    specialize "go"
    refine sRem_i pp1 hm ?_
    have h2 := h.putPpl hk (l := (σ.ca k).ppl.erase p)
    have c2 := h2.ca hk
    rw [setCa_self] at c2
    have f2 := h2.hall
    have pp2 := h2.ppl hk
    rw [setCa_self] at pp2
    have fr2 : Fr loc σ.n S (S.set (loc (.ppl k)) (.lst (intsW ((σ.ca k).ppl.erase p)))) := (Fr.refl _).set (c := .ppl k) hk
    have hk2 : k < (σ.setCa k { σ.ca k with ppl := (σ.ca k).ppl.erase p }).n := hk
    specialize "go"
    have e0 : decide (((intsW ((σ.ca k).ppl.erase p)).length : Int) < 2) = decide (((σ.ca k).ppl.erase p).length < 2) := by
      rw [len_ints, decide_eq_decide]
      omega
    rw [e0]
    refine sIte_s (fun e => ?_) (fun e => ?_)
    · have e' := of_decide_eq_true e
      have hf : leaveF σ (some k) p = overF (σ.setCa k { σ.ca k with ppl := (σ.ca k).ppl.erase p }) k := if_pos e'
      specialize "go"
      intro S3 h3 fr3
      specialize "go"
      rw [← hf] at h3
      exact fin.as (hΦ _ h3 (fr2.trans fr3))
    · have e' := of_decide_eq_false e
      have hf : leaveF σ (some k) p = σ.setCa k { σ.ca k with ppl := (σ.ca k).ppl.erase p } := if_neg e'
      specialize "go"
      rw [← hf] at h2
      exact fin.as (hΦ _ h2 fr2)
end
local macro_rules | `(tactic| specialize "fun") => `(tactic| ((with_reducible show wE _ _ (Expr.Call (Expr.Attribute _ (Str.ofString "leave") _) _ _ _) _ _ _); refine xE_meth (DS.cls_Hall (by assumption)) (cf_leave (by assumption) (by assumption)) (Room.mono (by assumption) (by decide)) ?_))
def asp_need_talk (C : Cs) : ASp := fun ws S Φ _ => ∃ loc xs σ p, ws = [.ref (loc .hall), .ref (loc (.ph p))] ∧ HallAt C S loc xs σ ∧ 0 ≤ p ∧ p ≤ 5 ∧ inTalk σ p = true ∧ Φ .non S
theorem talk_some {σ : Hl} {p : Int} (h : inTalk σ p = true) : ∃ k, (σ.ph p).now = some k ∧ (σ.ca k).talk = true := by
  unfold inTalk at h
  cases e : (σ.ph p).now with
  | none => rw [e] at h; cases h
  | some k => rw [e] at h; exact ⟨k, rfl, h⟩
theorem cf_need_talk (G : GL mg) (D : DS K mg C_Book C_Way C_Call C_Phone C_Hall) : CMeth P w K mg base C_Hall "need_talk" 1 2 (asp_need_talk (Cs.mk C_Book C_Way C_Call C_Phone C_Hall)) := by
  refine D.d_Hall_need_talk.fn sc_Hall_need_talk fun f cdv A outer s H E hr ws S Φ Ψ hl hS ha => ?_
  obtain ⟨loc, xs, σ, p, rfl, h, hp0, hp5, ht, hΦ⟩ := ha
  obtain ⟨k, e1, e2⟩ := talk_some ht
  have p1 := h.ph hp0 hp5
  have v1 := h.vd.ph p hp0 hp5
  have c1 := h.ca (v1.1 k e1)
  unfold phFs at p1
  rw [e1] at p1
  unfold caFs at c1
  rw [e2] at c1
  simp only [rfW] at p1
  specialize "go"
  exact fin.as hΦ
local macro_rules | `(tactic| specialize "fun") => `(tactic| ((with_reducible show wE _ _ (Expr.Call (Expr.Attribute _ (Str.ofString "need_talk") _) _ _ _) _ _ _); refine xE_meth (DS.cls_Hall (by assumption)) (cf_need_talk (by assumption) (by assumption)) (Room.mono (by assumption) (by decide)) ?_))
local macro_rules | `(tactic| specialize "s3") => `(tactic| ((with_reducible show asp_need_talk _ _ _ _ _); refine ⟨_, _, _, _, rfl, (by assumption), (by assumption), (by assumption), (by assumption), ?_⟩))
def asp_phone (C : Cs) : ASp := fun ws S Φ _ => ∃ loc xs σ p b, ws = [.ref (loc .hall), .int p, .bl b] ∧ HallAt C S loc xs σ ∧ 0 ≤ p ∧ p ≤ 5 ∧ (σ.ph p).up = b ∧ Φ (.ref (loc (.ph p))) S
section
local macro_rules | `(tactic| specialize "ix") => `(tactic| exact at_phs (by assumption) (by assumption))
theorem cf_phone (G : GL mg) (D : DS K mg C_Book C_Way C_Call C_Phone C_Hall) : CMeth P w K mg base C_Hall "phone" 4 3 (asp_phone (Cs.mk C_Book C_Way C_Call C_Phone C_Hall)) := by
  refine D.d_Hall_phone.fn sc_Hall_phone fun f cdv A outer s H E hr ws S Φ Ψ hl hS ha => ?_
  obtain ⟨loc, xs, σ, p, b, rfl, h, hp0, hp5, hb, hΦ⟩ := ha
  have f0 := h.hall
  have p1 := h.ph hp0 hp5
  unfold phFs at p1
  rw [hb] at p1
  specialize "go"
  exact fin.as hΦ
end
local macro_rules | `(tactic| specialize "fun") => `(tactic| ((with_reducible show wE _ _ (Expr.Call (Expr.Attribute (Expr.Name (Str.ofString "self") _) (Str.ofString "phone") _) _ _ _) _ _ _); refine xE_meth (DS.cls_Hall (by assumption)) (cf_phone (by assumption) (by assumption)) (Room.mono (by assumption) (by decide)) ?_))
local macro_rules | `(tactic| specialize "s3") => `(tactic| ((with_reducible show asp_phone _ _ _ _ _); refine ⟨_, _, _, _, _, rfl, (by assumption), (by assumption), (by assumption), (by assumption), ?_⟩))
end

local macro_rules | `(tactic| specialize "fun") => `(tactic| ((with_reducible show wE _ _ (Expr.Call (Expr.Attribute _ (Str.ofString "silence") _) _ _ _) _ _ _); refine xE_meth (DS.cls_Hall (by assumption)) (cf_silence (by assumption) (by assumption)) (Room.mono (by assumption) (by decide)) ?_))
local macro_rules | `(tactic| specialize "s3") => `(tactic| ((with_reducible show asp_silence _ _ _ _ _); refine ⟨_, _, _, _, rfl, (by assumption), (by assumption), ?_⟩))
local macro_rules | `(tactic| specialize "fun") => `(tactic| ((with_reducible show wE _ _ (Expr.Call (Expr.Attribute _ (Str.ofString "over") _) _ _ _) _ _ _); refine xE_meth (DS.cls_Hall (by assumption)) (cf_over (by assumption) (by assumption)) (Room.mono (by assumption) (by decide)) ?_))
local macro_rules | `(tactic| specialize "s3") => `(tactic| ((with_reducible show asp_over _ _ _ _ _); refine ⟨_, _, _, _, rfl, (by assumption), (by assumption), ?_⟩))
local macro_rules | `(tactic| specialize "fun") => `(tactic| ((with_reducible show wE _ _ (Expr.Call (Expr.Attribute _ (Str.ofString "answer") _) _ _ _) _ _ _); refine xE_meth (DS.cls_Hall (by assumption)) (cf_answer (by assumption) (by assumption)) (Room.mono (by assumption) (by decide)) ?_))
local macro_rules | `(tactic| specialize "s3") => `(tactic| ((with_reducible show asp_answer _ _ _ _ _); refine ⟨_, _, _, _, _, rfl, (by assumption), (by assumption), (by assumption), (by assumption), (by assumption), ?_⟩))
local macro_rules | `(tactic| specialize "fun") => `(tactic| ((with_reducible show wE _ _ (Expr.Call (Expr.Attribute _ (Str.ofString "leave") _) _ _ _) _ _ _); refine xE_meth (DS.cls_Hall (by assumption)) (cf_leave (by assumption) (by assumption)) (Room.mono (by assumption) (by decide)) ?_))
local macro_rules | `(tactic| specialize "fun") => `(tactic| ((with_reducible show wE _ _ (Expr.Call (Expr.Attribute _ (Str.ofString "need_talk") _) _ _ _) _ _ _); refine xE_meth (DS.cls_Hall (by assumption)) (cf_need_talk (by assumption) (by assumption)) (Room.mono (by assumption) (by decide)) ?_))
local macro_rules | `(tactic| specialize "s3") => `(tactic| ((with_reducible show asp_need_talk _ _ _ _ _); refine ⟨_, _, _, _, rfl, (by assumption), (by assumption), (by assumption), (by assumption), ?_⟩))
local macro_rules | `(tactic| specialize "fun") => `(tactic| ((with_reducible show wE _ _ (Expr.Call (Expr.Attribute (Expr.Name (Str.ofString "self") _) (Str.ofString "phone") _) _ _ _) _ _ _); refine xE_meth (DS.cls_Hall (by assumption)) (cf_phone (by assumption) (by assumption)) (Room.mono (by assumption) (by decide)) ?_))
local macro_rules | `(tactic| specialize "s3") => `(tactic| ((with_reducible show asp_phone _ _ _ _ _); refine ⟨_, _, _, _, _, rfl, (by assumption), (by assumption), (by assumption), (by assumption), ?_⟩))

-- PH2
section
variable {P : Program} {w : World} {K : PySem.W.Frag} {mg : Str → Option Value} {base : Heap} {C_Book C_Way C_Call C_Phone C_Hall : Addr}
def asp_Way_goG (CB CW : Addr) : ASp := fun ws S Φ _ => ∃ j ch ld jb c y0 n xs st kn sv, ws = [.ref j, .int n, sv, .lst (kn.map W.bl)] ∧ (∀ S : Sto, itemsW S sv = some (st.map stW)) ∧ WayAt CW S j ch ld jb c y0 ∧ BookAt CB S jb xs ∧ (∀ x ∈ xs, x.ok) ∧ WyOk y0 ∧ 0 ≤ n ∧ n ≤ 7 ∧ st.length = 6 ∧ kn.length = 6 ∧
  Φ .non (putWay CW S j ch ld jb c (goF xs c st kn (8 - y0.chain.length) y0 n))
theorem cf_Way_goG (G : GL mg) (D : DS K mg C_Book C_Way C_Call C_Phone C_Hall) : CMeth P w K mg base C_Way "go" 4 4 (asp_Way_goG C_Book C_Way) := by
  refine D.d_Way_go.fn sc_Way_go fun f cdv A outer s H E hr ws S Φ Ψ hl hS ha => ?_
  obtain ⟨j, ch, ld, jb, c, y0, n, xs, st, kn, sv, rfl, hsv, wy, bk, ho, ok0, hn0, hn7, h6, hk6, h⟩ := ha
  obtain ⟨m1, m2⟩ := wy.nj
  have l0 := ok0.len
  specialize "go"
  refine wS_while (passes_of rfl) ⟨fun m E' S' => ∃ (y : Wy) (g : Option Int), E' = [some (.ref j), some (.int n), some sv, some (.lst (kn.map W.bl)), some (optW g)] ∧ S' = putWay C_Way S j ch ld jb c y ∧
    (match g with
      | none => m = 0 ∧ y = goF xs c st kn (8 - y0.chain.length) y0 n
      | some g => y.leads.length ≤ y.chain.length ∧ y.chain.Nodup ∧ (∀ p ∈ y.chain, 0 ≤ p ∧ p ≤ 5) ∧ 0 ≤ g ∧ g ≤ 7 ∧ m + y.chain.length = 7 ∧ goF xs c st kn (m + 1) y g = goF xs c st kn (8 - y0.chain.length) y0 n), ⟨7 - y0.chain.length, y0, some n, rfl, wy.same.symm, ok0.ld, ok0.nd, ok0.ph, hn0, hn7, by omega, by rw [show 7 - y0.chain.length + 1 = 8 - y0.chain.length by omega]⟩, ?_⟩
  rintro m E' S' ⟨y, g, rfl, rfl, hg⟩
  cases g with
  | none =>
    obtain ⟨hm, hy⟩ := hg
    specialize "go"
    rw [hy]
    exact fin.as h
  | some g =>
    obtain ⟨hlen, hN, hP, hg0, hg7, hm, hgo⟩ := hg
    have wy' := wy.put y
    have bk' := bk.put wy (y' := y)
    have hc6 := phones_len hN hP
    have hl6 : y.leads.length ≤ 6 := by omega
    obtain ⟨v1, v2, v3, m3⟩ := id wy'
    specialize "go"
    refine (sIte_t rfl ?_ : sIte _ _ _)
    specialize "go"
    rw [put_put m1 m2 wy.ne]
    dsimp only
    refine dropTo.as ?_
    cases e : stepF xs c st kn y g with
    | mk y' r =>
      have hs := hgo
      rw [goF, e] at hs
      cases r with
      | none =>
        refine ⟨0, by omega, y', none, rfl, rfl, rfl, hs⟩
      | some g' =>
        obtain ⟨q1, q2, q3, q4, q6⟩ := step_on e
        have q5 := next_ok ho q3
        have hN' : y'.chain.Nodup := by
          rw [q4]
          exact List.nodup_append.mpr ⟨hN, by simp, fun a ha b hb => by
            rw [List.mem_singleton.mp hb]
            intro z
            exact q2 (z ▸ ha)⟩
        have hP' : ∀ p ∈ y'.chain, 0 ≤ p ∧ p ≤ 5 := by
          rw [q4]
          intro p hp
          rcases List.mem_append.mp hp with hp | hp
          · exact hP p hp
          · rw [List.mem_singleton.mp hp]
            omega
        have hl7 := phones_len hN' hP'
        rw [q4, List.length_append, List.length_singleton] at hl7
        obtain ⟨m', rfl⟩ : ∃ m', m = m' + 1 := ⟨m - 1, by omega⟩
        refine ⟨m', by omega, y', some g', rfl, rfl, ?_, hN', hP', q5.1, q5.2, ?_, hs⟩
        · rw [q4, q6, List.length_append, List.length_append, List.length_singleton, List.length_singleton]
          omega
        · rw [q4, List.length_append, List.length_singleton]
          omega
def asp_may (C : Cs) : ASp := fun ws S Φ _ => ∃ loc xs σ p, ws = [.ref (loc .hall), .int p] ∧ HallAt C S loc xs σ ∧ 0 ≤ p ∧ p ≤ 5 ∧ Φ (.bl (mayF σ p)) S
section
local macro_rules | `(tactic| specialize "ix") => `(tactic| exact at_phs (by assumption) (by assumption))
theorem cf_may (G : GL mg) (D : DS K mg C_Book C_Way C_Call C_Phone C_Hall) : CMeth P w K mg base C_Hall "may_be_knocked_at" 1 2 (asp_may (Cs.mk C_Book C_Way C_Call C_Phone C_Hall)) := by
  refine D.d_Hall_may_be_knocked_at.fn sc_Hall_may_be_knocked_at fun f cdv A outer s H E hr ws S Φ Ψ hl hS ha => ?_
  obtain ⟨loc, xs, σ, p, rfl, h, hp0, hp5, hΦ⟩ := ha
  have f0 := h.hall
  have p1 := h.ph hp0 hp5
  have v1 := h.vd.ph p hp0 hp5
  unfold phFs at p1
  unfold mayF inTalk at hΦ
  cases e1 : (σ.ph p).now with
  | none =>
    rw [e1] at p1 hΦ
    simp only [rfW] at p1
    specialize "go"
    exact fin.as hΦ
  | some k =>
    have c1 := h.ca (v1.1 k e1)
    unfold caFs at c1
    rw [e1] at p1 hΦ
    cases e2 : (σ.ph p).kept <;> cases e3 : (σ.ph p).bell <;> (rw [e2, e3] at p1 hΦ; simp only [rfW] at p1; specialize "go"; exact fin.eq hΦ (by simp))
end
local macro_rules | `(tactic| specialize "fun") => `(tactic| ((with_reducible show wE _ _ (Expr.Call (Expr.Attribute _ (Str.ofString "may_be_knocked_at") _) _ _ _) _ _ _); refine xE_meth (DS.cls_Hall (by assumption)) (cf_may (by assumption) (by assumption)) (Room.mono (by assumption) (by decide)) ?_))
def asp_knock (C : Cs) : ASp := fun ws S Φ _ => ∃ loc xs σ ls, ws = [.ref (loc .hall), .lst ls] ∧ HallAt C S loc xs σ ∧ ls.length = 6 ∧ Φ (.lst ((knF σ).map W.bl)) S
section
local macro_rules | `(tactic| specialize "s0") => `(tactic| ((with_reducible show sLc _ _ _ _ _ _ _ _ _ _); refine stop_i ?_))
theorem cf_knock (G : GL mg) (D : DS K mg C_Book C_Way C_Call C_Phone C_Hall) : CMeth P w K mg base C_Hall "knock_list" 2 2 (asp_knock (Cs.mk C_Book C_Way C_Call C_Phone C_Hall)) := by
  refine D.d_Hall_knock_list.fn sc_Hall_knock_list fun f cdv A outer s H E hr ws S Φ Ψ hl hS ha => ?_
  obtain ⟨loc, xs, σ, ls, rfl, h, h6, hΦ⟩ := ha
  have f0 := h.hall
  specialize "go"
  unfold Stop
  have e6 : ((ls.length : Nat) : Int).toNat = 6 := by omega
  refine sLc_i (xs := List.range ((ls.length : Nat) : Int).toNat) (enc := fun k => .int ((0 : Int) + (k : Int))) (p := fun _ => true) (g := fun k => W.bl (mayF σ (k : Int))) trivial (by rw [List.length_range]; omega) (fun x hx => ?_) ?_
  · have hx6 : x < 6 := by
      have := List.mem_range.mp hx
      omega
    specialize "go"
    refine ⟨loc, xs, σ, ((0 : Int) + (x : Int)), rfl, h, by omega, by omega, ?_⟩
    rw [Int.zero_add]
    exact ⟨rfl, rfl⟩
  · rw [List.filter_eq_self.mpr fun _ _ => rfl, e6]
    unfold knF at hΦ
    rw [List.map_map] at hΦ
    exact fin.as hΦ
end
local macro_rules | `(tactic| specialize "fun") => `(tactic| ((with_reducible show wE _ _ (Expr.Call (Expr.Attribute _ (Str.ofString "knock_list") _) _ _ _) _ _ _); refine xE_meth (DS.cls_Hall (by assumption)) (cf_knock (by assumption) (by assumption)) (Room.mono (by assumption) (by decide)) ?_))
local macro_rules | `(tactic| specialize "fun") => `(tactic| ((with_reducible show wE _ _ (Expr.Call (Expr.Attribute (Expr.Attribute _ (Str.ofString "way") _) (Str.ofString "go") _) _ _ _) _ _ _); refine xE_meth (DS.cls_Way (by assumption)) (cf_Way_goG (by assumption) (by assumption)) (Room.mono (by assumption) (by decide)) ?_))
def asp_go_on (C : Cs) : ASp := fun ws S Φ _ => ∃ loc xs σ k g, ws = [.ref (loc .hall), .ref (loc (.ca k)), .int g] ∧ HallAt C S loc xs σ ∧ (∀ x ∈ xs, x.ok) ∧ k < σ.n ∧ 0 ≤ g ∧ g ≤ 7 ∧ WyOk (σ.ca k).y ∧ (∀ e ∈ (onY σ xs k g).ears, 0 ≤ e ∧ e ≤ 5) ∧ (onY σ xs k g).ears.length ≤ 100 ∧ ∀ S', HallAt C S' loc xs (onF σ xs k g) → Fr loc σ.n S S' → Φ .non S'
section
local macro_rules | `(tactic| specialize "st") => `(tactic| ((with_reducible show wS _ _ (Stmt.Assign [Expr.Name (Str.ofString "states") _] _ _) _ _ _); refine stop_i ?_))
local macro_rules | `(tactic| specialize "s0") => `(tactic| ((with_reducible show sLc _ _ _ _ _ _ _ _ _ _); refine stop_i ?_))
local macro_rules | `(tactic| specialize "ix") => `(tactic| exact at_phs (by assumption) (by assumption))
def bellI (σ : Hl) (k : Nat) (l : List Int) : Hl := σ.mapPh fun p q => if p ∈ l then { q with bell := some k } else q
theorem bellI_ph {σ : Hl} {k : Nat} {l : List Int} {p : Int} : (bellI σ k l).ph p = if p ∈ l then { σ.ph p with bell := some k } else σ.ph p := rfl
theorem sts_len {σ : Hl} : (stF σ).length = 6 := by
  unfold stF
  rw [List.length_map, List.length_range]
theorem kn_len {σ : Hl} : (knF σ).length = 6 := by
  unfold knF
  rw [List.length_map, List.length_range]
theorem cf_go_on (G : GL mg) (D : DS K mg C_Book C_Way C_Call C_Phone C_Hall) : CMeth P w K mg base C_Hall "go_on" 5 3 (asp_go_on (Cs.mk C_Book C_Way C_Call C_Phone C_Hall)) := by
  refine D.d_Hall_go_on.fn sc_Hall_go_on fun f cdv A outer s H E hr ws S Φ Ψ hl hS ha => ?_
  obtain ⟨loc, xs, σ, k, g, rfl, h, ho, hk, hg0, hg7, hw, he, hel, hΦ⟩ := ha
  have f0 := h.hall
  specialize "go"
  unfold Stop
  specialize "lcS"
  refine xI_list ?_
  specialize "go"
  refine sWL_l ?_
  refine sLc_i (xs := List.range 6) (enc := fun i : Nat => W.ref (loc (.ph (i : Int)))) (p := fun _ => true) (g := fun i : Nat => stW (busyP (σ.ph (i : Int)))) trivial (by decide) (fun x hx => ?_) ?_
  · have hx6 : x < 6 := List.mem_range.mp hx
    have p1 := h.ph (p := (x : Int)) (by omega) (by omega)
    unfold phFs at p1
    unfold busyP
    cases e1 : (σ.ph (x : Int)).up <;> cases e2 : (σ.ph (x : Int)).bell <;> (rw [e1, e2] at p1; simp only [rfW] at p1; specialize "go")
  · rw [List.filter_eq_self.mpr fun _ _ => rfl]
    have est : (List.range 6).map (fun i : Nat => stW (busyP (σ.ph (i : Int)))) = (stF σ).map stW := by
      unfold stF
      rw [List.map_map]
      rfl
    rw [est]
    have c1 := h.ca hk
    specialize "go"
    refine sMeth_i (h.way hk) rfl ?_
    specialize "go"
    refine ⟨loc, xs, σ, _, rfl, h, by rw [List.length_map, sts_len], ?_⟩
    specialize "go"
    refine ⟨_, _, _, _, _, (σ.ca k).y, g, xs, stF σ, knF σ, _, rfl, fun _ => rfl, h.wy hk, h.bk, ho, hw, hg0, hg7, sts_len, kn_len, ?_⟩
    have h1 := h.putWy hk (onY σ xs k g)
    have fr1 : Fr loc σ.n S (putWay C_Way S (loc (.way k)) (loc (.chain k)) (loc (.leads k)) (loc .book) (σ.ca k).c (onY σ xs k g)) := (Fr.refl S).putWy hk
    rw [show goF xs (σ.ca k).c (stF σ) (knF σ) (8 - (σ.ca k).y.chain.length) (σ.ca k).y g = onY σ xs k g from rfl]
    have hΦ' : ∀ S', HallAt (Cs.mk C_Book C_Way C_Call C_Phone C_Hall) S' loc xs (if (onY σ xs k g).ears = [] then overF (ringF σ k (onY σ xs k g)) k else ringF σ k (onY σ xs k g)) → Fr loc σ.n S S' → Φ .non S' := hΦ
    generalize onY σ xs k g = y at *
    generalize putWay C_Way S (loc (.way k)) (loc (.chain k)) (loc (.leads k)) (loc .book) (σ.ca k).c y = S1 at *
    have c2 := h1.ca hk
    rw [setCa_self] at c2
    have f1 := h1.hall
    have w2 := h1.way hk
    rw [setCa_self] at w2
    specialize "go"
    rw [fcA]
    have h2 := h1.putCa hk (c := { σ.ca k with y := y, age := 0 }) (by rw [setCa_self]) (by rw [setCa_self]) (by rw [setCa_self])
    rw [setCa2] at h2
    have fr2 := fr1.set (c := .ca k) hk (o := .ins C_Call (caFs loc k { σ.ca k with y := y, age := 0 }))
    show wS _ _ _ _ (S1.set (loc (.ca k)) (.ins C_Call (caFs loc k { σ.ca k with y := y, age := 0 }))) _
    generalize S1.set (loc (.ca k)) (.ins C_Call (caFs loc k { σ.ca k with y := y, age := 0 })) = S2 at h2 fr2 ⊢
    have w3 := h2.way hk
    rw [setCa_self] at w3
    have c3 := h2.ca hk
    rw [setCa_self] at c3
    refine wS_for (passes_of rfl) rfl ?_
    refine xI_tup ?_
    specialize "go"
    refine sWT_i ?_
    refine ⟨fun i E' S' => i ≤ y.ears.length ∧ (∃ a, E' = [some (.ref (loc .hall)), some (.ref (loc (.ca k))), some (.int g), some (.lst ((stF σ).map stW)), none, a]) ∧ HallAt (Cs.mk C_Book C_Way C_Call C_Phone C_Hall) S' loc xs (bellI (σ.setCa k { σ.ca k with y := y, age := 0 }) k (y.ears.take i)) ∧ Fr loc σ.n S S',
      ⟨Nat.zero_le _, ⟨_, rfl⟩, h2.eqv ⟨rfl, rfl, fun p _ _ => by rw [List.take_zero, bellI_ph, if_neg List.not_mem_nil], fun _ _ => rfl⟩, fr2⟩, fun _ _ _ _ => trivial, ?_, ?_⟩
    · rintro i w E' S' hwi ⟨hi, ⟨a, rfl⟩, h', fr⟩
      obtain ⟨e, hei, rfl⟩ := map_inv hwi
      have hem := List.mem_of_getElem? hei
      obtain ⟨e0, e5⟩ := he e hem
      have hi' : i < y.ears.length := (List.getElem?_eq_some_iff.mp hei).1
      have p1 := h'.ph e0 e5
      have f3 := h'.hall
      have v1 := h'.vd.ph e e0 e5
      specialize "go"
      rw [fpB1]
      dsimp only
      refine dropTo.as ?_
      have h'' := h'.putPh e0 e5 (q := { (bellI (σ.setCa k { σ.ca k with y := y, age := 0 }) k (y.ears.take i)).ph e with bell := some k }) ⟨v1.1, v1.2.1, fun j hj => by cases hj; exact hk⟩
      refine ⟨hi', ⟨_, rfl⟩, h''.eqv ⟨rfl, rfl, fun p _ _ => ?_, fun _ _ => rfl⟩, fr.set (c := .ph e) ⟨e0, e5⟩⟩
      have et : y.ears.take (i + 1) = y.ears.take i ++ [e] := by rw [List.take_add_one, hei, Option.toList_some]
      rw [et, bellI_ph]
      by_cases z : p = e
      · subst z
        rw [setPh_self, if_pos (by simp), bellI_ph]
        by_cases z2 : p ∈ y.ears.take i
        · rw [if_pos z2]
        · rw [if_neg z2]
      · rw [setPh_ne z, bellI_ph]
        by_cases z2 : p ∈ y.ears.take i
        · rw [if_pos z2, if_pos (List.mem_append_left _ z2)]
        · rw [if_neg z2, if_neg (by simp [z2, z])]
    · rintro E' S' ⟨hi, ⟨a, rfl⟩, h', fr⟩
      rw [len_ints] at h'
      have h' : HallAt (Cs.mk C_Book C_Way C_Call C_Phone C_Hall) S' loc xs (bellI (σ.setCa k { σ.ca k with y := y, age := 0 }) k (y.ears.take y.ears.length)) := h'
      rw [List.take_length] at h'
      have h4 : HallAt (Cs.mk C_Book C_Way C_Call C_Phone C_Hall) S' loc xs (ringF σ k y) := h'
      have hk3 : k < (ringF σ k y).n := hk
      have f3 := h4.hall
      have c3 := h4.ca hk3
      have w3 := h4.way hk3
      rw [show (ringF σ k y).ca k = { σ.ca k with y := y, age := 0 } from if_pos rfl] at w3
      specialize "go"
      refine sIte_s (fun e => ?_) (fun e => ?_)
      · have e' : y.ears = [] := by
          cases hy : y.ears with
          | nil => rfl
          | cons a l => rw [hy] at e; cases e
        rw [if_pos e'] at hΦ'
        specialize "go"
        intro S5 h5 fr5
        specialize "go"
        exact fin.as (hΦ' _ h5 (fr.trans fr5))
      · have e' : ¬ y.ears = [] := by
          intro z
          rw [z] at e
          cases e
        rw [if_neg e'] at hΦ'
        specialize "go"
        exact fin.as (hΦ' _ h4 fr)
end
local macro_rules | `(tactic| specialize "fun") => `(tactic| ((with_reducible show wE _ _ (Expr.Call (Expr.Attribute _ (Str.ofString "go_on") _) _ _ _) _ _ _); refine xE_meth (DS.cls_Hall (by assumption)) (cf_go_on (by assumption) (by assumption)) (Room.mono (by assumption) (by decide)) ?_))
end

local macro_rules | `(tactic| specialize "fun") => `(tactic| ((with_reducible show wE _ _ (Expr.Call (Expr.Attribute _ (Str.ofString "may_be_knocked_at") _) _ _ _) _ _ _); refine xE_meth (DS.cls_Hall (by assumption)) (cf_may (by assumption) (by assumption)) (Room.mono (by assumption) (by decide)) ?_))
local macro_rules | `(tactic| specialize "fun") => `(tactic| ((with_reducible show wE _ _ (Expr.Call (Expr.Attribute _ (Str.ofString "knock_list") _) _ _ _) _ _ _); refine xE_meth (DS.cls_Hall (by assumption)) (cf_knock (by assumption) (by assumption)) (Room.mono (by assumption) (by decide)) ?_))
local macro_rules | `(tactic| specialize "fun") => `(tactic| ((with_reducible show wE _ _ (Expr.Call (Expr.Attribute (Expr.Attribute _ (Str.ofString "way") _) (Str.ofString "go") _) _ _ _) _ _ _); refine xE_meth (DS.cls_Way (by assumption)) (cf_Way_goG (by assumption) (by assumption)) (Room.mono (by assumption) (by decide)) ?_))
local macro_rules | `(tactic| specialize "fun") => `(tactic| ((with_reducible show wE _ _ (Expr.Call (Expr.Attribute _ (Str.ofString "go_on") _) _ _ _) _ _ _); refine xE_meth (DS.cls_Hall (by assumption)) (cf_go_on (by assumption) (by assumption)) (Room.mono (by assumption) (by decide)) ?_))

-- PH3u
section
variable {P : Program} {w : World} {K : PySem.W.Frag} {mg : Str → Option Value} {base : Heap} {C_Book C_Way C_Call C_Phone C_Hall : Addr}
local macro_rules | `(tactic| specialize "s2") => `(tactic| ((with_reducible show sNon _ (rfW _ _) _ _); refine sNon_i isNon_rf ?_))
theorem isNone_t {α : Type} {o : Option α} (e : (if true = true then !o.isNone else o.isNone) = true) : ∃ k, o = some k := by
  cases o with
  | none => cases e
  | some k => exact ⟨k, rfl⟩
theorem isNone_f {α : Type} {o : Option α} (e : (if true = true then !o.isNone else o.isNone) = false) : o = none := by
  cases o with
  | none => rfl
  | some k => cases e
def asp_lift (C : Cs) : ASp := fun ws S Φ _ => ∃ loc xs σ p, ws = [.ref (loc .hall), .int p] ∧ HallAt C S loc xs σ ∧ 0 ≤ p ∧ p ≤ 5 ∧ (σ.ph p).up = false ∧ (∀ k, (σ.ph p).bell = some k → (σ.ca k).ppl.length ≤ 1000) ∧ ∀ S', HallAt C S' loc xs (liftF σ p) → Fr loc σ.n S S' → Φ .non S'
theorem liftF_none {σ : Hl} {p : Int} (e : (σ.ph p).bell = none) : liftF σ p = σ.setPh p ⟨true, (σ.ph p).now, (σ.ph p).kept, (σ.ph p).bell, "dial"⟩ := by
  unfold liftF
  split
  · rfl
  · rename_i h
    rw [e] at h
    cases h
theorem liftF_some {σ : Hl} {p : Int} {k : Nat} (e : (σ.ph p).bell = some k) : liftF σ p = ansF (σ.setPh p ⟨true, (σ.ph p).now, (σ.ph p).kept, (σ.ph p).bell, "dial"⟩) k p := by
  unfold liftF
  split
  · rename_i h
    rw [e] at h
    cases h
  · rename_i h
    rw [e] at h
    cases h
    rfl
theorem cf_lift (G : GL mg) (D : DS K mg C_Book C_Way C_Call C_Phone C_Hall) : CMeth P w K mg base C_Hall "lift" 5 2 (asp_lift (Cs.mk C_Book C_Way C_Call C_Phone C_Hall)) := by
  refine D.d_Hall_lift.fn sc_Hall_lift fun f cdv A outer s H E hr ws S Φ Ψ hl hS ha => ?_
  obtain ⟨loc, xs, σ, p, rfl, h, hp0, hp5, hup, hb, hΦ⟩ := ha
  have f0 := h.hall
  have p0 := h.ph hp0 hp5
  have v0 := h.vd.ph p hp0 hp5
  have h1 := h.putPh hp0 hp5 (q := ⟨true, (σ.ph p).now, (σ.ph p).kept, (σ.ph p).bell, "dial"⟩) v0
  have fr1 : Fr loc σ.n S (S.set (loc (.ph p)) (.ins C_Phone (phFs loc ⟨true, (σ.ph p).now, (σ.ph p).kept, (σ.ph p).bell, "dial"⟩))) := (Fr.refl S).set (c := .ph p) ⟨hp0, hp5⟩
  have p1 := h1.phS hp0 hp5
  have f1 := h1.hall
  specialize "go"
  rw [List.set_set, fpU, fpT]
  refine (sIte_s (fun e => ?_) (fun e => ?_) : sIte (if true = true then !(σ.ph p).bell.isNone else (σ.ph p).bell.isNone) _ _)
  · obtain ⟨k, e⟩ := isNone_t e
    specialize "go"
    refine ⟨loc, xs, _, k, p, by show [_, rfW loc (σ.ph p).bell, _] = _; rw [e]; rfl, h1, v0.2.2 k e, hp0, hp5, hb k e, ?_⟩
    intro S2 h2 fr2
    specialize "go"
    rw [← liftF_some e] at h2
    exact fin.as (hΦ _ h2 (fr1.trans fr2))
  · have e := isNone_f e
    specialize "go"
    rw [← liftF_none e] at h1
    exact fin.as (hΦ _ h1 fr1)
def asp_drop (C : Cs) : ASp := fun ws S Φ _ => ∃ loc xs σ p, ws = [.ref (loc .hall), .int p] ∧ HallAt C S loc xs σ ∧ 0 ≤ p ∧ p ≤ 5 ∧ (σ.ph p).up = true ∧ (∀ k, (σ.ph p).now = some k → p ∈ (σ.ca k).ppl) ∧ (∀ k, (σ.ph p).kept = some k → p ∈ (σ.ca k).ppl) ∧ (∀ k, (σ.ph p).now = some k → ¬ (σ.ph p).kept = some k) ∧ ∀ S', HallAt C S' loc xs (dropF σ p) → Fr loc σ.n S S' → Φ .non S'
theorem leaveF_n {σ : Hl} {o : Option Nat} {p : Int} : (leaveF σ o p).n = σ.n := by
  cases o with
  | none => rfl
  | some k =>
    unfold leaveF
    dsimp only
    split <;> rfl
theorem overF_ppl {σ : Hl} {k j : Nat} : ((overF σ k).ca j).ppl = (σ.ca j).ppl := by
  show (if j = k then (σ.ca k).noEars else σ.ca j).ppl = _
  by_cases e : j = k
  · rw [if_pos e, e]; rfl
  · rw [if_neg e]
theorem leaveF_ppl {σ : Hl} {o : Option Nat} {p : Int} {j : Nat} (h : ¬ o = some j) : ((leaveF σ o p).ca j).ppl = (σ.ca j).ppl := by
  cases o with
  | none => rfl
  | some k =>
    have ne : j ≠ k := fun z => h (by rw [z])
    unfold leaveF
    dsimp only
    split
    · rw [overF_ppl, setCa_ne ne]
    · rw [setCa_ne ne]
theorem cf_drop (G : GL mg) (D : DS K mg C_Book C_Way C_Call C_Phone C_Hall) : CMeth P w K mg base C_Hall "drop" 5 2 (asp_drop (Cs.mk C_Book C_Way C_Call C_Phone C_Hall)) := by
  refine D.d_Hall_drop.fn sc_Hall_drop fun f cdv A outer s H E hr ws S Φ Ψ hl hS ha => ?_
  obtain ⟨loc, xs, σ, p, rfl, h, hp0, hp5, hup, hn, hk, hnk, hΦ⟩ := ha
  have f0 := h.hall
  have p0 := h.ph hp0 hp5
  have v0 := h.vd.ph p hp0 hp5
  have h1 := h.putPh hp0 hp5 (q := ⟨false, none, none, (σ.ph p).bell, "quiet"⟩) ⟨fun j hj => (nomatch hj), fun j hj => (nomatch hj), v0.2.2⟩
  have f1 := h1.hall
  have fr1 : Fr loc σ.n S (S.set (loc (.ph p)) (.ins C_Phone (phFs loc ⟨false, none, none, (σ.ph p).bell, "quiet"⟩))) := (Fr.refl S).set (c := .ph p) ⟨hp0, hp5⟩
  have hΦ' : ∀ S', HallAt (Cs.mk C_Book C_Way C_Call C_Phone C_Hall) S' loc xs (leaveF (leaveF (σ.setPh p ⟨false, none, none, (σ.ph p).bell, "quiet"⟩) (σ.ph p).now p) (σ.ph p).kept p) → Fr loc σ.n S S' → Φ .non S' := hΦ
  specialize "go"
  rw [List.set_set, List.set_set, List.set_set, fpU, fpN0, fpK0, fpT]
  refine sMeth_i f1 rfl ?_
  specialize "go"
  refine ⟨loc, xs, _, (σ.ph p).now, p, rfl, h1, fun k e => ⟨v0.1 k e, hn k e⟩, ?_⟩
  intro S2 h2 fr2
  have f2 := h2.hall
  specialize "go"
  refine ⟨loc, xs, _, (σ.ph p).kept, p, rfl, h2, fun k e => ⟨by rw [leaveF_n]; exact v0.2.1 k e, by rw [leaveF_ppl (fun z => hnk k z e)]; exact hk k e⟩, ?_⟩
  intro S3 h3 fr3
  specialize "go"
  rw [leaveF_n] at fr3
  exact fin.as (hΦ' _ h3 ((fr1.trans fr2).trans fr3))
def asp_hold (C : Cs) : ASp := fun ws S Φ _ => ∃ loc xs σ p, ws = [.ref (loc .hall), .int p] ∧ HallAt C S loc xs σ ∧ 0 ≤ p ∧ p ≤ 5 ∧ (σ.ph p).up = true ∧ inTalk σ p = true ∧ (σ.ph p).kept = none ∧ ∀ S', HallAt C S' loc xs (holdF σ p) → Fr loc σ.n S S' → Φ .non S'
theorem cf_hold (G : GL mg) (D : DS K mg C_Book C_Way C_Call C_Phone C_Hall) : CMeth P w K mg base C_Hall "hold" 5 2 (asp_hold (Cs.mk C_Book C_Way C_Call C_Phone C_Hall)) := by
  refine D.d_Hall_hold.fn sc_Hall_hold fun f cdv A outer s H E hr ws S Φ Ψ hl hS ha => ?_
  obtain ⟨loc, xs, σ, p, rfl, h, hp0, hp5, hup, ht, hk, hΦ⟩ := ha
  have f0 := h.hall
  have p0 := h.ph hp0 hp5
  have v0 := h.vd.ph p hp0 hp5
  have hk2 : ((if true = true then !(σ.ph p).kept.isNone else (σ.ph p).kept.isNone)) = false := by rw [hk]; rfl
  have h1 := h.putPh hp0 hp5 (q := ⟨(σ.ph p).up, none, (σ.ph p).now, (σ.ph p).bell, "dial"⟩) ⟨fun j hj => (nomatch hj), v0.1, v0.2.2⟩
  have fr1 : Fr loc σ.n S (S.set (loc (.ph p)) (.ins C_Phone (phFs loc ⟨(σ.ph p).up, none, (σ.ph p).now, (σ.ph p).bell, "dial"⟩))) := (Fr.refl S).set (c := .ph p) ⟨hp0, hp5⟩
  specialize "go"
  rw [List.set_set, List.set_set, fpN0, fpK, fpT]
  exact fin.as (hΦ _ h1 fr1)
def asp_swap (C : Cs) : ASp := fun ws S Φ _ => ∃ loc xs σ p, ws = [.ref (loc .hall), .int p] ∧ HallAt C S loc xs σ ∧ 0 ≤ p ∧ p ≤ 5 ∧ (σ.ph p).up = true ∧ (σ.ph p).kept ≠ none ∧ ((σ.ph p).now = none ∨ inTalk σ p = true) ∧ ∀ S', HallAt C S' loc xs (swapF σ p) → Fr loc σ.n S S' → Φ .non S'
theorem cf_swap (G : GL mg) (D : DS K mg C_Book C_Way C_Call C_Phone C_Hall) : CMeth P w K mg base C_Hall "swap" 5 2 (asp_swap (Cs.mk C_Book C_Way C_Call C_Phone C_Hall)) := by
  refine D.d_Hall_swap.fn sc_Hall_swap fun f cdv A outer s H E hr ws S Φ Ψ hl hS ha => ?_
  obtain ⟨loc, xs, σ, p, rfl, h, hp0, hp5, hup, hk, ht, hΦ⟩ := ha
  have f0 := h.hall
  have p0 := h.ph hp0 hp5
  have v0 := h.vd.ph p hp0 hp5
  have h1 := h.putPh hp0 hp5 (q := ⟨(σ.ph p).up, (σ.ph p).kept, (σ.ph p).now, (σ.ph p).bell, (σ.ph p).tone⟩) ⟨v0.2.1, v0.1, v0.2.2⟩
  have fr1 : Fr loc σ.n S (S.set (loc (.ph p)) (.ins C_Phone (phFs loc ⟨(σ.ph p).up, (σ.ph p).kept, (σ.ph p).now, (σ.ph p).bell, (σ.ph p).tone⟩))) := (Fr.refl S).set (c := .ph p) ⟨hp0, hp5⟩
  have ht2 : ∀ k, (σ.ph p).now = some k → (σ.ca k).talk = true := by
    intro k e
    rcases ht with z | z
    · rw [z] at e
      cases e
    · obtain ⟨k2, e1, e2⟩ := talk_some z
      rw [e1] at e
      cases e
      exact e2
  have ef : swapF σ p = σ.setPh p ⟨(σ.ph p).up, (σ.ph p).kept, (σ.ph p).now, (σ.ph p).bell, (σ.ph p).tone⟩ := rfl
  rw [ef] at hΦ
  generalize σ.ph p = q at p0 v0 h1 fr1 hk ht2 hΦ
  obtain ⟨u, nw, kp, bl, tn⟩ := q
  cases kp with
  | none => exact absurd rfl hk
  | some j =>
    cases nw with
    | none =>
      specialize "go"
      rw [List.set_set, fpN, fpK]
      exact fin.as (hΦ _ h1 fr1)
    | some k =>
      have c0 := h.ca (v0.1 k rfl)
      have ht3 := ht2 k rfl
      specialize "go"
      rw [List.set_set, fpN, fpK]
      exact fin.as (hΦ _ h1 fr1)
def asp_take (C : Cs) : ASp := fun ws S Φ _ => ∃ loc xs σ p k, ws = [.ref (loc .hall), .int p] ∧ HallAt C S loc xs σ ∧ 0 ≤ p ∧ p ≤ 5 ∧ (σ.ph p).up = true ∧ inTalk σ p = true ∧ (σ.ph p).kept = none ∧ (σ.ph p).bell = some k ∧ (σ.ca k).ppl.length ≤ 1000 ∧ ∀ S', HallAt C S' loc xs (takeF σ p) → Fr loc σ.n S S' → Φ .non S'
theorem takeF_some {σ : Hl} {p : Int} {k : Nat} (e : (σ.ph p).bell = some k) : takeF σ p = ansF (σ.setPh p ⟨(σ.ph p).up, (σ.ph p).now, (σ.ph p).now, (σ.ph p).bell, (σ.ph p).tone⟩) k p := by
  unfold takeF
  split
  · rename_i h
    rw [e] at h
    cases h
  · rename_i h
    rw [e] at h
    cases h
    rfl
theorem cf_take (G : GL mg) (D : DS K mg C_Book C_Way C_Call C_Phone C_Hall) : CMeth P w K mg base C_Hall "take" 5 2 (asp_take (Cs.mk C_Book C_Way C_Call C_Phone C_Hall)) := by
  refine D.d_Hall_take.fn sc_Hall_take fun f cdv A outer s H E hr ws S Φ Ψ hl hS ha => ?_
  obtain ⟨loc, xs, σ, p, k, rfl, h, hp0, hp5, hup, ht, hk, hb, hpp, hΦ⟩ := ha
  have f0 := h.hall
  have p0 := h.ph hp0 hp5
  have v0 := h.vd.ph p hp0 hp5
  have h1 := h.putPh hp0 hp5 (q := ⟨(σ.ph p).up, (σ.ph p).now, (σ.ph p).now, (σ.ph p).bell, (σ.ph p).tone⟩) ⟨v0.1, v0.1, v0.2.2⟩
  have f1 := h1.hall
  have p1 := h1.phS hp0 hp5
  have fr1 : Fr loc σ.n S (S.set (loc (.ph p)) (.ins C_Phone (phFs loc ⟨(σ.ph p).up, (σ.ph p).now, (σ.ph p).now, (σ.ph p).bell, (σ.ph p).tone⟩))) := (Fr.refl S).set (c := .ph p) ⟨hp0, hp5⟩
  have hk2 : ((if false = true then !(σ.ph p).bell.isNone else (σ.ph p).bell.isNone) || (if true = true then !(σ.ph p).kept.isNone else (σ.ph p).kept.isNone)) = false := by rw [hk, hb]; rfl
  specialize "go"
  rw [fpK]
  specialize "go"
  refine ⟨loc, xs, _, k, p, by show [_, rfW loc (σ.ph p).bell, _] = _; rw [hb]; rfl, h1, v0.2.2 k hb, hp0, hp5, hpp, ?_⟩
  intro S2 h2 fr2
  specialize "go"
  rw [← takeF_some hb] at h2
  exact fin.as (hΦ _ h2 (fr1.trans fr2))
end

-- PH4
section
variable {P : Program} {w : World} {K : PySem.W.Frag} {mg : Str → Option Value} {base : Heap} {C_Book C_Way C_Call C_Phone C_Hall : Addr}
local macro_rules | `(tactic| specialize "s2") => `(tactic| ((with_reducible show sNon _ (rfW _ _) _ _); refine sNon_i isNon_rf ?_))
theorem xE_listN {X : Cx} {Ψ : AX} {e : Expr} {E : AEnv} {S : Sto} {Φ : W → Sto → Prop} {pos p : Pos} (hm : X.mg "list" = none) (h : wE X Ψ e E S fun w S1 => sItemsN w S1 Φ) (hg : Gl X "list" := by rfl) (he : starEach [e] X.env = (false, eval e X.env) :: starEach [] X.env := by rfl) (hpl : (backTo pos (starEach [] X.env)).any (·.1) = false := by rfl) : wE X Ψ (.Call (.Name "list" p) [e] [] pos) E S Φ := wE_listN hm h hg he hpl
def asp_Phone_init (C : Addr) : ASp := fun ws S Φ _ => ∃ S0, ws = [.ref S0.length] ∧ S = S0 ++ [.ins C []] ∧ ∀ loc, Φ .non (S0 ++ [.ins C (phFs loc Ph.new)])
theorem cf_Phone_init (G : GL mg) (D : DS K mg C_Book C_Way C_Call C_Phone C_Hall) : CMake P w K mg base "Phone" C_Phone 1 1 (asp_Phone_init C_Phone) := by
  refine D.d_Phone_init.fn sc_Phone_init fun f cdv A outer s H E hr ws S Φ Ψ hl hS ha => ?_
  obtain ⟨S0, rfl, rfl, h⟩ := ha
  specialize "go"
  exact fin.eqS (h (fun _ => 0)) (by
    rw [set_new0, set_new0, set_new0, set_new0, set_new0]
    rfl)
def asp_Call_init (C CW : Addr) : ASp := fun ws S Φ _ => ∃ S0 jw jb c ch ld y, ws = [.ref S0.length, .ref jw] ∧ S = S0 ++ [.ins C []] ∧ S0[jw]? = some (.ins CW (wayFs jb c ch ld y)) ∧ Φ .non (S0 ++ [.ins C [("way", .ref jw), ("people", .ref (S0.length + 1)), ("age", .int 0), ("is_talk", .bl false)], .lst [.int c]])
section
local macro_rules | `(tactic| specialize "st") => `(tactic| ((with_reducible show wS _ _ (Stmt.Assign [Expr.Attribute _ (Str.ofString "people") _] (Expr.List _ _) _) _ _ _); refine xS_fld ?_; refine xE_lstN ?_))
theorem cf_Call_init (G : GL mg) (D : DS K mg C_Book C_Way C_Call C_Phone C_Hall) : CMake P w K mg base "Call" C_Call 1 2 (asp_Call_init C_Call C_Way) := by
  refine D.d_Call_init.fn sc_Call_init fun f cdv A outer s H E hr ws S Φ Ψ hl hS ha => ?_
  obtain ⟨S0, jw, jb, c, ch, ld, y, rfl, rfl, hw, h⟩ := ha
  have hlt : jw < S0.length := (List.getElem?_eq_some_iff.mp hw).1
  have hne : S0.length ≠ jw := by omega
  have hw1 : ∀ o, (S0 ++ [o])[jw]? = some (.ins C_Way (wayFs jb c ch ld y)) := fun o => get_app hw
  specialize "go"
  have n1 : ∀ o, (S0 ++ [O.ins C_Call []]).set S0.length o = S0 ++ [o] := fun o => set_new0
  have n2 : ∀ o, (S0 ++ [o]).length = S0.length + 1 := fun o => by simp
  have n3 : ∀ o l o2 : O, (S0 ++ [o] ++ [l]).set S0.length o2 = S0 ++ [o2, l] := fun o l o2 => by rw [List.append_assoc]; exact set_new0
  rw [n1, n2, n3]
  specialize "go"
  exact fin.eqS h (by
    rw [set_new0, set_new0]
    kernel_rfl)
end
local macro_rules | `(tactic| specialize "fun") => `(tactic| ((with_reducible show wE _ _ (Expr.Call (Expr.Name (Str.ofString "Call") _) _ _ _) _ _ _); refine xE_make (cf_Call_init (by assumption) (by assumption)) (Room.mono (by assumption) (by decide)) ?_))
local macro_rules | `(tactic| specialize "fun") => `(tactic| ((with_reducible show wE _ _ (Expr.Call (Expr.Name (Str.ofString "Phone") _) [] _ _) _ _ _); refine wE_make0 (cf_Phone_init (by assumption) (by assumption)) (Room.mono (by assumption) (by decide)) ?_))
def asp_dial (C : Cs) : ASp := fun ws S Φ _ => ∃ loc xs σ p g, ws = [.ref (loc .hall), .int p, .int g] ∧ HallAt C S loc xs σ ∧ (∀ x ∈ xs, x.ok) ∧ 0 ≤ p ∧ p ≤ 5 ∧ 0 ≤ g ∧ g ≤ 7 ∧ (σ.ph p).up = true ∧ (σ.ph p).now = none ∧ (σ.ph p).tone = "dial" ∧ σ.op.length ≤ 1000 ∧ (∀ e ∈ (onY (dial0 σ p) xs σ.n g).ears, 0 ≤ e ∧ e ≤ 5) ∧ (onY (dial0 σ p) xs σ.n g).ears.length ≤ 100 ∧
  ∀ S' loc' j, HallAt C S' loc' xs (dialF σ xs p g) → Nx loc loc' σ.n (σ.n + 1) S S' → S'[j]? = some (.lst (intsW ((dialF σ xs p g).ca σ.n).y.chain)) → S.length ≤ j → (∀ c, okC (σ.n + 1) c → loc' c ≠ j) → Φ (.tup [.str ((dialF σ xs p g).ca σ.n).y.word, .tup (intsW ((dialF σ xs p g).ca σ.n).y.ears), .ref j]) S'
section
local macro_rules | `(tactic| specialize "fun") => `(tactic| ((with_reducible show wE _ _ (Expr.Call (Expr.Name (Str.ofString "list") _) _ _ _) _ _ _); refine xE_listN (GL.b_list (by assumption)) ?_))
theorem cf_dial (G : GL mg) (D : DS K mg C_Book C_Way C_Call C_Phone C_Hall) : CMeth P w K mg base C_Hall "dial" 6 3 (asp_dial (Cs.mk C_Book C_Way C_Call C_Phone C_Hall)) := by
  refine D.d_Hall_dial.fn sc_Hall_dial fun f cdv A outer s H E hr ws S Φ Ψ hl hS ha => ?_
  obtain ⟨loc, xs, σ, p, g, rfl, h, ho, hp0, hp5, hg0, hg7, hup, hn, ht, hop, he, hel, hΦ⟩ := ha
  have f0 := h.hall
  have p0 := h.ph hp0 hp5
  have v0 := h.vd.ph p hp0 hp5
  have hn2 : (if true = true then !(σ.ph p).now.isNone else (σ.ph p).now.isNone) = false := by rw [hn]; rfl
  have p0' : S[loc (.ph p)]? = some (.ins C_Phone [("is_up", .bl (σ.ph p).up), ("now", .non), ("kept", rfW loc (σ.ph p).kept), ("bell", rfW loc (σ.ph p).bell), ("tone", .str "dial")]) := by
    rw [p0, phFs, hn, ht]
    rfl
  clear p0
  specialize "go"
  refine ⟨_, _, _, _, _, _, _, rfl, rfl, nth_new0, rfl, ?_⟩
  have l3 : (S ++ [O.ins C_Way (wayFs (loc Cell.book) p (List.length S + 1) (List.length S + 2) Wy.new), O.lst [], O.lst []]).length = S.length + 3 := by simp
  have h1 := h.grow p
  have eS : S ++ [O.ins C_Way (wayFs (loc Cell.book) p (List.length S + 1) (List.length S + 2) Wy.new), O.lst [], O.lst []] ++ [O.ins C_Call [("way", .ref S.length), ("people", .ref (S.length + 3 + 1)), ("age", .int 0), ("is_talk", .bl false)], .lst [.int p]] = S ++ moreO (Cs.mk C_Book C_Way C_Call C_Phone C_Hall) (loc .book) S.length p := by
    rw [List.append_assoc]
    rfl
  rw [l3, eS, show S.length + 3 = newLoc loc σ.n S.length (.ca σ.n) from (if_pos rfl).symm]
  have fr1 : Fr (newLoc loc σ.n S.length) (σ.n + 1) (S ++ moreO (Cs.mk C_Book C_Way C_Call C_Phone C_Hall) (loc .book) S.length p) (S ++ moreO (Cs.mk C_Book C_Way C_Call C_Phone C_Hall) (loc .book) S.length p) := Fr.refl _
  have nx := fun S' => Fr.grow (C := (Cs.mk C_Book C_Way C_Call C_Phone C_Hall)) (S := S) (S' := S') (loc := loc) (n := σ.n) (p := p) (jb := loc .book)
  have l1 : loc .hall = newLoc loc σ.n S.length .hall := rfl
  have l2 : loc (.ph p) = newLoc loc σ.n S.length (.ph p) := rfl
  have hΦ' : ∀ S', HallAt (Cs.mk C_Book C_Way C_Call C_Phone C_Hall) S' (newLoc loc σ.n S.length) xs (dialF σ xs p g) → Fr (newLoc loc σ.n S.length) (σ.n + 1) (S ++ moreO (Cs.mk C_Book C_Way C_Call C_Phone C_Hall) (loc .book) S.length p) S' → Φ (.tup [.str ((dialF σ xs p g).ca σ.n).y.word, .tup (intsW ((dialF σ xs p g).ca σ.n).y.ears), .ref S'.length]) (S' ++ [.lst (intsW ((dialF σ xs p g).ca σ.n).y.chain)]) := by
    intro S' hh ff
    refine hΦ _ _ _ hh.app (nx S' ff).app nth_new0 ((nx S' ff).len) fun c hc e => ?_
    have en : (dialF σ xs p g).n = σ.n + 1 := by
      unfold dialF onF
      dsimp only
      split <;> rfl
    have := hh.lt (c := c) (by rw [en]; exact hc)
    omega
  rw [l1, l2]
  generalize newLoc loc σ.n S.length = loc1 at h1 fr1 hΦ' ⊢
  generalize S ++ moreO (Cs.mk C_Book C_Way C_Call C_Phone C_Hall) (loc .book) S.length p = S1 at h1 fr1 hΦ' ⊢
  have f1 := h1.hall
  have c1 := h1.calls
  have hkg : σ.n < (grown σ p).n := Nat.lt_succ_self _
  have lop : (((grown σ p).op.map fun k => loc1 (.ca k)).map W.ref).length ≤ 100000 := by
    rw [List.length_map, List.length_map]
    exact Nat.le_trans hop (by decide)
  specialize "go"
  have eop : (grown σ p).op = σ.op := rfl
  rw [eop, show List.map W.ref (List.map (fun k => loc1 (Cell.ca k)) σ.op) ++ [W.ref (loc1 (Cell.ca σ.n))] = ((σ.op ++ [σ.n]).map fun k => loc1 (.ca k)).map W.ref by simp]
  have h2 := h1.putOp (l := σ.op ++ [σ.n]) (fun k hk => by
    rcases List.mem_append.mp hk with z | z
    · exact h1.vd.op k z
    · rw [List.mem_singleton.mp z]
      exact hkg)
  have p2 := h2.ph hp0 hp5
  have fr2 := fr1.set (c := .calls) trivial (o := .lst (((σ.op ++ [σ.n]).map fun k => loc1 (.ca k)).map W.ref))
  refine sPut_i p2 (Nat.le_of_ble_eq_true rfl) (DS.cls_Phone D) (DS.na_Phone_now D) ?_
  rw [fpN1]
  have v2 := h2.vd.ph p hp0 hp5
  have h3 : HallAt (Cs.mk C_Book C_Way C_Call C_Phone C_Hall) _ loc1 xs (dial0 σ p) := h2.putPh hp0 hp5 (q := { σ.ph p with now := some σ.n }) ⟨fun j hj => by cases hj; exact hkg, v2.2.1, v2.2.2⟩
  have fr3 := fr2.set (c := .ph p) ⟨hp0, hp5⟩ (o := .ins C_Phone (phFs loc1 { σ.ph p with now := some σ.n }))
  have f3 := h3.hall
  specialize "go"
  have eca : (dial0 σ p).ca σ.n = Ca.new p := if_pos rfl
  refine ⟨loc1, xs, dial0 σ p, σ.n, g, rfl, h3, ho, hkg, hg0, hg7, by rw [eca]; exact ⟨List.nodup_nil, fun q hq => (by cases hq), Nat.le_refl _⟩, he, hel, ?_⟩
  intro S4 h4 fr4
  have en : (onF (dial0 σ p) xs σ.n g).n = σ.n + 1 := by
    unfold onF
    dsimp only
    split <;> rfl
  have h4 : HallAt (Cs.mk C_Book C_Way C_Call C_Phone C_Hall) S4 loc1 xs (dialF σ xs p g) := h4
  have hk4 : σ.n < (dialF σ xs p g).n := by
    show σ.n < (onF (dial0 σ p) xs σ.n g).n
    rw [en]
    exact Nat.lt_succ_self _
  have c4 := h4.ca hk4
  have w4 := h4.way hk4
  have n4 := h4.chain hk4
  have fr5 := fr3.trans fr4
  generalize dialF σ xs p g = τ at *
  specialize "go"
  exact fin.as (hΦ' S4 h4 fr5)
end
end

local macro_rules | `(tactic| specialize "fun") => `(tactic| ((with_reducible show wE _ _ (Expr.Call (Expr.Name (Str.ofString "Call") _) _ _ _) _ _ _); refine xE_make (cf_Call_init (by assumption) (by assumption)) (Room.mono (by assumption) (by decide)) ?_))
local macro_rules | `(tactic| specialize "fun") => `(tactic| ((with_reducible show wE _ _ (Expr.Call (Expr.Name (Str.ofString "Phone") _) [] _ _) _ _ _); refine wE_make0 (cf_Phone_init (by assumption) (by assumption)) (Room.mono (by assumption) (by decide)) ?_))

-- PH5n
section
variable {P : Program} {w : World} {K : PySem.W.Frag} {mg : Str → Option Value} {base : Heap} {C_Book C_Way C_Call C_Phone C_Hall : Addr}
local macro_rules | `(tactic| specialize "s2") => `(tactic| ((with_reducible show sNon _ (rfW _ _) _ _); refine sNon_i isNon_rf ?_))
/-- sorted whole numbers -/
theorem sort_ints (l : List Int) : sortW (intsW l) = intsW (sortI l) := by
  unfold sortW sortI intsW
  have q := List.map_mergeSort (r := fun a b : Int => decide (a ≤ b)) (s := PySem.W.dataLe false W.d) (f := W.int) (l := l) (fun a _ b _ => by
    have := congrFun (congrFun (PySem.W.dataLe_int (fun b : Int => b)) a) b
    exact this.symm)
  exact q.symm
theorem ints_alike (l : List Int) : PySem.W.AllAlike ((intsW l).map W.d) := by
  unfold intsW
  rw [List.map_map]
  exact PySem.W.AllAlike.of fun a b => rfl
theorem ints_sort (l : List Int) : PySem.W.Sortable ((intsW l).map W.d) := by
  unfold intsW
  rw [List.map_map]
  exact PySem.W.Sortable.others fun b => ⟨(fun z => nomatch z), fun xs z => nomatch z⟩
def asp_hear (C : Cs) : ASp := fun ws S Φ _ => ∃ loc xs σ p, ws = [.ref (loc .hall), .int p] ∧ HallAt C S loc xs σ ∧ 0 ≤ p ∧ p ≤ 5 ∧ (∀ k, (σ.ph p).now = some k → (∀ r ∈ (σ.ca k).ppl, 0 ≤ r ∧ r ≤ 5) ∧ (σ.ca k).ppl.length ≤ 1000) ∧ Φ (.tup [.str (hearF σ p).1, .tup (intsW (hearF σ p).2.1), .bl (hearF σ p).2.2]) S
section
local macro_rules | `(tactic| specialize "ix") => `(tactic| exact at_phs (by assumption) (by assumption))
local macro_rules | `(tactic| specialize "s0") => `(tactic| ((with_reducible show sLc _ _ _ _ _ _ _ _ _ _); refine stop_i ?_))
local macro_rules | `(tactic| specialize "cmT") => `(tactic| ((with_reducible show wT _ _ (Expr.Compare (Expr.Attribute (Expr.Subscript _ _ _) _ _) [CmpOp.Eq] [_] _) _ _ _); refine xT_eqI (Room.u65 (by assumption)) ?_))
local macro_rules | `(tactic| specialize "cmp") => `(tactic| ((with_reducible show wE _ _ (Expr.Compare (Expr.Attribute (Expr.Subscript _ _ _) _ _) [CmpOp.Eq] [_] _) _ _ _); refine xE_eqI (Room.u65 (by assumption)) ?_))
local macro_rules | `(tactic| specialize "fun") => `(tactic| ((with_reducible show wE _ _ (Expr.Call (Expr.Name (Str.ofString "sorted") _) _ _ _) _ _ _); refine xE_sortedT (GL.b_sorted (by assumption)) (Room.u65 (by assumption)) ?_))
local macro_rules | `(tactic| specialize "st") => `(tactic| ((with_reducible show wS _ _ (Stmt.Assign [Expr.Name (Str.ofString "people") _] _ _) _ _ _); refine stop_i ?_))
theorem cf_hear (G : GL mg) (D : DS K mg C_Book C_Way C_Call C_Phone C_Hall) : CMeth P w K mg base C_Hall "hear" 4 2 (asp_hear (Cs.mk C_Book C_Way C_Call C_Phone C_Hall)) := by
  refine D.d_Hall_hear.fn sc_Hall_hear fun f cdv A outer s H E hr ws S Φ Ψ hl hS ha => ?_
  obtain ⟨loc, xs, σ, p, rfl, h, hp0, hp5, hpp, hΦ⟩ := ha
  have f0 := h.hall
  have p0 := h.ph hp0 hp5
  have v0 := h.vd.ph p hp0 hp5
  unfold hearF at hΦ
  cases eu : (σ.ph p).up with
  | false =>
    have p0' : S[loc (.ph p)]? = some (.ins C_Phone [("is_up", .bl false), ("now", rfW loc (σ.ph p).now), ("kept", rfW loc (σ.ph p).kept), ("bell", rfW loc (σ.ph p).bell), ("tone", .str (σ.ph p).tone)]) := by
      rw [p0, phFs, eu]
    clear p0
    simp only [eu, if_true] at hΦ
    cases eb : (σ.ph p).bell <;> (rw [eb] at p0' hΦ; simp only [rfW] at p0'; specialize "go"; exact fin.as hΦ)
  | true =>
    simp only [eu, Bool.true_eq_false, if_false] at hΦ
    cases en : (σ.ph p).now with
    | none =>
      have p0' : S[loc (.ph p)]? = some (.ins C_Phone [("is_up", .bl true), ("now", .non), ("kept", rfW loc (σ.ph p).kept), ("bell", rfW loc (σ.ph p).bell), ("tone", .str (σ.ph p).tone)]) := by
        rw [p0, phFs, eu, en]
        rfl
      clear p0
      simp only [en] at hΦ
      cases eb : (σ.ph p).bell <;> (rw [eb] at p0' hΦ; simp only [rfW] at p0'; specialize "go"; exact fin.as hΦ)
    | some k =>
      have p0' : S[loc (.ph p)]? = some (.ins C_Phone [("is_up", .bl true), ("now", .ref (loc (.ca k))), ("kept", rfW loc (σ.ph p).kept), ("bell", rfW loc (σ.ph p).bell), ("tone", .str (σ.ph p).tone)]) := by
        rw [p0, phFs, eu, en]
        rfl
      clear p0
      obtain ⟨hr5, hlen⟩ := hpp k en
      have hk := v0.1 k en
      have c0 := h.ca hk
      have q0 := h.ppl hk
      simp only [en] at hΦ
      cases et : (σ.ca k).talk with
      | false =>
        rw [caFs, et] at c0
        simp only [et, if_true] at hΦ
        cases eb : (σ.ph p).bell <;> (rw [eb] at p0' hΦ; simp only [rfW] at p0'; specialize "go"; exact fin.as hΦ)
      | true =>
        rw [caFs, et] at c0
        simp only [et, Bool.true_eq_false, if_false] at hΦ
        specialize "go"
        unfold Stop
        specialize "lcS"
        refine xI_list ?_
        specialize "go"
        refine sWL_r q0 ?_
        refine sLc_i (xs := (σ.ca k).ppl) (enc := W.int) (p := fun o => !decide (o = p) && decide ((σ.ph o).now = some k)) (g := W.int) q0 (Nat.le_trans hlen (by decide)) (fun x hx => ?_) ?_
        · obtain ⟨x0, x5⟩ := hr5 x hx
          have px := h.ph x0 x5
          have vx := h.vd.ph x x0 x5
          specialize "go"
          refine sEqI_r1 h (DS.pe_Call D) (fun j e => vx.1 j e) hk ?_
          specialize "go"
        · have ev : ((σ.ca k).ppl.filter fun o => !decide (o = p) && decide ((σ.ph o).now = some k)).map W.int = intsW (voices σ k p) := rfl
          rw [ev]
          specialize "go"
          by_cases e0 : voices σ k p = []
          · rw [if_pos e0] at hΦ
            refine sIte_t (k := (intsW (voices σ k p)).isEmpty) (by rw [e0]; rfl) ?_
            specialize "go"
            refine ⟨_, rfl, (fun _ z => nomatch z), oks_ints, ints_alike _, ints_sort _, ?_⟩
            rw [sort_ints]
            cases eb : (σ.ph p).bell <;> (rw [eb] at p0' hΦ; simp only [rfW] at p0'; specialize "go"; exact fin.as hΦ)
          · rw [if_neg e0] at hΦ
            refine sIte_f (k := (intsW (voices σ k p)).isEmpty) (by cases hv : voices σ k p with | nil => exact absurd hv e0 | cons a l => rfl) ?_
            specialize "go"
            refine ⟨_, rfl, (fun _ z => nomatch z), oks_ints, ints_alike _, ints_sort _, ?_⟩
            rw [sort_ints]
            cases eb : (σ.ph p).bell <;> (rw [eb] at p0' hΦ; simp only [rfW] at p0'; specialize "go"; exact fin.as hΦ)
end
def asp_patience (C : Addr) : ASp := fun ws S Φ _ => ∃ j xs p, ws = [.ref j, .int p] ∧ BookAt C S j xs ∧ Φ (optW ((lateB xs p).map (·.1))) S
theorem key_late {x : Wish} {p : Int} (h : x.key = [.inr "late", .inl p]) : ∃ g t, x = .late p g t := by
  cases x with
  | late q g t =>
    have e : q = p := by
      simp only [Wish.key, List.cons.injEq, Sum.inl.injEq, and_true, true_and] at h
      exact h
    subst e
    exact ⟨g, t, rfl⟩
  | _ =>
    exfalso
    simp only [Wish.key, List.cons.injEq, Sum.inr.injEq] at h
    exact absurd h.1 (by decide +kernel)
theorem late_some {xs : List Wish} {p : Int} (h : hasB xs [.inr "late", .inl p] = true) : ∃ g t, getB xs [.inr "late", .inl p] = some (.late p g t) ∧ lateB xs p = some (t, g) := by
  unfold hasB at h
  cases e : getB xs [.inr "late", .inl p] with
  | none => rw [e] at h; cases h
  | some x =>
    obtain ⟨g, t, rfl⟩ := key_late (getB_key e).1
    exact ⟨g, t, rfl, by unfold lateB; rw [e]⟩
theorem late_none {xs : List Wish} {p : Int} (h : hasB xs [.inr "late", .inl p] = false) : lateB xs p = none := by
  unfold hasB at h
  unfold lateB
  cases e : getB xs [.inr "late", .inl p] with
  | none => rfl
  | some x => rw [e] at h; cases h
theorem cf_patience (G : GL mg) (D : DS K mg C_Book C_Way C_Call C_Phone C_Hall) : CMeth P w K mg base C_Book "patience" 1 2 (asp_patience C_Book) := by
  refine D.d_Book_patience.fn sc_Book_patience fun f cdv A outer s H E hr ws S Φ Ψ hl hS ha => ?_
  obtain ⟨j, xs, p, rfl, ⟨d, b1, b2⟩, h⟩ := ha
  cases e : hasB xs [.inr "late", .inl p] with
  | false =>
    rw [late_none e] at h
    have e' : (valW (bookD xs) [.inr "late", .inl p]).isSome = false := by rw [val_has]; exact e
    specialize "go"
    exact fin.as h
  | true =>
    obtain ⟨g, t, e1, e2⟩ := late_some e
    rw [e2] at h
    have e' : (valW (bookD xs) [.inr "late", .inl p]).isSome = true := by rw [val_has]; exact e
    have hv : dgetW S d (.tup [.str "late", .int p]) = some (some (Wish.late p g t).w) := by
      rw [dget_t b2 rfl, val_book, e1]
      rfl
    specialize "go"
    exact fin.as h
local macro_rules | `(tactic| specialize "fun") => `(tactic| ((with_reducible show wE _ _ (Expr.Call (Expr.Attribute _ (Str.ofString "patience") _) _ _ _) _ _ _); refine xE_meth (DS.cls_Book (by assumption)) (cf_patience (by assumption) (by assumption)) (Room.mono (by assumption) (by decide)) ?_))
def asp_goalL (C : Addr) : ASp := fun ws S Φ _ => ∃ j xs p g t, ws = [.ref j, .str "late", .int p] ∧ BookAt C S j xs ∧ getB xs [.inr "late", .inl p] = some (.late p g t) ∧ Φ (.int g) S
theorem cf_goalL (G : GL mg) (D : DS K mg C_Book C_Way C_Call C_Phone C_Hall) : CMeth P w K mg base C_Book "goal" 1 3 (asp_goalL C_Book) := by
  refine D.d_Book_goal.fn sc_Book_goal fun f cdv A outer s H E hr ws S Φ Ψ hl hS ha => ?_
  obtain ⟨j, xs, p, g, t, rfl, ⟨d, b1, b2⟩, hg, h⟩ := ha
  have hv : dgetW S d (.tup [.str "late", .int p]) = some (some (Wish.late p g t).w) := by
    rw [dget_t b2 rfl, val_book, hg]
    rfl
  specialize "go"
  exact fin.as h
end

local macro_rules | `(tactic| specialize "fun") => `(tactic| ((with_reducible show wE _ _ (Expr.Call (Expr.Attribute _ (Str.ofString "patience") _) _ _ _) _ _ _); refine xE_meth (DS.cls_Book (by assumption)) (cf_patience (by assumption) (by assumption)) (Room.mono (by assumption) (by decide)) ?_))

-- PH6
section
variable {P : Program} {w : World} {K : PySem.W.Frag} {mg : Str → Option Value} {base : Heap} {C_Book C_Way C_Call C_Phone C_Hall : Addr}
local macro_rules | `(tactic| specialize "s2") => `(tactic| ((with_reducible show sNon _ (rfW _ _) _ _); refine sNon_i isNon_rf ?_))
local macro_rules | `(tactic| specialize "fun") => `(tactic| ((with_reducible show wE _ _ (Expr.Call (Expr.Attribute _ (Str.ofString "goal") _) [Expr.Name (Str.ofString "LATE") _, _] _ _) _ _ _); refine xE_meth (DS.cls_Book (by assumption)) (cf_goalL (by assumption) (by assumption)) (Room.mono (by assumption) (by decide)) ?_))
theorem at_last {l : List Int} {q : Int} (h : l.getLast? = some q) : atI (intsW l) (-1) = some (.int q) := by
  have ne : l ≠ [] := fun z => by rw [z] at h; cases h
  have hl : 0 < l.length := List.length_pos_iff.mpr ne
  have e : ixN (intsW l).length (-1) = some (l.length - 1) := by
    unfold ixN intsW
    rw [List.length_map, if_neg (by decide), if_pos (by omega)]
    congr 1
    omega
  unfold atI
  rw [e]
  show (intsW l)[l.length - 1]? = _
  rw [intsW, List.getElem?_map, ← List.getLast?_eq_getElem?, h]
  rfl
theorem late_get {xs : List Wish} {p t g : Int} (h : lateB xs p = some (t, g)) : getB xs [.inr "late", .inl p] = some (.late p g t) := by
  cases e : hasB xs [.inr "late", .inl p] with
  | false => rw [late_none e] at h; cases h
  | true =>
    obtain ⟨g', t', e1, e2⟩ := late_some e
    rw [e2] at h
    cases h
    exact e1
def asp_late (C : Cs) : ASp := fun ws S Φ _ => ∃ loc xs σ k, ws = [.ref (loc .hall), .ref (loc (.ca k))] ∧ HallAt C S loc xs σ ∧ Inv σ ∧ (∀ x ∈ xs, x.ok) ∧ k ∈ σ.op ∧ (σ.ca k).talk = false ∧ ∀ S', HallAt C S' loc xs (lateF σ xs k) → Fr loc σ.n S S' → Φ .non S'
section
local macro_rules | `(tactic| specialize "ix") => `(tactic| exact at_last (by assumption))
local macro_rules | `(tactic| specialize "ex") => `(tactic| ((with_reducible show wE _ _ (Expr.UnaryOp UnaryOp.USub _ _) _ _ _); refine xE_neg ?_))
theorem cf_late (G : GL mg) (D : DS K mg C_Book C_Way C_Call C_Phone C_Hall) : CMeth P w K mg base C_Hall "late" 6 2 (asp_late (Cs.mk C_Book C_Way C_Call C_Phone C_Hall)) := by
  refine D.d_Hall_late.fn sc_Hall_late fun f cdv A outer s H E hr ws S Φ Ψ hl hS ha => ?_
  obtain ⟨loc, xs, σ, k, rfl, h, inv, ho, hk, ht, hΦ⟩ := ha
  have hkn := h.vd.op k hk
  have f0 := h.hall
  have c0 := h.ca hkn
  have w0 := h.way hkn
  have n0 := h.chain hkn
  have l0 := h.leads hkn
  obtain ⟨d, b1, b2⟩ : BookAt C_Book S (loc .book) xs := h.bk
  have bk : BookAt C_Book S (loc .book) xs := h.bk
  obtain ⟨i1, i2, i3, i4, i5⟩ := (inv.ca k hk).nt ht
  unfold lateF at hΦ
  cases eg : (σ.ca k).y.group with
  | some g =>
    have el : lateOf xs (σ.ca k) = none := by unfold lateOf; rw [eg]
    rw [el] at hΦ
    dsimp only at hΦ
    have w0' : S[loc (.way k)]? = some (.ins C_Way [("book", .ref (loc .book)), ("caller", .int (σ.ca k).c), ("chain", .ref (loc (.chain k))), ("leads", .ref (loc (.leads k))), ("group", .int g), ("word", .str (σ.ca k).y.word), ("ears", .tup (intsW (σ.ca k).y.ears))]) := by
      rw [w0, wayFs, eg]
      rfl
    clear w0
    specialize "go"
    refine sIte_s (fun e => ?_) (fun e => ?_)
    · rw [if_pos (of_decide_eq_true e)] at hΦ
      specialize "go"
      intro S1 h1 fr1
      specialize "go"
      exact fin.as (hΦ _ h1 fr1)
    · rw [if_neg (of_decide_eq_false e)] at hΦ
      specialize "go"
      exact fin.as (hΦ _ h (Fr.refl _))
  | none =>
    have i6 := (i4 eg).elim id fun z => z.elim
    obtain ⟨q, hq⟩ : ∃ q, (σ.ca k).y.chain.getLast? = some q := by
      cases z : (σ.ca k).y.chain.getLast? with
      | some q => exact ⟨q, rfl⟩
      | none =>
        rw [List.getLast?_eq_none_iff.mp z] at i6
        cases i6
    have el : lateOf xs (σ.ca k) = (lateB xs q).map fun r => (q, r.1, r.2) := by unfold lateOf; rw [eg, hq]
    rw [el] at hΦ
    have w0' : S[loc (.way k)]? = some (.ins C_Way [("book", .ref (loc .book)), ("caller", .int (σ.ca k).c), ("chain", .ref (loc (.chain k))), ("leads", .ref (loc (.leads k))), ("group", .non), ("word", .str (σ.ca k).y.word), ("ears", .tup (intsW (σ.ca k).y.ears))]) := by
      rw [w0, wayFs, eg]
      rfl
    clear w0
    cases eb : lateB xs q with
    | none =>
      rw [eb] at hΦ
      dsimp only [Option.map] at hΦ
      specialize "go"
      refine ⟨_, xs, q, rfl, bk, ?_⟩
      rw [eb]
      specialize "go"
      refine sIte_s (fun e => ?_) (fun e => ?_)
      · rw [if_pos (of_decide_eq_true e)] at hΦ
        specialize "go"
        intro S1 h1 fr1
        specialize "go"
        exact fin.as (hΦ _ h1 fr1)
      · rw [if_neg (of_decide_eq_false e)] at hΦ
        specialize "go"
        exact fin.as (hΦ _ h (Fr.refl _))
    | some r =>
      obtain ⟨t, g⟩ := r
      rw [eb] at hΦ
      dsimp only [Option.map] at hΦ
      specialize "go"
      refine ⟨_, xs, q, rfl, bk, ?_⟩
      rw [eb]
      specialize "go"
      refine sIte_s (fun e => ?_) (fun e => ?_)
      · have e' : t = (σ.ca k).age := Option.some.inj (of_decide_eq_true e)
        rw [if_pos e'] at hΦ
        specialize "go"
        refine ⟨_, xs, q, g, t, rfl, bk, late_get eb, ?_⟩
        specialize "go"
        intro S1 h1 fr1
        have w1 := h1.way hkn
        have l1 := h1.leads hkn
        rw [silF_ca] at w1 l1
        have l1' : S1[loc (.leads k)]? = some (.lst ((σ.ca k).y.leads.map pairW)) := l1
        have hl : ((σ.ca k).y.leads.map pairW).length ≤ 100 := by
          rw [List.length_map]
          have := i3.len
          omega
        specialize "go"
        rw [show (σ.ca k).y.leads.map pairW ++ [W.tup [.int q, .int g]] = ((σ.ca k).y.leads ++ [(q, g)]).map pairW by rw [List.map_append]; rfl]
        have h2 := h1.putLeads hkn (l := (σ.ca k).y.leads ++ [(q, g)])
        rw [silF_ca] at h2
        have L := late_limbo (p := q) (g := g) inv hk ht eg
        obtain ⟨g0, g7⟩ := late_ok ho eb
        have G := L.go ho g0 g7
        have f2 := h2.hall
        specialize "go"
        refine ⟨loc, xs, late0 σ k q g, k, g, rfl, h2, ho, hkn, g0, g7, L.wy, fun e he => ⟨(G.er e he).1, (G.er e he).2.1⟩, Nat.le_trans (phones_len G.nd fun e he => ⟨(G.er e he).1, (G.er e he).2.1⟩) (by decide), ?_⟩
        intro S3 h3 fr3
        specialize "go"
        exact fin.as (hΦ _ h3 ((fr1.set (c := .leads k) hkn).trans fr3))
      · rw [if_neg (fun z => of_decide_eq_false e (by rw [z]; rfl))] at hΦ
        specialize "go"
        refine sIte_s (fun e => ?_) (fun e => ?_)
        · rw [if_pos (of_decide_eq_true e)] at hΦ
          specialize "go"
          intro S1 h1 fr1
          specialize "go"
          exact fin.as (hΦ _ h1 fr1)
        · rw [if_neg (of_decide_eq_false e)] at hΦ
          specialize "go"
          exact fin.as (hΦ _ h (Fr.refl _))
end
local macro_rules | `(tactic| specialize "fun") => `(tactic| ((with_reducible show wE _ _ (Expr.Call (Expr.Attribute _ (Str.ofString "late") _) _ _ _) _ _ _); refine xE_meth (DS.cls_Hall (by assumption)) (cf_late (by assumption) (by assumption)) (Room.mono (by assumption) (by decide)) ?_))
theorem beat1_n {xs : List Wish} {σ : Hl} {k : Nat} : (beat1 xs σ k).n = σ.n := by
  unfold beat1 lateF onF
  split
  · split
    · split
      · dsimp only
        split <;> rfl
      · split <;> rfl
    · split <;> rfl
  · rfl
theorem beats_n {xs : List Wish} : ∀ {l : List Nat} {σ : Hl}, (l.foldl (beat1 xs) σ).n = σ.n
  | [], _ => rfl
  | _ :: l, _ => (beats_n (l := l)).trans beat1_n
theorem map_inv2 {α β : Type} {f : α → β} {xs : List α} {i : Nat} {w : β} (h : (xs.map f)[i]? = some w) : ∃ x, xs[i]? = some x ∧ w = f x := by
  rw [List.getElem?_map] at h
  cases e : xs[i]? with
  | none => rw [e] at h; cases h
  | some x => rw [e] at h; exact ⟨x, rfl, (Option.some.inj h).symm⟩
def asp_beat (C : Cs) : ASp := fun ws S Φ _ => ∃ loc xs σ, ws = [.ref (loc .hall)] ∧ HallAt C S loc xs σ ∧ Inv σ ∧ (∀ x ∈ xs, x.ok) ∧ σ.op.length ≤ 1000 ∧ ∀ S', HallAt C S' loc xs (beatF σ xs) → Fr loc σ.n S S' → Φ .non S'
section
local macro_rules | `(tactic| specialize "cmT") => `(tactic| ((with_reducible show wT _ _ (Expr.Compare (Expr.Name (Str.ofString "call") _) [CmpOp.In] [_] _) _ _ _); refine xT_inI (Room.u65 (by assumption)) ?_))
theorem cf_beat (G : GL mg) (D : DS K mg C_Book C_Way C_Call C_Phone C_Hall) : CMeth P w K mg base C_Hall "beat" 7 1 (asp_beat (Cs.mk C_Book C_Way C_Call C_Phone C_Hall)) := by
  refine D.d_Hall_beat.fn sc_Hall_beat fun f cdv A outer s H E hr ws S Φ Ψ hl hS ha => ?_
  obtain ⟨loc, xs, σ, rfl, h, inv, ho, hop, hΦ⟩ := ha
  have f0 := h.hall
  have c0 := h.calls
  have ef : ∀ S', HallAt (Cs.mk C_Book C_Way C_Call C_Phone C_Hall) S' loc xs (σ.op.foldl (beat1 xs) σ) → Fr loc σ.n S S' → Φ .non S' := hΦ
  specialize "go"
  refine wS_for (passes_of rfl) rfl ?_
  refine xI_list ?_
  specialize "go"
  refine sWL_l ?_
  refine ⟨fun i E' S' => i ≤ σ.op.length ∧ (∃ a, E' = [some (.ref (loc .hall)), a]) ∧ HallAt (Cs.mk C_Book C_Way C_Call C_Phone C_Hall) S' loc xs ((σ.op.take i).foldl (beat1 xs) σ) ∧ Fr loc σ.n S S',
    ⟨Nat.zero_le _, ⟨_, rfl⟩, h, Fr.refl _⟩, fun _ _ _ _ => trivial, ?_, ?_⟩
  · rintro i w E' S' hw ⟨hi, ⟨a, rfl⟩, h', fr⟩
    obtain ⟨j, hj, rfl⟩ := map_inv hw
    obtain ⟨k, hk, rfl⟩ := map_inv2 hj
    have hi' : i < σ.op.length := (List.getElem?_eq_some_iff.mp hk).1
    have et : (σ.op.take (i + 1)).foldl (beat1 xs) σ = beat1 xs ((σ.op.take i).foldl (beat1 xs) σ) k := by
      rw [List.take_add_one, hk, Option.toList_some, List.foldl_append]
      rfl
    have inv' : Inv ((σ.op.take i).foldl (beat1 xs) σ) := beats_inv ho inv
    have en : ((σ.op.take i).foldl (beat1 xs) σ).n = σ.n := beats_n
    generalize (σ.op.take i).foldl (beat1 xs) σ = τ at *
    have hkn : k < τ.n := by rw [en]; exact h.vd.op k (List.mem_of_getElem? hk)
    have f1 := h'.hall
    have c1 := h'.ca hkn
    specialize "go"
    refine sInI_r h' (DS.pe_Call D) hkn ?_
    specialize "go"
    refine sIte_s (fun e => ?_) (fun e => ?_)
    · simp only [Bool.and_eq_true, decide_eq_true_eq, Bool.not_eq_true'] at e
      have eb : beat1 xs τ k = lateF (τ.setCa k { τ.ca k with age := (τ.ca k).age + 1 }) xs k := if_pos e
      have h2 := h'.putCa hkn (c := { τ.ca k with age := (τ.ca k).age + 1 }) rfl rfl rfl
      have f2 := h2.hall
      specialize "go"
      refine ⟨loc, xs, _, k, rfl, h2, age_inv inv', ho, e.1, by rw [setCa_self]; exact e.2, ?_⟩
      intro S3 h3 fr3
      specialize "go"
      dsimp only
      refine dropTo.as ?_
      rw [et, eb]
      exact ⟨hi', ⟨_, rfl⟩, h3, (fr.set (c := .ca k) (by rw [← en]; exact hkn)).trans (by rw [← en]; exact fr3)⟩
    · have eb : beat1 xs τ k = τ := if_neg (fun z => by simp [z.1, z.2] at e)
      specialize "go"
      dsimp only
      refine dropTo.as ?_
      rw [et, eb]
      exact ⟨hi', ⟨_, rfl⟩, h', fr⟩
  · rintro E' S' ⟨hi, ⟨a, rfl⟩, h', fr⟩
    rw [List.length_map, List.length_map] at h'
    rw [List.take_length] at h'
    specialize "go"
    exact fin.as (ef _ h' fr)
end
end

local macro_rules | `(tactic| specialize "fun") => `(tactic| ((with_reducible show wE _ _ (Expr.Call (Expr.Attribute _ (Str.ofString "goal") _) [Expr.Name (Str.ofString "LATE") _, _] _ _) _ _ _); refine xE_meth (DS.cls_Book (by assumption)) (cf_goalL (by assumption) (by assumption)) (Room.mono (by assumption) (by decide)) ?_))
local macro_rules | `(tactic| specialize "fun") => `(tactic| ((with_reducible show wE _ _ (Expr.Call (Expr.Attribute _ (Str.ofString "late") _) _ _ _) _ _ _); refine xE_meth (DS.cls_Hall (by assumption)) (cf_late (by assumption) (by assumption)) (Room.mono (by assumption) (by decide)) ?_))

-- PH7
section
variable {P : Program} {w : World} {K : PySem.W.Frag} {mg : Str → Option Value} {base : Heap} {C_Book C_Way C_Call C_Phone C_Hall : Addr}
def asp_need_wishesR : ASp := fun ws S Φ _ => ∃ (j : Nat) (xs : List Wish), ws = [.ref j] ∧ S[j]? = some (.lst (xs.map Wish.w)) ∧ xs.length ≤ 24 ∧ (∀ x ∈ xs, x.ok) ∧ (xs.map Wish.key).Nodup ∧ Φ .non S
theorem cf_need_wishesR (G : GL mg) (D : DS K mg C_Book C_Way C_Call C_Phone C_Hall) : CFn P w K mg base "need_wishes" 5 1 asp_need_wishesR := by
  refine D.d_need_wishes.fn sc_need_wishes fun f cdv A outer s H E hr ws S Φ Ψ hl hS ha => ?_
  obtain ⟨j, xs, rfl, hj, h1, h2, h3, h⟩ := ha
  have hj' : ∀ T, (S ++ T)[j]? = some (.lst (xs.map Wish.w)) := fun T => get_app hj
  specialize "go"
  refine wS_for (passes_of rfl) rfl ?_
  specialize "go"
  refine ⟨_, items_of (hj' _), (fun _ z => nomatch z), ?_⟩
  refine ⟨fun i E' S' => i ≤ xs.length ∧ ∃ a b, E' = [some (.ref j), some (.ref S.length), a, b] ∧ S' = S ++ [.dt (knownD (xs.take i))], ⟨Nat.zero_le _, none, none, rfl, rfl⟩, fun i E' S' hI => (by obtain ⟨_, _, _, _, rfl⟩ := hI; exact hj' _), ?_, ?_⟩
  · rintro i w E' S' hw ⟨hi, a, b, rfl, rfl⟩
    obtain ⟨u, hu, rfl⟩ := enum_inv hw
    obtain ⟨x, hx, rfl⟩ := map_inv hu
    have hil : i < xs.length := (List.getElem?_eq_some_iff.mp hx).1
    have hxo := h2 x (List.mem_of_getElem? hx)
    have hkn := key_new h3 hx
    specialize "go"
    refine sIte_f (by rw [known_none hkn, decide_eq_false (by omega)]; rfl) ?_
    specialize "go"
    rw [known_put hkn, ← take_succ hx, set_new0]
    dsimp only
    refine dropTo.as (n := (S ++ [O.dt []]).length) ?_
    exact ⟨hil, _, _, rfl, rfl⟩
  · rintro E' S' ⟨hi, a, b, rfl, rfl⟩
    specialize "go"
    exact fin.drop (Nat.le_refl _) hS .non h
def asp_Book_initR (C : Addr) : ASp := fun ws S Φ _ => ∃ S0 j xs, ws = [.ref S0.length, .ref j] ∧ S = S0 ++ [.ins C []] ∧ S0[j]? = some (.lst (xs.map Wish.w)) ∧ xs.length ≤ 24 ∧ (xs.map Wish.key).Nodup ∧
  Φ .non (S0 ++ [.ins C [("wanted", .ref (S0.length + 1))], .dt (bookD xs)])
theorem cf_Book_initR (G : GL mg) (D : DS K mg C_Book C_Way C_Call C_Phone C_Hall) : CMake P w K mg base "Book" C_Book 2 2 (asp_Book_initR C_Book) := by
  refine D.d_Book_init.fn sc_Book_init fun f cdv A outer s H E hr ws S Φ Ψ hl hS ha => ?_
  obtain ⟨S0, j, xs, rfl, rfl, hj, h1, h3, h⟩ := ha
  have hj' : ∀ T, (S0 ++ T)[j]? = some (.lst (xs.map Wish.w)) := fun T => get_app hj
  specialize "go"
  rw [List.append_assoc]
  specialize "go"
  rw [set_new0]
  refine wS_for (passes_of rfl) rfl ?_
  specialize "go"
  refine ⟨fun i E' S' => i ≤ xs.length ∧ ∃ a, E' = [some (.ref S0.length), some (.ref j), a] ∧ S' = S0 ++ [.ins C_Book [("wanted", .ref (S0.length + 1))], .dt (bookD (xs.take i))], ⟨Nat.zero_le _, none, rfl, by simp [putFW, bookD]⟩, fun i E' S' hI => (by obtain ⟨_, _, _, rfl⟩ := hI; exact hj' _), ?_, ?_⟩
  · rintro i w E' S' hw ⟨hi, a, rfl, rfl⟩
    obtain ⟨x, hx, rfl⟩ := map_inv hw
    have hil : i < xs.length := (List.getElem?_eq_some_iff.mp hx).1
    have hkn := key_new h3 hx
    specialize "go"
    rw [put_book hkn, ← take_succ hx, set_new]
    dsimp only
    refine dropTo.as ?_
    exact ⟨hil, _, rfl, rfl⟩
  · rintro E' S' ⟨hi, a, rfl, rfl⟩
    specialize "go"
    rw [List.length_map, List.take_length]
    exact fin.as h
section
local macro_rules | `(tactic| specialize "fun") => `(tactic| ((with_reducible show wE _ _ (Expr.Call (Expr.Name (Str.ofString "need_wishes") _) _ _ _) _ _ _); refine xE_call (cf_need_wishesR (by assumption) (by assumption)) (Room.mono (by assumption) (by decide)) ?_))
local macro_rules | `(tactic| specialize "fun") => `(tactic| ((with_reducible show wE _ _ (Expr.Call (Expr.Name (Str.ofString "Book") _) _ _ _) _ _ _); refine xE_make (cf_Book_initR (by assumption) (by assumption)) (Room.mono (by assumption) (by decide)) ?_))
local macro_rules | `(tactic| specialize "fun") => `(tactic| ((with_reducible show wE _ _ (Expr.Call (Expr.Name (Str.ofString "Phone") _) [] _ _) _ _ _); refine wE_make0 (cf_Phone_init (by assumption) (by assumption)) (Room.mono (by assumption) (by decide)) ?_))
local macro_rules | `(tactic| specialize "st") => `(tactic| ((with_reducible show wS _ _ (Stmt.Assign [Expr.Attribute _ (Str.ofString "phones") _] _ _) _ _ _); refine stop_i ?_))
local macro_rules | `(tactic| specialize "st") => `(tactic| ((with_reducible show wS _ _ (Stmt.Assign [Expr.Attribute _ (Str.ofString "calls") _] (Expr.List _ _) _) _ _ _); refine xS_fld ?_; refine xE_lstN ?_))
abbrev phO (C : Addr) : O := .ins C [("is_up", .bl false), ("now", .non), ("kept", .non), ("bell", .non), ("tone", .str "quiet")]
end
end

-- PH8
section
variable {P : Program} {w : World} {K : PySem.W.Frag} {mg : Str → Option Value} {base : Heap} {C_Book C_Way C_Call C_Phone C_Hall : Addr}
def asp_Hall_initL (C : Cs) : ASp := fun ws S Φ _ => ∃ S0 xs, ws = [.ref S0.length, .lst (xs.map Wish.w)] ∧ S = S0 ++ [.ins C.CH []] ∧ xs.length ≤ 24 ∧ (∀ x ∈ xs, x.ok) ∧ (xs.map Wish.key).Nodup ∧ Φ .non (S0 ++ iniO C S0.length xs)
section
local macro_rules | `(tactic| specialize "fun") => `(tactic| ((with_reducible show wE _ _ (Expr.Call (Expr.Name (Str.ofString "need_wishes") _) _ _ _) _ _ _); refine xE_call (cf_need_wishes (by assumption) (by assumption)) (Room.mono (by assumption) (by decide)) ?_))
local macro_rules | `(tactic| specialize "fun") => `(tactic| ((with_reducible show wE _ _ (Expr.Call (Expr.Name (Str.ofString "Book") _) _ _ _) _ _ _); refine xE_make (cf_Book_init (by assumption) (by assumption)) (Room.mono (by assumption) (by decide)) ?_))
local macro_rules | `(tactic| specialize "fun") => `(tactic| ((with_reducible show wE _ _ (Expr.Call (Expr.Name (Str.ofString "Phone") _) [] _ _) _ _ _); refine wE_make0 (cf_Phone_init (by assumption) (by assumption)) (Room.mono (by assumption) (by decide)) ?_))
local macro_rules | `(tactic| specialize "st") => `(tactic| ((with_reducible show wS _ _ (Stmt.Assign [Expr.Attribute _ (Str.ofString "phones") _] _ _) _ _ _); refine stop_i ?_))
local macro_rules | `(tactic| specialize "st") => `(tactic| ((with_reducible show wS _ _ (Stmt.Assign [Expr.Attribute _ (Str.ofString "calls") _] (Expr.List _ _) _) _ _ _); refine xS_fld ?_; refine xE_lstN ?_))
theorem cf_Hall_initL (G : GL mg) (D : DS K mg C_Book C_Way C_Call C_Phone C_Hall) : CMake P w K mg base "Hall" C_Hall 6 2 (asp_Hall_initL (Cs.mk C_Book C_Way C_Call C_Phone C_Hall)) := by
  refine D.d_Hall_init.fn sc_Hall_init fun f cdv A outer s H E hr ws S Φ Ψ hl hS ha => ?_
  obtain ⟨S0, xs, rfl, rfl, h1, ho, h3, h⟩ := ha
  specialize "go"
  unfold Stop
  have n1 : ∀ o o2 a d : O, (S0 ++ [o] ++ [a, d]).set S0.length o2 = S0 ++ [o2, a, d] := fun o o2 a d => by rw [List.append_assoc]; exact set_new0
  have n2 : ∀ o : O, (S0 ++ [o]).length = S0.length + 1 := fun o => by simp
  rw [n1, n2]
  refine xS_fld ?_
  refine wE_lcF 2 .no rfl (of_decide_eq_true (by kernel_rfl)) (blkOk_by (by kernel_rfl)) ?_
  specialize "go"
  refine ⟨fun i acc S' => i ≤ 6 ∧ acc = ((List.range i).map fun k : Nat => W.ref (S0.length + 3 + k)) ∧ S' = S0 ++ ([.ins C_Hall [("book", .ref (S0.length + 1))], .ins C_Book [("wanted", .ref (S0.length + 2))], .dt (bookD xs)] ++ List.replicate i (phO C_Phone)), ⟨by decide, rfl, rfl⟩, ?_, ?_, ?_⟩
  · rintro i acc S' ⟨hi, rfl, rfl⟩
    refine ⟨trivial, ?_⟩
    rw [List.length_map, List.length_range]
    omega
  · rintro i w acc S' hw ⟨hi, rfl, rfl⟩
    obtain ⟨x, hx, rfl⟩ := map_inv hw
    obtain ⟨hx1, hx2⟩ := List.getElem?_eq_some_iff.mp hx
    have hi6 : i < 6 := by rw [List.length_range] at hx1; exact hx1
    intro s1 H0 C cl fp
    specialize "go"
    refine ⟨_, rfl, rfl, fun loc => ⟨rfl, ?_⟩⟩
    specialize "go"
    refine ⟨hi6, ?_, ?_⟩
    · rw [List.range_succ, List.map_append]
      congr 2
      simp
      omega
    · rw [List.append_assoc, List.append_assoc, List.replicate_succ']
      rfl
  · rintro acc S' ⟨hi, rfl, rfl⟩
    specialize "go"
    have e6 : (rangeW 0 (Int.toNat 6)).length = 6 := rfl
    have q1 : ∀ (o o2 : O) (T : Sto), (S0 ++ (o :: T)).set S0.length o2 = S0 ++ o2 :: T := fun o o2 T => by simp
    refine fin.eqS h ?_
    rw [e6]
    have q2 : ∀ (o o2 a d : O) (R : Sto), (S0 ++ ([o, a, d] ++ R)).set S0.length o2 = S0 ++ ([o2, a, d] ++ R) := fun o o2 a d R => q1 _ _ _
    rw [q2]
    have q3 : ∀ (o a d l : O), (S0 ++ ([o, a, d] ++ List.replicate 6 (phO C_Phone)) ++ [l]) = S0 ++ ([o, a, d] ++ (List.replicate 6 (phO C_Phone) ++ [l])) := fun o a d l => by simp
    rw [q3, q2]
    have q4 : ∀ (o a d : O), (S0 ++ ([o, a, d] ++ List.replicate 6 (phO C_Phone))).length = S0.length + 9 := fun o a d => by simp
    rw [q4]
    kernel_rfl
end
end

end
-- L1G
section
variable {P : Program} {w : World} {K : PySem.W.Frag} {mg : Str → Option Value} {base : Heap} {C_Book C_Way C_Call C_Phone C_Hall : Addr}
section
local macro_rules | `(tactic| specialize "st") => `(tactic| ((with_reducible show wS _ _ (Stmt.Assign [Expr.Subscript _ _ _] _ _) _ _ _); refine wS_asg ?_))
local macro_rules | `(tactic| specialize "gg") => `(tactic| ((with_reducible show wG _ _ (Expr.Subscript _ _ _) _ _ _ _); refine xG_lset ?_))
local macro_rules | `(tactic| specialize "times") => `(tactic| refine xE_mulI ?_)
local macro_rules | `(tactic| specialize "su") => `(tactic| ((with_reducible show wE _ _ (Expr.Subscript (Expr.Subscript _ _ _) _ _) _ _ _); refine xE_ixScr ?_))
theorem cf_law_taken (G : GL mg) (D : DS K mg C_Book C_Way C_Call C_Phone C_Hall) : CFn P w K mg base "_law_taken" 1 2 (asp_taken K) := by
  refine D.d_law_taken.fn sc_law_taken fun f cdv A outer s H E hr ws S Φ Ψ hl hS ha => ?_
  obtain ⟨r, m, rfl, hr0, hm, hmx, h⟩ := ha
  refine wB_row hr0 fun ns i z ⟨g1, g2, g3, g4⟩ => ?_
  have hr1 : (S.set r (rowL K ns i z))[r]? = some (.lst [.scr K ns, .int i, .int z]) := get_set_self hr0
  have fold : ∀ v i' z', 0 ≤ v → v < m → 0 ≤ i' → 0 ≤ z' → z' < 2147483647 → fin S.length Φ (.int v) (S.set r (.lst [.scr K ns, .int i', .int z'])) := by
    intro v i' z' h1 h2 h3 h4 h5
    have hq : (S.set r (.lst [.scr K ns, .int i', .int z']))[r]? = some (rowL K ns i' z') := get_set_self hr0
    refine fin.less (imp_fold hq ⟨g1, h3, h4, h5⟩) (fin.as ?_)
    rw [List.set_set, set_same hr0]
    exact h v h1 h2
  specialize "go"
  refine sIte_s (fun e => ?_) (fun e => ?_)
  · specialize "go"
    dsimp only
    rw [List.set_set, List.set_set]
    have hz0 : 0 ≤ (z * 48271 + 11) % 2147483647 := Int.emod_nonneg _ (by decide)
    have hz1 : (z * 48271 + 11) % 2147483647 < 2147483647 := Int.emod_lt_of_pos _ (by decide)
    exact fold _ _ _ (Int.emod_nonneg _ (by omega)) (Int.emod_lt_of_pos _ hm) (by omega) hz0 hz1
  · have e := of_decide_eq_false e
    obtain ⟨x, hx⟩ := atI_scr (ns := ns) (i := i + 1 - 1) (by omega) (by omega)
    specialize "go"
    refine sIxScr_i hx ?_
    specialize "go"
    dsimp only
    rw [List.set_set, List.set_set]
    have hz0 : 0 ≤ (z * 48271 + x + 11) % 2147483647 := Int.emod_nonneg _ (by decide)
    have hz1 : (z * 48271 + x + 11) % 2147483647 < 2147483647 := Int.emod_lt_of_pos _ (by decide)
    exact fold _ _ _ (Int.emod_nonneg _ (by omega)) (Int.emod_lt_of_pos _ hm) (by omega) hz0 hz1
end
local macro_rules | `(tactic| specialize "fun") => `(tactic| ((with_reducible show wE _ _ (Expr.Call (Expr.Name (Str.ofString "_law_taken") _) _ _ _) _ _ _); refine xE_call (cf_law_taken (by assumption) (by assumption)) (Room.mono (by assumption) (by decide)) ?_))
local macro_rules | `(tactic| specialize "s3") => `(tactic| ((with_reducible show asp_taken _ _ _ _ _); refine ⟨_, _, rfl, (by specialize "nth"), (by first | decide | omega), (by first | decide | omega), ?_⟩))
/-- rising, all below n -/
def upTo (n : Nat) (l : List Int) : Prop := (∀ m ∈ l, 0 ≤ m ∧ m < n) ∧ l.Pairwise (· < ·)
theorem upTo.more {n : Nat} {l : List Int} (h : upTo n l) : upTo (n + 1) (l ++ [(n : Int)]) := by
  refine ⟨fun m hm => ?_, List.pairwise_append.mpr ⟨h.2, by simp, fun a ha b hb => ?_⟩⟩
  · rcases List.mem_append.mp hm with hm | hm
    · have := h.1 m hm
      omega
    · rw [List.mem_singleton.mp hm]
      omega
  · rw [List.mem_singleton.mp hb]
    exact (h.1 a ha).2
theorem upTo.skip {n : Nat} {l : List Int} (h : upTo n l) : upTo (n + 1) l := ⟨fun m hm => by have := h.1 m hm; omega, h.2⟩
theorem upTo.len {n : Nat} {l : List Int} (h : upTo n l) : l.length ≤ n := by
  have q := small_len n (l.map Int.toNat) (by
    rw [List.nodup_iff_pairwise_ne, List.pairwise_map]
    refine h.2.imp_of_mem ?_
    intro a b ha hb hab e
    have h1 := h.1 a ha
    have h2 := h.1 b hb
    omega) fun p hp => by
    obtain ⟨x, hx, rfl⟩ := List.mem_map.mp hp
    have := h.1 x hx
    omega
  rw [List.length_map] at q
  exact q
theorem upTo.ms {l : List Int} (h : upTo 6 l) (hn : l ≠ []) : msOk l := by
  refine ⟨hn, h.len, fun m hm => by have := h.1 m hm; omega, fun k a b h1 h2 => ?_⟩
  obtain ⟨k1, e1⟩ := List.getElem?_eq_some_iff.mp h1
  obtain ⟨k2, e2⟩ := List.getElem?_eq_some_iff.mp h2
  rw [← e1, ← e2]
  exact List.pairwise_iff_getElem.mp h.2 k (k + 1) k1 k2 (Nat.lt_succ_self k)
end

section
local macro_rules | `(tactic| specialize "fun") => `(tactic| ((with_reducible show wE _ _ (Expr.Call (Expr.Name (Str.ofString "need_wishes") _) _ _ _) _ _ _); refine xE_call (cf_need_wishes (by assumption) (by assumption)) (Room.mono (by assumption) (by decide)) ?_))
local macro_rules | `(tactic| specialize "s3") => `(tactic| ((with_reducible show asp_need_wishes _ _ _ _); refine ⟨_, rfl, (by assumption), (by assumption), (by assumption), ?_⟩))
local macro_rules | `(tactic| specialize "fun") => `(tactic| ((with_reducible show wE _ _ (Expr.Call (Expr.Name (Str.ofString "need_phone") _) _ _ _) _ _ _); refine xE_call (cf_need_phone (by assumption) (by assumption)) (Room.mono (by assumption) (by decide)) ?_))
local macro_rules | `(tactic| specialize "s3") => `(tactic| ((with_reducible show asp_need_phone _ _ _ _); refine ⟨_, rfl, (by assumption), (by assumption), ?_⟩))
local macro_rules | `(tactic| specialize "fun") => `(tactic| ((with_reducible show wE _ _ (Expr.Call (Expr.Name (Str.ofString "need_number") _) _ _ _) _ _ _); refine xE_call (cf_need_number (by assumption) (by assumption)) (Room.mono (by assumption) (by decide)) ?_))
local macro_rules | `(tactic| specialize "s3") => `(tactic| ((with_reducible show asp_need_number _ _ _ _); refine ⟨_, rfl, (by assumption), (by assumption), ?_⟩))

local macro_rules | `(tactic| specialize "fun") => `(tactic| ((with_reducible show wE _ _ (Expr.Call (Expr.Name (Str.ofString "Book") _) _ _ _) _ _ _); refine xE_make (cf_Book_init (by assumption) (by assumption)) (Room.mono (by assumption) (by decide)) ?_))
local macro_rules | `(tactic| specialize "s3") => `(tactic| ((with_reducible show asp_Book_init _ _ _ _ _); refine ⟨_, _, rfl, rfl, (by assumption), (by assumption), ⟨rfl, ?_⟩⟩))
local macro_rules | `(tactic| specialize "fun") => `(tactic| ((with_reducible show wE _ _ (Expr.Call (Expr.Attribute _ (Str.ofString "has") _) _ _ _) _ _ _); refine xE_meth (DS.cls_Book (by assumption)) (cf_has (by assumption) (by assumption)) (Room.mono (by assumption) (by decide)) ?_))
local macro_rules | `(tactic| specialize "s3") => `(tactic| ((with_reducible show asp_has _ _ _ _ _); refine ⟨_, _, _, _, rfl, (by specialize "bk"), ?_⟩))
local macro_rules | `(tactic| specialize "bk") => `(tactic| first | assumption | exact ⟨_, (by specialize "nth"), (by specialize "nth")⟩)
local macro_rules | `(tactic| specialize "fun") => `(tactic| ((with_reducible show wE _ _ (Expr.Call (Expr.Attribute _ (Str.ofString "bars") _) _ _ _) _ _ _); refine xE_meth (DS.cls_Book (by assumption)) (cf_bars (by assumption) (by assumption)) (Room.mono (by assumption) (by decide)) ?_))
local macro_rules | `(tactic| specialize "s3") => `(tactic| ((with_reducible show asp_bars _ _ _ _ _); refine ⟨_, _, _, _, rfl, (by specialize "bk"), ?_⟩))
local macro_rules | `(tactic| specialize "fun") => `(tactic| ((with_reducible show wE _ _ (Expr.Call (Expr.Attribute _ (Str.ofString "goal") _) _ _ _) _ _ _); refine xE_meth (DS.cls_Book (by assumption)) (cf_goal (by assumption) (by assumption)) (Room.mono (by assumption) (by decide)) ?_))
local macro_rules | `(tactic| specialize "fun") => `(tactic| ((with_reducible show wE _ _ (Expr.Call (Expr.Attribute _ (Str.ofString "members") _) _ _ _) _ _ _); refine xE_meth (DS.cls_Book (by assumption)) (cf_members (by assumption) (by assumption)) (Room.mono (by assumption) (by decide)) ?_))
local macro_rules | `(tactic| specialize "s3") => `(tactic| ((with_reducible show asp_members _ _ _ _ _); refine ⟨_, _, _, rfl, (by specialize "bk"), ?_⟩))

local macro_rules | `(tactic| specialize "fun") => `(tactic| ((with_reducible show wE _ _ (Expr.Call (Expr.Name (Str.ofString "rings_at") _) _ _ _) _ _ _); refine xE_call (cf_rings_at (by assumption) (by assumption)) (Room.mono (by assumption) (by decide)) ?_))
local macro_rules | `(tactic| specialize "s3") => `(tactic| ((with_reducible show asp_rings_at _ _ _ _ _); refine ⟨_, _, _, _, _, _, rfl, (by first | assumption | exact fun _ => rfl), (by specialize "bk"), (by assumption), (by assumption), ?_⟩))
local macro_rules | `(tactic| specialize "fun") => `(tactic| ((with_reducible show wE _ _ (Expr.Call (Expr.Name (Str.ofString "next_of") _) _ _ _) _ _ _); refine xE_call (cf_next_of (by assumption) (by assumption)) (Room.mono (by assumption) (by decide)) ?_))
local macro_rules | `(tactic| specialize "s3") => `(tactic| ((with_reducible show asp_next_of _ _ _ _ _); refine ⟨_, _, _, _, _, _, _, rfl, (by first | assumption | exact fun _ => rfl), (by specialize "bk"), (by first | assumption | omega), (by first | assumption | omega), (by assumption), (by assumption), _, (by first | assumption | rfl), ?_⟩))

local macro_rules | `(tactic| specialize "fun") => `(tactic| ((with_reducible show wE _ _ (Expr.Call (Expr.Name (Str.ofString "Way") _) _ _ _) _ _ _); refine xE_make (cf_Way_init (by assumption) (by assumption)) (Room.mono (by assumption) (by decide)) ?_))
local macro_rules | `(tactic| specialize "s3") => `(tactic| ((with_reducible show asp_Way_init _ _ _ _ _); refine ⟨_, _, _, rfl, rfl, ⟨rfl, ?_⟩⟩))
local macro_rules | `(tactic| specialize "fun") => `(tactic| ((with_reducible show wE _ _ (Expr.Call (Expr.Attribute _ (Str.ofString "step") _) _ _ _) _ _ _); refine xE_meth (DS.cls_Way (by assumption)) (cf_Way_step (by assumption) (by assumption)) (Room.mono (by assumption) (by decide)) ?_))
local macro_rules | `(tactic| specialize "s3") => `(tactic| ((with_reducible show asp_Way_step _ _ _ _ _ _); refine ⟨_, _, _, _, _, _, _, _, _, _, _, rfl, (by first | assumption | exact fun _ => rfl), (by assumption), (by assumption), (by assumption), (by first | assumption | omega), (by first | assumption | omega), (by assumption), (by assumption), (by assumption), (by assumption), ?_⟩))
local macro_rules | `(tactic| specialize "fun") => `(tactic| ((with_reducible show wE _ _ (Expr.Call (Expr.Attribute _ (Str.ofString "go") _) _ _ _) _ _ _); refine xE_meth (DS.cls_Way (by assumption)) (cf_Way_go (by assumption) (by assumption)) (Room.mono (by assumption) (by decide)) ?_))

local macro_rules | `(tactic| specialize "fun") => `(tactic| ((with_reducible show wE _ _ (Expr.Call (Expr.Attribute _ (Str.ofString "silence") _) _ _ _) _ _ _); refine xE_meth (DS.cls_Hall (by assumption)) (cf_silence (by assumption) (by assumption)) (Room.mono (by assumption) (by decide)) ?_))
local macro_rules | `(tactic| specialize "s3") => `(tactic| ((with_reducible show asp_silence _ _ _ _ _); refine ⟨_, _, _, _, rfl, (by assumption), (by assumption), ?_⟩))
local macro_rules | `(tactic| specialize "fun") => `(tactic| ((with_reducible show wE _ _ (Expr.Call (Expr.Attribute _ (Str.ofString "over") _) _ _ _) _ _ _); refine xE_meth (DS.cls_Hall (by assumption)) (cf_over (by assumption) (by assumption)) (Room.mono (by assumption) (by decide)) ?_))
local macro_rules | `(tactic| specialize "s3") => `(tactic| ((with_reducible show asp_over _ _ _ _ _); refine ⟨_, _, _, _, rfl, (by assumption), (by assumption), ?_⟩))
local macro_rules | `(tactic| specialize "fun") => `(tactic| ((with_reducible show wE _ _ (Expr.Call (Expr.Attribute _ (Str.ofString "answer") _) _ _ _) _ _ _); refine xE_meth (DS.cls_Hall (by assumption)) (cf_answer (by assumption) (by assumption)) (Room.mono (by assumption) (by decide)) ?_))
local macro_rules | `(tactic| specialize "s3") => `(tactic| ((with_reducible show asp_answer _ _ _ _ _); refine ⟨_, _, _, _, _, rfl, (by assumption), (by assumption), (by assumption), (by assumption), (by assumption), ?_⟩))
local macro_rules | `(tactic| specialize "fun") => `(tactic| ((with_reducible show wE _ _ (Expr.Call (Expr.Attribute _ (Str.ofString "leave") _) _ _ _) _ _ _); refine xE_meth (DS.cls_Hall (by assumption)) (cf_leave (by assumption) (by assumption)) (Room.mono (by assumption) (by decide)) ?_))
local macro_rules | `(tactic| specialize "fun") => `(tactic| ((with_reducible show wE _ _ (Expr.Call (Expr.Attribute _ (Str.ofString "need_talk") _) _ _ _) _ _ _); refine xE_meth (DS.cls_Hall (by assumption)) (cf_need_talk (by assumption) (by assumption)) (Room.mono (by assumption) (by decide)) ?_))
local macro_rules | `(tactic| specialize "s3") => `(tactic| ((with_reducible show asp_need_talk _ _ _ _ _); refine ⟨_, _, _, _, rfl, (by assumption), (by assumption), (by assumption), (by assumption), ?_⟩))
local macro_rules | `(tactic| specialize "fun") => `(tactic| ((with_reducible show wE _ _ (Expr.Call (Expr.Attribute (Expr.Name (Str.ofString "self") _) (Str.ofString "phone") _) _ _ _) _ _ _); refine xE_meth (DS.cls_Hall (by assumption)) (cf_phone (by assumption) (by assumption)) (Room.mono (by assumption) (by decide)) ?_))
local macro_rules | `(tactic| specialize "s3") => `(tactic| ((with_reducible show asp_phone _ _ _ _ _); refine ⟨_, _, _, _, _, rfl, (by assumption), (by assumption), (by assumption), (by assumption), ?_⟩))

local macro_rules | `(tactic| specialize "fun") => `(tactic| ((with_reducible show wE _ _ (Expr.Call (Expr.Attribute _ (Str.ofString "may_be_knocked_at") _) _ _ _) _ _ _); refine xE_meth (DS.cls_Hall (by assumption)) (cf_may (by assumption) (by assumption)) (Room.mono (by assumption) (by decide)) ?_))
local macro_rules | `(tactic| specialize "fun") => `(tactic| ((with_reducible show wE _ _ (Expr.Call (Expr.Attribute _ (Str.ofString "knock_list") _) _ _ _) _ _ _); refine xE_meth (DS.cls_Hall (by assumption)) (cf_knock (by assumption) (by assumption)) (Room.mono (by assumption) (by decide)) ?_))
local macro_rules | `(tactic| specialize "fun") => `(tactic| ((with_reducible show wE _ _ (Expr.Call (Expr.Attribute (Expr.Attribute _ (Str.ofString "way") _) (Str.ofString "go") _) _ _ _) _ _ _); refine xE_meth (DS.cls_Way (by assumption)) (cf_Way_goG (by assumption) (by assumption)) (Room.mono (by assumption) (by decide)) ?_))
local macro_rules | `(tactic| specialize "fun") => `(tactic| ((with_reducible show wE _ _ (Expr.Call (Expr.Attribute _ (Str.ofString "go_on") _) _ _ _) _ _ _); refine xE_meth (DS.cls_Hall (by assumption)) (cf_go_on (by assumption) (by assumption)) (Room.mono (by assumption) (by decide)) ?_))

local macro_rules | `(tactic| specialize "fun") => `(tactic| ((with_reducible show wE _ _ (Expr.Call (Expr.Name (Str.ofString "Call") _) _ _ _) _ _ _); refine xE_make (cf_Call_init (by assumption) (by assumption)) (Room.mono (by assumption) (by decide)) ?_))
local macro_rules | `(tactic| specialize "fun") => `(tactic| ((with_reducible show wE _ _ (Expr.Call (Expr.Name (Str.ofString "Phone") _) [] _ _) _ _ _); refine wE_make0 (cf_Phone_init (by assumption) (by assumption)) (Room.mono (by assumption) (by decide)) ?_))

local macro_rules | `(tactic| specialize "fun") => `(tactic| ((with_reducible show wE _ _ (Expr.Call (Expr.Attribute _ (Str.ofString "patience") _) _ _ _) _ _ _); refine xE_meth (DS.cls_Book (by assumption)) (cf_patience (by assumption) (by assumption)) (Room.mono (by assumption) (by decide)) ?_))

-- Y1
section
variable {P : Program} {w : World} {K : PySem.W.Frag} {mg : Str → Option Value} {base : Heap} {C_Book C_Way C_Call C_Phone C_Hall D_NN C_PE : Addr} {ν μ : Int → Int}
/-- what NotNow is among the errors, as k11 needs it -/
structure N11 (K : PySem.W.Frag) (mg : Str → Option Value) (D_NN C_PE : Addr) : Prop where
  exk : ExK K mg "NotNow" D_NN
  exc : L2.ExcC K D_NN
  pe : mg "PhoneError" = some (.ref C_PE)
  em : PySem.W.exmOne K (.ref D_NN) (.ref C_PE) = some true
  ko : PySem.W.kitOne K (.ref D_NN) (.ref D_NN) = some true
theorem CMeth.imp {C : Addr} {m : Str} {k n : Nat} {asp asp2 : ASp} (h : CMeth P w K mg base C m k n asp) (i : ∀ ws S Φ Ψ, asp2 ws S Φ Ψ → asp ws S Φ Ψ) : CMeth P w K mg base C m k n asp2 := by
  obtain ⟨f, fd, ps, h1, h2, h3, F⟩ := h.ex
  exact ⟨f, fd, ps, h1, h2, h3, F.imp fun vs H Q E ⟨hl, M, S, ws, Φ, Ψ, r, a, hs, g, hx⟩ => ⟨hl, M, S, ws, Φ, Ψ, r, a, i ws S Φ Ψ hs, g, hx⟩⟩
theorem inv_ppl6 {σ : Hl} (inv : Inv σ) {k : Nat} (hk : k ∈ σ.op) : (σ.ca k).ppl.length ≤ 6 := phones_len (inv.ca k hk).ppn fun p hp => ⟨((inv.ca k hk).pph p hp).1, ((inv.ca k hk).pph p hp).2.1⟩
def asp_liftR (C : Cs) (ν μ : Int → Int) : ASp := fun ws S Φ _ => ∃ loc xs σ p, ws = [.ref (loc .hall), .int (ν p)] ∧ HallAt C S loc xs (σ.re ν μ) ∧ Inv σ ∧ 0 ≤ p ∧ p ≤ 5 ∧ (σ.ph p).up = false ∧ ∀ S', HallAt C S' loc xs ((liftF σ p).re ν μ) → Fr loc σ.n S S' → Φ .non S'
def asp_dropR (C : Cs) (ν μ : Int → Int) : ASp := fun ws S Φ _ => ∃ loc xs σ p, ws = [.ref (loc .hall), .int (ν p)] ∧ HallAt C S loc xs (σ.re ν μ) ∧ Inv σ ∧ 0 ≤ p ∧ p ≤ 5 ∧ (σ.ph p).up = true ∧ ∀ S', HallAt C S' loc xs ((dropF σ p).re ν μ) → Fr loc σ.n S S' → Φ .non S'
def asp_holdR (C : Cs) (ν μ : Int → Int) : ASp := fun ws S Φ _ => ∃ loc xs σ p, ws = [.ref (loc .hall), .int (ν p)] ∧ HallAt C S loc xs (σ.re ν μ) ∧ 0 ≤ p ∧ p ≤ 5 ∧ (σ.ph p).up = true ∧ inTalk σ p = true ∧ (σ.ph p).kept = none ∧ ∀ S', HallAt C S' loc xs ((holdF σ p).re ν μ) → Fr loc σ.n S S' → Φ .non S'
def asp_swapR (C : Cs) (ν μ : Int → Int) : ASp := fun ws S Φ _ => ∃ loc xs σ p, ws = [.ref (loc .hall), .int (ν p)] ∧ HallAt C S loc xs (σ.re ν μ) ∧ 0 ≤ p ∧ p ≤ 5 ∧ (σ.ph p).up = true ∧ (σ.ph p).kept ≠ none ∧ inTalk σ p = true ∧ ∀ S', HallAt C S' loc xs ((swapF σ p).re ν μ) → Fr loc σ.n S S' → Φ .non S'
def asp_takeR (C : Cs) (ν μ : Int → Int) : ASp := fun ws S Φ _ => ∃ loc xs σ p k, ws = [.ref (loc .hall), .int (ν p)] ∧ HallAt C S loc xs (σ.re ν μ) ∧ Inv σ ∧ 0 ≤ p ∧ p ≤ 5 ∧ (σ.ph p).up = true ∧ inTalk σ p = true ∧ (σ.ph p).kept = none ∧ (σ.ph p).bell = some k ∧ ∀ S', HallAt C S' loc xs ((takeF σ p).re ν μ) → Fr loc σ.n S S' → Φ .non S'
def asp_beatR (C : Cs) (ν μ : Int → Int) : ASp := fun ws S Φ _ => ∃ loc xs σ, ws = [.ref (loc .hall)] ∧ HallAt C S loc (xs.map (Wish.re ν)) (σ.re ν μ) ∧ Inv σ ∧ (∀ x ∈ xs, x.ok) ∧ σ.op.length ≤ 1000 ∧ ∀ S', HallAt C S' loc (xs.map (Wish.re ν)) ((beatF σ xs).re ν μ) → Fr loc σ.n S S' → Φ .non S'
def asp_hearR (C : Cs) (ν μ : Int → Int) : ASp := fun ws S Φ _ => ∃ loc xs σ p, ws = [.ref (loc .hall), .int (ν p)] ∧ HallAt C S loc xs (σ.re ν μ) ∧ Inv σ ∧ 0 ≤ p ∧ p ≤ 5 ∧ Φ (.tup [.str (hearF σ p).1, .tup (intsW (sortI ((hearF σ p).2.1.map ν))), .bl (hearF σ p).2.2]) S
def asp_dialR (C : Cs) (ν μ : Int → Int) : ASp := fun ws S Φ _ => ∃ loc xs σ p g, ws = [.ref (loc .hall), .int (ν p), .int (ν g)] ∧ HallAt C S loc (xs.map (Wish.re ν)) (σ.re ν μ) ∧ Inv σ ∧ (∀ x ∈ xs, x.ok) ∧ 0 ≤ p ∧ p ≤ 5 ∧ 0 ≤ g ∧ g ≤ 7 ∧ (σ.ph p).up = true ∧ (σ.ph p).now = none ∧ (σ.ph p).tone = "dial" ∧ σ.op.length ≤ 1000 ∧
  ∀ S' loc' j, HallAt C S' loc' (xs.map (Wish.re ν)) ((dialF σ xs p g).re ν μ) → Nx loc loc' σ.n (σ.n + 1) S S' → S'[j]? = some (.lst (intsW (((dialF σ xs p g).ca σ.n).y.chain.map ν))) → S.length ≤ j → (∀ c, okC (σ.n + 1) c → loc' c ≠ j) → Φ (.tup [.str ((dialF σ xs p g).ca σ.n).y.word, .tup (intsW (sortI (((dialF σ xs p g).ca σ.n).y.ears.map ν))), .ref j]) S'
theorem cf_liftR (R : Ren ν μ) (G : GL mg) (D : DS K mg C_Book C_Way C_Call C_Phone C_Hall) : CMeth P w K mg base C_Hall "lift" 5 2 (asp_liftR (Cs.mk C_Book C_Way C_Call C_Phone C_Hall) ν μ) :=
  (cf_lift G D).imp fun ws S Φ Ψ ⟨loc, xs, σ, p, e, h, inv, p0, p5, up, hΦ⟩ => ⟨loc, xs, σ.re ν μ, ν p, e, h, (R.phone p0 p5).1, (R.phone p0 p5).2, by rw [R.ph]; exact up, fun k ek => Nat.le_trans (inv_ppl6 (R.inv inv) ((R.inv inv).bell _ k (R.phone p0 p5).1 (R.phone p0 p5).2 ek).1) (by decide), fun S' h' fr => hΦ S' (by rw [R.lift]; exact h') fr⟩
theorem cf_dropR (R : Ren ν μ) (G : GL mg) (D : DS K mg C_Book C_Way C_Call C_Phone C_Hall) : CMeth P w K mg base C_Hall "drop" 5 2 (asp_dropR (Cs.mk C_Book C_Way C_Call C_Phone C_Hall) ν μ) :=
  (cf_drop G D).imp fun ws S Φ Ψ ⟨loc, xs, σ, p, e, h, inv, p0, p5, up, hΦ⟩ => ⟨loc, xs, σ.re ν μ, ν p, e, h, (R.phone p0 p5).1, (R.phone p0 p5).2, by rw [R.ph]; exact up, fun k ek => ((R.inv inv).now _ k (R.phone p0 p5).1 (R.phone p0 p5).2 ek).2, fun k ek => ((R.inv inv).kept _ k (R.phone p0 p5).1 (R.phone p0 p5).2 ek).2.1, fun k ek => (R.inv inv).nk _ k (R.phone p0 p5).1 (R.phone p0 p5).2 ek, fun S' h' fr => hΦ S' (by rw [R.drop]; exact h') fr⟩
theorem cf_holdR (R : Ren ν μ) (G : GL mg) (D : DS K mg C_Book C_Way C_Call C_Phone C_Hall) : CMeth P w K mg base C_Hall "hold" 5 2 (asp_holdR (Cs.mk C_Book C_Way C_Call C_Phone C_Hall) ν μ) :=
  (cf_hold G D).imp fun ws S Φ Ψ ⟨loc, xs, σ, p, e, h, p0, p5, up, tk, kp, hΦ⟩ => ⟨loc, xs, σ.re ν μ, ν p, e, h, (R.phone p0 p5).1, (R.phone p0 p5).2, by rw [R.ph]; exact up, by rw [R.talk]; exact tk, by rw [R.ph]; exact kp, fun S' h' fr => hΦ S' (by rw [R.hold]; exact h') fr⟩
theorem cf_swapR (R : Ren ν μ) (G : GL mg) (D : DS K mg C_Book C_Way C_Call C_Phone C_Hall) : CMeth P w K mg base C_Hall "swap" 5 2 (asp_swapR (Cs.mk C_Book C_Way C_Call C_Phone C_Hall) ν μ) :=
  (cf_swap G D).imp fun ws S Φ Ψ ⟨loc, xs, σ, p, e, h, p0, p5, up, kp, tk, hΦ⟩ => ⟨loc, xs, σ.re ν μ, ν p, e, h, (R.phone p0 p5).1, (R.phone p0 p5).2, by rw [R.ph]; exact up, by rw [R.ph]; exact kp, .inr (by rw [R.talk]; exact tk), fun S' h' fr => hΦ S' (by rw [R.swap]; exact h') fr⟩
theorem cf_takeR (R : Ren ν μ) (G : GL mg) (D : DS K mg C_Book C_Way C_Call C_Phone C_Hall) : CMeth P w K mg base C_Hall "take" 5 2 (asp_takeR (Cs.mk C_Book C_Way C_Call C_Phone C_Hall) ν μ) :=
  (cf_take G D).imp fun ws S Φ Ψ ⟨loc, xs, σ, p, k, e, h, inv, p0, p5, up, tk, kp, bl, hΦ⟩ => ⟨loc, xs, σ.re ν μ, ν p, k, e, h, (R.phone p0 p5).1, (R.phone p0 p5).2, by rw [R.ph]; exact up, by rw [R.talk]; exact tk, by rw [R.ph]; exact kp, by rw [R.ph]; exact bl,
    Nat.le_trans (inv_ppl6 (R.inv inv) ((R.inv inv).bell (ν p) k (R.phone p0 p5).1 (R.phone p0 p5).2 (by rw [R.ph]; exact bl)).1) (by decide), fun S' h' fr => hΦ S' (by rw [R.take]; exact h') fr⟩
theorem cf_beatR (R : Ren ν μ) (G : GL mg) (D : DS K mg C_Book C_Way C_Call C_Phone C_Hall) : CMeth P w K mg base C_Hall "beat" 7 1 (asp_beatR (Cs.mk C_Book C_Way C_Call C_Phone C_Hall) ν μ) :=
  (cf_beat G D).imp fun ws S Φ Ψ ⟨loc, xs, σ, e, h, inv, ho, l, hΦ⟩ => ⟨loc, xs.map (Wish.re ν), σ.re ν μ, e, h, R.inv inv, (fun x hx => by obtain ⟨y, hy, rfl⟩ := List.mem_map.mp hx; exact R.ok (ho y hy)), l, fun S' h' fr => hΦ S' (by rw [R.beat ho]; exact h') fr⟩
theorem cf_hearR (R : Ren ν μ) (G : GL mg) (D : DS K mg C_Book C_Way C_Call C_Phone C_Hall) : CMeth P w K mg base C_Hall "hear" 4 2 (asp_hearR (Cs.mk C_Book C_Way C_Call C_Phone C_Hall) ν μ) :=
  (cf_hear G D).imp fun ws S Φ Ψ ⟨loc, xs, σ, p, e, h, inv, p0, p5, hΦ⟩ => ⟨loc, xs, σ.re ν μ, ν p, e, h, (R.phone p0 p5).1, (R.phone p0 p5).2, fun k ek => by
    have hk := ((R.inv inv).now _ k (R.phone p0 p5).1 (R.phone p0 p5).2 ek).1
    exact ⟨fun r hr => ⟨(((R.inv inv).ca k hk).pph r hr).1, (((R.inv inv).ca k hk).pph r hr).2.1⟩, Nat.le_trans (inv_ppl6 (R.inv inv) hk) (by decide)⟩, by rw [R.hear]; exact hΦ⟩
theorem re_dial0 (R : Ren ν μ) {σ : Hl} {xs : List Wish} (ho : ∀ x ∈ xs, x.ok) {p g : Int} (g0 : 0 ≤ g) : ((dialF (σ.re ν μ) (xs.map (Wish.re ν)) (ν p) (ν g)).ca σ.n).y = ((dialF σ xs p g).ca σ.n).y.re ν := by
  rw [← R.dial ho g0]
  rfl
theorem cf_dialR (R : Ren ν μ) (G : GL mg) (D : DS K mg C_Book C_Way C_Call C_Phone C_Hall) : CMeth P w K mg base C_Hall "dial" 6 3 (asp_dialR (Cs.mk C_Book C_Way C_Call C_Phone C_Hall) ν μ) :=
  (cf_dial G D).imp fun ws S Φ Ψ ⟨loc, xs, σ, p, g, e, h, inv, ho, p0, p5, g0, g7, up, nw, tn, l, hΦ⟩ => by
    have ho' : ∀ x ∈ xs.map (Wish.re ν), x.ok := fun x hx => by obtain ⟨y, hy, rfl⟩ := List.mem_map.mp hx; exact R.ok (ho y hy)
    have q := R.phone p0 p5
    have qg := R.num g0 g7
    have up' : ((σ.re ν μ).ph (ν p)).up = true := by rw [R.ph]; exact up
    have nw' : ((σ.re ν μ).ph (ν p)).now = none := by rw [R.ph]; exact nw
    have L := dial_limbo (R.inv inv) q.1 q.2 up' nw'
    have GO := L.go ho' qg.1 qg.2
    refine ⟨loc, xs.map (Wish.re ν), σ.re ν μ, ν p, ν g, e, h, ho', q.1, q.2, qg.1, qg.2, up', nw', by rw [R.ph]; exact tn, l, (fun e he => ⟨(GO.er e he).1, (GO.er e he).2.1⟩), Nat.le_trans (phones_len GO.nd (fun e he => ⟨(GO.er e he).1, (GO.er e he).2.1⟩)) (by decide), fun S' loc' j h' nx j1 j2 j3 => ?_⟩
    have ey := re_dial0 R (σ := σ) ho (p := p) g0
    have j1' : S'[j]? = some (.lst (intsW ((dialF (σ.re ν μ) (xs.map (Wish.re ν)) (ν p) (ν g)).ca σ.n).y.chain)) := j1
    show Φ (.tup [.str ((dialF (σ.re ν μ) (xs.map (Wish.re ν)) (ν p) (ν g)).ca σ.n).y.word, .tup (intsW ((dialF (σ.re ν μ) (xs.map (Wish.re ν)) (ν p) (ν g)).ca σ.n).y.ears), .ref j]) S'
    rw [ey] at j1' ⊢
    exact hΦ S' loc' j (by rw [R.dial ho g0]; exact h') nx j1' j2 j3
/-- refused -/
def asp_swapYR (C : Cs) (D : Addr) (ν μ : Int → Int) : ASp := fun ws S _ Ψ => ∃ (loc : Pl) (xs : List Wish) (σ : Hl) (p : Int) (k : Nat), ws = [.ref (loc .hall), .int (ν p)] ∧ HallAt C S loc xs (σ.re ν μ) ∧ 0 ≤ p ∧ p ≤ 5 ∧ (σ.ph p).up = true ∧ (σ.ph p).now = some k ∧ (σ.ca k).talk = false ∧ (σ.ph p).kept ≠ none ∧ Ψ (.ref D) [] S
def asp_takeYR (C : Cs) (D : Addr) (ν μ : Int → Int) : ASp := fun ws S _ Ψ => ∃ (loc : Pl) (xs : List Wish) (σ : Hl) (p : Int) (k : Nat), ws = [.ref (loc .hall), .int (ν p)] ∧ HallAt C S loc xs (σ.re ν μ) ∧ 0 ≤ p ∧ p ≤ 5 ∧ (σ.ph p).up = true ∧ (σ.ph p).now = some k ∧ (σ.ca k).talk = true ∧ (σ.ph p).kept ≠ none ∧ (σ.ph p).bell ≠ none ∧ Ψ (.ref D) [] S
section
local macro_rules | `(tactic| specialize "st") => `(tactic| ((with_reducible show wS _ _ (Stmt.Raise _ _ _) _ _ _); refine wS_raise (N11.exk (by assumption)) ?_))
theorem cf_swapYR (R : Ren ν μ) (G : GL mg) (D : DS K mg C_Book C_Way C_Call C_Phone C_Hall) (N : N11 K mg D_NN C_PE) : CMeth P w K mg base C_Hall "swap" 5 2 (asp_swapYR (Cs.mk C_Book C_Way C_Call C_Phone C_Hall) D_NN ν μ) := by
  refine D.d_Hall_swap.fn sc_Hall_swap fun f cdv A outer s H E hr ws S Φ Ψ hl hS ha => ?_
  obtain ⟨loc, xs, σ0, p0', k, rfl, h, p0, p5, up, nw, tk, kp, hΦ⟩ := ha
  have hp0 := (R.phone p0 p5).1
  have hp5 := (R.phone p0 p5).2
  have hup : ((σ0.re ν μ).ph (ν p0')).up = true := by rw [R.ph]; exact up
  rw [← R.ph (σ := σ0)] at nw kp
  have tk' : ((σ0.re ν μ).ca k).talk = false := tk
  generalize ν p0' = p at *
  generalize σ0.re ν μ = σ at *
  have f0 := h.hall
  have p0 := h.ph hp0 hp5
  have v0 := h.vd.ph p hp0 hp5
  generalize σ.ph p = q at p0 v0 nw kp
  obtain ⟨u, nw2, kp2, bl, tn⟩ := q
  have nw : nw2 = some k := nw
  subst nw
  have c0 := h.ca (v0.1 k rfl)
  cases kp2 with
  | none => exact absurd rfl kp
  | some j =>
    specialize "go"
    exact hΦ
theorem cf_takeYR (R : Ren ν μ) (G : GL mg) (D : DS K mg C_Book C_Way C_Call C_Phone C_Hall) (N : N11 K mg D_NN C_PE) : CMeth P w K mg base C_Hall "take" 5 2 (asp_takeYR (Cs.mk C_Book C_Way C_Call C_Phone C_Hall) D_NN ν μ) := by
  refine D.d_Hall_take.fn sc_Hall_take fun f cdv A outer s H E hr ws S Φ Ψ hl hS ha => ?_
  obtain ⟨loc, xs, σ0, p0', k, rfl, h, p0, p5, up, nw, tk, kp, bb, hΦ⟩ := ha
  have hp0 := (R.phone p0 p5).1
  have hp5 := (R.phone p0 p5).2
  have hup : ((σ0.re ν μ).ph (ν p0')).up = true := by rw [R.ph]; exact up
  rw [← R.ph (σ := σ0)] at nw kp bb
  have tk' : ((σ0.re ν μ).ca k).talk = true := tk
  generalize ν p0' = p at *
  generalize σ0.re ν μ = σ at *
  have f0 := h.hall
  have ht : inTalk σ p = true := by unfold inTalk; rw [nw]; exact tk'
  have p0 := h.ph hp0 hp5
  generalize hq : σ.ph p = q at p0 nw kp bb
  obtain ⟨u, nw2, kp2, bl, tn⟩ := q
  have nw : nw2 = some k := nw
  subst nw
  cases kp2 with
  | none => exact absurd rfl kp
  | some j =>
    cases bl with
    | none => exact absurd rfl bb
    | some i =>
      specialize "go"
      exact hΦ
end
end

end
section
local macro_rules | `(tactic| specialize "fun") => `(tactic| ((with_reducible show wE _ _ (Expr.Call (Expr.Name (Str.ofString "need_wishes") _) _ _ _) _ _ _); refine xE_call (cf_need_wishes (by assumption) (by assumption)) (Room.mono (by assumption) (by decide)) ?_))
local macro_rules | `(tactic| specialize "s3") => `(tactic| ((with_reducible show asp_need_wishes _ _ _ _); refine ⟨_, rfl, (by assumption), (by assumption), (by assumption), ?_⟩))
local macro_rules | `(tactic| specialize "fun") => `(tactic| ((with_reducible show wE _ _ (Expr.Call (Expr.Name (Str.ofString "need_phone") _) _ _ _) _ _ _); refine xE_call (cf_need_phone (by assumption) (by assumption)) (Room.mono (by assumption) (by decide)) ?_))
local macro_rules | `(tactic| specialize "s3") => `(tactic| ((with_reducible show asp_need_phone _ _ _ _); refine ⟨_, rfl, (by assumption), (by assumption), ?_⟩))
local macro_rules | `(tactic| specialize "fun") => `(tactic| ((with_reducible show wE _ _ (Expr.Call (Expr.Name (Str.ofString "need_number") _) _ _ _) _ _ _); refine xE_call (cf_need_number (by assumption) (by assumption)) (Room.mono (by assumption) (by decide)) ?_))
local macro_rules | `(tactic| specialize "s3") => `(tactic| ((with_reducible show asp_need_number _ _ _ _); refine ⟨_, rfl, (by assumption), (by assumption), ?_⟩))

local macro_rules | `(tactic| specialize "fun") => `(tactic| ((with_reducible show wE _ _ (Expr.Call (Expr.Name (Str.ofString "Book") _) _ _ _) _ _ _); refine xE_make (cf_Book_init (by assumption) (by assumption)) (Room.mono (by assumption) (by decide)) ?_))
local macro_rules | `(tactic| specialize "s3") => `(tactic| ((with_reducible show asp_Book_init _ _ _ _ _); refine ⟨_, _, rfl, rfl, (by assumption), (by assumption), ⟨rfl, ?_⟩⟩))
local macro_rules | `(tactic| specialize "fun") => `(tactic| ((with_reducible show wE _ _ (Expr.Call (Expr.Attribute _ (Str.ofString "has") _) _ _ _) _ _ _); refine xE_meth (DS.cls_Book (by assumption)) (cf_has (by assumption) (by assumption)) (Room.mono (by assumption) (by decide)) ?_))
local macro_rules | `(tactic| specialize "s3") => `(tactic| ((with_reducible show asp_has _ _ _ _ _); refine ⟨_, _, _, _, rfl, (by specialize "bk"), ?_⟩))
local macro_rules | `(tactic| specialize "bk") => `(tactic| first | assumption | exact ⟨_, (by specialize "nth"), (by specialize "nth")⟩)
local macro_rules | `(tactic| specialize "fun") => `(tactic| ((with_reducible show wE _ _ (Expr.Call (Expr.Attribute _ (Str.ofString "bars") _) _ _ _) _ _ _); refine xE_meth (DS.cls_Book (by assumption)) (cf_bars (by assumption) (by assumption)) (Room.mono (by assumption) (by decide)) ?_))
local macro_rules | `(tactic| specialize "s3") => `(tactic| ((with_reducible show asp_bars _ _ _ _ _); refine ⟨_, _, _, _, rfl, (by specialize "bk"), ?_⟩))
local macro_rules | `(tactic| specialize "fun") => `(tactic| ((with_reducible show wE _ _ (Expr.Call (Expr.Attribute _ (Str.ofString "goal") _) _ _ _) _ _ _); refine xE_meth (DS.cls_Book (by assumption)) (cf_goal (by assumption) (by assumption)) (Room.mono (by assumption) (by decide)) ?_))
local macro_rules | `(tactic| specialize "fun") => `(tactic| ((with_reducible show wE _ _ (Expr.Call (Expr.Attribute _ (Str.ofString "members") _) _ _ _) _ _ _); refine xE_meth (DS.cls_Book (by assumption)) (cf_members (by assumption) (by assumption)) (Room.mono (by assumption) (by decide)) ?_))
local macro_rules | `(tactic| specialize "s3") => `(tactic| ((with_reducible show asp_members _ _ _ _ _); refine ⟨_, _, _, rfl, (by specialize "bk"), ?_⟩))

local macro_rules | `(tactic| specialize "fun") => `(tactic| ((with_reducible show wE _ _ (Expr.Call (Expr.Name (Str.ofString "rings_at") _) _ _ _) _ _ _); refine xE_call (cf_rings_at (by assumption) (by assumption)) (Room.mono (by assumption) (by decide)) ?_))
local macro_rules | `(tactic| specialize "s3") => `(tactic| ((with_reducible show asp_rings_at _ _ _ _ _); refine ⟨_, _, _, _, _, _, rfl, (by first | assumption | exact fun _ => rfl), (by specialize "bk"), (by assumption), (by assumption), ?_⟩))
local macro_rules | `(tactic| specialize "fun") => `(tactic| ((with_reducible show wE _ _ (Expr.Call (Expr.Name (Str.ofString "next_of") _) _ _ _) _ _ _); refine xE_call (cf_next_of (by assumption) (by assumption)) (Room.mono (by assumption) (by decide)) ?_))
local macro_rules | `(tactic| specialize "s3") => `(tactic| ((with_reducible show asp_next_of _ _ _ _ _); refine ⟨_, _, _, _, _, _, _, rfl, (by first | assumption | exact fun _ => rfl), (by specialize "bk"), (by first | assumption | omega), (by first | assumption | omega), (by assumption), (by assumption), _, (by first | assumption | rfl), ?_⟩))

local macro_rules | `(tactic| specialize "fun") => `(tactic| ((with_reducible show wE _ _ (Expr.Call (Expr.Name (Str.ofString "Way") _) _ _ _) _ _ _); refine xE_make (cf_Way_init (by assumption) (by assumption)) (Room.mono (by assumption) (by decide)) ?_))
local macro_rules | `(tactic| specialize "s3") => `(tactic| ((with_reducible show asp_Way_init _ _ _ _ _); refine ⟨_, _, _, rfl, rfl, ⟨rfl, ?_⟩⟩))
local macro_rules | `(tactic| specialize "fun") => `(tactic| ((with_reducible show wE _ _ (Expr.Call (Expr.Attribute _ (Str.ofString "step") _) _ _ _) _ _ _); refine xE_meth (DS.cls_Way (by assumption)) (cf_Way_step (by assumption) (by assumption)) (Room.mono (by assumption) (by decide)) ?_))
local macro_rules | `(tactic| specialize "s3") => `(tactic| ((with_reducible show asp_Way_step _ _ _ _ _ _); refine ⟨_, _, _, _, _, _, _, _, _, _, _, rfl, (by first | assumption | exact fun _ => rfl), (by assumption), (by assumption), (by assumption), (by first | assumption | omega), (by first | assumption | omega), (by assumption), (by assumption), (by assumption), (by assumption), ?_⟩))
local macro_rules | `(tactic| specialize "fun") => `(tactic| ((with_reducible show wE _ _ (Expr.Call (Expr.Attribute _ (Str.ofString "go") _) _ _ _) _ _ _); refine xE_meth (DS.cls_Way (by assumption)) (cf_Way_go (by assumption) (by assumption)) (Room.mono (by assumption) (by decide)) ?_))

local macro_rules | `(tactic| specialize "fun") => `(tactic| ((with_reducible show wE _ _ (Expr.Call (Expr.Attribute _ (Str.ofString "silence") _) _ _ _) _ _ _); refine xE_meth (DS.cls_Hall (by assumption)) (cf_silence (by assumption) (by assumption)) (Room.mono (by assumption) (by decide)) ?_))
local macro_rules | `(tactic| specialize "s3") => `(tactic| ((with_reducible show asp_silence _ _ _ _ _); refine ⟨_, _, _, _, rfl, (by assumption), (by assumption), ?_⟩))
local macro_rules | `(tactic| specialize "fun") => `(tactic| ((with_reducible show wE _ _ (Expr.Call (Expr.Attribute _ (Str.ofString "over") _) _ _ _) _ _ _); refine xE_meth (DS.cls_Hall (by assumption)) (cf_over (by assumption) (by assumption)) (Room.mono (by assumption) (by decide)) ?_))
local macro_rules | `(tactic| specialize "s3") => `(tactic| ((with_reducible show asp_over _ _ _ _ _); refine ⟨_, _, _, _, rfl, (by assumption), (by assumption), ?_⟩))
local macro_rules | `(tactic| specialize "fun") => `(tactic| ((with_reducible show wE _ _ (Expr.Call (Expr.Attribute _ (Str.ofString "answer") _) _ _ _) _ _ _); refine xE_meth (DS.cls_Hall (by assumption)) (cf_answer (by assumption) (by assumption)) (Room.mono (by assumption) (by decide)) ?_))
local macro_rules | `(tactic| specialize "s3") => `(tactic| ((with_reducible show asp_answer _ _ _ _ _); refine ⟨_, _, _, _, _, rfl, (by assumption), (by assumption), (by assumption), (by assumption), (by assumption), ?_⟩))
local macro_rules | `(tactic| specialize "fun") => `(tactic| ((with_reducible show wE _ _ (Expr.Call (Expr.Attribute _ (Str.ofString "leave") _) _ _ _) _ _ _); refine xE_meth (DS.cls_Hall (by assumption)) (cf_leave (by assumption) (by assumption)) (Room.mono (by assumption) (by decide)) ?_))
local macro_rules | `(tactic| specialize "fun") => `(tactic| ((with_reducible show wE _ _ (Expr.Call (Expr.Attribute _ (Str.ofString "need_talk") _) _ _ _) _ _ _); refine xE_meth (DS.cls_Hall (by assumption)) (cf_need_talk (by assumption) (by assumption)) (Room.mono (by assumption) (by decide)) ?_))
local macro_rules | `(tactic| specialize "s3") => `(tactic| ((with_reducible show asp_need_talk _ _ _ _ _); refine ⟨_, _, _, _, rfl, (by assumption), (by assumption), (by assumption), (by assumption), ?_⟩))
local macro_rules | `(tactic| specialize "fun") => `(tactic| ((with_reducible show wE _ _ (Expr.Call (Expr.Attribute (Expr.Name (Str.ofString "self") _) (Str.ofString "phone") _) _ _ _) _ _ _); refine xE_meth (DS.cls_Hall (by assumption)) (cf_phone (by assumption) (by assumption)) (Room.mono (by assumption) (by decide)) ?_))
local macro_rules | `(tactic| specialize "s3") => `(tactic| ((with_reducible show asp_phone _ _ _ _ _); refine ⟨_, _, _, _, _, rfl, (by assumption), (by assumption), (by assumption), (by assumption), ?_⟩))

local macro_rules | `(tactic| specialize "fun") => `(tactic| ((with_reducible show wE _ _ (Expr.Call (Expr.Attribute _ (Str.ofString "may_be_knocked_at") _) _ _ _) _ _ _); refine xE_meth (DS.cls_Hall (by assumption)) (cf_may (by assumption) (by assumption)) (Room.mono (by assumption) (by decide)) ?_))
local macro_rules | `(tactic| specialize "fun") => `(tactic| ((with_reducible show wE _ _ (Expr.Call (Expr.Attribute _ (Str.ofString "knock_list") _) _ _ _) _ _ _); refine xE_meth (DS.cls_Hall (by assumption)) (cf_knock (by assumption) (by assumption)) (Room.mono (by assumption) (by decide)) ?_))
local macro_rules | `(tactic| specialize "fun") => `(tactic| ((with_reducible show wE _ _ (Expr.Call (Expr.Attribute (Expr.Attribute _ (Str.ofString "way") _) (Str.ofString "go") _) _ _ _) _ _ _); refine xE_meth (DS.cls_Way (by assumption)) (cf_Way_goG (by assumption) (by assumption)) (Room.mono (by assumption) (by decide)) ?_))
local macro_rules | `(tactic| specialize "fun") => `(tactic| ((with_reducible show wE _ _ (Expr.Call (Expr.Attribute _ (Str.ofString "go_on") _) _ _ _) _ _ _); refine xE_meth (DS.cls_Hall (by assumption)) (cf_go_on (by assumption) (by assumption)) (Room.mono (by assumption) (by decide)) ?_))

local macro_rules | `(tactic| specialize "fun") => `(tactic| ((with_reducible show wE _ _ (Expr.Call (Expr.Name (Str.ofString "Call") _) _ _ _) _ _ _); refine xE_make (cf_Call_init (by assumption) (by assumption)) (Room.mono (by assumption) (by decide)) ?_))
local macro_rules | `(tactic| specialize "fun") => `(tactic| ((with_reducible show wE _ _ (Expr.Call (Expr.Name (Str.ofString "Phone") _) [] _ _) _ _ _); refine wE_make0 (cf_Phone_init (by assumption) (by assumption)) (Room.mono (by assumption) (by decide)) ?_))

local macro_rules | `(tactic| specialize "fun") => `(tactic| ((with_reducible show wE _ _ (Expr.Call (Expr.Attribute _ (Str.ofString "patience") _) _ _ _) _ _ _); refine xE_meth (DS.cls_Book (by assumption)) (cf_patience (by assumption) (by assumption)) (Room.mono (by assumption) (by decide)) ?_))

-- Y2
section
variable {P : Program} {w : World} {K : PySem.W.Frag} {mg : Str → Option Value} {base : Heap} {C_Book C_Way C_Call C_Phone C_Hall D_NN C_PE : Addr} {ν μ : Int → Int}
def hBody : List Stmt → List Stmt
  | .Try _ [.ExceptHandler _ _ b _] _ _ _ :: _ => b
  | _ => []
section
local macro_rules | `(tactic| specialize "fun") => `(tactic| ((with_reducible show wE _ _ (Expr.Call (Expr.Name (Str.ofString "isinstance") _) [_, Expr.Name (Str.ofString "NotNow") _] [] _) _ _ _); refine wE_isE (N11.exc (by assumption)) (by assumption) (by assumption) (GL.b_isinstance (by assumption)) (N11.ko (by assumption)) ?_))
local macro_rules | `(tactic| specialize "glob") => `(tactic| ((with_reducible show wE _ _ (Expr.Name (Str.ofString "NotNow") _) _ _ _); refine xE_cls (N11.exk (by assumption)).gl ?_))
local macro_rules | `(tactic| specialize "s3") => `(tactic| ((with_reducible show _ = _ ∧ _ = _ ∧ _); refine ⟨rfl, rfl, ?_⟩))
theorem not_exc {X : Cx} (G : GL X.mg) (N : N11 X.K X.mg D_NN C_PE) {g aE : Addr} {cdv : Value} {s1 : Shared} {H1 : Hp} {oe : Obj} {pn : List (Addr × Obj)}
    (hz : Zc (.ref D_NN) none oe) (hf : ∃ vs, oe.data = .fields vs) {S : Sto} {Φ : W → Sto → Prop} (h : Φ (.bl true) S) :
    wB ((zCx X ["_law_work", "_law_e"] "_law_is_not_now" s_law_is_not_now g cdv s1 H1).suite aE ((aE, oe) :: pn)) nox (hBody (defBody s_law_is_not_now)) ((List.replicate 2 none).set 1 (some (.raw (.ref aE)))) S ⟨fun _ _ => False, Φ, fun _ _ => False, fun _ _ => False⟩ := by
  specialize "go"
  exact h
end
end
section
/-- what stays of a store -/
structure Kp (S1 T : Sto) : Prop where
  le : S1.length ≤ T.length
  kp : ∀ i, i < S1.length → T[i]? = S1[i]?
theorem Kp.refl (S : Sto) : Kp S S := ⟨Nat.le_refl _, fun _ _ => rfl⟩
theorem Kp.app {S1 T : Sto} (h : Kp S1 T) (U : Sto) : Kp S1 (T ++ U) := ⟨by rw [List.length_append]; exact Nat.le_trans h.le (Nat.le_add_right _ _), fun i hi => (List.getElem?_append_left (Nat.lt_of_lt_of_le hi h.le)).trans (h.kp i hi)⟩
theorem Kp.set {S1 T : Sto} (h : Kp S1 T) {j : Nat} (hj : S1.length ≤ j) (o : O) : Kp S1 (T.set j o) := ⟨by rw [List.length_set]; exact h.le, fun i hi => (List.getElem?_set_ne (by omega)).trans (h.kp i hi)⟩
theorem Kp.at {S1 T : Sto} (h : Kp S1 T) {i : Nat} {o : O} (e : S1[i]? = some o) : T[i]? = some o := (h.kp i (List.getElem?_eq_some_iff.mp e).1).trans e
theorem Kp.nx {S1 T T' : Sto} (h : Kp S1 T) {loh loh' : Pl} {n n' : Nat} (x : Nx loh loh' n n' T T') (f : ∀ c, okC n c → S1.length ≤ loh c) : Kp S1 T' := ⟨Nat.le_trans h.le x.len, fun i hi => (x.off i (Nat.lt_of_lt_of_le hi h.le) fun c hc e => by have := f c hc; omega).trans (h.kp i hi)⟩
theorem Kp.split {S1 T U : Sto} (h : Kp S1 T) (hU : U <+: S1) : T = U ++ T.drop U.length := by
  obtain ⟨R, e⟩ := hU
  have le := h.le
  rw [← e, List.length_append] at le
  refine List.ext_getElem? fun i => ?_
  by_cases hi : i < U.length
  · rw [List.getElem?_append_left hi, h.kp i (by rw [← e, List.length_append]; omega), ← e, List.getElem?_append_left hi]
  · rw [List.getElem?_append_right (by omega), List.getElem?_drop]
    congr 1
    omega
/-- a hall above a store -/
structure HK (S1 T : Sto) (loh : Pl) (n : Nat) : Prop where
  kp : Kp S1 T
  lo : ∀ c, okC n c → S1.length ≤ loh c
theorem HK.fr {S1 T T' : Sto} {loh : Pl} {n : Nat} (h : HK S1 T loh n) (f : Fr loh n T T') : HK S1 T' loh n := ⟨h.kp.nx f.nx h.lo, h.lo⟩
theorem HK.nx {S1 T T' : Sto} {loh loh' : Pl} {n n' : Nat} (h : HK S1 T loh n) (x : Nx loh loh' n n' T T') : HK S1 T' loh' n' := ⟨h.kp.nx x h.lo, fun c hc => by
  by_cases z : okC n c
  · rw [x.same c z]; exact h.lo c z
  · exact Nat.le_trans h.kp.le (x.new c hc z)⟩
end

end
section
local macro_rules | `(tactic| specialize "fun") => `(tactic| ((with_reducible show wE _ _ (Expr.Call (Expr.Name (Str.ofString "need_wishes") _) _ _ _) _ _ _); refine xE_call (cf_need_wishes (by assumption) (by assumption)) (Room.mono (by assumption) (by decide)) ?_))
local macro_rules | `(tactic| specialize "s3") => `(tactic| ((with_reducible show asp_need_wishes _ _ _ _); refine ⟨_, rfl, (by assumption), (by assumption), (by assumption), ?_⟩))
local macro_rules | `(tactic| specialize "fun") => `(tactic| ((with_reducible show wE _ _ (Expr.Call (Expr.Name (Str.ofString "need_phone") _) _ _ _) _ _ _); refine xE_call (cf_need_phone (by assumption) (by assumption)) (Room.mono (by assumption) (by decide)) ?_))
local macro_rules | `(tactic| specialize "s3") => `(tactic| ((with_reducible show asp_need_phone _ _ _ _); refine ⟨_, rfl, (by assumption), (by assumption), ?_⟩))
local macro_rules | `(tactic| specialize "fun") => `(tactic| ((with_reducible show wE _ _ (Expr.Call (Expr.Name (Str.ofString "need_number") _) _ _ _) _ _ _); refine xE_call (cf_need_number (by assumption) (by assumption)) (Room.mono (by assumption) (by decide)) ?_))
local macro_rules | `(tactic| specialize "s3") => `(tactic| ((with_reducible show asp_need_number _ _ _ _); refine ⟨_, rfl, (by assumption), (by assumption), ?_⟩))

local macro_rules | `(tactic| specialize "fun") => `(tactic| ((with_reducible show wE _ _ (Expr.Call (Expr.Name (Str.ofString "Book") _) _ _ _) _ _ _); refine xE_make (cf_Book_init (by assumption) (by assumption)) (Room.mono (by assumption) (by decide)) ?_))
local macro_rules | `(tactic| specialize "s3") => `(tactic| ((with_reducible show asp_Book_init _ _ _ _ _); refine ⟨_, _, rfl, rfl, (by assumption), (by assumption), ⟨rfl, ?_⟩⟩))
local macro_rules | `(tactic| specialize "fun") => `(tactic| ((with_reducible show wE _ _ (Expr.Call (Expr.Attribute _ (Str.ofString "has") _) _ _ _) _ _ _); refine xE_meth (DS.cls_Book (by assumption)) (cf_has (by assumption) (by assumption)) (Room.mono (by assumption) (by decide)) ?_))
local macro_rules | `(tactic| specialize "s3") => `(tactic| ((with_reducible show asp_has _ _ _ _ _); refine ⟨_, _, _, _, rfl, (by specialize "bk"), ?_⟩))
local macro_rules | `(tactic| specialize "bk") => `(tactic| first | assumption | exact ⟨_, (by specialize "nth"), (by specialize "nth")⟩)
local macro_rules | `(tactic| specialize "fun") => `(tactic| ((with_reducible show wE _ _ (Expr.Call (Expr.Attribute _ (Str.ofString "bars") _) _ _ _) _ _ _); refine xE_meth (DS.cls_Book (by assumption)) (cf_bars (by assumption) (by assumption)) (Room.mono (by assumption) (by decide)) ?_))
local macro_rules | `(tactic| specialize "s3") => `(tactic| ((with_reducible show asp_bars _ _ _ _ _); refine ⟨_, _, _, _, rfl, (by specialize "bk"), ?_⟩))
local macro_rules | `(tactic| specialize "fun") => `(tactic| ((with_reducible show wE _ _ (Expr.Call (Expr.Attribute _ (Str.ofString "goal") _) _ _ _) _ _ _); refine xE_meth (DS.cls_Book (by assumption)) (cf_goal (by assumption) (by assumption)) (Room.mono (by assumption) (by decide)) ?_))
local macro_rules | `(tactic| specialize "fun") => `(tactic| ((with_reducible show wE _ _ (Expr.Call (Expr.Attribute _ (Str.ofString "members") _) _ _ _) _ _ _); refine xE_meth (DS.cls_Book (by assumption)) (cf_members (by assumption) (by assumption)) (Room.mono (by assumption) (by decide)) ?_))
local macro_rules | `(tactic| specialize "s3") => `(tactic| ((with_reducible show asp_members _ _ _ _ _); refine ⟨_, _, _, rfl, (by specialize "bk"), ?_⟩))

local macro_rules | `(tactic| specialize "fun") => `(tactic| ((with_reducible show wE _ _ (Expr.Call (Expr.Name (Str.ofString "rings_at") _) _ _ _) _ _ _); refine xE_call (cf_rings_at (by assumption) (by assumption)) (Room.mono (by assumption) (by decide)) ?_))
local macro_rules | `(tactic| specialize "s3") => `(tactic| ((with_reducible show asp_rings_at _ _ _ _ _); refine ⟨_, _, _, _, _, _, rfl, (by first | assumption | exact fun _ => rfl), (by specialize "bk"), (by assumption), (by assumption), ?_⟩))
local macro_rules | `(tactic| specialize "fun") => `(tactic| ((with_reducible show wE _ _ (Expr.Call (Expr.Name (Str.ofString "next_of") _) _ _ _) _ _ _); refine xE_call (cf_next_of (by assumption) (by assumption)) (Room.mono (by assumption) (by decide)) ?_))
local macro_rules | `(tactic| specialize "s3") => `(tactic| ((with_reducible show asp_next_of _ _ _ _ _); refine ⟨_, _, _, _, _, _, _, rfl, (by first | assumption | exact fun _ => rfl), (by specialize "bk"), (by first | assumption | omega), (by first | assumption | omega), (by assumption), (by assumption), _, (by first | assumption | rfl), ?_⟩))

local macro_rules | `(tactic| specialize "fun") => `(tactic| ((with_reducible show wE _ _ (Expr.Call (Expr.Name (Str.ofString "Way") _) _ _ _) _ _ _); refine xE_make (cf_Way_init (by assumption) (by assumption)) (Room.mono (by assumption) (by decide)) ?_))
local macro_rules | `(tactic| specialize "s3") => `(tactic| ((with_reducible show asp_Way_init _ _ _ _ _); refine ⟨_, _, _, rfl, rfl, ⟨rfl, ?_⟩⟩))
local macro_rules | `(tactic| specialize "fun") => `(tactic| ((with_reducible show wE _ _ (Expr.Call (Expr.Attribute _ (Str.ofString "step") _) _ _ _) _ _ _); refine xE_meth (DS.cls_Way (by assumption)) (cf_Way_step (by assumption) (by assumption)) (Room.mono (by assumption) (by decide)) ?_))
local macro_rules | `(tactic| specialize "s3") => `(tactic| ((with_reducible show asp_Way_step _ _ _ _ _ _); refine ⟨_, _, _, _, _, _, _, _, _, _, _, rfl, (by first | assumption | exact fun _ => rfl), (by assumption), (by assumption), (by assumption), (by first | assumption | omega), (by first | assumption | omega), (by assumption), (by assumption), (by assumption), (by assumption), ?_⟩))
local macro_rules | `(tactic| specialize "fun") => `(tactic| ((with_reducible show wE _ _ (Expr.Call (Expr.Attribute _ (Str.ofString "go") _) _ _ _) _ _ _); refine xE_meth (DS.cls_Way (by assumption)) (cf_Way_go (by assumption) (by assumption)) (Room.mono (by assumption) (by decide)) ?_))

local macro_rules | `(tactic| specialize "fun") => `(tactic| ((with_reducible show wE _ _ (Expr.Call (Expr.Attribute _ (Str.ofString "silence") _) _ _ _) _ _ _); refine xE_meth (DS.cls_Hall (by assumption)) (cf_silence (by assumption) (by assumption)) (Room.mono (by assumption) (by decide)) ?_))
local macro_rules | `(tactic| specialize "s3") => `(tactic| ((with_reducible show asp_silence _ _ _ _ _); refine ⟨_, _, _, _, rfl, (by assumption), (by assumption), ?_⟩))
local macro_rules | `(tactic| specialize "fun") => `(tactic| ((with_reducible show wE _ _ (Expr.Call (Expr.Attribute _ (Str.ofString "over") _) _ _ _) _ _ _); refine xE_meth (DS.cls_Hall (by assumption)) (cf_over (by assumption) (by assumption)) (Room.mono (by assumption) (by decide)) ?_))
local macro_rules | `(tactic| specialize "s3") => `(tactic| ((with_reducible show asp_over _ _ _ _ _); refine ⟨_, _, _, _, rfl, (by assumption), (by assumption), ?_⟩))
local macro_rules | `(tactic| specialize "fun") => `(tactic| ((with_reducible show wE _ _ (Expr.Call (Expr.Attribute _ (Str.ofString "answer") _) _ _ _) _ _ _); refine xE_meth (DS.cls_Hall (by assumption)) (cf_answer (by assumption) (by assumption)) (Room.mono (by assumption) (by decide)) ?_))
local macro_rules | `(tactic| specialize "s3") => `(tactic| ((with_reducible show asp_answer _ _ _ _ _); refine ⟨_, _, _, _, _, rfl, (by assumption), (by assumption), (by assumption), (by assumption), (by assumption), ?_⟩))
local macro_rules | `(tactic| specialize "fun") => `(tactic| ((with_reducible show wE _ _ (Expr.Call (Expr.Attribute _ (Str.ofString "leave") _) _ _ _) _ _ _); refine xE_meth (DS.cls_Hall (by assumption)) (cf_leave (by assumption) (by assumption)) (Room.mono (by assumption) (by decide)) ?_))
local macro_rules | `(tactic| specialize "fun") => `(tactic| ((with_reducible show wE _ _ (Expr.Call (Expr.Attribute _ (Str.ofString "need_talk") _) _ _ _) _ _ _); refine xE_meth (DS.cls_Hall (by assumption)) (cf_need_talk (by assumption) (by assumption)) (Room.mono (by assumption) (by decide)) ?_))
local macro_rules | `(tactic| specialize "s3") => `(tactic| ((with_reducible show asp_need_talk _ _ _ _ _); refine ⟨_, _, _, _, rfl, (by assumption), (by assumption), (by assumption), (by assumption), ?_⟩))
local macro_rules | `(tactic| specialize "fun") => `(tactic| ((with_reducible show wE _ _ (Expr.Call (Expr.Attribute (Expr.Name (Str.ofString "self") _) (Str.ofString "phone") _) _ _ _) _ _ _); refine xE_meth (DS.cls_Hall (by assumption)) (cf_phone (by assumption) (by assumption)) (Room.mono (by assumption) (by decide)) ?_))
local macro_rules | `(tactic| specialize "s3") => `(tactic| ((with_reducible show asp_phone _ _ _ _ _); refine ⟨_, _, _, _, _, rfl, (by assumption), (by assumption), (by assumption), (by assumption), ?_⟩))

local macro_rules | `(tactic| specialize "fun") => `(tactic| ((with_reducible show wE _ _ (Expr.Call (Expr.Attribute _ (Str.ofString "may_be_knocked_at") _) _ _ _) _ _ _); refine xE_meth (DS.cls_Hall (by assumption)) (cf_may (by assumption) (by assumption)) (Room.mono (by assumption) (by decide)) ?_))
local macro_rules | `(tactic| specialize "fun") => `(tactic| ((with_reducible show wE _ _ (Expr.Call (Expr.Attribute _ (Str.ofString "knock_list") _) _ _ _) _ _ _); refine xE_meth (DS.cls_Hall (by assumption)) (cf_knock (by assumption) (by assumption)) (Room.mono (by assumption) (by decide)) ?_))
local macro_rules | `(tactic| specialize "fun") => `(tactic| ((with_reducible show wE _ _ (Expr.Call (Expr.Attribute (Expr.Attribute _ (Str.ofString "way") _) (Str.ofString "go") _) _ _ _) _ _ _); refine xE_meth (DS.cls_Way (by assumption)) (cf_Way_goG (by assumption) (by assumption)) (Room.mono (by assumption) (by decide)) ?_))
local macro_rules | `(tactic| specialize "fun") => `(tactic| ((with_reducible show wE _ _ (Expr.Call (Expr.Attribute _ (Str.ofString "go_on") _) _ _ _) _ _ _); refine xE_meth (DS.cls_Hall (by assumption)) (cf_go_on (by assumption) (by assumption)) (Room.mono (by assumption) (by decide)) ?_))

local macro_rules | `(tactic| specialize "fun") => `(tactic| ((with_reducible show wE _ _ (Expr.Call (Expr.Name (Str.ofString "Call") _) _ _ _) _ _ _); refine xE_make (cf_Call_init (by assumption) (by assumption)) (Room.mono (by assumption) (by decide)) ?_))
local macro_rules | `(tactic| specialize "fun") => `(tactic| ((with_reducible show wE _ _ (Expr.Call (Expr.Name (Str.ofString "Phone") _) [] _ _) _ _ _); refine wE_make0 (cf_Phone_init (by assumption) (by assumption)) (Room.mono (by assumption) (by decide)) ?_))

local macro_rules | `(tactic| specialize "fun") => `(tactic| ((with_reducible show wE _ _ (Expr.Call (Expr.Attribute _ (Str.ofString "patience") _) _ _ _) _ _ _); refine xE_meth (DS.cls_Book (by assumption)) (cf_patience (by assumption) (by assumption)) (Room.mono (by assumption) (by decide)) ?_))

local macro_rules | `(tactic| specialize "fun") => `(tactic| ((with_reducible show wE _ _ (Expr.Call (Expr.Name (Str.ofString "_law_taken") _) _ _ _) _ _ _); refine xE_call (cf_law_taken (by assumption) (by assumption)) (Room.mono (by assumption) (by decide)) ?_))
local macro_rules | `(tactic| specialize "s3") => `(tactic| ((with_reducible show asp_taken _ _ _ _ _); refine ⟨_, _, rfl, (by specialize "nth"), (by first | decide | omega), (by first | decide | omega), ?_⟩))

-- Y3
section
variable {P : Program} {w : World} {K : PySem.W.Frag} {mg : Str → Option Value} {base : Heap} {C_Book C_Way C_Call C_Phone C_Hall D_NN C_PE : Addr} {ν μ : Int → Int}
theorem wGs_c {X : Cx} {Ψ : AX} {t : Expr} {ts : List Expr} {w : W} {ws : List W} {E : AEnv} {S : Sto} {Φ : AEnv → Sto → Prop} (h : wG X Ψ t w E S fun E2 S2 => wGs X Ψ ts ws E2 S2 Φ) : wGs X Ψ (t :: ts) (w :: ws) E S Φ := h
theorem wGs_n {X : Cx} {Ψ : AX} {E : AEnv} {S : Sto} {Φ : AEnv → Sto → Prop} (h : Φ E S) : wGs X Ψ [] [] E S Φ := h
theorem dialW_eq {w : Str} {es cs : List Int} : eqW (.tup [.str w, .tup (intsW es), .lst (intsW cs)]) (.tup [.str w, .tup (intsW es), .lst (intsW cs)]) = true := by
  rw [eqW_tt, eqW_str, eqW_tt, eqW_ints, eqW_tt, eqW_t0, show eqW (.lst (intsW cs)) (.lst (intsW cs)) = decide (cs = cs) from eqW_map (fun _ _ => eqW_int) cs cs]
  simp
theorem dialW_ok {w : Str} {es cs : List Int} (hw : PyData.strOk w = true) : W.ok (.tup [.str w, .tup (intsW es), .lst (intsW cs)]) 60 = true := by
  simp only [W.ok, W.oks, oks_ints, Bool.and_true]
  exact hw
def asp_at (Pt : Addr) (q : Str) : ASp := fun ws S Φ _ => ∃ (ν μ : Int → Int) (m : Nat), ws = [.lst [.int (ν 0), .int (ν 1), .int (ν 2), .int (ν 3), .int (ν 4), .int (ν 5)], .int m] ∧ Ren ν μ ∧ ν 6 = 6 ∧ 1 ≤ m ∧ m ≤ 9 ∧ S[0]? = some (.tab Pt q) ∧ Φ (.bl true) S
section
local macro_rules | `(tactic| specialize "fun") => `(tactic| first
  | ((with_reducible show wE _ _ (Expr.Call (Expr.Attribute (Expr.Name (Str.ofString "_law_hall") _) (Str.ofString "hear") _) _ _ _) _ _ _); refine xE_meth (DS.cls_Hall (by assumption)) (cf_hearR (by assumption) (by assumption) (by assumption)) (Room.mono (by assumption) (by decide)) ?_)
  | ((with_reducible show wE _ _ (Expr.Call (Expr.Attribute (Expr.Name (Str.ofString "_law_hall") _) (Str.ofString "lift") _) _ _ _) _ _ _); refine xE_meth (DS.cls_Hall (by assumption)) (cf_liftR (by assumption) (by assumption) (by assumption)) (Room.mono (by assumption) (by decide)) ?_)
  | ((with_reducible show wE _ _ (Expr.Call (Expr.Attribute (Expr.Name (Str.ofString "_law_hall") _) (Str.ofString "drop") _) _ _ _) _ _ _); refine xE_meth (DS.cls_Hall (by assumption)) (cf_dropR (by assumption) (by assumption) (by assumption)) (Room.mono (by assumption) (by decide)) ?_)
  | ((with_reducible show wE _ _ (Expr.Call (Expr.Attribute (Expr.Name (Str.ofString "_law_hall") _) (Str.ofString "hold") _) _ _ _) _ _ _); refine xE_meth (DS.cls_Hall (by assumption)) (cf_holdR (by assumption) (by assumption) (by assumption)) (Room.mono (by assumption) (by decide)) ?_)
  | ((with_reducible show wE _ _ (Expr.Call (Expr.Attribute (Expr.Name (Str.ofString "_law_hall") _) (Str.ofString "dial") _) _ _ _) _ _ _); refine xE_meth (DS.cls_Hall (by assumption)) (cf_dialR (by assumption) (by assumption) (by assumption)) (Room.mono (by assumption) (by decide)) ?_)
  | ((with_reducible show wE _ _ (Expr.Call (Expr.Attribute (Expr.Name (Str.ofString "_law_hall") _) (Str.ofString "beat") _) [] _ _) _ _ _); refine wE_meth0 (DS.cls_Hall (by assumption)) (cf_beatR (by assumption) (by assumption) (by assumption)) (Room.mono (by assumption) (by decide)) ?_)
  | ((with_reducible show wE _ _ (Expr.Call (Expr.Name (Str.ofString "Hall") _) _ _ _) _ _ _); refine xE_make (cf_Hall_initL (by assumption) (by assumption)) (Room.mono (by assumption) (by decide)) ?_))
local macro_rules | `(tactic| specialize "cmT") => `(tactic| first
  | ((with_reducible show wT _ _ (Expr.Compare (Expr.Call (Expr.Attribute _ (Str.ofString "dial") _) _ _ _) [CmpOp.NotEq] [_] _) _ _ _); refine xT_neY (Room.u65 (by assumption)) ?_))
local macro_rules | `(tactic| specialize "gg") => `(tactic| ((with_reducible show wG _ _ (Expr.Tuple [_, _, _, _, _, _] _ _) _ _ _ _); refine xG_lst rfl (by (repeat (first | exact Each.nil | refine Each.cons rfl ?_))) ?_; refine ⟨_, rfl, (fun _ z => nomatch z), rfl, ?_⟩))
local macro_rules | `(tactic| specialize "st") => `(tactic| ((with_reducible show wS _ _ (Stmt.For _ _ _ _ _) _ _ _); refine stop_i ?_))
local macro_rules | `(tactic| specialize "s3") => `(tactic| ((with_reducible show wGs _ _ _ _ _ _ _); first | refine wGs_c ?_ | refine wGs_n ?_))
theorem cf_at {c Pt : Addr} (G : GL mg) (D : DS K mg C_Book C_Way C_Call C_Phone C_Hall) (N : N11 K mg D_NN C_PE) (hc : CodeAt K mg "_law_at_length" c) (TB : LamX.TabB base mg c Pt) : CFn P w K mg base "_law_at_length" 9 2 (asp_at Pt (("_law_at_length" : Str) ++ ".<locals>." ++ "<lambda>")) := by
  refine D.d_law_at_length.fnC hc sc_law_at_length fun f A outer s H E hr ws S Φ Ψ hl hS ha => ?_
  obtain ⟨ν, μ, m, rfl, R, h6, m1, m9, ht, hΦ⟩ := ha
  have xok := lX_ok m1 m9
  obtain ⟨sA, sB, sC, sD, sE, sG, sH, sI, sJ, sK, Wz⟩ := lw m1 m9
  specialize "go"
  refine ⟨S, ((lX m).map (Wish.re ν)), ?_, rfl, Nat.le_of_ble_eq_true rfl, fun x hx => ?_, R.keys ?_, ?_⟩
  · show [W.ref S.length, W.lst [.tup [.str "wait", .int (ν 0)], .tup [.str "wait", .int (ν 1)], .tup [.str "late", .int (ν 5), .int 6, .int (m : Int)]]] = [W.ref S.length, W.lst [.tup [.str "wait", .int (ν 0)], .tup [.str "wait", .int (ν 1)], .tup [.str "late", .int (ν 5), .int (ν 6), .int (m : Int)]]]
    rw [h6]
  · obtain ⟨y, hy, rfl⟩ := List.mem_map.mp hx
    exact R.ok (xok y hy)
  · exact of_decide_eq_true (by kernel_rfl)
  refine ⟨rfl, ?_⟩
  have h0 : HallAt (Cs.mk C_Book C_Way C_Call C_Phone C_Hall) (S ++ iniO (Cs.mk C_Book C_Way C_Call C_Phone C_Hall) S.length ((lX m).map (Wish.re ν))) (iniLoc S.length) ((lX m).map (Wish.re ν)) (Hl.new.re ν μ) := HallAt.iniR
  have k0 : HK S (S ++ iniO (Cs.mk C_Book C_Way C_Call C_Phone C_Hall) S.length ((lX m).map (Wish.re ν))) (iniLoc S.length) 0 := ⟨(Kp.refl S).app _, fun c _ => iniLoc_le⟩
  generalize S ++ iniO (Cs.mk C_Book C_Way C_Call C_Phone C_Hall) S.length ((lX m).map (Wish.re ν)) = T0 at h0 k0 ⊢
  have eh : iniLoc S.length .hall = S.length := rfl
  rw [show Hl.new = sF [0, 2, 3, 4] 0 from rfl] at h0
  generalize iniLoc S.length = locA at h0 k0 eh
  specialize "go"
  unfold Stop
  refine wS_for (passes_of rfl) rfl ?_
  specialize "go"
  refine ⟨fun i E' T => (∃ a, E' = [some (.lst [.int (ν 0), .int (ν 1), .int (ν 2), .int (ν 3), .int (ν 4), .int (ν 5)]), some (.int m), some (.int (ν 0)), some (.int (ν 1)), some (.int (ν 2)), some (.int (ν 3)), some (.int (ν 4)), some (.int (ν 5)), some (.ref (locA .hall)), a, none]) ∧ HallAt (Cs.mk C_Book C_Way C_Call C_Phone C_Hall) T locA ((lX m).map (Wish.re ν)) ((sF [0, 2, 3, 4] i).re ν μ) ∧ HK S T locA 0, ⟨⟨_, by rw [eh]; rfl⟩, h0, k0⟩, fun _ _ _ _ => trivial, ?_, ?_⟩
  · rintro i w E' T hw ⟨⟨a, rfl⟩, hh, hk⟩
    obtain ⟨p, hp, rfl⟩ : ∃ p, ([0, 2, 3, 4] : List Int)[i]? = some p ∧ w = W.int (ν p) := map_inv (xs := ([0, 2, 3, 4] : List Int)) (f := fun p => W.int (ν p)) hw
    obtain ⟨p0, p5, up, es, en⟩ := sF_step (.inl rfl) hp
    have iv : Inv (sF [0, 2, 3, 4] i) := sF_inv (.inl rfl) i (Nat.le_of_lt (List.getElem?_eq_some_iff.mp hp).1)
    have f0 := hh.hall
    generalize sF [0, 2, 3, 4] i = si at hh iv up es en
    specialize "go"
    refine ⟨locA, _, si, p, rfl, hh, iv, p0, p5, up, ?_⟩
    intro T1 h1 fr1
    rw [en] at fr1
    rw [← es] at h1
    specialize "go"
    try dsimp only
    refine dropTo.as ?_
    exact ⟨⟨_, rfl⟩, h1, hk.fr fr1⟩
  · rintro E' T ⟨⟨a, rfl⟩, hA, kA⟩
    have hA : HallAt (Cs.mk C_Book C_Way C_Call C_Phone C_Hall) T locA ((lX m).map (Wish.re ν)) ((sF [0, 2, 3, 4] 4).re ν μ) := hA
    rw [Wz.a] at hA
    clear h0 k0
    have fA := hA.hall
    specialize "go"
    refine ⟨locA, lX m, sA, 0, 1, rfl, hA, Wz.iA, xok, by decide, by decide, by decide, by decide, by rw [Wz.pA]; rfl, by rw [Wz.pA]; rfl, by rw [Wz.pA]; rfl, Wz.oA, ?_⟩
    intro UB locB jB hB nxB j1B _ _
    rw [Wz.b] at hB j1B
    try rw [Wz.b]
    rw [Wz.nA] at nxB j1B
    try rw [Wz.nA]
    have kB := kA.nx nxB
    have ehB := nxB.same .hall trivial
    have fB := hB.hall
    rw [← ehB]
    specialize "go"
    refine ⟨locB, _, sB, 1, rfl, hB, Wz.iB, by decide, by decide, Wz.pB, ?_⟩
    intro TC hC frC
    rw [Wz.c] at hC
    rw [Wz.nB] at frC
    have kC := kB.fr frC
    have fC := hC.hall
    specialize "go"
    refine ⟨locB, lX m, sC, 2, 0, rfl, hC, Wz.iC, xok, by decide, by decide, by decide, by decide, by rw [Wz.pC]; rfl, by rw [Wz.pC]; rfl, by rw [Wz.pC]; rfl, Wz.oC, ?_⟩
    intro TD locD jD hD nxD j1D _ _
    rw [Wz.d] at hD j1D
    try rw [Wz.d]
    rw [Wz.nC] at nxD j1D
    try rw [Wz.nC]
    rw [Wz.yD] at j1D ⊢
    have kD := kC.nx nxD
    have ehD := nxD.same .hall trivial
    have fD := hD.hall
    rw [← ehD]
    specialize "go"
    refine ⟨locD, lX m, sD, 3, 1, rfl, hD, Wz.iD, xok, by decide, by decide, by decide, by decide, by rw [Wz.pD]; rfl, by rw [Wz.pD]; rfl, by rw [Wz.pD]; rfl, Wz.oD, ?_⟩
    intro TE locE jE hE nxE j1E _ _
    rw [Wz.e] at hE j1E
    try rw [Wz.e]
    rw [Wz.nD] at nxE j1E
    try rw [Wz.nD]
    rw [Wz.yE] at j1E ⊢
    have kE := kD.nx nxE
    have ehE := nxE.same .hall trivial
    have fE := hE.hall
    rw [← ehE]
    specialize "go"
    refine ⟨locE, lX m, sE, 4, 5, rfl, hE, Wz.iE, xok, by decide, by decide, by decide, by decide, by rw [Wz.pE]; rfl, by rw [Wz.pE]; rfl, by rw [Wz.pE]; rfl, Wz.oE, ?_⟩
    intro TF locF jF hF nxF j1F _ _
    rw [Wz.f] at hF j1F
    try rw [Wz.f]
    rw [Wz.nE] at nxF j1F
    try rw [Wz.nE]
    rw [Wz.yF] at j1F ⊢
    have kF := kE.nx nxF
    have ehF := nxF.same .hall trivial
    have fF := hF.hall
    rw [← ehF]
    specialize "go"
    show sNeY (W.tup [.str "rings", .tup (intsW (sortI (List.map ν [5]))), .ref jF]) _ _ _
    rw [show sortI (List.map ν [5]) = [ν 5] from sortI_one]
    refine sNeY_i (cs := [ν 5]) j1F (dialW_ok (es := [ν 5]) (cs := [ν 5]) (by decide +kernel)) dialW_eq (dialW_ok (by decide +kernel)) ?_
    clear j1F hE fE hD fD hC fC hB fB hA fA
    specialize "go"
    unfold Stop
    refine wS_for (passes_of rfl) rfl ?_
    specialize "go"
    refine ⟨fun i E' T => (∃ a b, E' = [some (.lst [.int (ν 0), .int (ν 1), .int (ν 2), .int (ν 3), .int (ν 4), .int (ν 5)]), some (.int m), some (.int (ν 0)), some (.int (ν 1)), some (.int (ν 2)), some (.int (ν 3)), some (.int (ν 4)), some (.int (ν 5)), some (.ref (locF .hall)), a, b]) ∧ HallAt (Cs.mk C_Book C_Way C_Call C_Phone C_Hall) T locF ((lX m).map (Wish.re ν)) ((sG i).re ν μ) ∧ HK S T locF 4, ⟨⟨_, _, rfl⟩, hF, kF⟩, fun _ _ _ _ => trivial, ?_, ?_⟩
    · rintro i w E' T hw ⟨⟨a, b, rfl⟩, hh, hk⟩
      obtain ⟨x, hx, rfl⟩ := map_inv hw
      have hi : i < m := by
        have := (List.getElem?_eq_some_iff.mp hx).1
        rw [List.length_range] at this
        omega
      have f0 := hh.hall
      specialize "go"
      refine ⟨locF, _, sG i, 4, rfl, hh, Wz.iG i, by decide, by decide, ?_⟩
      rw [Wz.hG i hi]
      dsimp only
      rw [show sortI (List.map ν []) = [] from sortI_nil]
      specialize "go"
      refine ⟨_, _, rfl, f0, rfl, locF, lX m, sG i, rfl, hh, Wz.iG i, xok, Wz.oG i (Nat.le_of_lt hi), ?_⟩
      intro T1 h1 fr1
      rw [Wz.nG i (Nat.le_of_lt hi)] at fr1
      rw [Wz.g] at h1
      specialize "go"
      try dsimp only
      refine dropTo.as ?_
      exact ⟨⟨_, _, rfl⟩, h1, hk.fr fr1⟩
    · rintro E' T ⟨⟨a, b, rfl⟩, hG, kG⟩
      have em : (rangeW 0 (Int.toNat (m : Int))).length = m := by rw [rangeW, List.length_map, List.length_range]; omega
      rw [em] at hG
      clear em hF fF kF
      have fG := hG.hall
      specialize "go"
      refine ⟨locF, _, sG m, 4, rfl, hG, Wz.iG m, by decide, by decide, ?_⟩
      rw [Wz.g4]
      dsimp only
      rw [show sortI (List.map ν []) = [] from sortI_nil]
      specialize "go"
      refine ⟨locF, _, sG m, 4, rfl, hG, Wz.iG m, by decide, by decide, Wz.u4, ?_⟩
      intro T2 h2 fr2
      rw [Wz.h] at h2
      rw [Wz.nG m (Nat.le_refl _)] at fr2
      have k2 := kG.fr fr2
      have f2 := h2.hall
      specialize "go"
      refine ⟨locF, _, sH, 0, rfl, h2, by decide, by decide, Wz.h0, Wz.h1, Wz.h2, ?_⟩
      intro T3 h3 fr3
      rw [Wz.i] at h3
      rw [Wz.nH] at fr3
      have k3 := k2.fr fr3
      have f3 := h3.hall
      specialize "go"
      refine ⟨locF, lX m, sI, 0, 4, rfl, h3, Wz.iI, xok, by decide, by decide, by decide, by decide, Wz.i0, Wz.i1, Wz.i2, Wz.oI, ?_⟩
      intro TJ locJ jJ hJ nxJ j1J _ _
      rw [Wz.j] at hJ j1J ⊢
      rw [Wz.nI] at nxJ j1J ⊢
      rw [Wz.yJ] at j1J ⊢
      have kJ := k3.nx nxJ
      have ehJ := nxJ.same .hall trivial
      have fJ := hJ.hall
      rw [← ehJ]
      specialize "go"
      show sNeY (W.tup [.str "rings", .tup (intsW (sortI (List.map ν [4]))), .ref jJ]) _ _ _
      rw [show sortI (List.map ν [4]) = [ν 4] from sortI_one]
      refine sNeY_i (cs := [ν 4]) j1J (dialW_ok (es := [ν 4]) (cs := [ν 4]) (by decide +kernel)) dialW_eq (dialW_ok (by decide +kernel)) ?_
      clear j1J h3 f3 h2 f2 hG fG
      specialize "go"
      refine ⟨locJ, _, sJ, 0, rfl, hJ, Wz.iJ, by decide, by decide, ?_⟩
      rw [Wz.j0]
      dsimp only
      rw [show sortI (List.map ν []) = [] from sortI_nil]
      specialize "go"
      refine wE_lamWord (k := 6) (Ψ1 := fun cls fs _ S2 => cls = .ref D_NN ∧ fs = [] ∧ S2 = TJ) (Φ1 := fun _ _ => False) (i := 1) (en := "_law_e") (xn := "PhoneError") (cE := .ref C_PE) D.d_law_is_not_now rfl sc_law_is_not_now rfl (.inl rfl) rfl (by decide) rfl rfl N.pe rfl rfl TB rfl (kJ.kp.at ht) hr (LamX.lamS_by (by kernel_rfl)) rfl (fun _ _ _ _ _ => rfl) ?body (fun _ _ _ _ _ _ _ _ z => z.elim) ?exc
      case body =>
        intro A' outer' s0 H0 Ech f' d' hr'
        refine xE_meth (DS.cls_Hall (by assumption)) (cf_swapYR (by assumption) (by assumption) (by assumption) (by assumption)) (Room.mono (by assumption) (by decide)) ?_
        specialize "go"
        exact ⟨locJ, _, sJ, 0, 4, rfl, hJ, by decide, by decide, Wz.s0, Wz.s1, Wz.s2, by rw [Wz.s3]; exact fun z => (nomatch z), rfl, rfl, rfl⟩
      case exc =>
        rintro cls fs E2 S2 ⟨rfl, rfl, rfl⟩
        refine ⟨N.em, fun g cdv s1 H1 aE oe dd pn hr2 hz hf hd => ?_⟩
        cases hd rfl
        refine not_exc G N hz hf ?_
        specialize "go"
        refine ⟨locJ, _, sJ, 4, rfl, hJ, Wz.iJ, by decide, by decide, Wz.j4, ?_⟩
        intro TK hK frK
        rw [Wz.k] at hK
        rw [Wz.nJ] at frK
        have kK := kJ.fr frK
        have fK := hK.hall
        specialize "go"
        refine wE_lamWord (k := 6) (Ψ1 := fun cls fs _ S2 => cls = .ref D_NN ∧ fs = [] ∧ S2 = TK) (Φ1 := fun _ _ => False) (i := 1) (en := "_law_e") (xn := "PhoneError") (cE := .ref C_PE) D.d_law_is_not_now rfl sc_law_is_not_now rfl (.inl rfl) rfl (by decide) rfl rfl N.pe rfl rfl TB rfl (kK.kp.at ht) hr (LamX.lamS_by (by kernel_rfl)) rfl (fun _ _ _ _ _ => rfl) ?body (fun _ _ _ _ _ _ _ _ z => z.elim) ?exc
        case body =>
          intro A' outer' s0 H0 Ech f' d' hr'
          refine xE_meth (DS.cls_Hall (by assumption)) (cf_takeYR (by assumption) (by assumption) (by assumption) (by assumption)) (Room.mono (by assumption) (by decide)) ?_
          specialize "go"
          exact ⟨locJ, _, sK, 0, 4, rfl, hK, by decide, by decide, Wz.k0, Wz.k1, Wz.k2, by rw [Wz.k3]; exact fun z => (nomatch z), by rw [Wz.k4]; exact fun z => (nomatch z), rfl, rfl, rfl⟩
        case exc =>
          rintro cls fs E2 S2 ⟨rfl, rfl, rfl⟩
          refine ⟨N.em, fun g cdv s1 H1 aE oe dd pn hr2 hz hf hd => ?_⟩
          cases hd rfl
          refine not_exc G N hz hf ?_
          specialize "go"
          refine ⟨locJ, _, sK, 0, rfl, hK, Wz.iK, by decide, by decide, ?_⟩
          rw [Wz.kh]
          dsimp only
          rw [show sortI (List.map ν [4]) = [ν 4] from sortI_one]
          specialize "go"
          rw [kK.kp.split (List.prefix_refl _)]
          exact fin.drop (Nat.le_refl _) hS (.bl true) hΦ
end
end

end
section
local macro_rules | `(tactic| specialize "fun") => `(tactic| ((with_reducible show wE _ _ (Expr.Call (Expr.Name (Str.ofString "need_wishes") _) _ _ _) _ _ _); refine xE_call (cf_need_wishes (by assumption) (by assumption)) (Room.mono (by assumption) (by decide)) ?_))
local macro_rules | `(tactic| specialize "s3") => `(tactic| ((with_reducible show asp_need_wishes _ _ _ _); refine ⟨_, rfl, (by assumption), (by assumption), (by assumption), ?_⟩))
local macro_rules | `(tactic| specialize "fun") => `(tactic| ((with_reducible show wE _ _ (Expr.Call (Expr.Name (Str.ofString "need_phone") _) _ _ _) _ _ _); refine xE_call (cf_need_phone (by assumption) (by assumption)) (Room.mono (by assumption) (by decide)) ?_))
local macro_rules | `(tactic| specialize "s3") => `(tactic| ((with_reducible show asp_need_phone _ _ _ _); refine ⟨_, rfl, (by assumption), (by assumption), ?_⟩))
local macro_rules | `(tactic| specialize "fun") => `(tactic| ((with_reducible show wE _ _ (Expr.Call (Expr.Name (Str.ofString "need_number") _) _ _ _) _ _ _); refine xE_call (cf_need_number (by assumption) (by assumption)) (Room.mono (by assumption) (by decide)) ?_))
local macro_rules | `(tactic| specialize "s3") => `(tactic| ((with_reducible show asp_need_number _ _ _ _); refine ⟨_, rfl, (by assumption), (by assumption), ?_⟩))

local macro_rules | `(tactic| specialize "fun") => `(tactic| ((with_reducible show wE _ _ (Expr.Call (Expr.Name (Str.ofString "Book") _) _ _ _) _ _ _); refine xE_make (cf_Book_init (by assumption) (by assumption)) (Room.mono (by assumption) (by decide)) ?_))
local macro_rules | `(tactic| specialize "s3") => `(tactic| ((with_reducible show asp_Book_init _ _ _ _ _); refine ⟨_, _, rfl, rfl, (by assumption), (by assumption), ⟨rfl, ?_⟩⟩))
local macro_rules | `(tactic| specialize "fun") => `(tactic| ((with_reducible show wE _ _ (Expr.Call (Expr.Attribute _ (Str.ofString "has") _) _ _ _) _ _ _); refine xE_meth (DS.cls_Book (by assumption)) (cf_has (by assumption) (by assumption)) (Room.mono (by assumption) (by decide)) ?_))
local macro_rules | `(tactic| specialize "s3") => `(tactic| ((with_reducible show asp_has _ _ _ _ _); refine ⟨_, _, _, _, rfl, (by specialize "bk"), ?_⟩))
local macro_rules | `(tactic| specialize "bk") => `(tactic| first | assumption | exact ⟨_, (by specialize "nth"), (by specialize "nth")⟩)
local macro_rules | `(tactic| specialize "fun") => `(tactic| ((with_reducible show wE _ _ (Expr.Call (Expr.Attribute _ (Str.ofString "bars") _) _ _ _) _ _ _); refine xE_meth (DS.cls_Book (by assumption)) (cf_bars (by assumption) (by assumption)) (Room.mono (by assumption) (by decide)) ?_))
local macro_rules | `(tactic| specialize "s3") => `(tactic| ((with_reducible show asp_bars _ _ _ _ _); refine ⟨_, _, _, _, rfl, (by specialize "bk"), ?_⟩))
local macro_rules | `(tactic| specialize "fun") => `(tactic| ((with_reducible show wE _ _ (Expr.Call (Expr.Attribute _ (Str.ofString "goal") _) _ _ _) _ _ _); refine xE_meth (DS.cls_Book (by assumption)) (cf_goal (by assumption) (by assumption)) (Room.mono (by assumption) (by decide)) ?_))
local macro_rules | `(tactic| specialize "fun") => `(tactic| ((with_reducible show wE _ _ (Expr.Call (Expr.Attribute _ (Str.ofString "members") _) _ _ _) _ _ _); refine xE_meth (DS.cls_Book (by assumption)) (cf_members (by assumption) (by assumption)) (Room.mono (by assumption) (by decide)) ?_))
local macro_rules | `(tactic| specialize "s3") => `(tactic| ((with_reducible show asp_members _ _ _ _ _); refine ⟨_, _, _, rfl, (by specialize "bk"), ?_⟩))

local macro_rules | `(tactic| specialize "fun") => `(tactic| ((with_reducible show wE _ _ (Expr.Call (Expr.Name (Str.ofString "rings_at") _) _ _ _) _ _ _); refine xE_call (cf_rings_at (by assumption) (by assumption)) (Room.mono (by assumption) (by decide)) ?_))
local macro_rules | `(tactic| specialize "s3") => `(tactic| ((with_reducible show asp_rings_at _ _ _ _ _); refine ⟨_, _, _, _, _, _, rfl, (by first | assumption | exact fun _ => rfl), (by specialize "bk"), (by assumption), (by assumption), ?_⟩))
local macro_rules | `(tactic| specialize "fun") => `(tactic| ((with_reducible show wE _ _ (Expr.Call (Expr.Name (Str.ofString "next_of") _) _ _ _) _ _ _); refine xE_call (cf_next_of (by assumption) (by assumption)) (Room.mono (by assumption) (by decide)) ?_))
local macro_rules | `(tactic| specialize "s3") => `(tactic| ((with_reducible show asp_next_of _ _ _ _ _); refine ⟨_, _, _, _, _, _, _, rfl, (by first | assumption | exact fun _ => rfl), (by specialize "bk"), (by first | assumption | omega), (by first | assumption | omega), (by assumption), (by assumption), _, (by first | assumption | rfl), ?_⟩))

local macro_rules | `(tactic| specialize "fun") => `(tactic| ((with_reducible show wE _ _ (Expr.Call (Expr.Name (Str.ofString "Way") _) _ _ _) _ _ _); refine xE_make (cf_Way_init (by assumption) (by assumption)) (Room.mono (by assumption) (by decide)) ?_))
local macro_rules | `(tactic| specialize "s3") => `(tactic| ((with_reducible show asp_Way_init _ _ _ _ _); refine ⟨_, _, _, rfl, rfl, ⟨rfl, ?_⟩⟩))
local macro_rules | `(tactic| specialize "fun") => `(tactic| ((with_reducible show wE _ _ (Expr.Call (Expr.Attribute _ (Str.ofString "step") _) _ _ _) _ _ _); refine xE_meth (DS.cls_Way (by assumption)) (cf_Way_step (by assumption) (by assumption)) (Room.mono (by assumption) (by decide)) ?_))
local macro_rules | `(tactic| specialize "s3") => `(tactic| ((with_reducible show asp_Way_step _ _ _ _ _ _); refine ⟨_, _, _, _, _, _, _, _, _, _, _, rfl, (by first | assumption | exact fun _ => rfl), (by assumption), (by assumption), (by assumption), (by first | assumption | omega), (by first | assumption | omega), (by assumption), (by assumption), (by assumption), (by assumption), ?_⟩))
local macro_rules | `(tactic| specialize "fun") => `(tactic| ((with_reducible show wE _ _ (Expr.Call (Expr.Attribute _ (Str.ofString "go") _) _ _ _) _ _ _); refine xE_meth (DS.cls_Way (by assumption)) (cf_Way_go (by assumption) (by assumption)) (Room.mono (by assumption) (by decide)) ?_))

local macro_rules | `(tactic| specialize "fun") => `(tactic| ((with_reducible show wE _ _ (Expr.Call (Expr.Attribute _ (Str.ofString "silence") _) _ _ _) _ _ _); refine xE_meth (DS.cls_Hall (by assumption)) (cf_silence (by assumption) (by assumption)) (Room.mono (by assumption) (by decide)) ?_))
local macro_rules | `(tactic| specialize "s3") => `(tactic| ((with_reducible show asp_silence _ _ _ _ _); refine ⟨_, _, _, _, rfl, (by assumption), (by assumption), ?_⟩))
local macro_rules | `(tactic| specialize "fun") => `(tactic| ((with_reducible show wE _ _ (Expr.Call (Expr.Attribute _ (Str.ofString "over") _) _ _ _) _ _ _); refine xE_meth (DS.cls_Hall (by assumption)) (cf_over (by assumption) (by assumption)) (Room.mono (by assumption) (by decide)) ?_))
local macro_rules | `(tactic| specialize "s3") => `(tactic| ((with_reducible show asp_over _ _ _ _ _); refine ⟨_, _, _, _, rfl, (by assumption), (by assumption), ?_⟩))
local macro_rules | `(tactic| specialize "fun") => `(tactic| ((with_reducible show wE _ _ (Expr.Call (Expr.Attribute _ (Str.ofString "answer") _) _ _ _) _ _ _); refine xE_meth (DS.cls_Hall (by assumption)) (cf_answer (by assumption) (by assumption)) (Room.mono (by assumption) (by decide)) ?_))
local macro_rules | `(tactic| specialize "s3") => `(tactic| ((with_reducible show asp_answer _ _ _ _ _); refine ⟨_, _, _, _, _, rfl, (by assumption), (by assumption), (by assumption), (by assumption), (by assumption), ?_⟩))
local macro_rules | `(tactic| specialize "fun") => `(tactic| ((with_reducible show wE _ _ (Expr.Call (Expr.Attribute _ (Str.ofString "leave") _) _ _ _) _ _ _); refine xE_meth (DS.cls_Hall (by assumption)) (cf_leave (by assumption) (by assumption)) (Room.mono (by assumption) (by decide)) ?_))
local macro_rules | `(tactic| specialize "fun") => `(tactic| ((with_reducible show wE _ _ (Expr.Call (Expr.Attribute _ (Str.ofString "need_talk") _) _ _ _) _ _ _); refine xE_meth (DS.cls_Hall (by assumption)) (cf_need_talk (by assumption) (by assumption)) (Room.mono (by assumption) (by decide)) ?_))
local macro_rules | `(tactic| specialize "s3") => `(tactic| ((with_reducible show asp_need_talk _ _ _ _ _); refine ⟨_, _, _, _, rfl, (by assumption), (by assumption), (by assumption), (by assumption), ?_⟩))
local macro_rules | `(tactic| specialize "fun") => `(tactic| ((with_reducible show wE _ _ (Expr.Call (Expr.Attribute (Expr.Name (Str.ofString "self") _) (Str.ofString "phone") _) _ _ _) _ _ _); refine xE_meth (DS.cls_Hall (by assumption)) (cf_phone (by assumption) (by assumption)) (Room.mono (by assumption) (by decide)) ?_))
local macro_rules | `(tactic| specialize "s3") => `(tactic| ((with_reducible show asp_phone _ _ _ _ _); refine ⟨_, _, _, _, _, rfl, (by assumption), (by assumption), (by assumption), (by assumption), ?_⟩))

local macro_rules | `(tactic| specialize "fun") => `(tactic| ((with_reducible show wE _ _ (Expr.Call (Expr.Attribute _ (Str.ofString "may_be_knocked_at") _) _ _ _) _ _ _); refine xE_meth (DS.cls_Hall (by assumption)) (cf_may (by assumption) (by assumption)) (Room.mono (by assumption) (by decide)) ?_))
local macro_rules | `(tactic| specialize "fun") => `(tactic| ((with_reducible show wE _ _ (Expr.Call (Expr.Attribute _ (Str.ofString "knock_list") _) _ _ _) _ _ _); refine xE_meth (DS.cls_Hall (by assumption)) (cf_knock (by assumption) (by assumption)) (Room.mono (by assumption) (by decide)) ?_))
local macro_rules | `(tactic| specialize "fun") => `(tactic| ((with_reducible show wE _ _ (Expr.Call (Expr.Attribute (Expr.Attribute _ (Str.ofString "way") _) (Str.ofString "go") _) _ _ _) _ _ _); refine xE_meth (DS.cls_Way (by assumption)) (cf_Way_goG (by assumption) (by assumption)) (Room.mono (by assumption) (by decide)) ?_))
local macro_rules | `(tactic| specialize "fun") => `(tactic| ((with_reducible show wE _ _ (Expr.Call (Expr.Attribute _ (Str.ofString "go_on") _) _ _ _) _ _ _); refine xE_meth (DS.cls_Hall (by assumption)) (cf_go_on (by assumption) (by assumption)) (Room.mono (by assumption) (by decide)) ?_))

local macro_rules | `(tactic| specialize "fun") => `(tactic| ((with_reducible show wE _ _ (Expr.Call (Expr.Name (Str.ofString "Call") _) _ _ _) _ _ _); refine xE_make (cf_Call_init (by assumption) (by assumption)) (Room.mono (by assumption) (by decide)) ?_))
local macro_rules | `(tactic| specialize "fun") => `(tactic| ((with_reducible show wE _ _ (Expr.Call (Expr.Name (Str.ofString "Phone") _) [] _ _) _ _ _); refine wE_make0 (cf_Phone_init (by assumption) (by assumption)) (Room.mono (by assumption) (by decide)) ?_))

local macro_rules | `(tactic| specialize "fun") => `(tactic| ((with_reducible show wE _ _ (Expr.Call (Expr.Attribute _ (Str.ofString "patience") _) _ _ _) _ _ _); refine xE_meth (DS.cls_Book (by assumption)) (cf_patience (by assumption) (by assumption)) (Room.mono (by assumption) (by decide)) ?_))

local macro_rules | `(tactic| specialize "fun") => `(tactic| ((with_reducible show wE _ _ (Expr.Call (Expr.Name (Str.ofString "_law_taken") _) _ _ _) _ _ _); refine xE_call (cf_law_taken (by assumption) (by assumption)) (Room.mono (by assumption) (by decide)) ?_))
local macro_rules | `(tactic| specialize "s3") => `(tactic| ((with_reducible show asp_taken _ _ _ _ _); refine ⟨_, _, rfl, (by specialize "nth"), (by first | decide | omega), (by first | decide | omega), ?_⟩))

-- Y4
section
variable {P : Program} {w : World} {K : PySem.W.Frag} {mg : Str → Option Value} {base : Heap} {C_Book C_Way C_Call C_Phone C_Hall D_NN C_PE : Addr} {ν μ : Int → Int}
def asp_is_so (K : PySem.W.Frag) (C : Cs) : ASp := fun ws S Φ _ => ∃ (ν μ : Int → Int) (on : Bool) (sD sT : Hl) (loc : Pl) (jr : Nat), ws = [.ref jr, .ref (loc .hall), .tup [.int (ν 0), .int (ν 1), .int (ν 2), .int (ν 3)], .lst (onL ν on)] ∧ Ren ν μ ∧ S[jr]? = some (.row K) ∧ (∀ c, okC 2 c → loc c ≠ jr) ∧ HallAt C S loc ((tX on).map (Wish.re ν)) (sD.re ν μ) ∧ sD.n = 2 ∧ Inv sD ∧ (sD.ph 1).up = true ∧ inTalk sD 1 = true ∧ (sD.ph 1).kept = none ∧ (sD.ph 1).bell = some 1 ∧ takeF sD 1 = sT ∧ Tri sT 2 0 1 0 ∧ Inv sT ∧ sT.n = 2 ∧ ∀ S' loc' n', Nx loc loc' 2 n' S S' → Φ (.bl true) S'
section
local macro_rules | `(tactic| specialize "fun") => `(tactic| first
  | ((with_reducible show wE _ _ (Expr.Call (Expr.Attribute (Expr.Name (Str.ofString "_law_hall") _) (Str.ofString "hear") _) _ _ _) _ _ _); refine xE_meth (DS.cls_Hall (by assumption)) (cf_hearR (by assumption) (by assumption) (by assumption)) (Room.mono (by assumption) (by decide)) ?_)
  | ((with_reducible show wE _ _ (Expr.Call (Expr.Attribute (Expr.Name (Str.ofString "_law_hall") _) (Str.ofString "lift") _) _ _ _) _ _ _); refine xE_meth (DS.cls_Hall (by assumption)) (cf_liftR (by assumption) (by assumption) (by assumption)) (Room.mono (by assumption) (by decide)) ?_)
  | ((with_reducible show wE _ _ (Expr.Call (Expr.Attribute (Expr.Name (Str.ofString "_law_hall") _) (Str.ofString "drop") _) _ _ _) _ _ _); refine xE_meth (DS.cls_Hall (by assumption)) (cf_dropR (by assumption) (by assumption) (by assumption)) (Room.mono (by assumption) (by decide)) ?_)
  | ((with_reducible show wE _ _ (Expr.Call (Expr.Attribute (Expr.Name (Str.ofString "_law_hall") _) (Str.ofString "swap") _) _ _ _) _ _ _); refine xE_meth (DS.cls_Hall (by assumption)) (cf_swapR (by assumption) (by assumption) (by assumption)) (Room.mono (by assumption) (by decide)) ?_)
  | ((with_reducible show wE _ _ (Expr.Call (Expr.Attribute (Expr.Name (Str.ofString "_law_hall") _) (Str.ofString "take") _) _ _ _) _ _ _); refine xE_meth (DS.cls_Hall (by assumption)) (cf_takeR (by assumption) (by assumption) (by assumption)) (Room.mono (by assumption) (by decide)) ?_)
  | ((with_reducible show wE _ _ (Expr.Call (Expr.Attribute (Expr.Name (Str.ofString "_law_hall") _) (Str.ofString "dial") _) _ _ _) _ _ _); refine xE_meth (DS.cls_Hall (by assumption)) (cf_dialR (by assumption) (by assumption) (by assumption)) (Room.mono (by assumption) (by decide)) ?_))
local macro_rules | `(tactic| specialize "cmT") => `(tactic| first
  | ((with_reducible show wT _ _ (Expr.Compare (Expr.Call (Expr.Attribute _ (Str.ofString "dial") _) _ _ _) [CmpOp.NotEq] [_] _) _ _ _); refine xT_neY (Room.u65 (by assumption)) ?_))
local macro_rules | `(tactic| specialize "s3") => `(tactic| ((with_reducible show wGs _ _ _ _ _ _ _); first | refine wGs_c ?_ | refine wGs_n ?_))
local macro_rules | `(tactic| specialize "s3") => `(tactic| ((with_reducible show sGs _ _ [_, _, _, _] _ _ _ _); refine ⟨_, rfl, rfl, ?_⟩))
local macro_rules | `(tactic| specialize "s3") => `(tactic| ((with_reducible show ∃ _ _, W.int _ = W.int _ ∧ W.int _ = W.int _ ∧ _); refine ⟨_, _, rfl, rfl, ?_⟩))
local macro_rules | `(tactic| specialize "st") => `(tactic| ((with_reducible show wS _ _ (Stmt.For _ _ _ _ _) _ _ _); refine stop_i ?_))
local macro_rules | `(tactic| specialize "st") => `(tactic| ((with_reducible show wS _ _ (Stmt.Assign [Expr.Subscript _ _ _] _ _) _ _ _); refine stop_i ?_))
local macro_rules | `(tactic| specialize "ex") => `(tactic| ((with_reducible show wE _ _ (Expr.Dict [some _, some _] [_, _] _) _ _ _); refine wE_dispI2 ?_))
local macro_rules | `(tactic| specialize "ex") => `(tactic| ((with_reducible show wE _ _ (Expr.ListComp _ _ _ _) _ _ _); refine stop_i ?_))
local macro_rules | `(tactic| specialize "su") => `(tactic| ((with_reducible show wE _ _ (Expr.Subscript (Expr.Name (Str.ofString "_law_due") _) _ _) _ _ _); refine xE_dget (Room.u65 (by assumption)) ?_))
local macro_rules | `(tactic| specialize "plus") => `(tactic| refine xE_cat ?_)
theorem dropF_n {σ : Hl} {p : Int} : (dropF σ p).n = σ.n := by unfold dropF; rw [leaveF_n, leaveF_n]; rfl
theorem cf_is_so (G : GL mg) (D : DS K mg C_Book C_Way C_Call C_Phone C_Hall) : CFn P w K mg base "_law_is_so" 8 4 (asp_is_so K (Cs.mk C_Book C_Way C_Call C_Phone C_Hall)) := by
  refine D.d_law_is_so.fn sc_law_is_so fun fa cdv A outer s H E hr ws S Φ Ψ hl hS ha => ?_
  obtain ⟨ν, μ, on, sD, sT, loc, jr, rfl, R, hj, nj, hD, nD, iD, uD, tD, kD, bD, eT, tr, iT, nT, hΦ⟩ := ha
  have xok := tX_ok on
  have f0 := hD.hall
  specialize "go"
  refine ⟨loc, _, sD, 1, 1, rfl, hD, iD, by decide, by decide, uD, tD, kD, bD, ?_⟩
  intro T0 h0 fr0
  rw [eT] at h0
  rw [nD] at fr0
  have hj0 : T0[jr]? = some (.row K) := (fr0.off jr nj).trans hj
  have nx0 := fr0.nx
  have g0 := h0.hall
  specialize "go"
  unfold Stop
  refine wS_for (passes_of rfl) rfl ?_
  specialize "go"
  intro v hv0 hv1
  specialize "go"
  have I0 : HallAt (Cs.mk C_Book C_Way C_Call C_Phone C_Hall) T0 loc ((tX on).map (Wish.re ν)) (sT.re ν μ) := h0
  refine ⟨fun i E' T => ∃ a8 a9 a10 a11 x y ci cj σ loc', E' = [some (.ref jr), some (.ref (loc .hall)), some (.tup [.int (ν 0), .int (ν 1), .int (ν 2), .int (ν 3)]), some (.lst (onL ν on)), some (.int (ν y)), some (.int (ν 1)), some (.int (ν x)), some (.int (ν 3)), a8, a9, a10, a11] ∧ Tri σ x y ci cj ∧ Inv σ ∧ HallAt (Cs.mk C_Book C_Way C_Call C_Phone C_Hall) T loc' ((tX on).map (Wish.re ν)) (σ.re ν μ) ∧ Nx loc loc' 2 σ.n S T, ⟨_, _, _, _, 2, 0, 1, 0, sT, loc, rfl, tr, iT, h0, by rw [nT]; exact nx0⟩, fun _ _ _ _ => trivial, ?_, ?_⟩
  · rintro i w E' T hw ⟨a8, a9, a10, a11, x, y, ci, cj, σ, loc', rfl, hT, iv, hh, nx⟩
    obtain ⟨st, hst, rfl⟩ := map_inv hw
    have hjT : T[jr]? = some (.row K) := (nx.off jr (List.getElem?_eq_some_iff.mp hj).1 nj).trans hj
    have ehl := nx.same .hall trivial
    have fT := hh.hall
    rw [ehl] at fT
    obtain ⟨e1, ex, ey⟩ := tri_hear hT
    obtain ⟨tk, u1, k1, ux, uy, x0, x5, y0, y5, nxy, nx1, ny1⟩ := hT.talk
    specialize "go"
    refine ⟨loc', _, σ, x, by rw [ehl], hh, iv, x0, x5, ?_⟩
    rw [ex]
    dsimp only
    rw [show sortI (List.map ν [1]) = [ν 1] from sortI_one]
    specialize "go"
    refine ⟨loc', _, σ, y, by rw [ehl], hh, iv, y0, y5, ?_⟩
    rw [ey]
    dsimp only
    rw [show sortI (List.map ν []) = [] from sortI_nil]
    specialize "go"
    refine ⟨loc', _, σ, 1, by rw [ehl], hh, iv, by decide, by decide, ?_⟩
    rw [e1]
    dsimp only
    rw [show sortI (List.map ν [x]) = [ν x] from sortI_one]
    specialize "go"
    intro u hu0 hu1
    specialize "go"
    refine sIte_s (fun z => ?_) (fun z => ?_)
    · have td := tri_dial hT on
      have hb := tri_hb hT on
      obtain ⟨_, vd, vt⟩ := tri_vain hT on
      have ud : ((dialF σ (tX on) 3 1).ph 3).up = true := by rw [td.2.2.1]
      have ivd := dial_inv (p := 3) (g := 1) iv xok (by decide) (by decide) (by decide) (by decide) (by rw [hT.p3]) (by rw [hT.p3])
      obtain ⟨nd, yd, _⟩ := td
      specialize "go"
      refine ⟨loc', tX on, σ, 3, 1, by rw [ehl], hh, iv, xok, by decide, by decide, by decide, by decide, by rw [hT.p3], by rw [hT.p3], by rw [hT.p3], by rw [hT.op]; exact Nat.le_of_ble_eq_true rfl, ?_⟩
      intro TD locD jD hD' nxD j1D _ _
      rw [yd] at j1D ⊢
      generalize dialF σ (tX on) 3 1 = ρ at hb vd vt ud ivd nd yd hD'
      have nxA := nx.trans nxD
      have ehD := nxA.same .hall trivial
      have fD := hD'.hall
      rw [ehD] at fD
      have el : (onL ν on).length ≤ 1 := by cases on <;> simp [onL]
      have ew : (yB on).word = "busy" ∧ (yB on).ears = [] := by cases on <;> exact ⟨rfl, rfl⟩
      have ec : [W.int (ν 1)] ++ (List.replicate (((onL ν on).length : Nat) : Int).toNat [W.int (ν 3)]).flatten = intsW ((yB on).chain.map ν) := by cases on <;> rfl
      have elc : ((List.replicate (((onL ν on).length : Nat) : Int).toNat [W.int (ν 3)]).flatten).length ≤ 1 := by cases on <;> simp [onL]
      rw [ew.1, ew.2, show sortI (List.map ν []) = [] from sortI_nil]
      specialize "go"
      refine sRep_i (by omega) (by omega) (Nat.le_of_ble_eq_true rfl) ?_
      specialize "go"
      rw [ec]
      specialize "go"
      refine sNeY_i (cs := (yB on).chain.map ν) j1D (dialW_ok (es := []) (by decide +kernel)) (dialW_eq (es := [])) (dialW_ok (by decide +kernel)) ?_
      specialize "go"
      refine ⟨locD, _, ρ, 3, by rw [ehD], hD', ivd, by decide, by decide, ?_⟩
      rw [hb]
      dsimp only
      specialize "go"
      refine ⟨locD, _, ρ, 3, by rw [ehD], hD', ivd, by decide, by decide, ud, ?_⟩
      intro T2 h2 fr2
      have iv2 := drop_inv ivd (p := 3) (by decide) (by decide)
      have f2 := h2.hall
      rw [ehD] at f2
      specialize "go"
      refine ⟨locD, _, dropF ρ 3, 3, by rw [ehD], h2, iv2, by decide, by decide, by rw [vd], ?_⟩
      intro T3 h3 fr3
      have iv3 := lift_inv iv2 (p := 3) (by decide) (by decide) (by rw [vd])
      have f3 := h3.hall
      rw [ehD] at f3
      rw [nd] at fr2
      rw [dropF_n, nd] at fr3
      have nx3 : Nx loc locD 2 (liftF (dropF ρ 3) 3).n S T3 := by rw [lift_n, dropF_n, nd]; exact (nxA.trans fr2.nx).trans fr3.nx
      generalize liftF (dropF ρ 3) 3 = τ at vt h3 iv3 nx3
      obtain ⟨tk3, u13, k13, _⟩ := vt.talk
      specialize "go"
      refine ⟨locD, _, τ, 1, by rw [ehD], h3, by decide, by decide, u13, k13, tk3, ?_⟩
      intro T4 h4 fr4
      specialize "go"
      try dsimp only
      refine dropTo.as ?_
      exact ⟨_, _, _, _, y, x, cj, ci, swapF τ 1, locD, rfl, tri_swap vt, swap_inv iv3 (by decide) (by decide) u13 (.inr tk3), h4, nx3.trans fr4.nx⟩
    · specialize "go"
      refine ⟨loc', _, σ, 1, by rw [ehl], hh, by decide, by decide, u1, k1, tk, ?_⟩
      intro T2 h2 fr2
      specialize "go"
      try dsimp only
      refine dropTo.as ?_
      exact ⟨_, _, _, _, y, x, cj, ci, swapF σ 1, loc', rfl, tri_swap hT, swap_inv iv (by decide) (by decide) u1 (.inr tk), h2, nx.trans fr2.nx⟩
  · rintro E' T ⟨a8, a9, a10, a11, x, y, ci, cj, σ, loc', rfl, hT, iv, hh, nx⟩
    have hjT : T[jr]? = some (.row K) := (nx.off jr (List.getElem?_eq_some_iff.mp hj).1 nj).trans hj
    have ehl := nx.same .hall trivial
    have fT := hh.hall
    rw [ehl] at fT
    obtain ⟨tk, u1, k1, ux, uy, x0, x5, y0, y5, nxy, nx1, ny1⟩ := hT.talk
    specialize "go"
    intro v hv0 hv1
    have hv : v = 0 ∨ v = 1 ∨ v = 2 := by omega
    obtain ⟨w1, w2, w3, w4, w5, w6⟩ := tri_dropw hT
    have nxy' : ν x ≠ ν y := fun e => nxy (R.inj e)
    have nx1' : ν x ≠ ν 1 := fun e => nx1 (R.inj e)
    have ny1' : ν y ≠ ν 1 := fun e => ny1 (R.inj e)
    rcases hv with rfl | rfl | rfl
    · specialize "go"
      refine ⟨loc', _, σ, x, by rw [ehl], hh, iv, x0, x5, ux, ?_⟩
      intro T2 h2 fr2
      have iv2 := drop_inv iv (p := x) x0 x5
      have nx2 := nx.trans fr2.nx
      specialize "go"
      unfold Stop
      rw [due_m nxy']
      refine xS_dput (Room.u65 (by assumption)) ?_
      specialize "go"
      unfold Stop
      rw [set_new0, due_p nx1' ny1']
      show wE _ _ _ _ (T2 ++ [O.dk [((.inl (ν x) : Key), W.lst [.tup [.int (ν 1), .str "busy"], .tup [.int (ν y), .str "music"]]), (.inl (ν y), W.lst [.tup [.int (ν 1), .str "talk"], .tup [.int (ν x), .str "talk"]]), (.inl (ν 1), W.lst [.tup [.int (ν x), .str "busy"], .tup [.int (ν y), .str "busy"]])]]) _
      have hd : (T2 ++ [O.dk [((.inl (ν x) : Key), W.lst [.tup [.int (ν 1), .str "busy"], .tup [.int (ν y), .str "music"]]), (.inl (ν y), W.lst [.tup [.int (ν 1), .str "talk"], .tup [.int (ν x), .str "talk"]]), (.inl (ν 1), W.lst [.tup [.int (ν x), .str "busy"], .tup [.int (ν y), .str "busy"]])]])[T2.length]? = some (.dk [((.inl (ν x) : Key), W.lst [.tup [.int (ν 1), .str "busy"], .tup [.int (ν y), .str "music"]]), (.inl (ν y), W.lst [.tup [.int (ν 1), .str "talk"], .tup [.int (ν x), .str "talk"]]), (.inl (ν 1), W.lst [.tup [.int (ν x), .str "busy"], .tup [.int (ν y), .str "busy"]])]) := nth_new0
      have h3 : HallAt (Cs.mk C_Book C_Way C_Call C_Phone C_Hall) (T2 ++ [O.dk [((.inl (ν x) : Key), W.lst [.tup [.int (ν 1), .str "busy"], .tup [.int (ν y), .str "music"]]), (.inl (ν y), W.lst [.tup [.int (ν 1), .str "talk"], .tup [.int (ν x), .str "talk"]]), (.inl (ν 1), W.lst [.tup [.int (ν x), .str "busy"], .tup [.int (ν y), .str "busy"]])]]) loc' ((tX on).map (Wish.re ν)) ((dropF σ x).re ν μ) := h2.app
      have nx3 : Nx loc loc' 2 σ.n S (T2 ++ [O.dk [((.inl (ν x) : Key), W.lst [.tup [.int (ν 1), .str "busy"], .tup [.int (ν y), .str "music"]]), (.inl (ν y), W.lst [.tup [.int (ν 1), .str "talk"], .tup [.int (ν x), .str "talk"]]), (.inl (ν 1), W.lst [.tup [.int (ν x), .str "busy"], .tup [.int (ν y), .str "busy"]])]]) := nx2.app
      generalize T2 ++ [O.dk [((.inl (ν x) : Key), W.lst [.tup [.int (ν 1), .str "busy"], .tup [.int (ν y), .str "music"]]), (.inl (ν y), W.lst [.tup [.int (ν 1), .str "talk"], .tup [.int (ν x), .str "talk"]]), (.inl (ν 1), W.lst [.tup [.int (ν x), .str "busy"], .tup [.int (ν y), .str "busy"]])]] = T3 at hd h3 nx3 ⊢
      have f3 := h3.hall
      rw [ehl] at f3
      refine wE_lcF 11 (.one _) rfl (of_decide_eq_true (by kernel_rfl)) (blkOk_by (by kernel_rfl)) ?_
      refine xI_list ?_
      specialize "go"
      refine sDget_i (by rw [dget_k (y := .int (ν x)) (key := .inl (ν x)) hd rfl, due_1]) ?_
      refine sWL_l ?_
      refine ⟨fun i acc S' => acc = [] ∧ S' = T3, ⟨rfl, rfl⟩, ?_, ?_, ?_⟩
      · rintro i acc S' ⟨rfl, rfl⟩
        exact ⟨trivial, Nat.zero_le _⟩
      · rintro i w acc S' hw ⟨rfl, rfl⟩
        intro s1 H0 C cl fp
        match i, hw with
        | 0, hw =>
          cases hw
          specialize "go"
          obtain ⟨l, bb, ew⟩ := w1
          refine ⟨loc', _, dropF σ x, 1, by rw [ehl], h3, iv2, (by decide), (by decide), ?_⟩
          rw [ew]
          dsimp only
          specialize "go"
          exact ⟨rfl, rfl⟩
        | 1, hw =>
          cases hw
          specialize "go"
          obtain ⟨l, bb, ew⟩ := w2
          refine ⟨loc', _, dropF σ x, y, by rw [ehl], h3, iv2, y0, y5, ?_⟩
          rw [ew]
          dsimp only
          specialize "go"
          exact ⟨rfl, rfl⟩
        | _ + 2, hw => cases hw
      · rintro acc S' ⟨rfl, rfl⟩
        specialize "go"
        exact fin.as (hΦ _ loc' σ.n nx3)
    · specialize "go"
      refine ⟨loc', _, σ, y, by rw [ehl], hh, iv, y0, y5, uy, ?_⟩
      intro T2 h2 fr2
      have iv2 := drop_inv iv (p := y) y0 y5
      have nx2 := nx.trans fr2.nx
      specialize "go"
      unfold Stop
      rw [due_m nxy']
      refine xS_dput (Room.u65 (by assumption)) ?_
      specialize "go"
      unfold Stop
      rw [set_new0, due_p nx1' ny1']
      show wE _ _ _ _ (T2 ++ [O.dk [((.inl (ν x) : Key), W.lst [.tup [.int (ν 1), .str "busy"], .tup [.int (ν y), .str "music"]]), (.inl (ν y), W.lst [.tup [.int (ν 1), .str "talk"], .tup [.int (ν x), .str "talk"]]), (.inl (ν 1), W.lst [.tup [.int (ν x), .str "busy"], .tup [.int (ν y), .str "busy"]])]]) _
      have hd : (T2 ++ [O.dk [((.inl (ν x) : Key), W.lst [.tup [.int (ν 1), .str "busy"], .tup [.int (ν y), .str "music"]]), (.inl (ν y), W.lst [.tup [.int (ν 1), .str "talk"], .tup [.int (ν x), .str "talk"]]), (.inl (ν 1), W.lst [.tup [.int (ν x), .str "busy"], .tup [.int (ν y), .str "busy"]])]])[T2.length]? = some (.dk [((.inl (ν x) : Key), W.lst [.tup [.int (ν 1), .str "busy"], .tup [.int (ν y), .str "music"]]), (.inl (ν y), W.lst [.tup [.int (ν 1), .str "talk"], .tup [.int (ν x), .str "talk"]]), (.inl (ν 1), W.lst [.tup [.int (ν x), .str "busy"], .tup [.int (ν y), .str "busy"]])]) := nth_new0
      have h3 : HallAt (Cs.mk C_Book C_Way C_Call C_Phone C_Hall) (T2 ++ [O.dk [((.inl (ν x) : Key), W.lst [.tup [.int (ν 1), .str "busy"], .tup [.int (ν y), .str "music"]]), (.inl (ν y), W.lst [.tup [.int (ν 1), .str "talk"], .tup [.int (ν x), .str "talk"]]), (.inl (ν 1), W.lst [.tup [.int (ν x), .str "busy"], .tup [.int (ν y), .str "busy"]])]]) loc' ((tX on).map (Wish.re ν)) ((dropF σ y).re ν μ) := h2.app
      have nx3 : Nx loc loc' 2 σ.n S (T2 ++ [O.dk [((.inl (ν x) : Key), W.lst [.tup [.int (ν 1), .str "busy"], .tup [.int (ν y), .str "music"]]), (.inl (ν y), W.lst [.tup [.int (ν 1), .str "talk"], .tup [.int (ν x), .str "talk"]]), (.inl (ν 1), W.lst [.tup [.int (ν x), .str "busy"], .tup [.int (ν y), .str "busy"]])]]) := nx2.app
      generalize T2 ++ [O.dk [((.inl (ν x) : Key), W.lst [.tup [.int (ν 1), .str "busy"], .tup [.int (ν y), .str "music"]]), (.inl (ν y), W.lst [.tup [.int (ν 1), .str "talk"], .tup [.int (ν x), .str "talk"]]), (.inl (ν 1), W.lst [.tup [.int (ν x), .str "busy"], .tup [.int (ν y), .str "busy"]])]] = T3 at hd h3 nx3 ⊢
      have f3 := h3.hall
      rw [ehl] at f3
      refine wE_lcF 11 (.one _) rfl (of_decide_eq_true (by kernel_rfl)) (blkOk_by (by kernel_rfl)) ?_
      refine xI_list ?_
      specialize "go"
      refine sDget_i (by rw [dget_k (y := .int (ν y)) (key := .inl (ν y)) hd rfl, due_2 nxy']) ?_
      refine sWL_l ?_
      refine ⟨fun i acc S' => acc = [] ∧ S' = T3, ⟨rfl, rfl⟩, ?_, ?_, ?_⟩
      · rintro i acc S' ⟨rfl, rfl⟩
        exact ⟨trivial, Nat.zero_le _⟩
      · rintro i w acc S' hw ⟨rfl, rfl⟩
        intro s1 H0 C cl fp
        match i, hw with
        | 0, hw =>
          cases hw
          specialize "go"
          obtain ⟨l, bb, ew⟩ := w3
          refine ⟨loc', _, dropF σ y, 1, by rw [ehl], h3, iv2, (by decide), (by decide), ?_⟩
          rw [ew]
          dsimp only
          specialize "go"
          exact ⟨rfl, rfl⟩
        | 1, hw =>
          cases hw
          specialize "go"
          obtain ⟨l, bb, ew⟩ := w4
          refine ⟨loc', _, dropF σ y, x, by rw [ehl], h3, iv2, x0, x5, ?_⟩
          rw [ew]
          dsimp only
          specialize "go"
          exact ⟨rfl, rfl⟩
        | _ + 2, hw => cases hw
      · rintro acc S' ⟨rfl, rfl⟩
        specialize "go"
        exact fin.as (hΦ _ loc' σ.n nx3)
    · specialize "go"
      refine ⟨loc', _, σ, 1, by rw [ehl], hh, iv, (by decide), (by decide), u1, ?_⟩
      intro T2 h2 fr2
      have iv2 := drop_inv iv (p := 1) (by decide) (by decide)
      have nx2 := nx.trans fr2.nx
      specialize "go"
      unfold Stop
      rw [due_m nxy']
      refine xS_dput (Room.u65 (by assumption)) ?_
      specialize "go"
      unfold Stop
      rw [set_new0, due_p nx1' ny1']
      show wE _ _ _ _ (T2 ++ [O.dk [((.inl (ν x) : Key), W.lst [.tup [.int (ν 1), .str "busy"], .tup [.int (ν y), .str "music"]]), (.inl (ν y), W.lst [.tup [.int (ν 1), .str "talk"], .tup [.int (ν x), .str "talk"]]), (.inl (ν 1), W.lst [.tup [.int (ν x), .str "busy"], .tup [.int (ν y), .str "busy"]])]]) _
      have hd : (T2 ++ [O.dk [((.inl (ν x) : Key), W.lst [.tup [.int (ν 1), .str "busy"], .tup [.int (ν y), .str "music"]]), (.inl (ν y), W.lst [.tup [.int (ν 1), .str "talk"], .tup [.int (ν x), .str "talk"]]), (.inl (ν 1), W.lst [.tup [.int (ν x), .str "busy"], .tup [.int (ν y), .str "busy"]])]])[T2.length]? = some (.dk [((.inl (ν x) : Key), W.lst [.tup [.int (ν 1), .str "busy"], .tup [.int (ν y), .str "music"]]), (.inl (ν y), W.lst [.tup [.int (ν 1), .str "talk"], .tup [.int (ν x), .str "talk"]]), (.inl (ν 1), W.lst [.tup [.int (ν x), .str "busy"], .tup [.int (ν y), .str "busy"]])]) := nth_new0
      have h3 : HallAt (Cs.mk C_Book C_Way C_Call C_Phone C_Hall) (T2 ++ [O.dk [((.inl (ν x) : Key), W.lst [.tup [.int (ν 1), .str "busy"], .tup [.int (ν y), .str "music"]]), (.inl (ν y), W.lst [.tup [.int (ν 1), .str "talk"], .tup [.int (ν x), .str "talk"]]), (.inl (ν 1), W.lst [.tup [.int (ν x), .str "busy"], .tup [.int (ν y), .str "busy"]])]]) loc' ((tX on).map (Wish.re ν)) ((dropF σ 1).re ν μ) := h2.app
      have nx3 : Nx loc loc' 2 σ.n S (T2 ++ [O.dk [((.inl (ν x) : Key), W.lst [.tup [.int (ν 1), .str "busy"], .tup [.int (ν y), .str "music"]]), (.inl (ν y), W.lst [.tup [.int (ν 1), .str "talk"], .tup [.int (ν x), .str "talk"]]), (.inl (ν 1), W.lst [.tup [.int (ν x), .str "busy"], .tup [.int (ν y), .str "busy"]])]]) := nx2.app
      generalize T2 ++ [O.dk [((.inl (ν x) : Key), W.lst [.tup [.int (ν 1), .str "busy"], .tup [.int (ν y), .str "music"]]), (.inl (ν y), W.lst [.tup [.int (ν 1), .str "talk"], .tup [.int (ν x), .str "talk"]]), (.inl (ν 1), W.lst [.tup [.int (ν x), .str "busy"], .tup [.int (ν y), .str "busy"]])]] = T3 at hd h3 nx3 ⊢
      have f3 := h3.hall
      rw [ehl] at f3
      refine wE_lcF 11 (.one _) rfl (of_decide_eq_true (by kernel_rfl)) (blkOk_by (by kernel_rfl)) ?_
      refine xI_list ?_
      specialize "go"
      refine sDget_i (by rw [dget_k (y := .int (ν 1)) (key := .inl (ν 1)) hd rfl, due_3 nx1' ny1']) ?_
      refine sWL_l ?_
      refine ⟨fun i acc S' => acc = [] ∧ S' = T3, ⟨rfl, rfl⟩, ?_, ?_, ?_⟩
      · rintro i acc S' ⟨rfl, rfl⟩
        exact ⟨trivial, Nat.zero_le _⟩
      · rintro i w acc S' hw ⟨rfl, rfl⟩
        intro s1 H0 C cl fp
        match i, hw with
        | 0, hw =>
          cases hw
          specialize "go"
          obtain ⟨l, bb, ew⟩ := w5
          refine ⟨loc', _, dropF σ 1, x, by rw [ehl], h3, iv2, x0, x5, ?_⟩
          rw [ew]
          dsimp only
          specialize "go"
          exact ⟨rfl, rfl⟩
        | 1, hw =>
          cases hw
          specialize "go"
          obtain ⟨l, bb, ew⟩ := w6
          refine ⟨loc', _, dropF σ 1, y, by rw [ehl], h3, iv2, y0, y5, ?_⟩
          rw [ew]
          dsimp only
          specialize "go"
          exact ⟨rfl, rfl⟩
        | _ + 2, hw => cases hw
      · rintro acc S' ⟨rfl, rfl⟩
        specialize "go"
        exact fin.as (hΦ _ loc' σ.n nx3)
end
end

end
section
local macro_rules | `(tactic| specialize "fun") => `(tactic| ((with_reducible show wE _ _ (Expr.Call (Expr.Name (Str.ofString "need_wishes") _) _ _ _) _ _ _); refine xE_call (cf_need_wishes (by assumption) (by assumption)) (Room.mono (by assumption) (by decide)) ?_))
local macro_rules | `(tactic| specialize "s3") => `(tactic| ((with_reducible show asp_need_wishes _ _ _ _); refine ⟨_, rfl, (by assumption), (by assumption), (by assumption), ?_⟩))
local macro_rules | `(tactic| specialize "fun") => `(tactic| ((with_reducible show wE _ _ (Expr.Call (Expr.Name (Str.ofString "need_phone") _) _ _ _) _ _ _); refine xE_call (cf_need_phone (by assumption) (by assumption)) (Room.mono (by assumption) (by decide)) ?_))
local macro_rules | `(tactic| specialize "s3") => `(tactic| ((with_reducible show asp_need_phone _ _ _ _); refine ⟨_, rfl, (by assumption), (by assumption), ?_⟩))
local macro_rules | `(tactic| specialize "fun") => `(tactic| ((with_reducible show wE _ _ (Expr.Call (Expr.Name (Str.ofString "need_number") _) _ _ _) _ _ _); refine xE_call (cf_need_number (by assumption) (by assumption)) (Room.mono (by assumption) (by decide)) ?_))
local macro_rules | `(tactic| specialize "s3") => `(tactic| ((with_reducible show asp_need_number _ _ _ _); refine ⟨_, rfl, (by assumption), (by assumption), ?_⟩))

local macro_rules | `(tactic| specialize "fun") => `(tactic| ((with_reducible show wE _ _ (Expr.Call (Expr.Name (Str.ofString "Book") _) _ _ _) _ _ _); refine xE_make (cf_Book_init (by assumption) (by assumption)) (Room.mono (by assumption) (by decide)) ?_))
local macro_rules | `(tactic| specialize "s3") => `(tactic| ((with_reducible show asp_Book_init _ _ _ _ _); refine ⟨_, _, rfl, rfl, (by assumption), (by assumption), ⟨rfl, ?_⟩⟩))
local macro_rules | `(tactic| specialize "fun") => `(tactic| ((with_reducible show wE _ _ (Expr.Call (Expr.Attribute _ (Str.ofString "has") _) _ _ _) _ _ _); refine xE_meth (DS.cls_Book (by assumption)) (cf_has (by assumption) (by assumption)) (Room.mono (by assumption) (by decide)) ?_))
local macro_rules | `(tactic| specialize "s3") => `(tactic| ((with_reducible show asp_has _ _ _ _ _); refine ⟨_, _, _, _, rfl, (by specialize "bk"), ?_⟩))
local macro_rules | `(tactic| specialize "bk") => `(tactic| first | assumption | exact ⟨_, (by specialize "nth"), (by specialize "nth")⟩)
local macro_rules | `(tactic| specialize "fun") => `(tactic| ((with_reducible show wE _ _ (Expr.Call (Expr.Attribute _ (Str.ofString "bars") _) _ _ _) _ _ _); refine xE_meth (DS.cls_Book (by assumption)) (cf_bars (by assumption) (by assumption)) (Room.mono (by assumption) (by decide)) ?_))
local macro_rules | `(tactic| specialize "s3") => `(tactic| ((with_reducible show asp_bars _ _ _ _ _); refine ⟨_, _, _, _, rfl, (by specialize "bk"), ?_⟩))
local macro_rules | `(tactic| specialize "fun") => `(tactic| ((with_reducible show wE _ _ (Expr.Call (Expr.Attribute _ (Str.ofString "goal") _) _ _ _) _ _ _); refine xE_meth (DS.cls_Book (by assumption)) (cf_goal (by assumption) (by assumption)) (Room.mono (by assumption) (by decide)) ?_))
local macro_rules | `(tactic| specialize "fun") => `(tactic| ((with_reducible show wE _ _ (Expr.Call (Expr.Attribute _ (Str.ofString "members") _) _ _ _) _ _ _); refine xE_meth (DS.cls_Book (by assumption)) (cf_members (by assumption) (by assumption)) (Room.mono (by assumption) (by decide)) ?_))
local macro_rules | `(tactic| specialize "s3") => `(tactic| ((with_reducible show asp_members _ _ _ _ _); refine ⟨_, _, _, rfl, (by specialize "bk"), ?_⟩))

local macro_rules | `(tactic| specialize "fun") => `(tactic| ((with_reducible show wE _ _ (Expr.Call (Expr.Name (Str.ofString "rings_at") _) _ _ _) _ _ _); refine xE_call (cf_rings_at (by assumption) (by assumption)) (Room.mono (by assumption) (by decide)) ?_))
local macro_rules | `(tactic| specialize "s3") => `(tactic| ((with_reducible show asp_rings_at _ _ _ _ _); refine ⟨_, _, _, _, _, _, rfl, (by first | assumption | exact fun _ => rfl), (by specialize "bk"), (by assumption), (by assumption), ?_⟩))
local macro_rules | `(tactic| specialize "fun") => `(tactic| ((with_reducible show wE _ _ (Expr.Call (Expr.Name (Str.ofString "next_of") _) _ _ _) _ _ _); refine xE_call (cf_next_of (by assumption) (by assumption)) (Room.mono (by assumption) (by decide)) ?_))
local macro_rules | `(tactic| specialize "s3") => `(tactic| ((with_reducible show asp_next_of _ _ _ _ _); refine ⟨_, _, _, _, _, _, _, rfl, (by first | assumption | exact fun _ => rfl), (by specialize "bk"), (by first | assumption | omega), (by first | assumption | omega), (by assumption), (by assumption), _, (by first | assumption | rfl), ?_⟩))

local macro_rules | `(tactic| specialize "fun") => `(tactic| ((with_reducible show wE _ _ (Expr.Call (Expr.Name (Str.ofString "Way") _) _ _ _) _ _ _); refine xE_make (cf_Way_init (by assumption) (by assumption)) (Room.mono (by assumption) (by decide)) ?_))
local macro_rules | `(tactic| specialize "s3") => `(tactic| ((with_reducible show asp_Way_init _ _ _ _ _); refine ⟨_, _, _, rfl, rfl, ⟨rfl, ?_⟩⟩))
local macro_rules | `(tactic| specialize "fun") => `(tactic| ((with_reducible show wE _ _ (Expr.Call (Expr.Attribute _ (Str.ofString "step") _) _ _ _) _ _ _); refine xE_meth (DS.cls_Way (by assumption)) (cf_Way_step (by assumption) (by assumption)) (Room.mono (by assumption) (by decide)) ?_))
local macro_rules | `(tactic| specialize "s3") => `(tactic| ((with_reducible show asp_Way_step _ _ _ _ _ _); refine ⟨_, _, _, _, _, _, _, _, _, _, _, rfl, (by first | assumption | exact fun _ => rfl), (by assumption), (by assumption), (by assumption), (by first | assumption | omega), (by first | assumption | omega), (by assumption), (by assumption), (by assumption), (by assumption), ?_⟩))
local macro_rules | `(tactic| specialize "fun") => `(tactic| ((with_reducible show wE _ _ (Expr.Call (Expr.Attribute _ (Str.ofString "go") _) _ _ _) _ _ _); refine xE_meth (DS.cls_Way (by assumption)) (cf_Way_go (by assumption) (by assumption)) (Room.mono (by assumption) (by decide)) ?_))

local macro_rules | `(tactic| specialize "fun") => `(tactic| ((with_reducible show wE _ _ (Expr.Call (Expr.Attribute _ (Str.ofString "silence") _) _ _ _) _ _ _); refine xE_meth (DS.cls_Hall (by assumption)) (cf_silence (by assumption) (by assumption)) (Room.mono (by assumption) (by decide)) ?_))
local macro_rules | `(tactic| specialize "s3") => `(tactic| ((with_reducible show asp_silence _ _ _ _ _); refine ⟨_, _, _, _, rfl, (by assumption), (by assumption), ?_⟩))
local macro_rules | `(tactic| specialize "fun") => `(tactic| ((with_reducible show wE _ _ (Expr.Call (Expr.Attribute _ (Str.ofString "over") _) _ _ _) _ _ _); refine xE_meth (DS.cls_Hall (by assumption)) (cf_over (by assumption) (by assumption)) (Room.mono (by assumption) (by decide)) ?_))
local macro_rules | `(tactic| specialize "s3") => `(tactic| ((with_reducible show asp_over _ _ _ _ _); refine ⟨_, _, _, _, rfl, (by assumption), (by assumption), ?_⟩))
local macro_rules | `(tactic| specialize "fun") => `(tactic| ((with_reducible show wE _ _ (Expr.Call (Expr.Attribute _ (Str.ofString "answer") _) _ _ _) _ _ _); refine xE_meth (DS.cls_Hall (by assumption)) (cf_answer (by assumption) (by assumption)) (Room.mono (by assumption) (by decide)) ?_))
local macro_rules | `(tactic| specialize "s3") => `(tactic| ((with_reducible show asp_answer _ _ _ _ _); refine ⟨_, _, _, _, _, rfl, (by assumption), (by assumption), (by assumption), (by assumption), (by assumption), ?_⟩))
local macro_rules | `(tactic| specialize "fun") => `(tactic| ((with_reducible show wE _ _ (Expr.Call (Expr.Attribute _ (Str.ofString "leave") _) _ _ _) _ _ _); refine xE_meth (DS.cls_Hall (by assumption)) (cf_leave (by assumption) (by assumption)) (Room.mono (by assumption) (by decide)) ?_))
local macro_rules | `(tactic| specialize "fun") => `(tactic| ((with_reducible show wE _ _ (Expr.Call (Expr.Attribute _ (Str.ofString "need_talk") _) _ _ _) _ _ _); refine xE_meth (DS.cls_Hall (by assumption)) (cf_need_talk (by assumption) (by assumption)) (Room.mono (by assumption) (by decide)) ?_))
local macro_rules | `(tactic| specialize "s3") => `(tactic| ((with_reducible show asp_need_talk _ _ _ _ _); refine ⟨_, _, _, _, rfl, (by assumption), (by assumption), (by assumption), (by assumption), ?_⟩))
local macro_rules | `(tactic| specialize "fun") => `(tactic| ((with_reducible show wE _ _ (Expr.Call (Expr.Attribute (Expr.Name (Str.ofString "self") _) (Str.ofString "phone") _) _ _ _) _ _ _); refine xE_meth (DS.cls_Hall (by assumption)) (cf_phone (by assumption) (by assumption)) (Room.mono (by assumption) (by decide)) ?_))
local macro_rules | `(tactic| specialize "s3") => `(tactic| ((with_reducible show asp_phone _ _ _ _ _); refine ⟨_, _, _, _, _, rfl, (by assumption), (by assumption), (by assumption), (by assumption), ?_⟩))

local macro_rules | `(tactic| specialize "fun") => `(tactic| ((with_reducible show wE _ _ (Expr.Call (Expr.Attribute _ (Str.ofString "may_be_knocked_at") _) _ _ _) _ _ _); refine xE_meth (DS.cls_Hall (by assumption)) (cf_may (by assumption) (by assumption)) (Room.mono (by assumption) (by decide)) ?_))
local macro_rules | `(tactic| specialize "fun") => `(tactic| ((with_reducible show wE _ _ (Expr.Call (Expr.Attribute _ (Str.ofString "knock_list") _) _ _ _) _ _ _); refine xE_meth (DS.cls_Hall (by assumption)) (cf_knock (by assumption) (by assumption)) (Room.mono (by assumption) (by decide)) ?_))
local macro_rules | `(tactic| specialize "fun") => `(tactic| ((with_reducible show wE _ _ (Expr.Call (Expr.Attribute (Expr.Attribute _ (Str.ofString "way") _) (Str.ofString "go") _) _ _ _) _ _ _); refine xE_meth (DS.cls_Way (by assumption)) (cf_Way_goG (by assumption) (by assumption)) (Room.mono (by assumption) (by decide)) ?_))
local macro_rules | `(tactic| specialize "fun") => `(tactic| ((with_reducible show wE _ _ (Expr.Call (Expr.Attribute _ (Str.ofString "go_on") _) _ _ _) _ _ _); refine xE_meth (DS.cls_Hall (by assumption)) (cf_go_on (by assumption) (by assumption)) (Room.mono (by assumption) (by decide)) ?_))

local macro_rules | `(tactic| specialize "fun") => `(tactic| ((with_reducible show wE _ _ (Expr.Call (Expr.Name (Str.ofString "Call") _) _ _ _) _ _ _); refine xE_make (cf_Call_init (by assumption) (by assumption)) (Room.mono (by assumption) (by decide)) ?_))
local macro_rules | `(tactic| specialize "fun") => `(tactic| ((with_reducible show wE _ _ (Expr.Call (Expr.Name (Str.ofString "Phone") _) [] _ _) _ _ _); refine wE_make0 (cf_Phone_init (by assumption) (by assumption)) (Room.mono (by assumption) (by decide)) ?_))

local macro_rules | `(tactic| specialize "fun") => `(tactic| ((with_reducible show wE _ _ (Expr.Call (Expr.Attribute _ (Str.ofString "patience") _) _ _ _) _ _ _); refine xE_meth (DS.cls_Book (by assumption)) (cf_patience (by assumption) (by assumption)) (Room.mono (by assumption) (by decide)) ?_))

local macro_rules | `(tactic| specialize "fun") => `(tactic| ((with_reducible show wE _ _ (Expr.Call (Expr.Name (Str.ofString "_law_taken") _) _ _ _) _ _ _); refine xE_call (cf_law_taken (by assumption) (by assumption)) (Room.mono (by assumption) (by decide)) ?_))
local macro_rules | `(tactic| specialize "s3") => `(tactic| ((with_reducible show asp_taken _ _ _ _ _); refine ⟨_, _, rfl, (by specialize "nth"), (by first | decide | omega), (by first | decide | omega), ?_⟩))

-- Y5
section
variable {P : Program} {w : World} {K : PySem.W.Frag} {mg : Str → Option Value} {base : Heap} {C_Book C_Way C_Call C_Phone C_Hall D_NN C_PE : Addr} {ν μ : Int → Int}
theorem ren_ex {a : List Int} (pa : a.Perm [0, 1, 2, 3, 4, 5]) : ∃ ν μ, Ren ν μ ∧ ν 6 = 6 ∧ a = [ν 0, ν 1, ν 2, ν 3, ν 4, ν 5] := by
  have hl : a.length = 6 := pa.length_eq
  refine ⟨_, _, ren_of pa (.inl ⟨rfl, rfl⟩), ?_⟩
  match a, hl with
  | [x0, x1, x2, x3, x4, x5], _ => exact ⟨rfl, rfl⟩
theorem erase_map {α β : Type} (f : α → β) : ∀ (l : List α) (k : Nat), (l.map f).eraseIdx k = (l.eraseIdx k).map f
  | [], _ => rfl
  | a :: l, 0 => rfl
  | a :: l, k + 1 => by
    show f a :: (l.map f).eraseIdx k = f a :: (l.eraseIdx k).map f
    rw [erase_map f l k]
theorem erase_perm1 {α : Type} : ∀ (l : List α) (k : Nat) (h : k < l.length), List.Perm ([l[k]] ++ l.eraseIdx k) l
  | a :: l, 0, _ => List.Perm.refl _
  | a :: l, k + 1, h => by
    have hk : k < l.length := by simpa using h
    exact (List.Perm.swap a l[k] (l.eraseIdx k)).trans ((erase_perm1 l k hk).cons a)
theorem HK.app {S1 T : Sto} {loh : Pl} {n : Nat} (h : HK S1 T loh n) (U : Sto) : HK S1 (T ++ U) loh n := ⟨h.kp.app U, h.lo⟩
def asp_law (K : PySem.W.Frag) (Pt : Addr) (q : Str) : ASp := fun ws S Φ _ => ∃ ns, ws = [.scr K ns] ∧ ns.length ≤ 63 ∧ S[0]? = some (.tab Pt q) ∧ Φ (.bl true) S
section
local macro_rules | `(tactic| specialize "fun") => `(tactic| first
  | ((with_reducible show wE _ _ (Expr.Call (Expr.Attribute (Expr.Name (Str.ofString "_law_hall") _) (Str.ofString "hear") _) _ _ _) _ _ _); refine xE_meth (DS.cls_Hall (by assumption)) (cf_hearR (by assumption) (by assumption) (by assumption)) (Room.mono (by assumption) (by decide)) ?_)
  | ((with_reducible show wE _ _ (Expr.Call (Expr.Attribute (Expr.Name (Str.ofString "_law_hall") _) (Str.ofString "lift") _) _ _ _) _ _ _); refine xE_meth (DS.cls_Hall (by assumption)) (cf_liftR (by assumption) (by assumption) (by assumption)) (Room.mono (by assumption) (by decide)) ?_)
  | ((with_reducible show wE _ _ (Expr.Call (Expr.Attribute (Expr.Name (Str.ofString "_law_hall") _) (Str.ofString "drop") _) _ _ _) _ _ _); refine xE_meth (DS.cls_Hall (by assumption)) (cf_dropR (by assumption) (by assumption) (by assumption)) (Room.mono (by assumption) (by decide)) ?_)
  | ((with_reducible show wE _ _ (Expr.Call (Expr.Attribute (Expr.Name (Str.ofString "_law_hall") _) (Str.ofString "swap") _) _ _ _) _ _ _); refine xE_meth (DS.cls_Hall (by assumption)) (cf_swapR (by assumption) (by assumption) (by assumption)) (Room.mono (by assumption) (by decide)) ?_)
  | ((with_reducible show wE _ _ (Expr.Call (Expr.Attribute (Expr.Name (Str.ofString "_law_hall") _) (Str.ofString "take") _) _ _ _) _ _ _); refine xE_meth (DS.cls_Hall (by assumption)) (cf_takeR (by assumption) (by assumption) (by assumption)) (Room.mono (by assumption) (by decide)) ?_)
  | ((with_reducible show wE _ _ (Expr.Call (Expr.Attribute (Expr.Name (Str.ofString "_law_hall") _) (Str.ofString "dial") _) _ _ _) _ _ _); refine xE_meth (DS.cls_Hall (by assumption)) (cf_dialR (by assumption) (by assumption) (by assumption)) (Room.mono (by assumption) (by decide)) ?_))
local macro_rules | `(tactic| specialize "cmT") => `(tactic| first
  | ((with_reducible show wT _ _ (Expr.Compare (Expr.Call (Expr.Attribute _ (Str.ofString "dial") _) _ _ _) [CmpOp.NotEq] [_] _) _ _ _); refine xT_neY (Room.u65 (by assumption)) ?_))
local macro_rules | `(tactic| specialize "s3") => `(tactic| ((with_reducible show wGs _ _ _ _ _ _ _); first | refine wGs_c ?_ | refine wGs_n ?_))
local macro_rules | `(tactic| specialize "s3") => `(tactic| ((with_reducible show sGs _ _ [_, _, _, _] _ _ _ _); refine ⟨_, rfl, rfl, ?_⟩))
local macro_rules | `(tactic| specialize "fun") => `(tactic| first
  | ((with_reducible show wE _ _ (Expr.Call (Expr.Name (Str.ofString "Hall") _) _ _ _) _ _ _); refine xE_make (cf_Hall_initL (by assumption) (by assumption)) (Room.mono (by assumption) (by decide)) ?_)
  | ((with_reducible show wE _ _ (Expr.Call (Expr.Name (Str.ofString "_law_is_so") _) _ _ _) _ _ _); refine xE_call (cf_is_so (by assumption) (by assumption)) (Room.mono (by assumption) (by decide)) ?_)
  | ((with_reducible show wE _ _ (Expr.Call (Expr.Name (Str.ofString "_law_at_length") _) _ _ _) _ _ _); refine xE_call (cf_at (by assumption) (by assumption) (by assumption) (by assumption) (by assumption)) (Room.mono (by assumption) (by decide)) ?_))
local macro_rules | `(tactic| specialize "st") => `(tactic| ((with_reducible show wS _ _ (Stmt.Assign [Expr.Name (Str.ofString "_law_row") _] _ _) _ _ _); refine' xS_set ?k1 (of_decide_eq_true (by kernel_rfl)) ?_; (case k1 => specialize "idx"); refine xE_lstN ?_))
local macro_rules | `(tactic| specialize "ix") => `(tactic| first | assumption | rfl)
local macro_rules | `(tactic| specialize "ex") => `(tactic| ((with_reducible show wE _ _ (Expr.Call (Expr.Attribute _ (Str.ofString "pop") _) [_] _ _) _ _ _); refine xE_popAt ?_))
local macro_rules | `(tactic| specialize "ex") => `(tactic| ((with_reducible show wE _ _ (Expr.Call (Expr.Name (Str.ofString "list") _) [Expr.Call (Expr.Name (Str.ofString "range") _) _ _ _] _ _) _ _ _); refine wE_listRgN (GL.b_list (by assumption)) (GL.b_range (by assumption)) ?_))
local macro_rules | `(tactic| specialize "s3") => `(tactic| ((with_reducible show ∃ _ : Nat, W.int _ = W.int _ ∧ _ ≤ 1000 ∧ _); refine ⟨6, rfl, Nat.le_of_ble_eq_true rfl, ?_⟩))
local macro_rules | `(tactic| specialize "st") => `(tactic| ((with_reducible show wS _ _ (Stmt.For _ _ _ _ _) _ _ _); refine stop_i ?_))
local macro_rules | `(tactic| specialize "ex") => `(tactic| ((with_reducible show wE _ _ (Expr.ListComp _ _ _ _) _ _ _); refine stop_i ?_))
local macro_rules | `(tactic| specialize "gg") => `(tactic| ((with_reducible show wG _ _ (Expr.Tuple [_, _, _, _] _ _) _ _ _ _); refine xG_lst rfl (by (repeat (first | exact Each.nil | refine Each.cons rfl ?_))) ?_; refine ⟨_, rfl, (fun _ z => nomatch z), rfl, ?_⟩))
local macro_rules | `(tactic| specialize "plus") => `(tactic| first | ((with_reducible show wE _ _ (Expr.BinOp (Expr.List _ _) Operator.Add _ _) _ _ _); refine xE_cat ?_) | refine xE_add ?_)
set_option maxHeartbeats 20000000 in
theorem law_hbody (G : GL mg) (D : DS K mg C_Book C_Way C_Call C_Phone C_Hall) (N : N11 K mg D_NN C_PE) {c Pt : Addr} (hc : CodeAt K mg "_law_at_length" c) (TB : LamX.TabB base mg c Pt) (f : Addr) (cdv : Value) (A : Around) (outer : List Env) (s : Shared) (H : Hp) (E : XK) (hr : Room 9 (A.deeper (envOfC "law" (defScope s_law) s.heap.objs.size f cdv))) (ws : List W) (S : Sto) (Φ : W → Sto → Prop) (Ψ : Value → List (Str × W) → Sto → Prop) (hl : ws.length = 1) (hS : Srl S) (ha : asp_law K Pt (("_law_at_length" : Str) ++ ".<locals>." ++ "<lambda>") ws S Φ Ψ) :
    wB (cxOf (L2.CX P w) P w K mg base ["_law_script", "_law_row", "_law_turn", "_law_order", "_law_a", "_law_b", "_law_c", "_law_d", "_law_k", "_law_on", "_law_hall", "_law_phone"] "law" (defScope s_law) f cdv A outer s H E) (fun cls fs _ S2 => Ψ cls fs S2) (defBody s_law) (startW (["_law_script", "_law_row", "_law_turn", "_law_order", "_law_a", "_law_b", "_law_c", "_law_d", "_law_k", "_law_on", "_law_hall", "_law_phone"] : List Str).length ws) S ⟨fun _ S2 => fin S.length Φ .non S2, fin S.length Φ, fun _ _ => False, fun _ _ => False⟩ := by
  obtain ⟨ns, rfl, hns, ht, h⟩ := ha
  specialize "go"
  have hq : (S ++ [O.lst [.scr K ns, .int 0, .int 0]])[S.length]? = some (rowL K ns 0 0) := nth_new0
  refine wS.less (imp_fold hq ⟨hns, by decide, by decide, by decide⟩) ?_
  rw [set_new0]
  have hr0 : (S ++ [O.row K])[S.length]? = some (.row K) := nth_new0
  have ht0 : (S ++ [O.row K])[0]? = some (.tab Pt (("_law_at_length" : Str) ++ ".<locals>." ++ "<lambda>")) := get_app ht
  show wS _ _ _ _ (S ++ [O.row K]) _
  have hlt : S.length < (S ++ [O.row K]).length := by simp
  generalize hS0 : S ++ [O.row K] = S1 at hr0 ht0 hlt ⊢
  refine wS_for (passes_of rfl) rfl ?_
  specialize "go"
  refine ⟨fun i E' T => (∃ a2 a3 a4 a5 a6 a7 a8 a9 a10 a11, E' = [some (.scr K ns), some (.ref S.length), a2, a3, a4, a5, a6, a7, a8, a9, a10, a11]) ∧ Kp S1 T, ⟨⟨_, _, _, _, _, _, _, _, _, _, rfl⟩, Kp.refl _⟩, fun _ _ _ _ => trivial, ?_, ?_⟩
  · rintro i w E' T hw ⟨⟨a2, a3, a4, a5, a6, a7, a8, a9, a10, a11, rfl⟩, kp⟩
    obtain ⟨x, hx, rfl⟩ := map_inv hw
    have hr1 : T[S.length]? = some (.row K) := kp.at hr0
    specialize "go"
    unfold Stop
    refine wE_lcF 8 .no rfl (of_decide_eq_true (by kernel_rfl)) (blkOk_by (by kernel_rfl)) ?_
    specialize "go"
    refine ⟨fun i acc S' => i ≤ 4 ∧ ∃ done left, acc = intsW done ∧ S' = T ++ [.lst (intsW left)] ∧ done.length = i ∧ left.length = 6 - i ∧ (done ++ left).Perm [0, 1, 2, 3, 4, 5], ⟨by decide, [], [0, 1, 2, 3, 4, 5], rfl, rfl, rfl, rfl, List.Perm.refl _⟩, ?_, ?_, ?_⟩
    · rintro i acc S' ⟨hi, done, left, rfl, rfl, h1, h2, h3⟩
      refine ⟨trivial, ?_⟩
      rw [len_ints]
      omega
    · rintro i w acc S' hw ⟨hi, done, left, rfl, rfl, h1, h2, h3⟩
      obtain ⟨x, hx, rfl⟩ := map_inv hw
      obtain ⟨hx1, hx2⟩ := List.getElem?_eq_some_iff.mp hx
      have hxi : x = i := by rw [← hx2, List.getElem_range]
      have hi6 : i < 4 := by rw [List.length_range] at hx1; exact hx1
      subst hxi
      intro s1 H0 C cl fp
      have h4 : (0 : Int) < ((intsW left).length : Nat) := by rw [len_ints]; omega
      have h5 : (((intsW left).length : Nat) : Int) ≤ 2147483647 := by rw [len_ints]; omega
      specialize "go"
      intro v hv0 hv1
      have hv2 : v.toNat < left.length := by rw [len_ints] at hv1; omega
      refine sPop_i (ws := intsW left) (y := .int left[v.toNat]) nth_new0 hv0 hv1 (by rw [len_ints]; omega) ?_ ?_
      · rw [intsW, List.getElem?_map, List.getElem?_eq_getElem hv2]
        rfl
      rw [set_new0]
      refine ⟨hi6, done ++ [left[v.toNat]], left.eraseIdx v.toNat, by simp [intsW], by rw [intsW, intsW, erase_map]; rfl, by rw [List.length_append, List.length_singleton]; omega, by rw [List.length_eraseIdx_of_lt hv2]; omega, ?_⟩
      refine List.Perm.trans ?_ h3
      rw [List.append_assoc]
      exact (erase_perm1 _ _ hv2).append_left done
    · rintro acc S' ⟨hi, done, left, rfl, rfl, h1, h2, h3⟩
      rw [rangeW, List.length_map, List.length_range] at h1 h2
      obtain ⟨ν, μ, R, h6, ea⟩ := ren_ex h3
      obtain ⟨rfl, el⟩ : done = [ν 0, ν 1, ν 2, ν 3] ∧ left = [ν 4, ν 5] := by
        have ea' : done ++ left = [ν 0, ν 1, ν 2, ν 3] ++ [ν 4, ν 5] := ea
        exact List.append_inj ea' (by rw [h1]; rfl)
      have kp1 := kp.app [.lst (intsW left)]
      have hr2 := kp1.at hr0
      generalize T ++ [O.lst (intsW left)] = T1 at kp1 hr2 ⊢
      specialize "go"
      intro v hv0 hv1
      obtain ⟨on, eon⟩ : ∃ on, atI [W.lst [], W.lst [W.tup [W.str "busy", W.int (ν 1), W.int (ν 3)]]] v = some (.lst (onL ν on)) := by
        have hv : v = 0 ∨ v = 1 := by omega
        rcases hv with rfl | rfl
        · exact ⟨false, rfl⟩
        · exact ⟨true, rfl⟩
      obtain ⟨sA, sB, sC, sD, sE, sU, sT, V⟩ := lv on
      have xok := tX_ok on
      have lon : (onL ν on).length ≤ 1 := by cases on <;> simp [onL]
      specialize "go"
      refine ⟨T1, ((tX on).map (Wish.re ν)), ?_, rfl, ?_, fun x hx => ?_, R.keys ?_, ?_⟩
      · cases on <;> rfl
      · cases on <;> exact Nat.le_of_ble_eq_true rfl
      · obtain ⟨y, hy, rfl⟩ := List.mem_map.mp hx
        exact R.ok (xok y hy)
      · cases on <;> exact of_decide_eq_true (by kernel_rfl)
      refine ⟨rfl, ?_⟩
      have h0 : HallAt (Cs.mk C_Book C_Way C_Call C_Phone C_Hall) (T1 ++ iniO (Cs.mk C_Book C_Way C_Call C_Phone C_Hall) T1.length ((tX on).map (Wish.re ν))) (iniLoc T1.length) ((tX on).map (Wish.re ν)) (Hl.new.re ν μ) := HallAt.iniR
      have k0 : HK S1 (T1 ++ iniO (Cs.mk C_Book C_Way C_Call C_Phone C_Hall) T1.length ((tX on).map (Wish.re ν))) (iniLoc T1.length) 0 := ⟨kp1.app _, fun c _ => Nat.le_trans kp1.le iniLoc_le⟩
      generalize T1 ++ iniO (Cs.mk C_Book C_Way C_Call C_Phone C_Hall) T1.length ((tX on).map (Wish.re ν)) = T0 at h0 k0 ⊢
      have eh : iniLoc T1.length .hall = T1.length := rfl
      rw [show Hl.new = sF [0, 2, 3] 0 from rfl] at h0
      generalize iniLoc T1.length = locA at h0 k0 eh
      specialize "go"
      unfold Stop
      refine wS_for (passes_of rfl) rfl ?_
      specialize "go"
      refine ⟨fun i E' T => (∃ b2 b3 b8 b11, E' = [some (.scr K ns), some (.ref S.length), b2, b3, some (.int (ν 0)), some (.int (ν 1)), some (.int (ν 2)), some (.int (ν 3)), b8, some (.lst (onL ν on)), some (.ref (locA .hall)), b11]) ∧ HallAt (Cs.mk C_Book C_Way C_Call C_Phone C_Hall) T locA ((tX on).map (Wish.re ν)) ((sF [0, 2, 3] i).re ν μ) ∧ HK S1 T locA 0, ⟨⟨_, _, _, _, by rw [eh]; rfl⟩, h0, k0⟩, fun _ _ _ _ => trivial, ?_, ?_⟩
      · rintro i w E' T hw ⟨⟨b2, b3, b8, b11, rfl⟩, hh, hk⟩
        obtain ⟨p, hp, rfl⟩ : ∃ p, ([0, 2, 3] : List Int)[i]? = some p ∧ w = W.int (ν p) := map_inv (xs := ([0, 2, 3] : List Int)) (f := fun p => W.int (ν p)) hw
        obtain ⟨p0, p5, up, es, en⟩ := sF_step (.inr rfl) hp
        have iv : Inv (sF [0, 2, 3] i) := sF_inv (.inr rfl) i (Nat.le_of_lt (List.getElem?_eq_some_iff.mp hp).1)
        have f0 := hh.hall
        generalize sF [0, 2, 3] i = si at hh iv up es en
        specialize "go"
        refine ⟨locA, _, si, p, rfl, hh, iv, p0, p5, up, ?_⟩
        intro T1' h1' fr1
        rw [en] at fr1
        rw [← es] at h1'
        specialize "go"
        try dsimp only
        refine dropTo.as ?_
        exact ⟨⟨_, _, _, _, rfl⟩, h1', hk.fr fr1⟩
      · rintro E' T ⟨⟨b2, b3, b8, b11, rfl⟩, hA, kA⟩
        have hA : HallAt (Cs.mk C_Book C_Way C_Call C_Phone C_Hall) T locA ((tX on).map (Wish.re ν)) ((sF [0, 2, 3] 3).re ν μ) := hA
        rw [V.a] at hA
        clear h0 k0 eh
        have fA := hA.hall
        specialize "go"
        refine ⟨locA, tX on, sA, 0, 1, rfl, hA, V.iA, xok, by decide, by decide, by decide, by decide, by rw [V.pA]; rfl, by rw [V.pA]; rfl, by rw [V.pA]; rfl, V.oA, ?_⟩
        intro UB locB jB hB nxB j1B _ _
        rw [V.b] at hB j1B
        try rw [V.b]
        rw [V.nA] at nxB j1B
        try rw [V.nA]
        rw [V.yB] at j1B ⊢
        have kB := kA.nx nxB
        have ehB := nxB.same .hall trivial
        have fB := hB.hall
        rw [← ehB]
        specialize "go"
        show sNeY (W.tup [.str "rings", .tup (intsW (sortI (List.map ν [1]))), .ref jB]) _ _ _
        rw [show sortI (List.map ν [1]) = [ν 1] from sortI_one]
        refine sNeY_i (cs := [ν 1]) j1B (dialW_ok (es := [ν 1]) (cs := [ν 1]) (by decide +kernel)) dialW_eq (dialW_ok (by decide +kernel)) ?_
        specialize "go"
        refine ⟨locB, _, sB, 1, rfl, hB, V.iB, by decide, by decide, V.pB, ?_⟩
        intro UC hC frC
        rw [V.c] at hC
        rw [V.nB] at frC
        have kC := kB.fr frC
        have fC := hC.hall
        specialize "go"
        refine ⟨locB, tX on, sC, 2, 1, rfl, hC, V.iC, xok, by decide, by decide, by decide, by decide, by rw [V.pC]; rfl, by rw [V.pC]; rfl, by rw [V.pC]; rfl, V.oC, ?_⟩
        intro UD locD jD hD nxD j1D _ _
        rw [V.d] at hD j1D
        try rw [V.d]
        rw [V.nC] at nxD j1D
        try rw [V.nC]
        rw [V.yD] at j1D ⊢
        have kD := kC.nx nxD
        have ehD := nxD.same .hall trivial
        have fD := hD.hall
        rw [← ehD]
        specialize "go"
        show sNeY (W.tup [.str "knocks", .tup (intsW (sortI (List.map ν [1]))), .ref jD]) _ _ _
        rw [show sortI (List.map ν [1]) = [ν 1] from sortI_one]
        refine sNeY_i (cs := [ν 1]) j1D (dialW_ok (es := [ν 1]) (cs := [ν 1]) (by decide +kernel)) dialW_eq (dialW_ok (by decide +kernel)) ?_
        specialize "go"
        clear j1D j1B hC fC hB fB hA fA
        have hrD : UD[S.length]? = some (.row K) := kD.kp.at hr0
        refine ⟨locD, _, sD, 1, rfl, hD, V.iD, by decide, by decide, ?_⟩
        rw [V.hD1]
        dsimp only
        rw [show sortI (List.map ν [0]) = [ν 0] from sortI_one]
        specialize "go"
        refine ⟨locD, _, sD, 2, rfl, hD, V.iD, by decide, by decide, ?_⟩
        rw [V.hD2]
        dsimp only
        rw [show sortI (List.map ν []) = [] from sortI_nil]
        specialize "go"
        intro u hu0 hu1
        specialize "go"
        refine sIte_s (fun z => ?_) (fun z => ?_)
        · specialize "go"
          refine ⟨locD, _, sD, 1, rfl, hD, V.iD, by decide, by decide, V.uD, ?_⟩
          intro UE hE frE
          rw [V.e] at hE
          rw [V.nD] at frE
          have kE := kD.fr frE
          have fE := hE.hall
          specialize "go"
          refine ⟨locD, _, sE, 1, rfl, hE, V.iE, by decide, by decide, ?_⟩
          rw [V.hE1]
          dsimp only
          rw [show sortI (List.map ν []) = [] from sortI_nil]
          specialize "go"
          refine ⟨locD, _, sE, 0, rfl, hE, V.iE, by decide, by decide, ?_⟩
          rw [V.hE0]
          dsimp only
          rw [show sortI (List.map ν []) = [] from sortI_nil]
          specialize "go"
          refine ⟨locD, _, sE, 2, rfl, hE, V.iE, by decide, by decide, ?_⟩
          rw [V.hE2]
          dsimp only
          rw [show sortI (List.map ν []) = [] from sortI_nil]
          specialize "go"
          refine ⟨locD, _, sE, 1, rfl, hE, V.iE, by decide, by decide, V.uE, ?_⟩
          intro UU hU frU
          rw [V.f] at hU
          rw [V.nE] at frU
          have kU := kE.fr frU
          have fU := hU.hall
          specialize "go"
          refine ⟨locD, _, sU, 1, rfl, hU, V.iU, by decide, by decide, ?_⟩
          rw [V.hU1]
          dsimp only
          rw [show sortI (List.map ν [2]) = [ν 2] from sortI_one]
          specialize "go"
          refine ⟨locD, _, sU, 2, rfl, hU, V.iU, by decide, by decide, ?_⟩
          rw [V.hU2]
          dsimp only
          rw [show sortI (List.map ν [1]) = [ν 1] from sortI_one]
          specialize "go"
          try dsimp only
          refine dropTo.as ?_
          exact ⟨⟨_, _, _, _, _, _, _, _, _, _, rfl⟩, kU.kp⟩
        · specialize "go"
          refine ⟨ν, μ, on, sD, sT, locD, S.length, rfl, R, kD.kp.at hr0, (fun c hc e => by have := kD.lo c hc; omega), hD, V.nD, V.iD, V.uD, V.tD, V.kD, V.bD, V.t, V.tri, V.iT, V.nT, fun S' loc' n' nx => ?_⟩
          have kZ := kD.nx nx
          specialize "go"
          try dsimp only
          refine dropTo.as ?_
          exact ⟨⟨_, _, _, _, _, _, _, _, _, _, rfl⟩, kZ.kp⟩
  · rintro E' T ⟨⟨a2, a3, a4, a5, a6, a7, a8, a9, a10, a11, rfl⟩, kp⟩
    have hr1 : T[S.length]? = some (.row K) := kp.at hr0
    specialize "go"
    unfold Stop
    refine wE_lcF 8 .no rfl (of_decide_eq_true (by kernel_rfl)) (blkOk_by (by kernel_rfl)) ?_
    specialize "go"
    refine ⟨fun i acc S' => i ≤ 6 ∧ ∃ done left, acc = intsW done ∧ S' = T ++ [.lst (intsW left)] ∧ done.length = i ∧ left.length = 6 - i ∧ (done ++ left).Perm [0, 1, 2, 3, 4, 5], ⟨by decide, [], [0, 1, 2, 3, 4, 5], rfl, rfl, rfl, rfl, List.Perm.refl _⟩, ?_, ?_, ?_⟩
    · rintro i acc S' ⟨hi, done, left, rfl, rfl, h1, h2, h3⟩
      refine ⟨trivial, ?_⟩
      rw [len_ints]
      omega
    · rintro i w acc S' hw ⟨hi, done, left, rfl, rfl, h1, h2, h3⟩
      obtain ⟨x, hx, rfl⟩ := map_inv hw
      obtain ⟨hx1, hx2⟩ := List.getElem?_eq_some_iff.mp hx
      have hxi : x = i := by rw [← hx2, List.getElem_range]
      have hi6 : i < 6 := by rw [List.length_range] at hx1; exact hx1
      subst hxi
      intro s1 H0 C cl fp
      have h4 : (0 : Int) < ((intsW left).length : Nat) := by rw [len_ints]; omega
      have h5 : (((intsW left).length : Nat) : Int) ≤ 2147483647 := by rw [len_ints]; omega
      specialize "go"
      intro v hv0 hv1
      have hv2 : v.toNat < left.length := by rw [len_ints] at hv1; omega
      refine sPop_i (ws := intsW left) (y := .int left[v.toNat]) nth_new0 hv0 hv1 (by rw [len_ints]; omega) ?_ ?_
      · rw [intsW, List.getElem?_map, List.getElem?_eq_getElem hv2]
        rfl
      rw [set_new0]
      refine ⟨hi6, done ++ [left[v.toNat]], left.eraseIdx v.toNat, by simp [intsW], by rw [intsW, intsW, erase_map]; rfl, by rw [List.length_append, List.length_singleton]; omega, by rw [List.length_eraseIdx_of_lt hv2]; omega, ?_⟩
      refine List.Perm.trans ?_ h3
      rw [List.append_assoc]
      exact (erase_perm1 _ _ hv2).append_left done
    · rintro acc S' ⟨hi, done, left, rfl, rfl, h1, h2, h3⟩
      rw [rangeW, List.length_map, List.length_range] at h1 h2
      have hl0 : left = [] := List.eq_nil_of_length_eq_zero h2
      subst hl0
      rw [List.append_nil] at h3
      obtain ⟨ν, μ, R, h6, rfl⟩ := ren_ex h3
      have kp1 := kp.app [.lst (intsW [])]
      have hr2 := kp1.at hr0
      have ht2 := kp1.at ht0
      generalize T ++ [O.lst (intsW [])] = T1 at kp1 hr2 ht2 ⊢
      specialize "go"
      intro v hv0 hv1
      specialize "go"
      refine ⟨ν, μ, (1 + v).toNat, ?_, R, h6, by omega, by omega, ht2, ?_⟩
      · rw [Int.toNat_of_nonneg (by omega)]
        rfl
      try dsimp only
      rw [kp1.split (U := S) (by rw [← hS0]; exact List.prefix_append _ _)]
      exact fin.drop (Nat.le_refl _) hS (.bl true) h
end
end

end
-- H_k11
theorem all_facts {K : PySem.W.Frag} {h : Heap} {mg : Str → Option Value} {C_Book C_Way C_Call C_Phone C_Hall : Addr} (X : K.In h) (G : h.Ns mainGlobals mg)
    (n_Book : PySem.W.nsIn K mainGlobals "Book" = some (some (.ref C_Book)))
    (n_Way : PySem.W.nsIn K mainGlobals "Way" = some (some (.ref C_Way)))
    (n_Call : PySem.W.nsIn K mainGlobals "Call" = some (some (.ref C_Call)))
    (n_Phone : PySem.W.nsIn K mainGlobals "Phone" = some (some (.ref C_Phone)))
    (n_Hall : PySem.W.nsIn K mainGlobals "Hall" = some (some (.ref C_Hall)))
    (r_is_number : RawDef K "is_number" "is_number" s_is_number)
    (r_is_phone : RawDef K "is_phone" "is_phone" s_is_phone)
    (r_need_phone : RawDef K "need_phone" "need_phone" s_need_phone)
    (r_need_number : RawDef K "need_number" "need_number" s_need_number)
    (r_are_members : RawDef K "are_members" "are_members" s_are_members)
    (r_is_wish : RawDef K "is_wish" "is_wish" s_is_wish)
    (r_key_of : RawDef K "key_of" "key_of" s_key_of)
    (r_need_wishes : RawDef K "need_wishes" "need_wishes" s_need_wishes)
    (r_Book_init : RawMeth K C_Book "__init__" "Book.__init__" s_Book_init)
    (r_Book_has : RawMeth K C_Book "has" "Book.has" s_Book_has)
    (r_Book_goal : RawMeth K C_Book "goal" "Book.goal" s_Book_goal)
    (r_Book_patience : RawMeth K C_Book "patience" "Book.patience" s_Book_patience)
    (r_Book_bars : RawMeth K C_Book "bars" "Book.bars" s_Book_bars)
    (r_Book_members : RawMeth K C_Book "members" "Book.members" s_Book_members)
    (r_rings_at : RawDef K "rings_at" "rings_at" s_rings_at)
    (r_next_of : RawDef K "next_of" "next_of" s_next_of)
    (r_Way_init : RawMeth K C_Way "__init__" "Way.__init__" s_Way_init)
    (r_Way_go : RawMeth K C_Way "go" "Way.go" s_Way_go)
    (r_Way_step : RawMeth K C_Way "step" "Way.step" s_Way_step)
    (r_Call_init : RawMeth K C_Call "__init__" "Call.__init__" s_Call_init)
    (r_Phone_init : RawMeth K C_Phone "__init__" "Phone.__init__" s_Phone_init)
    (r_Hall_init : RawMeth K C_Hall "__init__" "Hall.__init__" s_Hall_init)
    (r_Hall_phone : RawMeth K C_Hall "phone" "Hall.phone" s_Hall_phone)
    (r_Hall_may_be_knocked_at : RawMeth K C_Hall "may_be_knocked_at" "Hall.may_be_knocked_at" s_Hall_may_be_knocked_at)
    (r_Hall_go_on : RawMeth K C_Hall "go_on" "Hall.go_on" s_Hall_go_on)
    (r_Hall_knock_list : RawMeth K C_Hall "knock_list" "Hall.knock_list" s_Hall_knock_list)
    (r_Hall_silence : RawMeth K C_Hall "silence" "Hall.silence" s_Hall_silence)
    (r_Hall_over : RawMeth K C_Hall "over" "Hall.over" s_Hall_over)
    (r_Hall_answer : RawMeth K C_Hall "answer" "Hall.answer" s_Hall_answer)
    (r_Hall_leave : RawMeth K C_Hall "leave" "Hall.leave" s_Hall_leave)
    (r_Hall_lift : RawMeth K C_Hall "lift" "Hall.lift" s_Hall_lift)
    (r_Hall_dial : RawMeth K C_Hall "dial" "Hall.dial" s_Hall_dial)
    (r_Hall_drop : RawMeth K C_Hall "drop" "Hall.drop" s_Hall_drop)
    (r_Hall_need_talk : RawMeth K C_Hall "need_talk" "Hall.need_talk" s_Hall_need_talk)
    (r_Hall_hold : RawMeth K C_Hall "hold" "Hall.hold" s_Hall_hold)
    (r_Hall_swap : RawMeth K C_Hall "swap" "Hall.swap" s_Hall_swap)
    (r_Hall_take : RawMeth K C_Hall "take" "Hall.take" s_Hall_take)
    (r_Hall_join : RawMeth K C_Hall "join" "Hall.join" s_Hall_join)
    (r_Hall_beat : RawMeth K C_Hall "beat" "Hall.beat" s_Hall_beat)
    (r_Hall_late : RawMeth K C_Hall "late" "Hall.late" s_Hall_late)
    (r_Hall_hear : RawMeth K C_Hall "hear" "Hall.hear" s_Hall_hear)
    (r_Hall_all_calls : RawMeth K C_Hall "all_calls" "Hall.all_calls" s_Hall_all_calls)
    (r_law_taken : RawDef K "_law_taken" "_law_taken" s_law_taken)
    (r_law_is_so : RawDef K "_law_is_so" "_law_is_so" s_law_is_so)
    (r_law_is_not_now : RawDef K "_law_is_not_now" "_law_is_not_now" s_law_is_not_now)
    (r_law_at_length : RawDef K "_law_at_length" "_law_at_length" s_law_at_length)
    (r_law : RawDef K "law" "law" s_law)
    (m_Book : PySem.W.makesIn K C_Book = true)
    (k_Book : PySem.W.keepIn K (.ref C_Book) = true)
    (pg_Book : PySem.W.plainGet K C_Book Str.empty = true)
    (hd_Book : PySem.W.hasDictIn K C_Book = true)
    (po_Book : PySem.W.plainOver K C_Book = true)
    (sa_Book : PySem.W.findIn K (.ref C_Book) "__setattr__" = some (some (.builtin "object.__setattr__")))
    (na_Book_wanted : PySem.W.findIn K (.ref C_Book) "wanted" = some none)
    (m_Way : PySem.W.makesIn K C_Way = true)
    (k_Way : PySem.W.keepIn K (.ref C_Way) = true)
    (pg_Way : PySem.W.plainGet K C_Way Str.empty = true)
    (hd_Way : PySem.W.hasDictIn K C_Way = true)
    (po_Way : PySem.W.plainOver K C_Way = true)
    (sa_Way : PySem.W.findIn K (.ref C_Way) "__setattr__" = some (some (.builtin "object.__setattr__")))
    (na_Way_book : PySem.W.findIn K (.ref C_Way) "book" = some none)
    (na_Way_caller : PySem.W.findIn K (.ref C_Way) "caller" = some none)
    (na_Way_chain : PySem.W.findIn K (.ref C_Way) "chain" = some none)
    (na_Way_leads : PySem.W.findIn K (.ref C_Way) "leads" = some none)
    (na_Way_group : PySem.W.findIn K (.ref C_Way) "group" = some none)
    (na_Way_word : PySem.W.findIn K (.ref C_Way) "word" = some none)
    (na_Way_ears : PySem.W.findIn K (.ref C_Way) "ears" = some none)
    (m_Call : PySem.W.makesIn K C_Call = true)
    (k_Call : PySem.W.keepIn K (.ref C_Call) = true)
    (pg_Call : PySem.W.plainGet K C_Call Str.empty = true)
    (hd_Call : PySem.W.hasDictIn K C_Call = true)
    (po_Call : PySem.W.plainOver K C_Call = true)
    (sa_Call : PySem.W.findIn K (.ref C_Call) "__setattr__" = some (some (.builtin "object.__setattr__")))
    (na_Call_way : PySem.W.findIn K (.ref C_Call) "way" = some none)
    (na_Call_people : PySem.W.findIn K (.ref C_Call) "people" = some none)
    (na_Call_age : PySem.W.findIn K (.ref C_Call) "age" = some none)
    (na_Call_is_talk : PySem.W.findIn K (.ref C_Call) "is_talk" = some none)
    (m_Phone : PySem.W.makesIn K C_Phone = true)
    (k_Phone : PySem.W.keepIn K (.ref C_Phone) = true)
    (pg_Phone : PySem.W.plainGet K C_Phone Str.empty = true)
    (hd_Phone : PySem.W.hasDictIn K C_Phone = true)
    (po_Phone : PySem.W.plainOver K C_Phone = true)
    (sa_Phone : PySem.W.findIn K (.ref C_Phone) "__setattr__" = some (some (.builtin "object.__setattr__")))
    (na_Phone_is_up : PySem.W.findIn K (.ref C_Phone) "is_up" = some none)
    (na_Phone_now : PySem.W.findIn K (.ref C_Phone) "now" = some none)
    (na_Phone_kept : PySem.W.findIn K (.ref C_Phone) "kept" = some none)
    (na_Phone_bell : PySem.W.findIn K (.ref C_Phone) "bell" = some none)
    (na_Phone_tone : PySem.W.findIn K (.ref C_Phone) "tone" = some none)
    (m_Hall : PySem.W.makesIn K C_Hall = true)
    (k_Hall : PySem.W.keepIn K (.ref C_Hall) = true)
    (pg_Hall : PySem.W.plainGet K C_Hall Str.empty = true)
    (hd_Hall : PySem.W.hasDictIn K C_Hall = true)
    (po_Hall : PySem.W.plainOver K C_Hall = true)
    (sa_Hall : PySem.W.findIn K (.ref C_Hall) "__setattr__" = some (some (.builtin "object.__setattr__")))
    (na_Hall_book : PySem.W.findIn K (.ref C_Hall) "book" = some none)
    (na_Hall_phones : PySem.W.findIn K (.ref C_Hall) "phones" = some none)
    (na_Hall_calls : PySem.W.findIn K (.ref C_Hall) "calls" = some none)
    (eq_Call : PySem.W.findIn K (.ref C_Call) "__eq__" = some (some (.builtin "object.__eq__")))
    (nn_Call : PySem.W.subIn K (.ref C_Call) (.type "NoneType") = some false)
    (b_isinstance : PySem.W.nsIn K mainGlobals "isinstance" = some none)
    (b_int : PySem.W.nsIn K mainGlobals "int" = some none)
    (b_bool : PySem.W.nsIn K mainGlobals "bool" = some none)
    (b_tuple : PySem.W.nsIn K mainGlobals "tuple" = some none)
    (b_str : PySem.W.nsIn K mainGlobals "str" = some none)
    (b_list : PySem.W.nsIn K mainGlobals "list" = some none)
    (b_len : PySem.W.nsIn K mainGlobals "len" = some none)
    (b_range : PySem.W.nsIn K mainGlobals "range" = some none)
    (b_enumerate : PySem.W.nsIn K mainGlobals "enumerate" = some none)
    (b_sorted : PySem.W.nsIn K mainGlobals "sorted" = some none)
    (c_PHONES : ∃ t, PySem.W.nsIn K mainGlobals "PHONES" = some (some (.int 6 t)))
    (c_NUMBERS : ∃ t, PySem.W.nsIn K mainGlobals "NUMBERS" = some (some (.int 8 t)))
    (c_MOST_LATE : ∃ t, PySem.W.nsIn K mainGlobals "MOST_LATE" = some (some (.int 9 t)))
    (c_MOST_WISHES : ∃ t, PySem.W.nsIn K mainGlobals "MOST_WISHES" = some (some (.int 24 t)))
    (c_ALL : ∃ t, PySem.W.nsIn K mainGlobals "ALL" = some (some (.str "all" t)))
    (c_BUSY : ∃ t, PySem.W.nsIn K mainGlobals "BUSY" = some (some (.str "busy" t)))
    (c_LATE : ∃ t, PySem.W.nsIn K mainGlobals "LATE" = some (some (.str "late" t)))
    (c_WAIT : ∃ t, PySem.W.nsIn K mainGlobals "WAIT" = some (some (.str "wait" t)))
    (c_STILL : ∃ t, PySem.W.nsIn K mainGlobals "STILL" = some (some (.str "still" t)))
    (c_BAR : ∃ t, PySem.W.nsIn K mainGlobals "BAR" = some (some (.str "bar" t)))
    (c_GROUP : ∃ t, PySem.W.nsIn K mainGlobals "GROUP" = some (some (.str "group" t)))
    (c_FREE : ∃ t, PySem.W.nsIn K mainGlobals "FREE" = some (some (.str "free" t)))
    (c_RINGS : ∃ t, PySem.W.nsIn K mainGlobals "RINGS" = some (some (.str "rings" t)))
    (c_KNOCKS : ∃ t, PySem.W.nsIn K mainGlobals "KNOCKS" = some (some (.str "knocks" t)))
    (c_BARRED : ∃ t, PySem.W.nsIn K mainGlobals "BARRED" = some (some (.str "barred" t)))
    (c_ROUND : ∃ t, PySem.W.nsIn K mainGlobals "ROUND" = some (some (.str "round" t)))
    (c_NOBODY : ∃ t, PySem.W.nsIn K mainGlobals "NOBODY" = some (some (.str "nobody" t)))
    (c_QUIET : ∃ t, PySem.W.nsIn K mainGlobals "QUIET" = some (some (.str "quiet" t)))
    (c_DIAL : ∃ t, PySem.W.nsIn K mainGlobals "DIAL" = some (some (.str "dial" t)))
    (c_BELL : ∃ t, PySem.W.nsIn K mainGlobals "BELL" = some (some (.str "bell" t)))
    (c_TALK : ∃ t, PySem.W.nsIn K mainGlobals "TALK" = some (some (.str "talk" t)))
    (c_MUSIC : ∃ t, PySem.W.nsIn K mainGlobals "MUSIC" = some (some (.str "music" t)))
    (c_MOST_AGE : ∃ t, PySem.W.nsIn K mainGlobals "MOST_AGE" = some (some (.int 12 t)))
    : GL mg ∧ DS K mg C_Book C_Way C_Call C_Phone C_Hall :=
  ⟨⟨PySem.W.mg_none_of X G b_isinstance, PySem.W.mg_none_of X G b_int, PySem.W.mg_none_of X G b_bool, PySem.W.mg_none_of X G b_tuple, PySem.W.mg_none_of X G b_str, PySem.W.mg_none_of X G b_list, PySem.W.mg_none_of X G b_len, PySem.W.mg_none_of X G b_range, PySem.W.mg_none_of X G b_enumerate, PySem.W.mg_none_of X G b_sorted, mgI_of X G c_PHONES, mgI_of X G c_NUMBERS, mgI_of X G c_MOST_LATE, mgI_of X G c_MOST_WISHES, mgS_of X G c_ALL, mgS_of X G c_BUSY, mgS_of X G c_LATE, mgS_of X G c_WAIT, mgS_of X G c_STILL, mgS_of X G c_BAR, mgS_of X G c_GROUP, mgS_of X G c_FREE, mgS_of X G c_RINGS, mgS_of X G c_KNOCKS, mgS_of X G c_BARRED, mgS_of X G c_ROUND, mgS_of X G c_NOBODY, mgS_of X G c_QUIET, mgS_of X G c_DIAL, mgS_of X G c_BELL, mgS_of X G c_TALK, mgS_of X G c_MUSIC, mgI_of X G c_MOST_AGE⟩, ⟨RawDef.at r_is_number X G (fun _ _ _ _ _ _ us hl => match us, hl with | [_, _, _], _ => rfl), RawDef.at r_is_phone X G (fun _ _ _ _ _ _ us hl => match us, hl with | [_], _ => rfl), RawDef.at r_need_phone X G (fun _ _ _ _ _ _ us hl => match us, hl with | [_], _ => rfl), RawDef.at r_need_number X G (fun _ _ _ _ _ _ us hl => match us, hl with | [_], _ => rfl), RawDef.at r_are_members X G (fun _ _ _ _ _ _ us hl => match us, hl with | [_], _ => rfl), RawDef.at r_is_wish X G (fun _ _ _ _ _ _ us hl => match us, hl with | [_], _ => rfl), RawDef.at r_key_of X G (fun _ _ _ _ _ _ us hl => match us, hl with | [_], _ => rfl), RawDef.at r_need_wishes X G (fun _ _ _ _ _ _ us hl => match us, hl with | [_], _ => rfl), RawMeth.make r_Book_init X G n_Book m_Book k_Book (fun _ _ _ _ _ _ us hl => match us, hl with | [_, _], _ => rfl), RawMeth.at r_Book_has (fun _ _ _ _ _ _ us hl => match us, hl with | [_, _, _], _ => rfl), RawMeth.at r_Book_goal (fun _ _ _ _ _ _ us hl => match us, hl with | [_, _, _], _ => rfl), RawMeth.at r_Book_patience (fun _ _ _ _ _ _ us hl => match us, hl with | [_, _], _ => rfl), RawMeth.at r_Book_bars (fun _ _ _ _ _ _ us hl => match us, hl with | [_, _, _], _ => rfl), RawMeth.at r_Book_members (fun _ _ _ _ _ _ us hl => match us, hl with | [_, _], _ => rfl), RawDef.at r_rings_at X G (fun _ _ _ _ _ _ us hl => match us, hl with | [_, _, _, _], _ => rfl), RawDef.at r_next_of X G (fun _ _ _ _ _ _ us hl => match us, hl with | [_, _, _, _, _], _ => rfl), RawMeth.make r_Way_init X G n_Way m_Way k_Way (fun _ _ _ _ _ _ us hl => match us, hl with | [_, _, _], _ => rfl), RawMeth.at r_Way_go (fun _ _ _ _ _ _ us hl => match us, hl with | [_, _, _, _], _ => rfl), RawMeth.at r_Way_step (fun _ _ _ _ _ _ us hl => match us, hl with | [_, _, _, _], _ => rfl), RawMeth.make r_Call_init X G n_Call m_Call k_Call (fun _ _ _ _ _ _ us hl => match us, hl with | [_, _], _ => rfl), RawMeth.make r_Phone_init X G n_Phone m_Phone k_Phone (fun _ _ _ _ _ _ us hl => match us, hl with | [_], _ => rfl), RawMeth.make r_Hall_init X G n_Hall m_Hall k_Hall (fun _ _ _ _ _ _ us hl => match us, hl with | [_, _], _ => rfl), RawMeth.at r_Hall_phone (fun _ _ _ _ _ _ us hl => match us, hl with | [_, _, _], _ => rfl), RawMeth.at r_Hall_may_be_knocked_at (fun _ _ _ _ _ _ us hl => match us, hl with | [_, _], _ => rfl), RawMeth.at r_Hall_go_on (fun _ _ _ _ _ _ us hl => match us, hl with | [_, _, _], _ => rfl), RawMeth.at r_Hall_knock_list (fun _ _ _ _ _ _ us hl => match us, hl with | [_, _], _ => rfl), RawMeth.at r_Hall_silence (fun _ _ _ _ _ _ us hl => match us, hl with | [_, _], _ => rfl), RawMeth.at r_Hall_over (fun _ _ _ _ _ _ us hl => match us, hl with | [_, _], _ => rfl), RawMeth.at r_Hall_answer (fun _ _ _ _ _ _ us hl => match us, hl with | [_, _, _], _ => rfl), RawMeth.at r_Hall_leave (fun _ _ _ _ _ _ us hl => match us, hl with | [_, _, _], _ => rfl), RawMeth.at r_Hall_lift (fun _ _ _ _ _ _ us hl => match us, hl with | [_, _], _ => rfl), RawMeth.at r_Hall_dial (fun _ _ _ _ _ _ us hl => match us, hl with | [_, _, _], _ => rfl), RawMeth.at r_Hall_drop (fun _ _ _ _ _ _ us hl => match us, hl with | [_, _], _ => rfl), RawMeth.at r_Hall_need_talk (fun _ _ _ _ _ _ us hl => match us, hl with | [_, _], _ => rfl), RawMeth.at r_Hall_hold (fun _ _ _ _ _ _ us hl => match us, hl with | [_, _], _ => rfl), RawMeth.at r_Hall_swap (fun _ _ _ _ _ _ us hl => match us, hl with | [_, _], _ => rfl), RawMeth.at r_Hall_take (fun _ _ _ _ _ _ us hl => match us, hl with | [_, _], _ => rfl), RawMeth.at r_Hall_join (fun _ _ _ _ _ _ us hl => match us, hl with | [_, _], _ => rfl), RawMeth.at r_Hall_beat (fun _ _ _ _ _ _ us hl => match us, hl with | [_], _ => rfl), RawMeth.at r_Hall_late (fun _ _ _ _ _ _ us hl => match us, hl with | [_, _], _ => rfl), RawMeth.at r_Hall_hear (fun _ _ _ _ _ _ us hl => match us, hl with | [_, _], _ => rfl), RawMeth.at r_Hall_all_calls (fun _ _ _ _ _ _ us hl => match us, hl with | [_], _ => rfl), RawDef.at r_law_taken X G (fun _ _ _ _ _ _ us hl => match us, hl with | [_, _], _ => rfl), RawDef.at r_law_is_so X G (fun _ _ _ _ _ _ us hl => match us, hl with | [_, _, _, _], _ => rfl), RawDef.at r_law_is_not_now X G (fun _ _ _ _ _ _ us hl => match us, hl with | [_], _ => rfl), RawDef.at r_law_at_length X G (fun _ _ _ _ _ _ us hl => match us, hl with | [_, _], _ => rfl), RawDef.at r_law X G (fun _ _ _ _ _ _ us hl => match us, hl with | [_], _ => rfl), ⟨pg_Book, hd_Book, po_Book, sa_Book⟩, na_Book_wanted, ⟨pg_Way, hd_Way, po_Way, sa_Way⟩, na_Way_book, na_Way_caller, na_Way_chain, na_Way_leads, na_Way_group, na_Way_word, na_Way_ears, ⟨pg_Call, hd_Call, po_Call, sa_Call⟩, na_Call_way, na_Call_people, na_Call_age, na_Call_is_talk, ⟨pg_Phone, hd_Phone, po_Phone, sa_Phone⟩, na_Phone_is_up, na_Phone_now, na_Phone_kept, na_Phone_bell, na_Phone_tone, ⟨pg_Hall, hd_Hall, po_Hall, sa_Hall⟩, na_Hall_book, na_Hall_phones, na_Hall_calls, ⟨L2.mro_obj m_Call, eq_Call, nn_Call⟩⟩⟩

-- E_k11
theorem sp_lawT {K : PySem.W.Frag} {H : Hp} {a Pt : Addr} {q : Str} {ns : List Int} (hl : ns.length ≤ 63) (hP : H Pt = some (.tbl #[])) (hS : SqL K H a (ns.map V.int)) : conc 1 (asp_law K Pt q) [.ref a] H (fun v _ => v = .bl true) fun _ _ _ => False := by
  refine ⟨rfl, ⟨[Pt], []⟩, [.tab Pt q], [.scr K ns], fun w _ => w = .bl true, fun _ _ _ => False, ⟨by simp, rfl, ?_, (fun p hp => by cases hp), ?_⟩, .cons (.scr ?_) .nil, ⟨ns, rfl, hl, rfl, rfl⟩, ?_, fun cls fs d M2 S2 H2 h _ _ _ => h.elim⟩
  · intro k p o h1 h2
    cases k with
    | zero =>
      cases h1
      cases h2
      exact ⟨_, hP, .tab trivial fun pos cv e => by cases e⟩
    | succ k => cases h1
  · intro k P q e
    cases k with
    | zero => cases e; rfl
    | succ k => cases e
  · rcases hS with h | h
    · refine .inl ⟨h, fun m => ?_, fun m => nomatch m⟩
      have e := List.mem_singleton.mp m
      subst e
      rcases h with h | ⟨o, h⟩ <;> (rw [hP] at h; cases h)
    · exact .inr h
  · rintro v w M2 S2 H2 rfl _ a _
    cases a
    rfl
def lamQ : Str := ("_law_at_length" : Str) ++ ".<locals>." ++ "<lambda>"
theorem rec_by {q : Program} {x : Str} (h : (recsOf q).any (fun d => decide (d.name = x)) = true) : ∃ d ∈ recsOf q, d.name = x := by
  obtain ⟨d, h1, h2⟩ := List.any_eq_true.mp h
  exact ⟨d, h1, of_decide_eq_true h2⟩
theorem law_end {l : PySem.W.OpenLaw} {w : World} {K : PySem.W.Frag} {h : Heap} {mg : Str → Option Value} {fa : Addr} {C_Book C_Way C_Call C_Phone C_Hall D_NN C_PE : Addr} (X : K.In h) (N : h.Ns mainGlobals mg) (hfa : mg "law" = some (.ref fa)) (r_law : RawDef K "law" "law" s_law) (F : GL mg ∧ DS K mg C_Book C_Way C_Call C_Phone C_Hall) (Q : N11 K mg D_NN C_PE) {qp : Program} (T : TabD qp mg h) (ne : noTab K = true) (hx : ∃ d ∈ recsOf qp, d.name = "_law_at_length") :
    LamX.LawAtS l w K (L2.CX l.prog w) 10 63 "_law_script" mg fa h := by
  obtain ⟨c, Pt, hc, nK, gP, C⟩ := T.at X ne hx
  obtain ⟨f, od, an, sl, oc, kV, dc, pm, cd, ct, h1, h2, h3, h4⟩ := r_law
  have e := hfa.symm.trans (PySem.W.mg_of X N h1)
  cases e
  refine ⟨PySem.W.fnOf "law" "law" (defArgs s_law) (defBody s_law) (defScope s_law) .none kV dc pm an cd ct, [(c, Pt)], conc 1 (asp_law K Pt lamQ), fun p hp => ?_, fun p hp => ?_, fun p hp => ?_, fun s v => .of_eq rfl, fun H a ns hl _ hP hS => sp_lawT hl (hP (c, Pt) (List.mem_singleton.mpr rfl)) hS, fun base _ _ TB => ?_⟩
  · rw [List.mem_singleton.mp hp]; exact gP
  · rw [List.mem_singleton.mp hp]; exact nK
  · rw [List.mem_singleton.mp hp]; exact C
  exact fn_ok (fun_mk h2 h3 h4) sc_law (law_hbody F.1 F.2 Q hc (TB (c, Pt) (List.mem_singleton.mpr rfl)) fa)
theorem law_all {l : PySem.W.OpenLaw} {w : World} {fa : Addr} {K : PySem.W.Frag} {h : Heap} {mg : Str → Option Value} {C_Book C_Way C_Call C_Phone C_Hall D_NN C_PE : Addr} (X : K.In h) (G : h.Ns mainGlobals mg) (hfa : mg "law" = some (.ref fa)) {qp : Program} (T : TabD qp mg h) (ne : noTab K = true) (hx : ∃ d ∈ recsOf qp, d.name = "_law_at_length")
    (n_Book : PySem.W.nsIn K mainGlobals "Book" = some (some (.ref C_Book)))
    (n_Way : PySem.W.nsIn K mainGlobals "Way" = some (some (.ref C_Way)))
    (n_Call : PySem.W.nsIn K mainGlobals "Call" = some (some (.ref C_Call)))
    (n_Phone : PySem.W.nsIn K mainGlobals "Phone" = some (some (.ref C_Phone)))
    (n_Hall : PySem.W.nsIn K mainGlobals "Hall" = some (some (.ref C_Hall)))
    (r_is_number : RawDef K "is_number" "is_number" s_is_number)
    (r_is_phone : RawDef K "is_phone" "is_phone" s_is_phone)
    (r_need_phone : RawDef K "need_phone" "need_phone" s_need_phone)
    (r_need_number : RawDef K "need_number" "need_number" s_need_number)
    (r_are_members : RawDef K "are_members" "are_members" s_are_members)
    (r_is_wish : RawDef K "is_wish" "is_wish" s_is_wish)
    (r_key_of : RawDef K "key_of" "key_of" s_key_of)
    (r_need_wishes : RawDef K "need_wishes" "need_wishes" s_need_wishes)
    (r_Book_init : RawMeth K C_Book "__init__" "Book.__init__" s_Book_init)
    (r_Book_has : RawMeth K C_Book "has" "Book.has" s_Book_has)
    (r_Book_goal : RawMeth K C_Book "goal" "Book.goal" s_Book_goal)
    (r_Book_patience : RawMeth K C_Book "patience" "Book.patience" s_Book_patience)
    (r_Book_bars : RawMeth K C_Book "bars" "Book.bars" s_Book_bars)
    (r_Book_members : RawMeth K C_Book "members" "Book.members" s_Book_members)
    (r_rings_at : RawDef K "rings_at" "rings_at" s_rings_at)
    (r_next_of : RawDef K "next_of" "next_of" s_next_of)
    (r_Way_init : RawMeth K C_Way "__init__" "Way.__init__" s_Way_init)
    (r_Way_go : RawMeth K C_Way "go" "Way.go" s_Way_go)
    (r_Way_step : RawMeth K C_Way "step" "Way.step" s_Way_step)
    (r_Call_init : RawMeth K C_Call "__init__" "Call.__init__" s_Call_init)
    (r_Phone_init : RawMeth K C_Phone "__init__" "Phone.__init__" s_Phone_init)
    (r_Hall_init : RawMeth K C_Hall "__init__" "Hall.__init__" s_Hall_init)
    (r_Hall_phone : RawMeth K C_Hall "phone" "Hall.phone" s_Hall_phone)
    (r_Hall_may_be_knocked_at : RawMeth K C_Hall "may_be_knocked_at" "Hall.may_be_knocked_at" s_Hall_may_be_knocked_at)
    (r_Hall_go_on : RawMeth K C_Hall "go_on" "Hall.go_on" s_Hall_go_on)
    (r_Hall_knock_list : RawMeth K C_Hall "knock_list" "Hall.knock_list" s_Hall_knock_list)
    (r_Hall_silence : RawMeth K C_Hall "silence" "Hall.silence" s_Hall_silence)
    (r_Hall_over : RawMeth K C_Hall "over" "Hall.over" s_Hall_over)
    (r_Hall_answer : RawMeth K C_Hall "answer" "Hall.answer" s_Hall_answer)
    (r_Hall_leave : RawMeth K C_Hall "leave" "Hall.leave" s_Hall_leave)
    (r_Hall_lift : RawMeth K C_Hall "lift" "Hall.lift" s_Hall_lift)
    (r_Hall_dial : RawMeth K C_Hall "dial" "Hall.dial" s_Hall_dial)
    (r_Hall_drop : RawMeth K C_Hall "drop" "Hall.drop" s_Hall_drop)
    (r_Hall_need_talk : RawMeth K C_Hall "need_talk" "Hall.need_talk" s_Hall_need_talk)
    (r_Hall_hold : RawMeth K C_Hall "hold" "Hall.hold" s_Hall_hold)
    (r_Hall_swap : RawMeth K C_Hall "swap" "Hall.swap" s_Hall_swap)
    (r_Hall_take : RawMeth K C_Hall "take" "Hall.take" s_Hall_take)
    (r_Hall_join : RawMeth K C_Hall "join" "Hall.join" s_Hall_join)
    (r_Hall_beat : RawMeth K C_Hall "beat" "Hall.beat" s_Hall_beat)
    (r_Hall_late : RawMeth K C_Hall "late" "Hall.late" s_Hall_late)
    (r_Hall_hear : RawMeth K C_Hall "hear" "Hall.hear" s_Hall_hear)
    (r_Hall_all_calls : RawMeth K C_Hall "all_calls" "Hall.all_calls" s_Hall_all_calls)
    (r_law_taken : RawDef K "_law_taken" "_law_taken" s_law_taken)
    (r_law_is_so : RawDef K "_law_is_so" "_law_is_so" s_law_is_so)
    (r_law_is_not_now : RawDef K "_law_is_not_now" "_law_is_not_now" s_law_is_not_now)
    (r_law_at_length : RawDef K "_law_at_length" "_law_at_length" s_law_at_length)
    (r_law : RawDef K "law" "law" s_law)
    (m_Book : PySem.W.makesIn K C_Book = true)
    (k_Book : PySem.W.keepIn K (.ref C_Book) = true)
    (pg_Book : PySem.W.plainGet K C_Book Str.empty = true)
    (hd_Book : PySem.W.hasDictIn K C_Book = true)
    (po_Book : PySem.W.plainOver K C_Book = true)
    (sa_Book : PySem.W.findIn K (.ref C_Book) "__setattr__" = some (some (.builtin "object.__setattr__")))
    (na_Book_wanted : PySem.W.findIn K (.ref C_Book) "wanted" = some none)
    (m_Way : PySem.W.makesIn K C_Way = true)
    (k_Way : PySem.W.keepIn K (.ref C_Way) = true)
    (pg_Way : PySem.W.plainGet K C_Way Str.empty = true)
    (hd_Way : PySem.W.hasDictIn K C_Way = true)
    (po_Way : PySem.W.plainOver K C_Way = true)
    (sa_Way : PySem.W.findIn K (.ref C_Way) "__setattr__" = some (some (.builtin "object.__setattr__")))
    (na_Way_book : PySem.W.findIn K (.ref C_Way) "book" = some none)
    (na_Way_caller : PySem.W.findIn K (.ref C_Way) "caller" = some none)
    (na_Way_chain : PySem.W.findIn K (.ref C_Way) "chain" = some none)
    (na_Way_leads : PySem.W.findIn K (.ref C_Way) "leads" = some none)
    (na_Way_group : PySem.W.findIn K (.ref C_Way) "group" = some none)
    (na_Way_word : PySem.W.findIn K (.ref C_Way) "word" = some none)
    (na_Way_ears : PySem.W.findIn K (.ref C_Way) "ears" = some none)
    (m_Call : PySem.W.makesIn K C_Call = true)
    (k_Call : PySem.W.keepIn K (.ref C_Call) = true)
    (pg_Call : PySem.W.plainGet K C_Call Str.empty = true)
    (hd_Call : PySem.W.hasDictIn K C_Call = true)
    (po_Call : PySem.W.plainOver K C_Call = true)
    (sa_Call : PySem.W.findIn K (.ref C_Call) "__setattr__" = some (some (.builtin "object.__setattr__")))
    (na_Call_way : PySem.W.findIn K (.ref C_Call) "way" = some none)
    (na_Call_people : PySem.W.findIn K (.ref C_Call) "people" = some none)
    (na_Call_age : PySem.W.findIn K (.ref C_Call) "age" = some none)
    (na_Call_is_talk : PySem.W.findIn K (.ref C_Call) "is_talk" = some none)
    (m_Phone : PySem.W.makesIn K C_Phone = true)
    (k_Phone : PySem.W.keepIn K (.ref C_Phone) = true)
    (pg_Phone : PySem.W.plainGet K C_Phone Str.empty = true)
    (hd_Phone : PySem.W.hasDictIn K C_Phone = true)
    (po_Phone : PySem.W.plainOver K C_Phone = true)
    (sa_Phone : PySem.W.findIn K (.ref C_Phone) "__setattr__" = some (some (.builtin "object.__setattr__")))
    (na_Phone_is_up : PySem.W.findIn K (.ref C_Phone) "is_up" = some none)
    (na_Phone_now : PySem.W.findIn K (.ref C_Phone) "now" = some none)
    (na_Phone_kept : PySem.W.findIn K (.ref C_Phone) "kept" = some none)
    (na_Phone_bell : PySem.W.findIn K (.ref C_Phone) "bell" = some none)
    (na_Phone_tone : PySem.W.findIn K (.ref C_Phone) "tone" = some none)
    (m_Hall : PySem.W.makesIn K C_Hall = true)
    (k_Hall : PySem.W.keepIn K (.ref C_Hall) = true)
    (pg_Hall : PySem.W.plainGet K C_Hall Str.empty = true)
    (hd_Hall : PySem.W.hasDictIn K C_Hall = true)
    (po_Hall : PySem.W.plainOver K C_Hall = true)
    (sa_Hall : PySem.W.findIn K (.ref C_Hall) "__setattr__" = some (some (.builtin "object.__setattr__")))
    (na_Hall_book : PySem.W.findIn K (.ref C_Hall) "book" = some none)
    (na_Hall_phones : PySem.W.findIn K (.ref C_Hall) "phones" = some none)
    (na_Hall_calls : PySem.W.findIn K (.ref C_Hall) "calls" = some none)
    (eq_Call : PySem.W.findIn K (.ref C_Call) "__eq__" = some (some (.builtin "object.__eq__")))
    (nn_Call : PySem.W.subIn K (.ref C_Call) (.type "NoneType") = some false)
    (b_isinstance : PySem.W.nsIn K mainGlobals "isinstance" = some none)
    (b_int : PySem.W.nsIn K mainGlobals "int" = some none)
    (b_bool : PySem.W.nsIn K mainGlobals "bool" = some none)
    (b_tuple : PySem.W.nsIn K mainGlobals "tuple" = some none)
    (b_str : PySem.W.nsIn K mainGlobals "str" = some none)
    (b_list : PySem.W.nsIn K mainGlobals "list" = some none)
    (b_len : PySem.W.nsIn K mainGlobals "len" = some none)
    (b_range : PySem.W.nsIn K mainGlobals "range" = some none)
    (b_enumerate : PySem.W.nsIn K mainGlobals "enumerate" = some none)
    (b_sorted : PySem.W.nsIn K mainGlobals "sorted" = some none)
    (c_PHONES : ∃ t, PySem.W.nsIn K mainGlobals "PHONES" = some (some (.int 6 t)))
    (c_NUMBERS : ∃ t, PySem.W.nsIn K mainGlobals "NUMBERS" = some (some (.int 8 t)))
    (c_MOST_LATE : ∃ t, PySem.W.nsIn K mainGlobals "MOST_LATE" = some (some (.int 9 t)))
    (c_MOST_WISHES : ∃ t, PySem.W.nsIn K mainGlobals "MOST_WISHES" = some (some (.int 24 t)))
    (c_ALL : ∃ t, PySem.W.nsIn K mainGlobals "ALL" = some (some (.str "all" t)))
    (c_BUSY : ∃ t, PySem.W.nsIn K mainGlobals "BUSY" = some (some (.str "busy" t)))
    (c_LATE : ∃ t, PySem.W.nsIn K mainGlobals "LATE" = some (some (.str "late" t)))
    (c_WAIT : ∃ t, PySem.W.nsIn K mainGlobals "WAIT" = some (some (.str "wait" t)))
    (c_STILL : ∃ t, PySem.W.nsIn K mainGlobals "STILL" = some (some (.str "still" t)))
    (c_BAR : ∃ t, PySem.W.nsIn K mainGlobals "BAR" = some (some (.str "bar" t)))
    (c_GROUP : ∃ t, PySem.W.nsIn K mainGlobals "GROUP" = some (some (.str "group" t)))
    (c_FREE : ∃ t, PySem.W.nsIn K mainGlobals "FREE" = some (some (.str "free" t)))
    (c_RINGS : ∃ t, PySem.W.nsIn K mainGlobals "RINGS" = some (some (.str "rings" t)))
    (c_KNOCKS : ∃ t, PySem.W.nsIn K mainGlobals "KNOCKS" = some (some (.str "knocks" t)))
    (c_BARRED : ∃ t, PySem.W.nsIn K mainGlobals "BARRED" = some (some (.str "barred" t)))
    (c_ROUND : ∃ t, PySem.W.nsIn K mainGlobals "ROUND" = some (some (.str "round" t)))
    (c_NOBODY : ∃ t, PySem.W.nsIn K mainGlobals "NOBODY" = some (some (.str "nobody" t)))
    (c_QUIET : ∃ t, PySem.W.nsIn K mainGlobals "QUIET" = some (some (.str "quiet" t)))
    (c_DIAL : ∃ t, PySem.W.nsIn K mainGlobals "DIAL" = some (some (.str "dial" t)))
    (c_BELL : ∃ t, PySem.W.nsIn K mainGlobals "BELL" = some (some (.str "bell" t)))
    (c_TALK : ∃ t, PySem.W.nsIn K mainGlobals "TALK" = some (some (.str "talk" t)))
    (c_MUSIC : ∃ t, PySem.W.nsIn K mainGlobals "MUSIC" = some (some (.str "music" t)))
    (c_MOST_AGE : ∃ t, PySem.W.nsIn K mainGlobals "MOST_AGE" = some (some (.int 12 t)))
    (g_D_NN : PySem.W.nsIn K mainGlobals "NotNow" = some (some (.ref D_NN)))
    (g_C_PE : PySem.W.nsIn K mainGlobals "PhoneError" = some (some (.ref C_PE)))
    (xx_ex : PySem.W.excIn K D_NN [.type "ValueError", .type "Exception", .type "BaseException", .type "object"] "ValueError.__new__" = true)
    (xx_kp : PySem.W.keepIn K (.ref D_NN) = true)
    (xx_sb : PySem.W.subIn K (.ref D_NN) (.type "BaseException") = some true)
    (xx_ty : PySem.W.typeIn K (.ref D_NN) = some (.type "type"))
    (xc_hg : PySem.W.findIn K (.ref D_NN) "__getattribute__" = some (some (.builtin "BaseException.__getattribute__")))
    (xc_hk : PySem.W.findIn K (.ref D_NN) "__getattr__" = some none)
    (xc_hd : PySem.W.hasDictIn K D_NN = true)
    (xc_ha : PySem.W.findIn K (.ref D_NN) "__class__" = some (some (.builtin "object.__class__")))
    (xc_hn : PySem.W.specialIn K (.builtin "object.__class__") "__get__" = some (some (.builtin "getset_descriptor.__get__")))
    (xc_ht : PySem.W.takesIn K (.builtin "object.__class__") = some true)
    (xc_hm : PySem.W.mroIn K D_NN (.type "object") = some true)
    (em : PySem.W.exmOne K (.ref D_NN) (.ref C_PE) = some true)
    (k_D_NN : PySem.W.kitOne K (.ref D_NN) (.ref D_NN) = some true)
    : LamX.LawAtS l w K (L2.CX l.prog w) 10 63 "_law_script" mg fa h :=
  law_end X G hfa r_law (all_facts X G n_Book n_Way n_Call n_Phone n_Hall r_is_number r_is_phone r_need_phone r_need_number r_are_members r_is_wish r_key_of r_need_wishes r_Book_init r_Book_has r_Book_goal r_Book_patience r_Book_bars r_Book_members r_rings_at r_next_of r_Way_init r_Way_go r_Way_step r_Call_init r_Phone_init r_Hall_init r_Hall_phone r_Hall_may_be_knocked_at r_Hall_go_on r_Hall_knock_list r_Hall_silence r_Hall_over r_Hall_answer r_Hall_leave r_Hall_lift r_Hall_dial r_Hall_drop r_Hall_need_talk r_Hall_hold r_Hall_swap r_Hall_take r_Hall_join r_Hall_beat r_Hall_late r_Hall_hear r_Hall_all_calls r_law_taken r_law_is_so r_law_is_not_now r_law_at_length r_law m_Book k_Book pg_Book hd_Book po_Book sa_Book na_Book_wanted m_Way k_Way pg_Way hd_Way po_Way sa_Way na_Way_book na_Way_caller na_Way_chain na_Way_leads na_Way_group na_Way_word na_Way_ears m_Call k_Call pg_Call hd_Call po_Call sa_Call na_Call_way na_Call_people na_Call_age na_Call_is_talk m_Phone k_Phone pg_Phone hd_Phone po_Phone sa_Phone na_Phone_is_up na_Phone_now na_Phone_kept na_Phone_bell na_Phone_tone m_Hall k_Hall pg_Hall hd_Hall po_Hall sa_Hall na_Hall_book na_Hall_phones na_Hall_calls eq_Call nn_Call b_isinstance b_int b_bool b_tuple b_str b_list b_len b_range b_enumerate b_sorted c_PHONES c_NUMBERS c_MOST_LATE c_MOST_WISHES c_ALL c_BUSY c_LATE c_WAIT c_STILL c_BAR c_GROUP c_FREE c_RINGS c_KNOCKS c_BARRED c_ROUND c_NOBODY c_QUIET c_DIAL c_BELL c_TALK c_MUSIC c_MOST_AGE) ⟨⟨(PySem.W.mg_of X G g_D_NN), xx_ex, xx_kp, xx_sb, xx_ty⟩, ⟨xc_hg, xc_hk, xx_sb, xc_hd, xc_ha, xc_hn, xc_ht, xc_hm⟩, (PySem.W.mg_of X G g_C_PE), em, k_D_NN⟩ T ne hx
theorem raw_def {K : PySem.W.Frag} {x qual : Str} {st : Stmt} {f : Addr} {od an : Option Addr} {sl : Array (Option Value)} {oc kV dc pm cd ct : Value} (h1 : PySem.W.nsIn K mainGlobals x = some (some (.ref f)))
    (h2 : K.lookup f = some ⟨oc, od, .func (PySem.W.fnOf x qual (defArgs st) (defBody st) (defScope st) .none kV dc pm an cd ct), sl⟩) (h3 : PySem.W.codeIn K cd qual = true) (h4 : PySem.W.keepIn K (.ref f) = true) : RawDef K x qual st := ⟨_, _, _, _, _, _, _, _, _, _, h1, h2, h3, h4⟩
theorem raw_meth {K : PySem.W.Frag} {C : Addr} {m qual : Str} {st : Stmt} {f : Addr} {od an : Option Addr} {sl : Array (Option Value)} {oc kV dc pm cd ct : Value} (h1 : PySem.W.findIn K (.ref C) m = some (some (.ref f)))
    (h2 : K.lookup f = some ⟨oc, od, .func (PySem.W.fnOf m qual (defArgs st) (defBody st) (defScope st) .none kV dc pm an cd ct), sl⟩) (h3 : PySem.W.codeIn K cd qual = true) (h4 : PySem.W.keepIn K (.ref f) = true) (h5 : PySem.W.isFn K (.ref f) = true) : RawMeth K C m qual st := ⟨_, _, _, _, _, _, _, _, _, _, h1, h2, h3, h4, h5⟩
theorem raw_int {K : PySem.W.Frag} {x : Str} {i : Int} {t : Tok} (h1 : PySem.W.nsIn K mainGlobals x = some (some (.int i t))) : ∃ t, PySem.W.nsIn K mainGlobals x = some (some (.int i t)) := ⟨_, h1⟩
theorem raw_str {K : PySem.W.Frag} {x i : Str} {t : Tok} (h1 : PySem.W.nsIn K mainGlobals x = some (some (.str i t))) : ∃ t, PySem.W.nsIn K mainGlobals x = some (some (.str i t)) := ⟨_, h1⟩
end AM
open PySem PySem.W PyProof.Rows in
set_option maxRecDepth 100000 in
set_option maxHeartbeats 0 in
theorem PySem.Challenge.cw_phonehall_k11_knocking_taking_exchanging_holds : PySem.Challenge.rw_phonehall_k11_knocking_taking_exchanging.Holds := by
  refine AM.head_of ?_
  k_fill
  refine AM.walkT (l := PySem.Challenge.rw_phonehall_k11_knocking_taking_exchanging) (n := 63) (k := 10) (CX := fun w => L2.CX PySem.Challenge.rw_phonehall_k11_knocking_taking_exchanging.prog w) (x := "_law_script") rfl (by decide) rfl ⟨rfl, by decide, by decide⟩ (fun w h Y => PySem.W.km_in_of Y) ?F ?Z
  case Z =>
    rintro w H s e s' ⟨_, _, _, _, _, _, _, _, _, _, _, _, z⟩
    exact z
  case F =>
    intro w mg fa h KX G hmg T
    refine' AM.law_all KX G hmg T ?ne ?hx ?n_Book ?n_Way ?n_Call ?n_Phone ?n_Hall ?r_is_number ?r_is_phone ?r_need_phone ?r_need_number ?r_are_members ?r_is_wish ?r_key_of ?r_need_wishes ?r_Book_init ?r_Book_has ?r_Book_goal ?r_Book_patience ?r_Book_bars ?r_Book_members ?r_rings_at ?r_next_of ?r_Way_init ?r_Way_go ?r_Way_step ?r_Call_init ?r_Phone_init ?r_Hall_init ?r_Hall_phone ?r_Hall_may_be_knocked_at ?r_Hall_go_on ?r_Hall_knock_list ?r_Hall_silence ?r_Hall_over ?r_Hall_answer ?r_Hall_leave ?r_Hall_lift ?r_Hall_dial ?r_Hall_drop ?r_Hall_need_talk ?r_Hall_hold ?r_Hall_swap ?r_Hall_take ?r_Hall_join ?r_Hall_beat ?r_Hall_late ?r_Hall_hear ?r_Hall_all_calls ?r_law_taken ?r_law_is_so ?r_law_is_not_now ?r_law_at_length ?r_law ?m_Book ?k_Book ?pg_Book ?hd_Book ?po_Book ?sa_Book ?na_Book_wanted ?m_Way ?k_Way ?pg_Way ?hd_Way ?po_Way ?sa_Way ?na_Way_book ?na_Way_caller ?na_Way_chain ?na_Way_leads ?na_Way_group ?na_Way_word ?na_Way_ears ?m_Call ?k_Call ?pg_Call ?hd_Call ?po_Call ?sa_Call ?na_Call_way ?na_Call_people ?na_Call_age ?na_Call_is_talk ?m_Phone ?k_Phone ?pg_Phone ?hd_Phone ?po_Phone ?sa_Phone ?na_Phone_is_up ?na_Phone_now ?na_Phone_kept ?na_Phone_bell ?na_Phone_tone ?m_Hall ?k_Hall ?pg_Hall ?hd_Hall ?po_Hall ?sa_Hall ?na_Hall_book ?na_Hall_phones ?na_Hall_calls ?eq_Call ?nn_Call ?b_isinstance ?b_int ?b_bool ?b_tuple ?b_str ?b_list ?b_len ?b_range ?b_enumerate ?b_sorted ?c_PHONES ?c_NUMBERS ?c_MOST_LATE ?c_MOST_WISHES ?c_ALL ?c_BUSY ?c_LATE ?c_WAIT ?c_STILL ?c_BAR ?c_GROUP ?c_FREE ?c_RINGS ?c_KNOCKS ?c_BARRED ?c_ROUND ?c_NOBODY ?c_QUIET ?c_DIAL ?c_BELL ?c_TALK ?c_MUSIC ?c_MOST_AGE ?g_D_NN ?g_C_PE ?xx_ex ?xx_kp ?xx_sb ?xx_ty ?xc_hg ?xc_hk ?xc_hd ?xc_ha ?xc_hn ?xc_ht ?xc_hm ?em ?k_D_NN
    (case ne => kernel_rfl)
    (case hx => exact AM.rec_by (by kernel_rfl))
    (case n_Book => as_aux_lemma => k_is)
    (case n_Way => as_aux_lemma => k_is)
    (case n_Call => as_aux_lemma => k_is)
    (case n_Phone => as_aux_lemma => k_is)
    (case n_Hall => as_aux_lemma => k_is)
    (case r_is_number => (refine' AM.raw_def ?h1 ?h2 ?h3 ?h4; (case h1 => as_aux_lemma => k_is); (case h2 => as_aux_lemma => k_is); (case h3 => as_aux_lemma => k_is); (case h4 => as_aux_lemma => k_is)))
    (case r_is_phone => (refine' AM.raw_def ?h1 ?h2 ?h3 ?h4; (case h1 => as_aux_lemma => k_is); (case h2 => as_aux_lemma => k_is); (case h3 => as_aux_lemma => k_is); (case h4 => as_aux_lemma => k_is)))
    (case r_need_phone => (refine' AM.raw_def ?h1 ?h2 ?h3 ?h4; (case h1 => as_aux_lemma => k_is); (case h2 => as_aux_lemma => k_is); (case h3 => as_aux_lemma => k_is); (case h4 => as_aux_lemma => k_is)))
    (case r_need_number => (refine' AM.raw_def ?h1 ?h2 ?h3 ?h4; (case h1 => as_aux_lemma => k_is); (case h2 => as_aux_lemma => k_is); (case h3 => as_aux_lemma => k_is); (case h4 => as_aux_lemma => k_is)))
    (case r_are_members => (refine' AM.raw_def ?h1 ?h2 ?h3 ?h4; (case h1 => as_aux_lemma => k_is); (case h2 => as_aux_lemma => k_is); (case h3 => as_aux_lemma => k_is); (case h4 => as_aux_lemma => k_is)))
    (case r_is_wish => (refine' AM.raw_def ?h1 ?h2 ?h3 ?h4; (case h1 => as_aux_lemma => k_is); (case h2 => as_aux_lemma => k_is); (case h3 => as_aux_lemma => k_is); (case h4 => as_aux_lemma => k_is)))
    (case r_key_of => (refine' AM.raw_def ?h1 ?h2 ?h3 ?h4; (case h1 => as_aux_lemma => k_is); (case h2 => as_aux_lemma => k_is); (case h3 => as_aux_lemma => k_is); (case h4 => as_aux_lemma => k_is)))
    (case r_need_wishes => (refine' AM.raw_def ?h1 ?h2 ?h3 ?h4; (case h1 => as_aux_lemma => k_is); (case h2 => as_aux_lemma => k_is); (case h3 => as_aux_lemma => k_is); (case h4 => as_aux_lemma => k_is)))
    (case r_Book_init => (refine' AM.raw_meth ?h1 ?h2 ?h3 ?h4 ?h5; (case h1 => as_aux_lemma => k_is); (case h2 => as_aux_lemma => k_is); (case h3 => as_aux_lemma => k_is); (case h4 => as_aux_lemma => k_is); (case h5 => as_aux_lemma => k_is)))
    (case r_Book_has => (refine' AM.raw_meth ?h1 ?h2 ?h3 ?h4 ?h5; (case h1 => as_aux_lemma => k_is); (case h2 => as_aux_lemma => k_is); (case h3 => as_aux_lemma => k_is); (case h4 => as_aux_lemma => k_is); (case h5 => as_aux_lemma => k_is)))
    (case r_Book_goal => (refine' AM.raw_meth ?h1 ?h2 ?h3 ?h4 ?h5; (case h1 => as_aux_lemma => k_is); (case h2 => as_aux_lemma => k_is); (case h3 => as_aux_lemma => k_is); (case h4 => as_aux_lemma => k_is); (case h5 => as_aux_lemma => k_is)))
    (case r_Book_patience => (refine' AM.raw_meth ?h1 ?h2 ?h3 ?h4 ?h5; (case h1 => as_aux_lemma => k_is); (case h2 => as_aux_lemma => k_is); (case h3 => as_aux_lemma => k_is); (case h4 => as_aux_lemma => k_is); (case h5 => as_aux_lemma => k_is)))
    (case r_Book_bars => (refine' AM.raw_meth ?h1 ?h2 ?h3 ?h4 ?h5; (case h1 => as_aux_lemma => k_is); (case h2 => as_aux_lemma => k_is); (case h3 => as_aux_lemma => k_is); (case h4 => as_aux_lemma => k_is); (case h5 => as_aux_lemma => k_is)))
    (case r_Book_members => (refine' AM.raw_meth ?h1 ?h2 ?h3 ?h4 ?h5; (case h1 => as_aux_lemma => k_is); (case h2 => as_aux_lemma => k_is); (case h3 => as_aux_lemma => k_is); (case h4 => as_aux_lemma => k_is); (case h5 => as_aux_lemma => k_is)))
    (case r_rings_at => (refine' AM.raw_def ?h1 ?h2 ?h3 ?h4; (case h1 => as_aux_lemma => k_is); (case h2 => as_aux_lemma => k_is); (case h3 => as_aux_lemma => k_is); (case h4 => as_aux_lemma => k_is)))
    (case r_next_of => (refine' AM.raw_def ?h1 ?h2 ?h3 ?h4; (case h1 => as_aux_lemma => k_is); (case h2 => as_aux_lemma => k_is); (case h3 => as_aux_lemma => k_is); (case h4 => as_aux_lemma => k_is)))
    (case r_Way_init => (refine' AM.raw_meth ?h1 ?h2 ?h3 ?h4 ?h5; (case h1 => as_aux_lemma => k_is); (case h2 => as_aux_lemma => k_is); (case h3 => as_aux_lemma => k_is); (case h4 => as_aux_lemma => k_is); (case h5 => as_aux_lemma => k_is)))
    (case r_Way_go => (refine' AM.raw_meth ?h1 ?h2 ?h3 ?h4 ?h5; (case h1 => as_aux_lemma => k_is); (case h2 => as_aux_lemma => k_is); (case h3 => as_aux_lemma => k_is); (case h4 => as_aux_lemma => k_is); (case h5 => as_aux_lemma => k_is)))
    (case r_Way_step => (refine' AM.raw_meth ?h1 ?h2 ?h3 ?h4 ?h5; (case h1 => as_aux_lemma => k_is); (case h2 => as_aux_lemma => k_is); (case h3 => as_aux_lemma => k_is); (case h4 => as_aux_lemma => k_is); (case h5 => as_aux_lemma => k_is)))
    (case r_Call_init => (refine' AM.raw_meth ?h1 ?h2 ?h3 ?h4 ?h5; (case h1 => as_aux_lemma => k_is); (case h2 => as_aux_lemma => k_is); (case h3 => as_aux_lemma => k_is); (case h4 => as_aux_lemma => k_is); (case h5 => as_aux_lemma => k_is)))
    (case r_Phone_init => (refine' AM.raw_meth ?h1 ?h2 ?h3 ?h4 ?h5; (case h1 => as_aux_lemma => k_is); (case h2 => as_aux_lemma => k_is); (case h3 => as_aux_lemma => k_is); (case h4 => as_aux_lemma => k_is); (case h5 => as_aux_lemma => k_is)))
    (case r_Hall_init => (refine' AM.raw_meth ?h1 ?h2 ?h3 ?h4 ?h5; (case h1 => as_aux_lemma => k_is); (case h2 => as_aux_lemma => k_is); (case h3 => as_aux_lemma => k_is); (case h4 => as_aux_lemma => k_is); (case h5 => as_aux_lemma => k_is)))
    (case r_Hall_phone => (refine' AM.raw_meth ?h1 ?h2 ?h3 ?h4 ?h5; (case h1 => as_aux_lemma => k_is); (case h2 => as_aux_lemma => k_is); (case h3 => as_aux_lemma => k_is); (case h4 => as_aux_lemma => k_is); (case h5 => as_aux_lemma => k_is)))
    (case r_Hall_may_be_knocked_at => (refine' AM.raw_meth ?h1 ?h2 ?h3 ?h4 ?h5; (case h1 => as_aux_lemma => k_is); (case h2 => as_aux_lemma => k_is); (case h3 => as_aux_lemma => k_is); (case h4 => as_aux_lemma => k_is); (case h5 => as_aux_lemma => k_is)))
    (case r_Hall_go_on => (refine' AM.raw_meth ?h1 ?h2 ?h3 ?h4 ?h5; (case h1 => as_aux_lemma => k_is); (case h2 => as_aux_lemma => k_is); (case h3 => as_aux_lemma => k_is); (case h4 => as_aux_lemma => k_is); (case h5 => as_aux_lemma => k_is)))
    (case r_Hall_knock_list => (refine' AM.raw_meth ?h1 ?h2 ?h3 ?h4 ?h5; (case h1 => as_aux_lemma => k_is); (case h2 => as_aux_lemma => k_is); (case h3 => as_aux_lemma => k_is); (case h4 => as_aux_lemma => k_is); (case h5 => as_aux_lemma => k_is)))
    (case r_Hall_silence => (refine' AM.raw_meth ?h1 ?h2 ?h3 ?h4 ?h5; (case h1 => as_aux_lemma => k_is); (case h2 => as_aux_lemma => k_is); (case h3 => as_aux_lemma => k_is); (case h4 => as_aux_lemma => k_is); (case h5 => as_aux_lemma => k_is)))
    (case r_Hall_over => (refine' AM.raw_meth ?h1 ?h2 ?h3 ?h4 ?h5; (case h1 => as_aux_lemma => k_is); (case h2 => as_aux_lemma => k_is); (case h3 => as_aux_lemma => k_is); (case h4 => as_aux_lemma => k_is); (case h5 => as_aux_lemma => k_is)))
    (case r_Hall_answer => (refine' AM.raw_meth ?h1 ?h2 ?h3 ?h4 ?h5; (case h1 => as_aux_lemma => k_is); (case h2 => as_aux_lemma => k_is); (case h3 => as_aux_lemma => k_is); (case h4 => as_aux_lemma => k_is); (case h5 => as_aux_lemma => k_is)))
    (case r_Hall_leave => (refine' AM.raw_meth ?h1 ?h2 ?h3 ?h4 ?h5; (case h1 => as_aux_lemma => k_is); (case h2 => as_aux_lemma => k_is); (case h3 => as_aux_lemma => k_is); (case h4 => as_aux_lemma => k_is); (case h5 => as_aux_lemma => k_is)))
    (case r_Hall_lift => (refine' AM.raw_meth ?h1 ?h2 ?h3 ?h4 ?h5; (case h1 => as_aux_lemma => k_is); (case h2 => as_aux_lemma => k_is); (case h3 => as_aux_lemma => k_is); (case h4 => as_aux_lemma => k_is); (case h5 => as_aux_lemma => k_is)))
    (case r_Hall_dial => (refine' AM.raw_meth ?h1 ?h2 ?h3 ?h4 ?h5; (case h1 => as_aux_lemma => k_is); (case h2 => as_aux_lemma => k_is); (case h3 => as_aux_lemma => k_is); (case h4 => as_aux_lemma => k_is); (case h5 => as_aux_lemma => k_is)))
    (case r_Hall_drop => (refine' AM.raw_meth ?h1 ?h2 ?h3 ?h4 ?h5; (case h1 => as_aux_lemma => k_is); (case h2 => as_aux_lemma => k_is); (case h3 => as_aux_lemma => k_is); (case h4 => as_aux_lemma => k_is); (case h5 => as_aux_lemma => k_is)))
    (case r_Hall_need_talk => (refine' AM.raw_meth ?h1 ?h2 ?h3 ?h4 ?h5; (case h1 => as_aux_lemma => k_is); (case h2 => as_aux_lemma => k_is); (case h3 => as_aux_lemma => k_is); (case h4 => as_aux_lemma => k_is); (case h5 => as_aux_lemma => k_is)))
    (case r_Hall_hold => (refine' AM.raw_meth ?h1 ?h2 ?h3 ?h4 ?h5; (case h1 => as_aux_lemma => k_is); (case h2 => as_aux_lemma => k_is); (case h3 => as_aux_lemma => k_is); (case h4 => as_aux_lemma => k_is); (case h5 => as_aux_lemma => k_is)))
    (case r_Hall_swap => (refine' AM.raw_meth ?h1 ?h2 ?h3 ?h4 ?h5; (case h1 => as_aux_lemma => k_is); (case h2 => as_aux_lemma => k_is); (case h3 => as_aux_lemma => k_is); (case h4 => as_aux_lemma => k_is); (case h5 => as_aux_lemma => k_is)))
    (case r_Hall_take => (refine' AM.raw_meth ?h1 ?h2 ?h3 ?h4 ?h5; (case h1 => as_aux_lemma => k_is); (case h2 => as_aux_lemma => k_is); (case h3 => as_aux_lemma => k_is); (case h4 => as_aux_lemma => k_is); (case h5 => as_aux_lemma => k_is)))
    (case r_Hall_join => (refine' AM.raw_meth ?h1 ?h2 ?h3 ?h4 ?h5; (case h1 => as_aux_lemma => k_is); (case h2 => as_aux_lemma => k_is); (case h3 => as_aux_lemma => k_is); (case h4 => as_aux_lemma => k_is); (case h5 => as_aux_lemma => k_is)))
    (case r_Hall_beat => (refine' AM.raw_meth ?h1 ?h2 ?h3 ?h4 ?h5; (case h1 => as_aux_lemma => k_is); (case h2 => as_aux_lemma => k_is); (case h3 => as_aux_lemma => k_is); (case h4 => as_aux_lemma => k_is); (case h5 => as_aux_lemma => k_is)))
    (case r_Hall_late => (refine' AM.raw_meth ?h1 ?h2 ?h3 ?h4 ?h5; (case h1 => as_aux_lemma => k_is); (case h2 => as_aux_lemma => k_is); (case h3 => as_aux_lemma => k_is); (case h4 => as_aux_lemma => k_is); (case h5 => as_aux_lemma => k_is)))
    (case r_Hall_hear => (refine' AM.raw_meth ?h1 ?h2 ?h3 ?h4 ?h5; (case h1 => as_aux_lemma => k_is); (case h2 => as_aux_lemma => k_is); (case h3 => as_aux_lemma => k_is); (case h4 => as_aux_lemma => k_is); (case h5 => as_aux_lemma => k_is)))
    (case r_Hall_all_calls => (refine' AM.raw_meth ?h1 ?h2 ?h3 ?h4 ?h5; (case h1 => as_aux_lemma => k_is); (case h2 => as_aux_lemma => k_is); (case h3 => as_aux_lemma => k_is); (case h4 => as_aux_lemma => k_is); (case h5 => as_aux_lemma => k_is)))
    (case r_law_taken => (refine' AM.raw_def ?h1 ?h2 ?h3 ?h4; (case h1 => as_aux_lemma => k_is); (case h2 => as_aux_lemma => k_is); (case h3 => as_aux_lemma => k_is); (case h4 => as_aux_lemma => k_is)))
    (case r_law_is_so => (refine' AM.raw_def ?h1 ?h2 ?h3 ?h4; (case h1 => as_aux_lemma => k_is); (case h2 => as_aux_lemma => k_is); (case h3 => as_aux_lemma => k_is); (case h4 => as_aux_lemma => k_is)))
    (case r_law_is_not_now => (refine' AM.raw_def ?h1 ?h2 ?h3 ?h4; (case h1 => as_aux_lemma => k_is); (case h2 => as_aux_lemma => k_is); (case h3 => as_aux_lemma => k_is); (case h4 => as_aux_lemma => k_is)))
    (case r_law_at_length => (refine' AM.raw_def ?h1 ?h2 ?h3 ?h4; (case h1 => as_aux_lemma => k_is); (case h2 => as_aux_lemma => k_is); (case h3 => as_aux_lemma => k_is); (case h4 => as_aux_lemma => k_is)))
    (case r_law => (refine' AM.raw_def ?h1 ?h2 ?h3 ?h4; (case h1 => as_aux_lemma => k_is); (case h2 => as_aux_lemma => k_is); (case h3 => as_aux_lemma => k_is); (case h4 => as_aux_lemma => k_is)))
    (case m_Book => as_aux_lemma => k_is)
    (case k_Book => as_aux_lemma => k_is)
    (case pg_Book => as_aux_lemma => k_is)
    (case hd_Book => as_aux_lemma => k_is)
    (case po_Book => as_aux_lemma => k_is)
    (case sa_Book => as_aux_lemma => k_is)
    (case na_Book_wanted => as_aux_lemma => k_is)
    (case m_Way => as_aux_lemma => k_is)
    (case k_Way => as_aux_lemma => k_is)
    (case pg_Way => as_aux_lemma => k_is)
    (case hd_Way => as_aux_lemma => k_is)
    (case po_Way => as_aux_lemma => k_is)
    (case sa_Way => as_aux_lemma => k_is)
    (case na_Way_book => as_aux_lemma => k_is)
    (case na_Way_caller => as_aux_lemma => k_is)
    (case na_Way_chain => as_aux_lemma => k_is)
    (case na_Way_leads => as_aux_lemma => k_is)
    (case na_Way_group => as_aux_lemma => k_is)
    (case na_Way_word => as_aux_lemma => k_is)
    (case na_Way_ears => as_aux_lemma => k_is)
    (case m_Call => as_aux_lemma => k_is)
    (case k_Call => as_aux_lemma => k_is)
    (case pg_Call => as_aux_lemma => k_is)
    (case hd_Call => as_aux_lemma => k_is)
    (case po_Call => as_aux_lemma => k_is)
    (case sa_Call => as_aux_lemma => k_is)
    (case na_Call_way => as_aux_lemma => k_is)
    (case na_Call_people => as_aux_lemma => k_is)
    (case na_Call_age => as_aux_lemma => k_is)
    (case na_Call_is_talk => as_aux_lemma => k_is)
    (case m_Phone => as_aux_lemma => k_is)
    (case k_Phone => as_aux_lemma => k_is)
    (case pg_Phone => as_aux_lemma => k_is)
    (case hd_Phone => as_aux_lemma => k_is)
    (case po_Phone => as_aux_lemma => k_is)
    (case sa_Phone => as_aux_lemma => k_is)
    (case na_Phone_is_up => as_aux_lemma => k_is)
    (case na_Phone_now => as_aux_lemma => k_is)
    (case na_Phone_kept => as_aux_lemma => k_is)
    (case na_Phone_bell => as_aux_lemma => k_is)
    (case na_Phone_tone => as_aux_lemma => k_is)
    (case m_Hall => as_aux_lemma => k_is)
    (case k_Hall => as_aux_lemma => k_is)
    (case pg_Hall => as_aux_lemma => k_is)
    (case hd_Hall => as_aux_lemma => k_is)
    (case po_Hall => as_aux_lemma => k_is)
    (case sa_Hall => as_aux_lemma => k_is)
    (case na_Hall_book => as_aux_lemma => k_is)
    (case na_Hall_phones => as_aux_lemma => k_is)
    (case na_Hall_calls => as_aux_lemma => k_is)
    (case eq_Call => as_aux_lemma => k_is)
    (case nn_Call => as_aux_lemma => k_is)
    (case b_isinstance => as_aux_lemma => k_is)
    (case b_int => as_aux_lemma => k_is)
    (case b_bool => as_aux_lemma => k_is)
    (case b_tuple => as_aux_lemma => k_is)
    (case b_str => as_aux_lemma => k_is)
    (case b_list => as_aux_lemma => k_is)
    (case b_len => as_aux_lemma => k_is)
    (case b_range => as_aux_lemma => k_is)
    (case b_enumerate => as_aux_lemma => k_is)
    (case b_sorted => as_aux_lemma => k_is)
    (case c_PHONES => (first | (refine' AM.raw_int ?h1; (case h1 => as_aux_lemma => k_is)) | (refine' AM.raw_str ?h1; (case h1 => as_aux_lemma => k_is))))
    (case c_NUMBERS => (first | (refine' AM.raw_int ?h1; (case h1 => as_aux_lemma => k_is)) | (refine' AM.raw_str ?h1; (case h1 => as_aux_lemma => k_is))))
    (case c_MOST_LATE => (first | (refine' AM.raw_int ?h1; (case h1 => as_aux_lemma => k_is)) | (refine' AM.raw_str ?h1; (case h1 => as_aux_lemma => k_is))))
    (case c_MOST_WISHES => (first | (refine' AM.raw_int ?h1; (case h1 => as_aux_lemma => k_is)) | (refine' AM.raw_str ?h1; (case h1 => as_aux_lemma => k_is))))
    (case c_ALL => (first | (refine' AM.raw_int ?h1; (case h1 => as_aux_lemma => k_is)) | (refine' AM.raw_str ?h1; (case h1 => as_aux_lemma => k_is))))
    (case c_BUSY => (first | (refine' AM.raw_int ?h1; (case h1 => as_aux_lemma => k_is)) | (refine' AM.raw_str ?h1; (case h1 => as_aux_lemma => k_is))))
    (case c_LATE => (first | (refine' AM.raw_int ?h1; (case h1 => as_aux_lemma => k_is)) | (refine' AM.raw_str ?h1; (case h1 => as_aux_lemma => k_is))))
    (case c_WAIT => (first | (refine' AM.raw_int ?h1; (case h1 => as_aux_lemma => k_is)) | (refine' AM.raw_str ?h1; (case h1 => as_aux_lemma => k_is))))
    (case c_STILL => (first | (refine' AM.raw_int ?h1; (case h1 => as_aux_lemma => k_is)) | (refine' AM.raw_str ?h1; (case h1 => as_aux_lemma => k_is))))
    (case c_BAR => (first | (refine' AM.raw_int ?h1; (case h1 => as_aux_lemma => k_is)) | (refine' AM.raw_str ?h1; (case h1 => as_aux_lemma => k_is))))
    (case c_GROUP => (first | (refine' AM.raw_int ?h1; (case h1 => as_aux_lemma => k_is)) | (refine' AM.raw_str ?h1; (case h1 => as_aux_lemma => k_is))))
    (case c_FREE => (first | (refine' AM.raw_int ?h1; (case h1 => as_aux_lemma => k_is)) | (refine' AM.raw_str ?h1; (case h1 => as_aux_lemma => k_is))))
    (case c_RINGS => (first | (refine' AM.raw_int ?h1; (case h1 => as_aux_lemma => k_is)) | (refine' AM.raw_str ?h1; (case h1 => as_aux_lemma => k_is))))
    (case c_KNOCKS => (first | (refine' AM.raw_int ?h1; (case h1 => as_aux_lemma => k_is)) | (refine' AM.raw_str ?h1; (case h1 => as_aux_lemma => k_is))))
    (case c_BARRED => (first | (refine' AM.raw_int ?h1; (case h1 => as_aux_lemma => k_is)) | (refine' AM.raw_str ?h1; (case h1 => as_aux_lemma => k_is))))
    (case c_ROUND => (first | (refine' AM.raw_int ?h1; (case h1 => as_aux_lemma => k_is)) | (refine' AM.raw_str ?h1; (case h1 => as_aux_lemma => k_is))))
    (case c_NOBODY => (first | (refine' AM.raw_int ?h1; (case h1 => as_aux_lemma => k_is)) | (refine' AM.raw_str ?h1; (case h1 => as_aux_lemma => k_is))))
    (case c_QUIET => (first | (refine' AM.raw_int ?h1; (case h1 => as_aux_lemma => k_is)) | (refine' AM.raw_str ?h1; (case h1 => as_aux_lemma => k_is))))
    (case c_DIAL => (first | (refine' AM.raw_int ?h1; (case h1 => as_aux_lemma => k_is)) | (refine' AM.raw_str ?h1; (case h1 => as_aux_lemma => k_is))))
    (case c_BELL => (first | (refine' AM.raw_int ?h1; (case h1 => as_aux_lemma => k_is)) | (refine' AM.raw_str ?h1; (case h1 => as_aux_lemma => k_is))))
    (case c_TALK => (first | (refine' AM.raw_int ?h1; (case h1 => as_aux_lemma => k_is)) | (refine' AM.raw_str ?h1; (case h1 => as_aux_lemma => k_is))))
    (case c_MUSIC => (first | (refine' AM.raw_int ?h1; (case h1 => as_aux_lemma => k_is)) | (refine' AM.raw_str ?h1; (case h1 => as_aux_lemma => k_is))))
    (case c_MOST_AGE => (first | (refine' AM.raw_int ?h1; (case h1 => as_aux_lemma => k_is)) | (refine' AM.raw_str ?h1; (case h1 => as_aux_lemma => k_is))))
    (case g_D_NN => as_aux_lemma => k_is)
    (case g_C_PE => as_aux_lemma => k_is)
    (case xx_ex => k_exc)
    (case xx_kp => as_aux_lemma => k_is)
    (case xx_sb => as_aux_lemma => k_is)
    (case xx_ty => as_aux_lemma => k_is)
    (case xc_hg => as_aux_lemma => k_is)
    (case xc_hk => as_aux_lemma => k_is)
    (case xc_hd => as_aux_lemma => k_is)
    (case xc_ha => as_aux_lemma => k_is)
    (case xc_hn => first | rfl | k_is)
    (case xc_ht => first | rfl | k_is)
    (case xc_hm => as_aux_lemma => k_is)
    (case em => kts_exm)
    (case k_D_NN => kit_is)
namespace AM

end AM
