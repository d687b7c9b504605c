import PyProof.Rows.All
import Wide.All
import OpenK.AllK
import Wide.FinOn
import HandS.ForMost
import HandS.Flow
import HandS.Wide
import KE.SortData
import HandS.Deep
import HandS.TupAny
import HandS.IsInst
import HandS.Style
import HandS.Conv
import HandS.TupSets
import HandS.Strs
import HandS.Walk
import HandS.Zip
import KE.GoesEnum
import HandS.Small
import HandS.Iter
import HandS.ReplaceLit
import HandS.ReplaceList
import HandS.Head0
import HandS.Head1
import HandS.Head2
import HandS.HeadEnd
import HandS.HeadHook1
import HandS.HeadHook2
import HandS.Defaults
import PySem.Challenge.RW_mendlists_k40_whole_courses_of_ends_alon
set_option Elab.async false
set_option linter.all false
set_option maxRecDepth 100000
set_option maxHeartbeats 4000000
/-! Plain data, how it lies in the abstract heap, and what an evaluation may change. -/
namespace MW
open PySem PySem.Spec PyProof.Rows L2

/-- plain data: texts by their codes; a dict's keys are ints and texts; cell n: the n-th list that is shared and changed -/
inductive D where
  | non | bl (b : Bool) | int (i : Int) | str (x : List Nat) | tup (xs : List D) | lst (xs : List D)
  | dic (kvs : List (Sum Int (List Nat) × D)) | scr (ns : List Int) | cell (n : Nat)
  deriving Inhabited

abbrev DKey := Sum Int (List Nat)
def keyOf : DKey → Key
  | .inl i => .inl i
  | .inr x => .inr ⟨x.toArray⟩

/-- the part of the heap that never changes any more, the addresses of the cells -/
structure Gh where
  G : Hp
  cm : List Addr

mutual
inductive Rp (K : PySem.W.Frag) (g : Gh) : V → D → Prop
  | non : Rp K g .non .non
  | bl (b : Bool) : Rp K g (.bl b) (.bl b)
  | int (i : Int) : Rp K g (.int i) (.int i)
  | str (x : List Nat) : Rp K g (.str ⟨x.toArray⟩) (.str x)
  | tup {a : Addr} {vs : List V} {ds : List D} : SqT K g.G a vs → RpAll K g vs ds → Rp K g (.ref a) (.tup ds)
  | lst {a : Addr} {vs : List V} {ds : List D} : g.G a = some (.lst vs) → RpAll K g vs ds → Rp K g (.ref a) (.lst ds)
  | scr {a : Addr} {ns : List Int} : SqL K g.G a (ns.map V.int) → Rp K g (.ref a) (.scr ns)
  | dic {a : Addr} {kv : List (Key × V)} {kd : List (DKey × D)} : g.G a = some (.dK kv) → RpKv K g kv kd → Rp K g (.ref a) (.dic kd)
  | cell {n : Nat} {a : Addr} : g.cm[n]? = some a → Rp K g (.ref a) (.cell n)
inductive RpAll (K : PySem.W.Frag) (g : Gh) : List V → List D → Prop
  | nil : RpAll K g [] []
  | cons {v : V} {vs : List V} {d : D} {ds : List D} : Rp K g v d → RpAll K g vs ds → RpAll K g (v :: vs) (d :: ds)
inductive RpKv (K : PySem.W.Frag) (g : Gh) : List (Key × V) → List (DKey × D) → Prop
  | nil : RpKv K g [] []
  | cons {k : Key} {v : V} {kv : List (Key × V)} {k' : DKey} {d : D} {kd : List (DKey × D)} : k = keyOf k' → Rp K g v d → RpKv K g kv kd → RpKv K g ((k, v) :: kv) ((k', d) :: kd)
end

structure Gh.le (g g' : Gh) : Prop where
  G : ∀ a o, g.G a = some o → g'.G a = some o
  cm : ∀ (n : Nat) (a : Addr), g.cm[n]? = some a → g'.cm[n]? = some a
theorem Gh.le.refl (g : Gh) : g.le g := ⟨fun _ _ h => h, fun _ _ h => h⟩
theorem Gh.le.trans {g g1 g2 : Gh} (h : g.le g1) (h' : g1.le g2) : g.le g2 := ⟨fun a o q => h'.G a o (h.G a o q), fun n a q => h'.cm n a (h.cm n a q)⟩
theorem Gh.le.mem {g g' : Gh} (h : g.le g') {a : Addr} (m : a ∈ g.cm) : a ∈ g'.cm := by
  obtain ⟨n, e⟩ := List.mem_iff_getElem?.mp m
  exact List.mem_iff_getElem?.mpr ⟨n, h.cm n a e⟩

section
variable {K : PySem.W.Frag} {g g' : Gh} {H H' : Hp}
theorem rd_mono (h : ∀ a o, H a = some o → H' a = some o) {a : Addr} {u : HO} (r : Rd H a u) : Rd H' a u := by
  rcases r with r | ⟨o, r⟩
  · exact .inl (h _ _ r)
  · exact .inr ⟨o, h _ _ r⟩
theorem sqL_mono (h : ∀ a o, H a = some o → H' a = some o) {a : Addr} {vs : List V} (r : SqL K H a vs) : SqL K H' a vs := by
  rcases r with r | r
  · exact .inl (rd_mono h r)
  · exact .inr r
theorem sqT_mono (h : ∀ a o, H a = some o → H' a = some o) {a : Addr} {vs : List V} (r : SqT K H a vs) : SqT K H' a vs := by
  rcases r with r | r
  · exact .inl (rd_mono h r)
  · exact .inr r
mutual
theorem Rp.mono (h : g.le g') : ∀ {v : V} {d : D}, Rp K g v d → Rp K g' v d
  | _, _, .non => .non
  | _, _, .bl b => .bl b
  | _, _, .int i => .int i
  | _, _, .str x => .str x
  | _, _, .tup q r => .tup (sqT_mono h.G q) (RpAll.mono h r)
  | _, _, .lst q r => .lst (h.G _ _ q) (RpAll.mono h r)
  | _, _, .scr q => .scr (sqL_mono h.G q)
  | _, _, .dic q r => .dic (h.G _ _ q) (RpKv.mono h r)
  | _, _, .cell q => .cell (h.cm _ _ q)
theorem RpAll.mono (h : g.le g') : ∀ {vs : List V} {ds : List D}, RpAll K g vs ds → RpAll K g' vs ds
  | _, _, .nil => .nil
  | _, _, .cons q r => .cons (Rp.mono h q) (RpAll.mono h r)
theorem RpKv.mono (h : g.le g') : ∀ {vs : List (Key × V)} {ds : List (DKey × D)}, RpKv K g vs ds → RpKv K g' vs ds
  | _, _, .nil => .nil
  | _, _, .cons e q r => .cons e (Rp.mono h q) (RpKv.mono h r)
end
theorem RpAll.length : ∀ {vs : List V} {ds : List D}, RpAll K g vs ds → vs.length = ds.length
  | _, _, .nil => rfl
  | _, _, .cons _ r => by simp [RpAll.length r]
theorem RpAll.get : ∀ {vs : List V} {ds : List D} {i : Nat} {d : D}, RpAll K g vs ds → ds[i]? = some d → ∃ v, vs[i]? = some v ∧ Rp K g v d
  | _, _, _, _, .nil, e => by simp at e
  | _, _, 0, _, .cons q _, e => by simp at e; subst e; exact ⟨_, rfl, q⟩
  | _, _, i + 1, _, .cons _ r, e => by
    obtain ⟨v, h1, h2⟩ := RpAll.get (i := i) r (by simpa using e)
    exact ⟨v, by simpa using h1, h2⟩
theorem RpAll.get' : ∀ {vs : List V} {ds : List D} {i : Nat} {v : V}, RpAll K g vs ds → vs[i]? = some v → ∃ d, ds[i]? = some d ∧ Rp K g v d
  | _, _, _, _, .nil, e => by simp at e
  | _, _, 0, _, .cons q _, e => by simp at e; subst e; exact ⟨_, rfl, q⟩
  | _, _, i + 1, _, .cons _ r, e => by
    obtain ⟨v, h1, h2⟩ := RpAll.get' (i := i) r (by simpa using e)
    exact ⟨v, by simpa using h1, h2⟩
theorem RpAll.append : ∀ {vs ws : List V} {ds es : List D}, RpAll K g vs ds → RpAll K g ws es → RpAll K g (vs ++ ws) (ds ++ es)
  | _, _, _, _, .nil, s => s
  | _, _, _, _, .cons q r, s => .cons q (RpAll.append r s)
theorem RpAll.take : ∀ {vs : List V} {ds : List D} (n : Nat), RpAll K g vs ds → RpAll K g (vs.take n) (ds.take n)
  | _, _, 0, _ => .nil
  | _, _, _ + 1, .nil => .nil
  | _, _, n + 1, .cons q r => .cons q (RpAll.take n r)
theorem RpAll.drop : ∀ {vs : List V} {ds : List D} (n : Nat), RpAll K g vs ds → RpAll K g (vs.drop n) (ds.drop n)
  | _, _, 0, r => r
  | _, _, _ + 1, .nil => .nil
  | _, _, n + 1, .cons _ r => RpAll.drop n r
theorem RpAll.set {v : V} {d : D} (q : Rp K g v d) : ∀ {vs : List V} {ds : List D} (n : Nat), RpAll K g vs ds → RpAll K g (vs.set n v) (ds.set n d)
  | _, _, _, .nil => .nil
  | _, _, 0, .cons _ r => .cons q r
  | _, _, n + 1, .cons p r => .cons p (RpAll.set q n r)
theorem RpAll.reverse : ∀ {vs : List V} {ds : List D}, RpAll K g vs ds → RpAll K g vs.reverse ds.reverse
  | _, _, .nil => .nil
  | _, _, .cons q r => by simp only [List.reverse_cons]; exact RpAll.append (RpAll.reverse r) (.cons q .nil)
theorem RpAll.dropLast : ∀ {vs : List V} {ds : List D}, RpAll K g vs ds → RpAll K g vs.dropLast ds.dropLast := fun {vs ds} r => by
  rw [List.dropLast_eq_take, List.dropLast_eq_take, r.length]
  exact r.take _
theorem RpAll.ints : ∀ {vs : List V} (ns : List Int), RpAll K g vs (ns.map D.int) → vs = ns.map V.int
  | _, [], r => by cases r; rfl
  | _, n :: ns, r => by cases r with | cons q r => cases q; rw [RpAll.ints ns r]; rfl
theorem RpAll.of_ints : ∀ (ns : List Int), RpAll K g (ns.map V.int) (ns.map D.int)
  | [] => .nil
  | n :: ns => .cons (.int n) (RpAll.of_ints ns)
theorem RpAll.bls : ∀ {vs : List V} (ns : List Bool), RpAll K g vs (ns.map D.bl) → vs = ns.map V.bl
  | _, [], r => by cases r; rfl
  | _, n :: ns, r => by cases r with | cons q r => cases q; rw [RpAll.bls ns r]; rfl
theorem RpAll.strs : ∀ {vs : List V} (ns : List (List Nat)), RpAll K g vs (ns.map D.str) → vs = ns.map fun x => V.str ⟨x.toArray⟩
  | _, [], r => by cases r; rfl
  | _, n :: ns, r => by cases r with | cons q r => cases q; rw [RpAll.strs ns r]; rfl
theorem RpAll.of_strs : ∀ (ns : List (List Nat)), RpAll K g (ns.map fun x => V.str ⟨x.toArray⟩) (ns.map D.str)
  | [] => .nil
  | n :: ns => .cons (.str n) (RpAll.of_strs ns)
end

/-- what lies in the cells -/
abbrev Store := List (List D)
/-- the heap bears the unchanging part and the cells -/
structure Sy (K : PySem.W.Frag) (g : Gh) (H : Hp) (st : Store) : Prop where
  sub : ∀ a o, g.G a = some o → H a = some o
  nm : ∀ a ∈ g.cm, g.G a = none
  cl : ∀ (n : Nat) (a : Addr), g.cm[n]? = some a → ∃ vs ds, st[n]? = some ds ∧ H a = some (.lst vs) ∧ RpAll K g vs ds
  ln : g.cm.length = st.length
  nd : g.cm.Nodup

/-- what an evaluation may change: the cells; what is new -/
structure Ext (g : Gh) (H : Hp) (g' : Gh) (H' : Hp) : Prop where
  le : g.le g'
  new : ∀ a o, g'.G a = some o → g.G a = some o ∨ H a = none
  newc : ∀ a ∈ g'.cm, a ∈ g.cm ∨ H a = none
  keep : ∀ a o, a ∉ g.cm → H a = some o → H' a = some o
  live : ∀ a, H' a = none → H a = none
theorem Ext.refl (g : Gh) (H : Hp) : Ext g H g H := ⟨.refl g, fun _ _ h => .inl h, fun _ h => .inl h, fun _ _ _ h => h, fun _ h => h⟩
theorem Ext.trans {g g1 g2 : Gh} {H H1 H2 : Hp} (a : Ext g H g1 H1) (b : Ext g1 H1 g2 H2) : Ext g H g2 H2 where
  le := a.le.trans b.le
  new := fun x o h => by
    rcases b.new x o h with h | h
    · exact a.new x o h
    · exact .inr (a.live x h)
  newc := fun x h => by
    rcases b.newc x h with h | h
    · exact a.newc x h
    · exact .inr (a.live x h)
  keep := fun x o hn h => by
    refine b.keep x o (fun hm => ?_) (a.keep x o hn h)
    rcases a.newc x hm with q | q
    · exact hn q
    · rw [h] at q; cases q
  live := fun x h => a.live x (b.live x h)

section
variable {K : PySem.W.Frag} {g g' : Gh} {H H' : Hp} {st st' : Store}
theorem Sy.live (S : Sy K g H st) {a : Addr} (m : a ∈ g.cm) : H a ≠ none := by
  obtain ⟨n, e⟩ := List.mem_iff_getElem?.mp m
  obtain ⟨vs, ds, _, h, _⟩ := S.cl n a e
  rw [h]; exact fun q => nomatch q
theorem Sy.fresh (S : Sy K g H st) {p : Addr} (hp : H p = none) : g.G p = none ∧ p ∉ g.cm := by
  refine ⟨?_, fun m => S.live m hp⟩
  cases e : g.G p with
  | none => rfl
  | some o => have := S.sub p o e; rw [hp] at this; cases this
/-- a new object that is not shared yet -/
theorem Ext.alloc {p : Addr} {o : HO} (hp : H p = none) : Ext g H g (upd H p o) where
  le := .refl g
  new := fun _ _ h => .inl h
  newc := fun _ h => .inl h
  keep := fun a o' _ h => by rw [upd_ne (ne_of_none h hp)]; exact h
  live := fun a h => by
    by_cases e : a = p
    · rw [e]; exact hp
    · rw [upd_ne e] at h; exact h
theorem Sy.alloc {p : Addr} {o : HO} (S : Sy K g H st) (hp : H p = none) : Sy K g (upd H p o) st where
  sub := fun a u h => by
    have := S.sub a u h
    rw [upd_ne (ne_of_none this hp)]; exact this
  nm := S.nm
  cl := fun n a e => by
    obtain ⟨vs, ds, h1, h2, h3⟩ := S.cl n a e
    exact ⟨vs, ds, h1, by rw [upd_ne (ne_of_none h2 hp)]; exact h2, h3⟩
  ln := S.ln
  nd := S.nd
/-- the unchanging part grows by what stands at p -/
def Gh.frz (g : Gh) (p : Addr) (o : HO) : Gh := ⟨upd g.G p o, g.cm⟩
theorem Gh.frz_le {p : Addr} {o : HO} (hp : g.G p = none) : g.le (g.frz p o) := ⟨fun a u h => by show upd g.G p o a = some u; rw [upd_ne (ne_of_none h hp)]; exact h, fun _ _ h => h⟩
theorem Gh.frz_at {p : Addr} {o : HO} : (g.frz p o).G p = some o := upd_same
theorem Sy.frz {p : Addr} {o : HO} (S : Sy K g H st) (hp : g.G p = none) (hc : p ∉ g.cm) (h : H p = some o) : Sy K (g.frz p o) H st where
  sub := fun a u q => by
    by_cases e : a = p
    · subst e
      have q' : upd g.G a o a = some u := q
      rw [upd_same] at q'; cases q'; exact h
    · have q' : upd g.G p o a = some u := q
      rw [upd_ne e] at q'; exact S.sub a u q'
  nm := fun a m => by
    have : a ≠ p := fun e => hc (e ▸ m)
    show upd g.G p o a = none
    rw [upd_ne this]; exact S.nm a m
  cl := fun n a e => by
    obtain ⟨vs, ds, h1, h2, h3⟩ := S.cl n a e
    exact ⟨vs, ds, h1, h2, h3.mono (Gh.frz_le hp)⟩
  ln := S.ln
  nd := S.nd
theorem Ext.frz {g0 : Gh} {H0 : Hp} {p : Addr} {o : HO} (E : Ext g0 H0 g H) (hp : g.G p = none) (h0 : H0 p = none) : Ext g0 H0 (g.frz p o) H where
  le := E.le.trans (Gh.frz_le hp)
  new := fun a u q => by
    by_cases e : a = p
    · rw [e]; exact .inr h0
    · have q' : upd g.G p o a = some u := q
      rw [upd_ne e] at q'; exact E.new a u q'
  newc := E.newc
  keep := E.keep
  live := E.live
end

/-! ### values that an evaluation gives -/
/-- the content that stands at an own or fresh address -/
def Cn (K : PySem.W.Frag) (g : Gh) (H : Hp) (p : Addr) : D → Prop
  | .lst ds => ∃ vs, H p = some (.lst vs) ∧ RpAll K g vs ds
  | .dic kd => ∃ kv, H p = some (.dK kv) ∧ RpKv K g kv kd
  | _ => False
/-- shared; fresh (nobody else knows its address); seen (an own list that is only read) -/
inductive Rs where
  | sh (d : D) | fr (d : D) | vw (d : D)
def Rs.d : Rs → D
  | .sh d => d | .fr d => d | .vw d => d
def RsR (K : PySem.W.Frag) (g : Gh) (H H0 : Hp) (v : V) : Rs → Prop
  | .sh d => Rp K g v d
  | .fr d => ∃ p, v = .ref p ∧ Cn K g H p d ∧ g.G p = none ∧ p ∉ g.cm ∧ H0 p = none
  | .vw d => ∃ p, v = .ref p ∧ Cn K g H p d ∧ g.G p = none ∧ p ∉ g.cm
/-- what may be read -/
def Wk (K : PySem.W.Frag) (g : Gh) (H : Hp) (v : V) : D → Prop
  | .lst ds => ∃ a vs, v = .ref a ∧ H a = some (.lst vs) ∧ RpAll K g vs ds
  | .scr ns => ∃ a, v = .ref a ∧ SqL K H a (ns.map V.int)
  | .dic kd => ∃ a kv, v = .ref a ∧ H a = some (.dK kv) ∧ RpKv K g kv kd
  | d => Rp K g v d
section
variable {K : PySem.W.Frag} {g g' : Gh} {H H' H0 : Hp} {st st' : Store}
theorem Cn.ext {p : Addr} {d : D} (c : Cn K g H p d) (E : Ext g H g' H') (hc : p ∉ g.cm) : Cn K g' H' p d := by
  cases d with
  | lst ds => obtain ⟨vs, h, r⟩ := c; exact ⟨vs, E.keep p _ hc h, r.mono E.le⟩
  | dic kd => obtain ⟨vs, h, r⟩ := c; exact ⟨vs, E.keep p _ hc h, r.mono E.le⟩
  | _ => exact c.elim
theorem Cn.some {p : Addr} {d : D} (c : Cn K g H p d) : H p ≠ none := by
  cases d with
  | lst ds => obtain ⟨vs, h, r⟩ := c; rw [h]; exact fun q => nomatch q
  | dic kd => obtain ⟨vs, h, r⟩ := c; rw [h]; exact fun q => nomatch q
  | _ => exact c.elim
theorem Cn.wk {p : Addr} {d : D} (c : Cn K g H p d) : Wk K g H (.ref p) d := by
  cases d with
  | lst ds => obtain ⟨vs, h, r⟩ := c; exact ⟨p, vs, rfl, h, r⟩
  | dic kd => obtain ⟨vs, h, r⟩ := c; exact ⟨p, vs, rfl, h, r⟩
  | _ => exact c.elim
theorem own_ext {p : Addr} (E : Ext g H g' H') (hs : H p ≠ none) (hg : g.G p = none) (hc : p ∉ g.cm) : g'.G p = none ∧ p ∉ g'.cm := by
  refine ⟨?_, fun m => ?_⟩
  · cases e : g'.G p with
    | none => rfl
    | some o =>
      rcases E.new p o e with q | q
      · rw [hg] at q; cases q
      · exact absurd q hs
  · rcases E.newc p m with q | q
    · exact hc q
    · exact hs q
theorem RsR.ext {v : V} {r : Rs} (R : RsR K g H H0 v r) (E : Ext g H g' H') : RsR K g' H' H0 v r := by
  cases r with
  | sh d => exact Rp.mono E.le R
  | fr d =>
    obtain ⟨p, e, c, hg, hc, h0⟩ := R
    obtain ⟨a, b⟩ := own_ext E c.some hg hc
    exact ⟨p, e, c.ext E hc, a, b, h0⟩
  | vw d =>
    obtain ⟨p, e, c, hg, hc⟩ := R
    obtain ⟨a, b⟩ := own_ext E c.some hg hc
    exact ⟨p, e, c.ext E hc, a, b⟩
theorem RsR.older {v : V} {r : Rs} {H1 : Hp} (R : RsR K g H H1 v r) (h : ∀ a, H1 a = none → H0 a = none) : RsR K g H H0 v r := by
  cases r with
  | sh d => exact R
  | fr d => obtain ⟨p, e, c, hg, hc, h0⟩ := R; exact ⟨p, e, c, hg, hc, h p h0⟩
  | vw d => exact R
theorem Rp.wk (S : Sy K g H st) {v : V} {d : D} (R : Rp K g v d) : Wk K g H v d := by
  cases R with
  | lst q r => exact ⟨_, _, rfl, S.sub _ _ q, r⟩
  | scr q => exact ⟨_, rfl, sqL_mono S.sub q⟩
  | dic q r => exact ⟨_, _, rfl, S.sub _ _ q, r⟩
  | non => exact .non
  | bl b => exact .bl b
  | int i => exact .int i
  | str x => exact .str x
  | tup q r => exact .tup q r
  | cell q => exact .cell q
theorem RsR.wk (S : Sy K g H st) {v : V} {r : Rs} (R : RsR K g H H0 v r) : Wk K g H v r.d := by
  cases r with
  | sh d => exact Rp.wk S R
  | fr d => obtain ⟨p, e, c, _⟩ := R; subst e; exact c.wk
  | vw d => obtain ⟨p, e, c, _⟩ := R; subst e; exact c.wk
/-- what is put into other data is shared from then on -/
theorem RsR.share (S : Sy K g H st) {v : V} {r : Rs} (R : RsR K g H H0 v r) (hr : ∀ d, r ≠ .vw d) {g0 : Gh} (E : Ext g0 H0 g H) :
    ∃ g', Sy K g' H st ∧ Ext g0 H0 g' H ∧ g.le g' ∧ Rp K g' v r.d ∧ (∀ a, g'.G a ≠ g.G a → v = .ref a ∧ H0 a = none) ∧ g'.cm = g.cm := by
  cases r with
  | sh d => exact ⟨g, S, E, .refl g, R, fun a h => absurd rfl h, rfl⟩
  | vw d => exact absurd rfl (hr d)
  | fr d =>
    obtain ⟨p, e, c, hg, hc, h0⟩ := R
    subst e
    cases d with
    | lst ds =>
      obtain ⟨vs, h, r⟩ := c
      refine ⟨g.frz p (.lst vs), S.frz hg hc h, E.frz hg h0, Gh.frz_le hg, .lst Gh.frz_at (r.mono (Gh.frz_le hg)), fun a ha => ?_, rfl⟩
      by_cases q : a = p
      · subst q; exact ⟨rfl, h0⟩
      · exact absurd (upd_ne q) ha
    | dic ds =>
      obtain ⟨vs, h, r⟩ := c
      refine ⟨g.frz p (.dK vs), S.frz hg hc h, E.frz hg h0, Gh.frz_le hg, .dic Gh.frz_at (r.mono (Gh.frz_le hg)), fun a ha => ?_, rfl⟩
      by_cases q : a = p
      · subst q; exact ⟨rfl, h0⟩
      · exact absurd (upd_ne q) ha
    | _ => exact c.elim
end
end MW
set_option Elab.async false
set_option linter.all false
set_option maxRecDepth 100000
set_option maxHeartbeats 4000000
/-! The small language and its evaluator. -/
namespace MW
open PySem PySem.Spec PyProof.Rows L2

inductive BOp where | add | sub | mul | fdiv | mod | pow
  deriving DecidableEq
inductive COp where | eq | ne | lt | le | gt | ge | isn | notn | inn | nin
  deriving DecidableEq
inductive B1 where | len | all | any | list | tuple | sorted | int | abs | setSorted | setLen | min | max
  deriving DecidableEq
inductive B2 where | min | max
  deriving DecidableEq
inductive Ty where | int | bool | str | tuple | list
  deriving DecidableEq
inductive M0 where | lower | upper
  deriving DecidableEq
inductive M1 where | endswith | startswith | join | split
  deriving DecidableEq

/-! targets: names' slots, nested -/
mutual
inductive Tg where
  | nm (i : Nat) | tup (ts : Tgs)
inductive Tgs where
  | nil | cons (t : Tg) (ts : Tgs)
end
mutual
inductive E where
  | c (d : D) | v (i : Nat) | vo (i : Nat)
  | bin (op : BOp) (a b : E) | neg (a : E) | not (a : E)
  | cmp (op : COp) (a b : E) | chain (op op' : COp) (a b c : E)
  | and (a b : E) | or (a b : E) | ite (c a b : E)
  | call (f : Nat) (es : Es)
  | b1 (f : B1) (a : E) | b2 (f : B2) (a b : E) | isi (t : Ty) (a : E)
  | m0 (f : M0) (a : E) | m1 (f : M1) (a b : E)
  | idx (a i : E) | sl (a : E) (lo hi : Eo) | rev (a : E)
  | tup (es : Es) | lst (es : Es) | cel (es : Es) | ss (a : E)
  | comp (ws : List Nat) (elt : E) (tg : Tg) (it : Itb) (cnd : Eo)
  | rep (a : E) (c d : Nat) | lens (a : E) | lrng (a : E) | lix (a b : E) | dic0 | dic1 (k d : E) | dicL (a : E) | compI (y : Nat) (ws : List Nat) (elt : E) (tg : Tg) (cnd : Eo)
inductive Es where
  | nil | cons (e : E) (es : Es)
inductive Eo where
  | no | so (e : E)
inductive Itb where
  | e (a : E) | rng (es : Es) | enum (a : E) | zip (a b : E)
end
mutual
inductive S where
  | set (i : Nat) (e : E) | seto (i : Nat) (e : E) | unp (tg : Tg) (e : E) | par (ts : List (Bool × Nat)) (es : Es)
  | seti (x : Nat) (i e : E) | setc (c i e : E) | app (x : Nat) (e : E) | drop (e : E)
  | ret (e : E) | reto (i : Nat) | retN | pass | brk | cont | fail
  | ite (c : E) (a b : Ss) | for_ (tg : Tg) (it : Itb) (body : Ss) | whl (c : E) (body : Ss)
inductive Ss where
  | nil | cons (s : S) (ss : Ss)
end

/-! ### data as the library's data -/
mutual
def D.py : D → PyData
  | .non => .none
  | .bl b => .bool b
  | .int i => .int i
  | .str x => .str ⟨x.toArray⟩
  | .tup xs => .tuple (pyAll xs)
  | .lst xs => .list (pyAll xs)
  | .dic _ => .dict []
  | .scr _ => .dict []
  | .cell _ => .dict []
def pyAll : List D → List PyData
  | [] => []
  | d :: ds => d.py :: pyAll ds
end
theorem pyAll_map : ∀ ds : List D, pyAll ds = ds.map D.py
  | [] => by rw [pyAll]; rfl
  | d :: ds => by rw [pyAll, pyAll_map ds]; rfl
/-- no dict, no cell within; not too deep -/
def D.pl (d : D) : Bool := SeqAt.shaped d.py

/-! ### operators by values -/
def cutL {α : Type} (xs : List α) (lo hi : Option Int) : List α := (xs.drop (HT.sIx xs.length 0 lo)).take (HT.sIx xs.length xs.length hi - HT.sIx xs.length 0 lo)
def big (n : Nat) : Bool := decide (n ≤ sizeLine)
def repL {α : Type} (xs : List α) (k : Int) : List α := (List.replicate k.toNat xs).flatten
def opB : BOp → D → D → Option Rs
  | .add, .int i, .int j => some (.sh (.int (i + j)))
  | .add, .str x, .str y => if big (x.length + y.length) then some (.sh (.str (x ++ y))) else none
  | .add, .tup x, .tup y => if big (x.length + y.length) then some (.sh (.tup (x ++ y))) else none
  | .add, .lst x, .lst y => if big (x.length + y.length) then some (.fr (.lst (x ++ y))) else none
  | .sub, .int i, .int j => some (.sh (.int (i - j)))
  | .mul, .int i, .int j => if (decide (-(2 ^ 64) < i) && decide (i < 2 ^ 64)) || (decide (-(2 ^ 64) < j) && decide (j < 2 ^ 64)) then some (.sh (.int (i * j))) else none
  | .mul, .lst x, .int k => if decide (-(2 ^ 63) ≤ k) && decide (k < 2 ^ 63) && big (x.length * k.toNat) then some (.fr (.lst (repL x k))) else none
  | .mul, .str x, .int k => if decide (0 ≤ k) && decide (k ≤ 1000000) && big (x.length * k.toNat) then some (.sh (.str (repL x k))) else none
  | .fdiv, .int i, .int j => if decide (0 < j) && decide (j.natAbs < 2 ^ 100) then some (.sh (.int (i / j))) else none
  | .mod, .int i, .int j => if decide (0 < j) then some (.sh (.int (i % j))) else none
  | .pow, .int i, .int j => if decide (0 ≤ j) && decide (j ≤ 1000000) && decide (i.natAbs < 2 ^ 64) then some (.sh (.int (i ^ j.toNat))) else none
  | _, _, _ => none
/-! dicts: keys, what stands at a key, a new value at a key -/
def keyD : D → Option DKey
  | .int i => some (.inl i)
  | .str x => some (.inr x)
  | _ => none
def datK : DKey → D
  | .inl i => .int i
  | .inr x => .str x
def getKD : List (DKey × D) → DKey → Option D
  | [], _ => none
  | p :: r, k => if p.1 = k then some p.2 else getKD r k
def putKD (kd : List (DKey × D)) (k : DKey) (d : D) : List (DKey × D) := if (getKD kd k).isSome = true then kd.map fun p => if p.1 = k then (p.1, d) else p else kd ++ [(k, d)]
def pairsD : List D → Option (List (DKey × D))
  | [] => some []
  | .tup [k, d] :: r => (keyD k).bind fun k => (pairsD r).map fun z => (k, d) :: z
  | _ => none
def mergeKD (acc : List (DKey × D)) (kd : List (DKey × D)) : List (DKey × D) := kd.foldl (fun a p => putKD a p.1 p.2) acc
def itemsKD (kd : List (DKey × D)) : List D := kd.map fun p => .tup [datK p.1, p.2]
def flatD : D → Bool
  | .non | .bl _ | .int _ | .str _ => true
  | _ => false
def isNonD : D → Bool
  | .non => true
  | _ => false
/-- == of flat data -/
def eqF : D → D → Option Bool
  | .int i, .int j => some (decide (i = j))
  | .str x, .str y => some (decide (x = y))
  | .bl x, .bl y => some (decide (x = y))
  | .non, .non => some true
  | .non, .int _ => some false
  | .non, .str _ => some false
  | .non, .bl _ => some false
  | .int _, .non => some false
  | .str _, .non => some false
  | .bl _, .non => some false
  | _, _ => none
def opC : COp → D → D → Option Bool
  | .eq, x, y => match eqF x y with
    | some b => some b
    | none => if x.pl && y.pl then some (PyData.eqv x.py y.py) else none
  | .ne, x, y => match eqF x y with
    | some b => some (!b)
    | none => if x.pl && y.pl then some (!PyData.eqv x.py y.py) else none
  | .lt, .int i, .int j => some (decide (i < j))
  | .le, .int i, .int j => some (decide (i ≤ j))
  | .gt, .int i, .int j => some (decide (j < i))
  | .ge, .int i, .int j => some (decide (j ≤ i))
  | .lt, .str x, .str y => some (decide (x < y))
  | .lt, .tup x, .tup y => if PySem.W.alike (D.tup x).py (D.tup y).py && ((D.tup x).pl && (D.tup y).pl) then some (PySem.W.dataLt (D.tup x).py (D.tup y).py) else none
  | .isn, x, .non => some (isNonD x)
  | .notn, x, .non => some (!isNonD x)
  | .isn, .bl x, .bl y => some (decide (x = y))
  | .notn, .bl x, .bl y => some (!decide (x = y))
  | .inn, .str [c], .str y => some (decide (c ∈ y))
  | .nin, .str [c], .str y => some (!decide (c ∈ y))
  | .inn, x, .lst ys => if x.pl && (D.lst ys).pl then some (ys.any fun z => PyData.eqv z.py x.py) else none
  | .nin, x, .lst ys => if x.pl && (D.lst ys).pl then some (!ys.any fun z => PyData.eqv z.py x.py) else none
  | .inn, x, .tup ys => if flatD x && ys.all flatD then some (ys.any fun z => PyData.eqv z.py x.py) else none
  | .nin, x, .tup ys => if flatD x && ys.all flatD then some (!ys.any fun z => PyData.eqv z.py x.py) else none
  | .inn, x, .dic kd => (keyD x).map fun k => (getKD kd k).isSome
  | .nin, x, .dic kd => (keyD x).map fun k => !(getKD kd k).isSome
  | _, _, _ => none
def sortOkD (xs : List D) : Bool := (xs.all fun x => xs.all fun y => PySem.W.alike x.py y.py) && ((xs.all fun x => match x with | .tup (_ :: _) => true | _ => false) || (xs.all fun x => match x with | .int _ | .str _ | .bl _ => true | _ => false)) && (xs.all fun x => x.pl)
def sortD (xs : List D) : List D := xs.mergeSort (PySem.W.dataLe false D.py)
/-- each once, the first of alike ones -/
def dedup : List D → List D
  | [] => []
  | x :: xs => x :: (dedup xs).filter fun y => !PyData.eqv y.py x.py
def boolsD : List D → Option (List Bool)
  | [] => some []
  | .bl b :: r => (boolsD r).map (b :: ·)
  | _ => none
def intsD : List D → Option (List Int)
  | [] => some []
  | .int b :: r => (intsD r).map (b :: ·)
  | _ => none
def strsD : List D → Option (List (List Nat))
  | [] => some []
  | .str b :: r => (strsD r).map (b :: ·)
  | _ => none
def signsD (x : List Nat) : List D := x.map fun c => .str [c]
def minI : List Int → Option Int
  | [] => none
  | n :: r => some (r.foldl (fun a b => if b < a then b else a) n)
def maxI : List Int → Option Int
  | [] => none
  | n :: r => some (r.foldl (fun a b => if a < b then b else a) n)
def op1 : B1 → D → Option Rs
  | .len, .str x => if big x.length then some (.sh (.int x.length)) else none
  | .len, .tup x => some (.sh (.int x.length))
  | .len, .lst x => some (.sh (.int x.length))
  | .len, .scr x => some (.sh (.int x.length))
  | .all, .lst x => (boolsD x).map fun bs => .sh (.bl (bs.all id))
  | .any, .lst x => (boolsD x).map fun bs => .sh (.bl (bs.any id))
  | .list, .tup x => some (.fr (.lst x))
  | .list, .lst x => some (.fr (.lst x))
  | .list, .str x => if big x.length then some (.fr (.lst (signsD x))) else none
  | .tuple, .tup x => some (.sh (.tup x))
  | .tuple, .lst x => some (.sh (.tup x))
  | .sorted, .lst x => if sortOkD x then some (.fr (.lst (sortD x))) else none
  | .sorted, .tup x => if sortOkD x then some (.fr (.lst (sortD x))) else none
  | .int, .int i => some (.sh (.int i))
  | .int, .bl b => some (.sh (.int (if b then 1 else 0)))
  | .abs, .int i => some (.sh (.int (if i < 0 then -i else i)))
  | .min, .lst x => (intsD x).bind fun ns => (minI ns).map fun m => .sh (.int m)
  | .max, .lst x => (intsD x).bind fun ns => (maxI ns).map fun m => .sh (.int m)
  | _, _ => none
def op2 : B2 → D → D → Option Rs
  | .min, .int i, .int j => some (.sh (.int (if j < i then j else i)))
  | .max, .int i, .int j => some (.sh (.int (if j > i then j else i)))
  | _, _, _ => none
def isiD : Ty → D → Option Bool
  | _, .dic _ => none
  | _, .cell _ => none
  | _, .scr _ => none
  | .int, .int _ => some true
  | .int, .bl _ => some true
  | .bool, .bl _ => some true
  | .str, .str _ => some true
  | .tuple, .tup _ => some true
  | .list, .lst _ => some true
  | _, _ => some false
def opM0 : M0 → D → Option Rs
  | .lower, .str x => if x.all (· < 128) && decide (x.length ≤ 5592405) then some (.sh (.str (x.map lo1))) else none
  | .upper, .str x => if x.all (· < 128) && decide (x.length ≤ 5592405) then some (.sh (.str (x.map up1))) else none
  | _, _ => none
/-- the parts between signs s -/
def splitC (s : Nat) : List Nat → List (List Nat)
  | [] => [[]]
  | c :: r => if c = s then [] :: splitC s r else match splitC s r with
    | p :: ps => (c :: p) :: ps
    | [] => [[c]]
def joinD (s : List Nat) : List (List Nat) → List Nat
  | [] => []
  | [x] => x
  | x :: y :: r => x ++ (s ++ joinD s (y :: r))
def opM1 : M1 → D → D → Option Rs
  | .endswith, .str x, .str y => some (.sh (.bl (y.isSuffixOf x)))
  | .startswith, .str x, .str y => some (.sh (.bl (y.isPrefixOf x)))
  | .join, .str x, .lst ys => (strsD ys).bind fun zs => if decide ((zs.map (·.length)).sum + zs.length * x.length ≤ 16777216) then some (.sh (.str (joinD x zs))) else none
  | .split, .str x, .str [c] => if decide (x.length + 2 ≤ sizeLine) && decide (c < 256) then some (.fr (.lst ((splitC c x).map .str))) else none
  | _, _, _ => none
def ixD (st : Store) : D → D → Option D
  | .lst xs, .int i => atI xs i
  | .tup xs, .int i => atI xs i
  | .scr ns, .int i => (atI ns i).map .int
  | .str x, .int i => if big x.length then (atI x i).map fun c => .str [c] else none
  | .cell n, .int i => (st[n]?).bind fun xs => atI xs i
  | .dic kd, k => (keyD k).bind (getKD kd)
  | _, _ => none
def slD (lo hi : Option Int) : D → Option Rs
  | .lst xs => some (.fr (.lst (cutL xs lo hi)))
  | .tup xs => some (.sh (.tup (cutL xs lo hi)))
  | .str x => if big x.length then some (.sh (.str (cutL x lo hi))) else none
  | _ => none

/-! texts ascending; each once -/
def leT (a b : List Nat) : Bool := !decide (b < a)
def sortT (zs : List (List Nat)) : List (List Nat) := zs.mergeSort leT
def onceT : List (List Nat) → List (List Nat)
  | [] => []
  | x :: xs => if x ∈ xs then onceT xs else x :: onceT xs
/-! tuples of texts -/
def leK (a b : List (List Nat)) : Bool := !decide (b < a)
def sortK (zs : List (List (List Nat))) : List (List (List Nat)) := zs.mergeSort leK
def onceK : List (List (List Nat)) → List (List (List Nat))
  | [] => []
  | x :: xs => if x ∈ xs then onceK xs else x :: onceK xs
def tupsT : List D → Option (List (List (List Nat)))
  | [] => some []
  | .tup xs :: r => (strsD xs).bind fun z => (tupsT r).map (z :: ·)
  | _ => none
def dT (z : List (List Nat)) : D := .tup (z.map .str)
/-- sorted(set(..)): of texts, of tuples of texts -/
def ssD : D → Option Rs
  | .lst x => match strsD x with
    | some zs => if decide (zs.length + 1 < 4096) then some (.fr (.lst ((sortT (onceT zs)).map .str))) else none
    | none => (tupsT x).bind fun zs => if decide (zs.length < 64) && zs.all (fun z => !z.isEmpty) then some (.fr (.lst ((sortK (onceK zs)).map dT))) else none
  | _ => none
/-! ### environments -/
abbrev En := List (Option D)
def En.at (env : En) (i : Nat) : Option D := match env[i]? with
  | some (some d) => some d
  | _ => none
/-- a value that is put somewhere: not a seen one -/
def Rs.own? : Rs → Option D
  | .sh d => some d
  | .fr d => some d
  | .vw _ => none
mutual
def bindT : Tg → D → En → Option En
  | .nm i, d, env => some (env.set i (some d))
  | .tup ts, .tup ds, env => bindTs ts ds env
  | _, _, _ => none
def bindTs : Tgs → List D → En → Option En
  | .nil, [], env => some env
  | .cons t ts, d :: ds, env => (bindT t d env).bind fun env => bindTs ts ds env
  | _, _, _ => none
end
def wipeE (env : En) : List Nat → En
  | [] => env
  | v :: vs => (wipeE env vs).set v none

/-! ### the evaluator -/
structure Wd where
  call : Nat → List D → Store → Option (Rs × Store)
  wf : Nat
def itemsOf : D → Option (List D)
  | .lst xs => some xs
  | .tup xs => some xs
  | .str x => some (signsD x)
  | _ => none
def Rs.vwB : Rs → Bool
  | .vw _ => true
  | _ => false
def rngI (lo : Int) (n : Nat) : List D := (List.range n).map fun i => .int (lo + (i : Nat))
def rngC (lo c : Int) (n : Nat) : List D := (List.range n).map fun i => .int (lo + (i : Nat) * c)
def bnd (i : Int) : Bool := decide (-(2 ^ 62) ≤ i) && decide (i < 2 ^ 62)
def rngOf : List D → Option (List D)
  | [.int j] => if bnd j then some (rngI 0 j.toNat) else none
  | [.int i, .int j] => if bnd i && bnd j then some (rngI i (j - i).toNat) else none
  | [.int i, .int j, .int c] => if bnd i && bnd j then (if c = -1 then some (rngC i (-1) (i - j).toNat) else none) else none
  | _ => none
def enumD : Nat → List D → List D
  | _, [] => []
  | i, x :: xs => .tup [.int i, x] :: enumD (i + 1) xs
def zipD : List D → List D → List D
  | x :: xs, y :: ys => .tup [x, y] :: zipD xs ys
  | _, _ => []
/-- zip of two lists, of two tuples -/
def zipOk : D → D → Option (List D)
  | .lst x, .lst y => some (zipD x y)
  | .tup x, .tup y => some (zipD x y)
  | _, _ => none
def compGo (bind : D → En → Option En) (cnd : En → Store → Option (Bool × Store)) (elt : En → Store → Option (Rs × Store)) (env : En) : List D → Store → Option (List D × Store)
  | [], st => some ([], st)
  | x :: xs, st => (bind x env).bind fun e1 => (cnd e1 st).bind fun q => if q.1 = true
    then (elt e1 q.2).bind fun r => r.1.own?.bind fun d => (compGo bind cnd elt env xs r.2).bind fun z => some (d :: z.1, z.2)
    else compGo bind cnd elt env xs q.2
def boolOf : Rs → Option Bool
  | .sh (.bl b) => some b
  | _ => none
def intOf : Rs → Option Int
  | .sh (.int b) => some b
  | _ => none
mutual
def evE (W : Wd) : E → En → Store → Option (Rs × Store)
  | .c d, _, st => some (.sh d, st)
  | .v i, env, st => (env.at i).map fun d => (.sh d, st)
  | .vo i, env, st => (env.at i).map fun d => (.vw d, st)
  | .bin op a b, env, st => (evE W a env st).bind fun x => (evE W b env x.2).bind fun y => (opB op x.1.d y.1.d).map fun r => (r, y.2)
  | .neg a, env, st => (evE W a env st).bind fun x => (intOf x.1).map fun i => (.sh (.int (-i)), x.2)
  | .not a, env, st => (evE W a env st).bind fun x => (boolOf x.1).map fun b => (.sh (.bl (!b)), x.2)
  | .cmp op a b, env, st => (evE W a env st).bind fun x => (evE W b env x.2).bind fun y => (opC op x.1.d y.1.d).map fun r => (.sh (.bl r), y.2)
  | .chain op op' a b c, env, st => (evE W a env st).bind fun x => (evE W b env x.2).bind fun y => (opC op x.1.d y.1.d).bind fun r =>
      if r = true then (evE W c env y.2).bind fun z => (opC op' y.1.d z.1.d).map fun r => (.sh (.bl r), z.2) else some (.sh (.bl false), y.2)
  | .and a b, env, st => (evE W a env st).bind fun x => (boolOf x.1).bind fun c => if c = true then evE W b env x.2 else some (.sh (.bl false), x.2)
  | .or a b, env, st => (evE W a env st).bind fun x => (boolOf x.1).bind fun c => if c = true then some (.sh (.bl true), x.2) else evE W b env x.2
  | .ite c a b, env, st => (evE W c env st).bind fun x => (boolOf x.1).bind fun c => if c = true then evE W a env x.2 else evE W b env x.2
  | .call f es, env, st => (evEs W es env st).bind fun x => W.call f x.1 x.2
  | .b1 f a, env, st => (evE W a env st).bind fun x => (op1 f x.1.d).map fun r => (r, x.2)
  | .b2 f a b, env, st => (evE W a env st).bind fun x => (evE W b env x.2).bind fun y => (op2 f x.1.d y.1.d).map fun r => (r, y.2)
  | .isi t a, env, st => (evE W a env st).bind fun x => (isiD t x.1.d).map fun r => (.sh (.bl r), x.2)
  | .m0 f a, env, st => (evE W a env st).bind fun x => (opM0 f x.1.d).map fun r => (r, x.2)
  | .m1 f a b, env, st => (evE W a env st).bind fun x => (evE W b env x.2).bind fun y => (opM1 f x.1.d y.1.d).map fun r => (r, y.2)
  | .idx a b, env, st => (evE W a env st).bind fun x => (evE W b env x.2).bind fun y => (ixD y.2 x.1.d y.1.d).map fun r => (.sh r, y.2)
  | .sl a lo hi, env, st => (evE W a env st).bind fun x => (evEo W lo env x.2).bind fun l => (evEo W hi env l.2).bind fun h => (slD l.1 h.1 x.1.d).map fun r => (r, h.2)
  | .rev a, env, st => (evE W a env st).bind fun x => match x.1.d with
      | .lst xs => some (.fr (.lst xs.reverse), x.2)
      | _ => none
  | .tup es, env, st => (evEs W es env st).map fun x => (.sh (.tup x.1), x.2)
  | .lst es, env, st => (evEs W es env st).map fun x => (.fr (.lst x.1), x.2)
  | .ss a, env, st => (evE W a env st).bind fun x => (ssD x.1.d).map fun r => (r, x.2)
  | .cel es, env, st => (evEs W es env st).map fun x => (.sh (.cell x.2.length), x.2 ++ [x.1])
  | .comp ws elt tg it cnd, env, st => (evI W it env st).bind fun x =>
      (compGo (bindT tg) (evC W cnd) (evE W elt) (wipeE env ws) x.1 x.2.2).bind fun z => if big z.1.length then some (.fr (.lst z.1), z.2) else none
  | .lrng a, env, st => (evE W a env st).bind fun x => (intOf x.1).bind fun i => if decide (0 ≤ i) && decide (i ≤ 16777216) then some (.fr (.lst (rngI 0 i.toNat)), x.2) else none
  | .lix a b, env, st => (evE W a env st).bind fun x => (evE W b env x.2).bind fun y => match x.1.d with
      | .lst xs => if (D.lst xs).pl && y.1.d.pl then (xs.findIdx? fun z => PyData.eqv z.py y.1.d.py).map fun j => (.sh (.int (j : Nat)), y.2) else none
      | _ => none
  | .rep a c d, env, st => (evE W a env st).bind fun x => match x.1.d with
      | .str t => if (decide (2 * t.length + 1 ≤ 16777216) && decide (c ≠ d)) = true then some (.sh (.str (t.map fun k => if k = c then d else k)), x.2) else none
      | _ => none
  | .lens a, env, st => (evE W a env st).bind fun x => match x.1.d with
      | .lst ds => (tupsT ds).bind fun zs => if decide (zs.length < 64) = true then some (.sh (.int ((onceK zs).length : Nat)), x.2) else none
      | _ => none
  | .dic0, _, st => some (.fr (.dic []), st)
  | .dic1 a b, env, st => (evE W a env st).bind fun x => x.1.own?.bind fun k => (evE W b env x.2).bind fun y => y.1.own?.bind fun d => (keyD k).map fun k => (.fr (.dic [(k, d)]), y.2)
  | .dicL a, env, st => (evE W a env st).bind fun x => match x.1.d with
      | .lst ds => (pairsD ds).map fun kd => (.fr (.dic (mergeKD [] kd)), x.2)
      | _ => none
  | .compI y ws elt tg cnd, env, st => (env.at y).bind fun o => match o with
      | .dic kd => (compGo (bindT tg) (evC W cnd) (evE W elt) (wipeE (env.set y none) ws) (itemsKD kd) st).bind fun z => if big z.1.length then some (.fr (.lst z.1), z.2) else none
      | _ => none
/-- arguments, items: shared from then on -/
def evEs (W : Wd) : Es → En → Store → Option (List D × Store)
  | .nil, _, st => some ([], st)
  | .cons e es, env, st => (evE W e env st).bind fun x => x.1.own?.bind fun d => (evEs W es env x.2).map fun z => (d :: z.1, z.2)
def evEo (W : Wd) : Eo → En → Store → Option (Option Int × Store)
  | .no, _, st => some (none, st)
  | .so e, env, st => (evE W e env st).bind fun x => (intOf x.1).map fun i => (some i, x.2)
def evC (W : Wd) : Eo → En → Store → Option (Bool × Store)
  | .no, _, st => some (true, st)
  | .so e, env, st => (evE W e env st).bind fun x => (boolOf x.1).map fun b => (b, x.2)
def evI (W : Wd) : Itb → En → Store → Option (List D × Bool × Store)
  | .e a, env, st => (evE W a env st).bind fun x => (itemsOf x.1.d).map fun xs => (xs, x.1.vwB, x.2)
  | .rng es, env, st => (evEs W es env st).bind fun x => (rngOf x.1).map fun xs => (xs, false, x.2)
  | .enum a, env, st => (evE W a env st).bind fun x => (itemsOf x.1.d).map fun xs => (enumD 0 xs, x.1.vwB, x.2)
  | .zip a b, env, st => (evE W a env st).bind fun x => (evE W b env x.2).bind fun y => (zipOk x.1.d y.1.d).map fun z => (z, true, y.2)
end

inductive Fl where
  | nx | ret (r : Rs) | brk | cont
abbrev Out := Fl × En × Store
def forGo (bind : D → En → Option En) (body : En → Store → Option Out) : List D → En → Store → Option Out
  | [], env, st => some (.nx, env, st)
  | x :: xs, env, st => (bind x env).bind fun e1 => (body e1 st).bind fun q => match q.1 with
    | .nx => forGo bind body xs q.2.1 q.2.2
    | .cont => forGo bind body xs q.2.1 q.2.2
    | .brk => some (.nx, q.2.1, q.2.2)
    | .ret r => some (.ret r, q.2.1, q.2.2)
def whlGo (cnd : En → Store → Option (Bool × Store)) (body : En → Store → Option Out) : Nat → En → Store → Option Out
  | 0, _, _ => none
  | n + 1, env, st => (cnd env st).bind fun c => if c.1 = true
    then (body env c.2).bind fun q => match q.1 with
      | .nx => whlGo cnd body n q.2.1 q.2.2
      | .cont => whlGo cnd body n q.2.1 q.2.2
      | .brk => some (.nx, q.2.1, q.2.2)
      | .ret r => some (.ret r, q.2.1, q.2.2)
    else some (.nx, env, c.2)
/-- a, b = x, y: each name in its way -/
def parSet : List (Bool × Nat) → List Rs → En → Option En
  | [], [], env => some env
  | (true, i) :: ts, .fr d :: rs, env => parSet ts rs (env.set i (some d))
  | (false, i) :: ts, r :: rs, env => r.own?.bind fun d => parSet ts rs (env.set i (some d))
  | _, _, _ => none
/-- values side by side, not shared yet -/
def evRs (W : Wd) : Es → En → Store → Option (List Rs × Store)
  | .nil, _, st => some ([], st)
  | .cons e es, env, st => (evE W e env st).bind fun x => x.1.own?.bind fun _ => (evRs W es env x.2).map fun z => (x.1 :: z.1, z.2)
def setIx (d : D) : D → D → Option D
  | .lst xs, .int i => (ixN xs.length i).map fun j => .lst (xs.set j d)
  | .dic kd, k => (keyD k).bind fun k => if decide (kd.length < sizeLine) then some (.dic (putKD kd k d)) else none
  | _, _ => none
mutual
def evS (W : Wd) : S → En → Store → Option Out
  | .set i e, env, st => (evE W e env st).bind fun x => x.1.own?.map fun d => (.nx, env.set i (some d), x.2)
  | .seto i e, env, st => (evE W e env st).bind fun x => match x.1 with
      | .fr d => some (.nx, env.set i (some d), x.2)
      | _ => none
  | .unp tg e, env, st => (evE W e env st).bind fun x => match x.1 with
      | .sh d => (bindT tg d env).map fun env => (.nx, env, x.2)
      | _ => none
  | .par ts es, env, st => (evRs W es env st).bind fun x => (parSet ts x.1 env).map fun env => (.nx, env, x.2)
  | .seti y i e, env, st => (evE W e env st).bind fun x => x.1.own?.bind fun d => (evE W i env x.2).bind fun k => (env.at y).bind fun o => (setIx d o k.1.d).map fun z => (.nx, env.set y (some z), k.2)
  | .setc c i e, env, st => (evE W e env st).bind fun x => x.1.own?.bind fun d => (evE W c env x.2).bind fun o => (evE W i env o.2).bind fun k => match o.1.d, k.1.d with
      | .cell n, .int i => (k.2[n]?).bind fun xs => (ixN xs.length i).map fun j => (.nx, env, k.2.set n (xs.set j d))
      | _, _ => none
  | .app y e, env, st => (evE W e env st).bind fun x => x.1.own?.bind fun d => (env.at y).bind fun o => match o with
      | .lst xs => if decide (xs.length < sizeLine) then some (.nx, env.set y (some (.lst (xs ++ [d]))), x.2) else none
      | _ => none
  | .drop e, env, st => (evE W e env st).map fun x => (.nx, env, x.2)
  | .ret e, env, st => (evE W e env st).bind fun x => x.1.own?.map fun _ => (.ret x.1, env, x.2)
  | .reto i, env, st => (env.at i).map fun d => (.ret (.fr d), env, st)
  | .retN, env, st => some (.ret (.sh .non), env, st)
  | .pass, env, st => some (.nx, env, st)
  | .brk, env, st => some (.brk, env, st)
  | .cont, env, st => some (.cont, env, st)
  | .fail, _, _ => none
  | .ite c a b, env, st => (evE W c env st).bind fun x => (boolOf x.1).bind fun c => if c = true then evSs W a env x.2 else evSs W b env x.2
  | .for_ tg it body, env, st => (evI W it env st).bind fun x => if x.2.1 = true then none else forGo (bindT tg) (evSs W body) x.1 env x.2.2
  | .whl c body, env, st => whlGo (fun env st => (evE W c env st).bind fun x => (boolOf x.1).map fun b => (b, x.2)) (evSs W body) W.wf env st
def evSs (W : Wd) : Ss → En → Store → Option Out
  | .nil, env, st => some (.nx, env, st)
  | .cons s ss, env, st => (evS W s env st).bind fun q => match q.1 with
    | .nx => evSs W ss q.2.1 q.2.2
    | f => some (f, q.2.1, q.2.2)
end

/-- a def: its parameters' number, its slots, its body -/
structure Df where
  np : Nat
  n : Nat
  body : Ss
def startE (n : Nat) (ds : List D) : En := ds.map some ++ List.replicate (n - ds.length) none
def outOf : Out → Option (Rs × Store)
  | (.nx, _, st) => some (.sh .non, st)
  | (.ret r, _, st) => some (r, st)
  | _ => none
/-- a call, at most k deep -/
def callF (defs : Nat → Option Df) (wf : Nat) : Nat → Nat → List D → Store → Option (Rs × Store)
  | 0, _, _, _ => none
  | k + 1, f, ds, st => (defs f).bind fun d => if d.np = ds.length then (evSs ⟨callF defs wf k, wf⟩ d.body (startE d.n ds) st).bind outOf else none
end MW
set_option Elab.async false
set_option linter.all false
set_option maxRecDepth 100000
set_option maxHeartbeats 1000000
set_option autoImplicit false
/-! The evaluator against the judgements: expressions. -/
namespace MW
open PySem PySem.Spec PyProof.Rows L2

/-- what stays through a def's activation -/
structure Ct where
  K : PySem.W.Frag
  W : Wd
  O : List Nat
  g0 : Gh
  Hb : Hp
structure EnR (K : PySem.W.Frag) (g : Gh) (H Hb : Hp) (O : List Nat) (σ : L2.St) (env : En) : Prop where
  get : ∀ i d, env.at i = some d → ∃ v, σ[i]? = some (some v) ∧ (i ∉ O → Rp K g v d) ∧ (i ∈ O → ∃ p, v = .ref p ∧ Cn K g H p d ∧ g.G p = none ∧ p ∉ g.cm ∧ Hb p = none)
  inj : ∀ (i j : Nat) (p : Addr), i ∈ O → j ∈ O → env.at i ≠ none → env.at j ≠ none → σ[i]? = some (some (.ref p)) → σ[j]? = some (some (.ref p)) → i = j
  len : env.length = σ.length
structure Ste (C : Ct) (σ : L2.St) (g : Gh) (H : Hp) (env : En) (st : Store) : Prop where
  sy : Sy C.K g H st
  en : EnR C.K g H C.Hb C.O σ env
  ext : Ext C.g0 C.Hb g H

theorem EnR.ext {K : PySem.W.Frag} {g g' : Gh} {H H' Hb : Hp} {O : List Nat} {σ : L2.St} {env : En} (R : EnR K g H Hb O σ env) (E : Ext g H g' H') : EnR K g' H' Hb O σ env where
  get := fun i d e => by
    obtain ⟨v, h, a, b⟩ := R.get i d e
    refine ⟨v, h, fun n => (a n).mono E.le, fun m => ?_⟩
    obtain ⟨p, ev, c, hg, hc, hb⟩ := b m
    obtain ⟨x, y⟩ := own_ext E c.some hg hc
    exact ⟨p, ev, c.ext E hc, x, y, hb⟩
  inj := R.inj
  len := R.len
theorem Ste.of {C : Ct} {σ : L2.St} {g g' : Gh} {H H' : Hp} {env : En} {st st' : Store} (S : Ste C σ g H env st) (E : Ext g H g' H') (y : Sy C.K g' H' st') : Ste C σ g' H' env st' :=
  ⟨y, S.en.ext E, S.ext.trans E⟩

/-- the reading of an expression by the evaluator -/
def tE (C : Ct) (m : E) : TE := fun σ H Q => ∃ g env st rs st', Ste C σ g H env st ∧ evE C.W m env st = some (rs, st') ∧ ∀ v g' H', Ext g H g' H' → Sy C.K g' H' st' → RsR C.K g' H' H v rs → Q v H'
/-- of a test -/
def tT (C : Ct) (m : E) : TT := fun σ H Q => ∃ g env st b st', Ste C σ g H env st ∧ evE C.W m env st = some (.sh (.bl b), st') ∧ ∀ g' H', Ext g H g' H' → Sy C.K g' H' st' → Q b H'
/-- of arguments: shared -/
def tA (C : Ct) (m : Es) : TA := fun σ H Q => ∃ g env st ds st', Ste C σ g H env st ∧ evEs C.W m env st = some (ds, st') ∧ ∀ vs g' H', Ext g H g' H' → Sy C.K g' H' st' → RpAll C.K g' vs ds → Q vs H'
theorem tE_one {C : Ct} {m : E} {σ : L2.St} {g : Gh} {H : Hp} {env : En} {st st' : Store} {rs : Rs} {Q : VK} (S : Ste C σ g H env st) (e : evE C.W m env st = some (rs, st'))
    (h : ∀ v g' H', Ext g H g' H' → Ste C σ g' H' env st' → RsR C.K g' H' H v rs → Q v H') : tE C m σ H Q :=
  ⟨g, env, st, rs, st', S, e, fun v g' H' E y r => h v g' H' E (S.of E y) r⟩
theorem tT_one {C : Ct} {m : E} {σ : L2.St} {g : Gh} {H : Hp} {env : En} {st st' : Store} {b : Bool} {Q : Bool → Hp → Prop} (S : Ste C σ g H env st) (e : evE C.W m env st = some (.sh (.bl b), st'))
    (h : ∀ g' H', Ext g H g' H' → Ste C σ g' H' env st' → Q b H') : tT C m σ H Q :=
  ⟨g, env, st, b, st', S, e, fun g' H' E y => h g' H' E (S.of E y)⟩
theorem tA_one {C : Ct} {m : Es} {σ : L2.St} {g : Gh} {H : Hp} {env : En} {st st' : Store} {ds : List D} {Q : List V → Hp → Prop} (S : Ste C σ g H env st) (e : evEs C.W m env st = some (ds, st'))
    (h : ∀ vs g' H', Ext g H g' H' → Ste C σ g' H' env st' → RpAll C.K g' vs ds → Q vs H') : tA C m σ H Q :=
  ⟨g, env, st, ds, st', S, e, fun v g' H' E y r => h v g' H' E (S.of E y) r⟩

theorem _root_.L2.PE.imp {X : Cx} {e : Expr} {t t' : TE} (h : PE X e t) (i : ∀ σ H Q, t' σ H Q → t σ H Q) : PE X e t' := ⟨fun pins s σ H Q I q => h.run pins s σ H Q I (i σ H Q q)⟩
theorem _root_.L2.PT.imp {X : Cx} {e : Expr} {t t' : TT} (h : PT X e t) (i : ∀ σ H Q, t' σ H Q → t σ H Q) : PT X e t' := ⟨fun pins s σ H Q I q => h.run pins s σ H Q I (i σ H Q q)⟩
theorem _root_.L2.PA.imp {X : Cx} {e : List Expr} {t t' : TA} (h : PA X e t) (i : ∀ σ H Q, t' σ H Q → t σ H Q) : PA X e t' := ⟨fun pos pins s σ H Q I q => h.run pos pins s σ H Q I (i σ H Q q)⟩
theorem _root_.L2.PS.imp {X : Cx} {e : Stmt} {t t' : TS} (h : PS X e t) (i : ∀ D σ H, t' D σ H → t D σ H) : PS X e t' := ⟨fun pins s σ H D I q => h.run pins s σ H D I (i D σ H q)⟩
theorem _root_.L2.PSs.imp {X : Cx} {e : List Stmt} {t t' : TS} (h : PSs X e t) (i : ∀ D σ H, t' D σ H → t D σ H) : PSs X e t' := ⟨fun pins s σ H D I q => h.run pins s σ H D I (i D σ H q)⟩

theorem bindS {α β : Type} {o : Option α} {f : α → Option β} {b : β} (h : o.bind f = some b) : ∃ a, o = some a ∧ f a = some b := by
  cases o with
  | none => cases h
  | some a => exact ⟨a, rfl, h⟩
theorem mapS {α β : Type} {o : Option α} {f : α → β} {b : β} (h : o.map f = some b) : ∃ a, o = some a ∧ f a = b := by
  cases o with
  | none => cases h
  | some a => exact ⟨a, rfl, by simpa using h⟩
theorem iteS {α : Type} {c : Bool} {a b : α} (h : (if c = true then some a else none) = some b) : c = true ∧ a = b := by
  cases c with
  | false => cases h
  | true => exact ⟨rfl, by simpa using h⟩

/-! ### data by values -/
section
variable {K : PySem.W.Frag} {g g' : Gh} {H H' H0 : Hp} {st st' : Store}
mutual
theorem Rp.dp (S : Sy K g H st) : ∀ {v : V} {d : D}, Rp K g v d → d.py.canLay0 = true → Dp K H v d.py
  | _, _, .non, _ => .non
  | _, _, .bl b, _ => .bl b
  | _, _, .int b, _ => .int b
  | _, _, .str x, _ => .str _
  | _, _, .tup q r, h => by
    rw [D.py] at h ⊢
    exact .tup (sqT_mono S.sub q) (RpAll.dp S r (by simpa [PyData.canLay0] using h))
  | _, _, .lst q r, h => by
    rw [D.py] at h ⊢
    exact .lst (SqL.of (S.sub _ _ q)) (RpAll.dp S r (by simpa [PyData.canLay0] using h))
  | _, _, .scr q, h => by rw [D.py] at h; simp [PyData.canLay0] at h
  | _, _, .dic q r, h => by rw [D.py] at h; simp [PyData.canLay0] at h
  | _, _, .cell q, h => by rw [D.py] at h; simp [PyData.canLay0] at h
theorem RpAll.dp (S : Sy K g H st) : ∀ {vs : List V} {ds : List D}, RpAll K g vs ds → PyData.canLayAll0 (pyAll ds) = true → DpAll K H vs (pyAll ds)
  | _, _, .nil, _ => by rw [pyAll]; exact .nil
  | _, _, .cons q r, h => by
    rw [pyAll] at h ⊢
    simp only [PyData.canLayAll0, Bool.and_eq_true] at h
    exact .cons (Rp.dp S q h.1) (RpAll.dp S r h.2)
end
theorem Wk.dp (S : Sy K g H st) {v : V} {d : D} (w : Wk K g H v d) (h : d.pl = true) : Dp K H v d.py ∧ SeqAt.shaped d.py = true := by
  refine ⟨?_, h⟩
  have hc : d.py.canLay0 = true := SeqAt.canLay_of_shaped h
  cases d with
  | lst ds =>
    obtain ⟨a, vs, e, q, r⟩ := w
    subst e
    rw [D.py] at hc ⊢
    exact .lst (SqL.of q) (r.dp S (by simpa [PyData.canLay0] using hc))
  | dic ds => rw [D.py] at hc; simp [PyData.canLay0] at hc
  | scr ds => rw [D.py] at hc; simp [PyData.canLay0] at hc
  | non => exact Rp.dp S w hc
  | bl b => exact Rp.dp S w hc
  | int b => exact Rp.dp S w hc
  | str b => exact Rp.dp S w hc
  | tup b => exact Rp.dp S w hc
  | cell b => exact Rp.dp S w hc
end
/-! ### dicts -/
theorem keyOf_inj {a b : DKey} (h : keyOf a = keyOf b) : a = b := by
  cases a with
  | inl i => cases b with
    | inl j => injection h with h; rw [h]
    | inr y => cases h
  | inr x => cases b with
    | inl j => cases h
    | inr y =>
      injection h with h
      injection h with h
      have q := Array.toList_inj.mpr h
      have q : x = y := by simpa using q
      rw [q]
theorem key_ok {K : PySem.W.Frag} {g : Gh} {H : Hp} {v : V} {d : D} {k : DKey} (w : Wk K g H v d) (h : keyD d = some k) : v = kV (keyOf k) := by
  cases d with
  | int i => cases h; cases w; rfl
  | str x => cases h; cases w; rfl
  | _ => cases h
theorem rp_key {K : PySem.W.Frag} {g : Gh} (k : DKey) : Rp K g (kV (keyOf k)) (datK k) := by
  cases k with
  | inl i => exact .int i
  | inr x => exact .str x
section
variable {K : PySem.W.Frag} {g : Gh}
theorem RpKv.val : ∀ {kv : List (Key × V)} {kd : List (DKey × D)}, RpKv K g kv kd → ∀ k, (getKD kd k = none ∧ valV kv (keyOf k) = none) ∨ ∃ d v, getKD kd k = some d ∧ valV kv (keyOf k) = some v ∧ Rp K g v d
  | _, _, .nil, k => .inl ⟨rfl, rfl⟩
  | _, _, .cons (k := kk) (k' := k') e q r, k => by
    subst e
    by_cases h : k' = k
    · subst h
      exact .inr ⟨_, _, by rw [getKD]; exact if_pos rfl, valV_pos rfl, q⟩
    · have n : ¬ keyOf k' = keyOf k := fun z => h (keyOf_inj z)
      rcases RpKv.val r k with ⟨h1, h2⟩ | ⟨d, v, h1, h2, h3⟩
      · exact .inl ⟨by rw [getKD]; exact (if_neg h).trans h1, (valV_neg n).trans h2⟩
      · exact .inr ⟨d, v, by rw [getKD]; exact (if_neg h).trans h1, (valV_neg n).trans h2, h3⟩
theorem RpKv.isSome {kv : List (Key × V)} {kd : List (DKey × D)} (r : RpKv K g kv kd) (k : DKey) : (valV kv (keyOf k)).isSome = (getKD kd k).isSome := by
  rcases r.val k with ⟨h1, h2⟩ | ⟨d, v, h1, h2, _⟩ <;> rw [h1, h2] <;> rfl
theorem RpKv.get {kv : List (Key × V)} {kd : List (DKey × D)} (r : RpKv K g kv kd) {k : DKey} {d : D} (h : getKD kd k = some d) : ∃ v, valV kv (keyOf k) = some v ∧ Rp K g v d := by
  rcases r.val k with ⟨h1, h2⟩ | ⟨d', v, h1, h2, h3⟩
  · rw [h] at h1; cases h1
  · rw [h] at h1; cases h1; exact ⟨v, h2, h3⟩
theorem RpKv.length : ∀ {kv : List (Key × V)} {kd : List (DKey × D)}, RpKv K g kv kd → kv.length = kd.length
  | _, _, .nil => rfl
  | _, _, .cons _ _ r => by simp [RpKv.length r]
theorem RpKv.append : ∀ {kv lv : List (Key × V)} {kd ld : List (DKey × D)}, RpKv K g kv kd → RpKv K g lv ld → RpKv K g (kv ++ lv) (kd ++ ld)
  | _, _, _, _, .nil, s => s
  | _, _, _, _, .cons e q r, s => .cons e q (RpKv.append r s)
theorem RpKv.repl {v : V} {d : D} {k : DKey} (q : Rp K g v d) : ∀ {kv : List (Key × V)} {kd : List (DKey × D)}, RpKv K g kv kd → RpKv K g (kv.map fun p => if p.1 = keyOf k then (p.1, v) else p) (kd.map fun p => if p.1 = k then (p.1, d) else p)
  | _, _, .nil => .nil
  | _, _, .cons (k := kk) (k' := k') e q' r => by
    subst e
    rw [List.map_cons, List.map_cons]
    by_cases h : k' = k
    · subst h
      simp only [if_true]
      exact .cons rfl q (RpKv.repl q r)
    · have n : ¬ keyOf k' = keyOf k := fun z => h (keyOf_inj z)
      simp only [h, n, if_false]
      exact .cons rfl q' (RpKv.repl q r)
theorem RpKv.put {kv : List (Key × V)} {kd : List (DKey × D)} (r : RpKv K g kv kd) {v : V} {d : D} (k : DKey) (q : Rp K g v d) : RpKv K g (putK kv (keyOf k) v) (putKD kd k d) := by
  unfold putK putKD
  rw [valV_any, r.isSome k]
  split
  · exact r.repl q
  · exact r.append (.cons rfl q .nil)
theorem putKD_length (kd : List (DKey × D)) (k : DKey) (d : D) : (putKD kd k d).length ≤ kd.length + 1 := by
  unfold putKD
  split
  · rw [List.length_map]; omega
  · rw [List.length_append]; simp
end
end MW
set_option Elab.async false
set_option linter.all false
set_option maxRecDepth 100000
set_option maxHeartbeats 1000000
set_option autoImplicit false
/-! Operators by values. -/
namespace MW
open PySem PySem.Spec PyProof.Rows L2

/-- what is wanted behind a value: whatever was laid anew -/
def okV (K : PySem.W.Frag) (g : Gh) (H : Hp) (st : Store) (rs : Rs) (Q : VK) : Prop := ∀ v g' H', Ext g H g' H' → Sy K g' H' st → RsR K g' H' H v rs → Q v H'
section
variable {K : PySem.W.Frag} {g : Gh} {H : Hp} {st : Store} {Q : VK}
theorem okV.here {v : V} {d : D} (k : okV K g H st (.sh d) Q) (S : Sy K g H st) (r : Rp K g v d) : Q v H := k v g H (.refl g H) S r
theorem okV.lst {vs : List V} {ds : List D} (k : okV K g H st (.fr (.lst ds)) Q) (S : Sy K g H st) (r : RpAll K g vs ds) (p : Addr) (hp : H p = none) : Q (.ref p) (upd H p (.lst vs)) :=
  k (.ref p) g _ (Ext.alloc hp) (S.alloc hp) ⟨p, rfl, ⟨vs, upd_same, r⟩, (S.fresh hp).1, (S.fresh hp).2, hp⟩
theorem okV.dic {vs : List (Key × V)} {ds : List (DKey × D)} (k : okV K g H st (.fr (.dic ds)) Q) (S : Sy K g H st) (r : RpKv K g vs ds) (p : Addr) (hp : H p = none) : Q (.ref p) (upd H p (.dK vs)) :=
  k (.ref p) g _ (Ext.alloc hp) (S.alloc hp) ⟨p, rfl, ⟨vs, upd_same, r⟩, (S.fresh hp).1, (S.fresh hp).2, hp⟩
theorem tup_new {vs : List V} {ds : List D} (S : Sy K g H st) (r : RpAll K g vs ds) (p : Addr) (hp : H p = none) :
    Ext g H (g.frz p (.tup vs)) (upd H p (.tup vs)) ∧ Sy K (g.frz p (.tup vs)) (upd H p (.tup vs)) st ∧ Rp K (g.frz p (.tup vs)) (.ref p) (.tup ds) :=
  ⟨(Ext.alloc hp).frz (S.fresh hp).1 hp, (S.alloc hp).frz (S.fresh hp).1 (S.fresh hp).2 upd_same, .tup (SqT.of Gh.frz_at) (r.mono (Gh.frz_le (S.fresh hp).1))⟩
theorem okV.tup {vs : List V} {ds : List D} (k : okV K g H st (.sh (.tup ds)) Q) (S : Sy K g H st) (r : RpAll K g vs ds) (p : Addr) (hp : H p = none) : Q (.ref p) (upd H p (.tup vs)) := by
  obtain ⟨a, b, c⟩ := tup_new S r p hp
  exact k _ _ _ a b c
end
theorem str_app (x y : List Nat) : (⟨x.toArray⟩ : Str) ++ ⟨y.toArray⟩ = ⟨(x ++ y).toArray⟩ := by
  show Str.append _ _ = _
  unfold Str.append
  simp
theorem str_len (x : List Nat) : (⟨x.toArray⟩ : Str).length = x.length := by simp [Str.length]
theorem bigS {n : Nat} (h : big n = true) : n ≤ sizeLine := of_decide_eq_true h

def bopT : BOp → Operator
  | .add => .Add | .sub => .Sub | .mul => .Mult | .fdiv => .FloorDiv | .mod => .Mod | .pow => .Pow
def rB (K : PySem.W.Frag) (op : BOp) : R2 := fun x y H Q => ∃ g st dx dy rs, Sy K g H st ∧ Wk K g H x dx ∧ Wk K g H y dy ∧ opB op dx dy = some rs ∧ okV K g H st rs Q
section
variable {X : Cx}
theorem RpAll.rep {K : PySem.W.Frag} {g : Gh} {vs : List V} {ds : List D} (r : RpAll K g vs ds) : ∀ k : Nat, RpAll K g (List.replicate k vs).flatten (List.replicate k ds).flatten
  | 0 => .nil
  | k + 1 => by
    rw [List.replicate_succ, List.replicate_succ, List.flatten_cons, List.flatten_cons]
    exact r.append (RpAll.rep r k)
theorem foldl_repN (x : List Nat) : ∀ (k : Nat) (acc : List Nat), List.foldl (fun a b => a ++ b) acc.toArray (List.replicate k x.toArray) = (acc ++ (List.replicate k x).flatten).toArray
  | 0, acc => by simp
  | k + 1, acc => by
    rw [List.replicate_succ, List.foldl_cons, List.append_toArray, foldl_repN x k (acc ++ x), List.replicate_succ, List.flatten_cons, List.append_assoc]
theorem op_mulS {pins : List (Addr × Obj)} {s : Shared} {σ : L2.St} {H : Hp} {x : List Nat} {k : Int} {v u : Value} {Q : VK} (I : Inv X pins σ H s) (rx : RelV (.str ⟨x.toArray⟩) v) (ry : RelV (.int k) u) (h0 : 0 ≤ k) (h1 : k ≤ 1000000) (hz : x.length * k.toNat ≤ sizeLine)
    (q : Q (.str ⟨(repL x k).toArray⟩) H) : wpAny (model X.prog X.w) X.A (binaryOp .Mult v u) (EP X pins σ Q) X.xe s := by
  obtain ⟨t, rfl⟩ := rx
  obtain ⟨t', rfl⟩ := ry
  have hl : (⟨x.toArray⟩ : Str).length = x.length := by simp [Str.length]
  have rl : (repL x k).length = x.length * k.toNat := by
    unfold repL
    rw [List.length_flatten, List.map_replicate, List.sum_replicate_nat, Nat.mul_comm]
  have hz' : x.length * k.toNat ≤ 16777216 := hz
  refine P.mul_str (by rw [Bool.or_eq_false_iff, decide_eq_false_iff_not, decide_eq_false_iff_not]; omega) (fun h1' _ => ?_) (fun _ _ => ?_) ?_
  · rw [hl]
    have : x.length ≤ x.length * k.toNat := Nat.le_mul_of_pos_right _ (by omega)
    have : (16777216 : Int) ≤ (2 ^ 63 - 1) / k := Int.le_ediv_of_mul_le (by omega) (by omega)
    omega
  · rw [hl]
    unfold Builtin.Str.tooLong
    exact decide_eq_false (by rw [sizeLine_eq]; omega)
  · by_cases c1 : k < 1
    · rw [if_pos c1]
      have : k = 0 := by omega
      subst this
      exact ⟨by decide, .str Str.empty, H, I.tok _, ⟨_, rfl⟩, q⟩
    · rw [if_neg c1]
      by_cases c2 : (k == 1 || (⟨x.toArray⟩ : Str).length == 0) = true
      · rw [if_pos c2]
        refine ⟨.str ⟨x.toArray⟩, H, I, ⟨_, rfl⟩, ?_⟩
        have e : repL x k = x := by
          rw [hl, Bool.or_eq_true, beq_iff_eq, beq_iff_eq] at c2
          unfold repL
          rcases c2 with c2 | c2
          · subst c2; simp
          · have : x = [] := List.length_eq_zero_iff.mp c2
            subst this
            rw [List.flatten_eq_nil_iff.mpr]
            intro l hl
            exact List.eq_of_mem_replicate hl
        rw [e] at q
        exact q
      · rw [if_neg c2]
        have e : (⟨(List.replicate k.toNat (⟨x.toArray⟩ : Str).cps).foldl (· ++ ·) #[]⟩ : Str) = ⟨(repL x k).toArray⟩ := by
          congr 1
          exact foldl_repN x k.toNat []
        rw [e]
        refine ⟨?_, .str _, H, I.tok _, ⟨_, rfl⟩, q⟩
        show (⟨(repL x k).toArray⟩ : Str).length ≤ sizeLine
        simp only [Str.length, List.size_toArray]
        rw [rl]; exact hz
theorem opB_ok (op : BOp) : OpR X (binaryOp (bopT op)) (rB X.K op) := by
  intro pins s σ H x y v u Q I rx ry h
  obtain ⟨g, st, dx, dy, rs, S, wx, wy, e, k⟩ := h
  unfold opB at e
  split at e
  · cases wx; cases wy; cases e
    exact op_add pins s σ H _ _ v u Q I rx ry ⟨_, _, rfl, rfl, k.here S (.int _)⟩
  · obtain ⟨hz, rfl⟩ := iteS e
    cases wx; cases wy
    refine op_add_str pins s σ H _ _ v u Q I rx ry ⟨_, _, rfl, rfl, ?_, ?_⟩
    · rw [str_len, str_len]; exact bigS hz
    · rw [str_app]; exact k.here S (.str _)
  · obtain ⟨hz, rfl⟩ := iteS e
    cases wx with
    | tup q1 r1 =>
      cases wy with
      | tup q2 r2 =>
        have h1 := r1.length
        have h2 := r2.length
        refine op_catA pins s σ H _ _ v u Q I rx ry ⟨_, _, _, _, rfl, rfl, sqT_mono S.sub q1, sqT_mono S.sub q2, by rw [h1, h2]; exact bigS hz, fun e => ?_, fun _ e => ?_, fun _ _ p hp => ?_⟩
        · subst e; cases r1; exact k.here S (.tup q2 r2)
        · subst e; cases r2; rw [List.append_nil] at k; exact k.here S (.tup q1 r1)
        · exact k.tup S (r1.append r2) p hp
  · obtain ⟨hz, rfl⟩ := iteS e
    obtain ⟨a, vs, rfl, q1, r1⟩ := wx
    obtain ⟨b, ws, rfl, q2, r2⟩ := wy
    exact op_cat pins s σ H _ _ v u Q I rx ry ⟨_, _, _, _, rfl, rfl, q1, q2, by rw [r1.length, r2.length]; exact bigS hz, fun p hp => k.lst S (r1.append r2) p hp⟩
  · cases wx; cases wy; cases e
    exact op_sub pins s σ H _ _ v u Q I rx ry ⟨_, _, rfl, rfl, k.here S (.int _)⟩
  · obtain ⟨hz, rfl⟩ := iteS e
    cases wx; cases wy
    simp only [Bool.or_eq_true, Bool.and_eq_true, decide_eq_true_eq] at hz
    exact op_mul pins s σ H _ _ v u Q I rx ry ⟨_, _, rfl, rfl, hz, k.here S (.int _)⟩
  · obtain ⟨hz, rfl⟩ := iteS e
    obtain ⟨a, vs, rfl, q1, r1⟩ := wx
    cases wy
    simp only [Bool.and_eq_true, decide_eq_true_eq] at hz
    exact op_rep pins s σ H _ _ v u Q I rx ry ⟨_, _, _, rfl, rfl, q1, hz.1.1, hz.1.2, by rw [r1.length]; exact bigS hz.2, fun p hp => k.lst S (r1.rep _) p hp⟩
  · obtain ⟨hz, rfl⟩ := iteS e
    cases wx; cases wy
    simp only [Bool.and_eq_true, decide_eq_true_eq] at hz
    exact op_mulS I rx ry hz.1.1 hz.1.2 (bigS hz.2) (k.here S (.str _))
  · obtain ⟨hz, rfl⟩ := iteS e
    cases wx; cases wy
    simp only [Bool.and_eq_true, decide_eq_true_eq] at hz
    exact op_fdivW pins s σ H _ _ v u Q I rx ry ⟨_, _, rfl, rfl, wide_div (b := 100) hz.1 hz.2 (by decide) (by decide), k.here S (.int _)⟩
  · obtain ⟨hz, rfl⟩ := iteS e
    cases wx; cases wy
    simp only [decide_eq_true_eq] at hz
    exact op_mod pins s σ H _ _ v u Q I rx ry ⟨_, _, rfl, rfl, hz, k.here S (.int _)⟩
  · obtain ⟨hz, rfl⟩ := iteS e
    cases wx; cases wy
    simp only [Bool.and_eq_true, decide_eq_true_eq] at hz
    exact op_pow pins s σ H _ _ v u Q I rx ry ⟨_, _, rfl, rfl, ⟨hz.1.1, hz.1.2, hz.2⟩, k.here S (.int _)⟩
  · cases e
end

/-! ### comparisons -/
def copT : COp → CmpOp
  | .eq => .Eq | .ne => .NotEq | .lt => .Lt | .le => .LtE | .gt => .Gt | .ge => .GtE | .isn => .Is | .notn => .IsNot | .inn => .In | .nin => .NotIn
def rC (K : PySem.W.Frag) (op : COp) : R2 := fun x y H Q => ∃ g st dx dy b, Sy K g H st ∧ Wk K g H x dx ∧ Wk K g H y dy ∧ opC op dx dy = some b ∧ Q (.bl b) H
section
variable {K : PySem.W.Frag} {g : Gh} {H : Hp} {st : Store}
theorem flat_rp {v : V} {d : D} (w : Wk K g H v d) (f : flatD d = true) : flatV v = true ∧ Rp K g v d := by
  cases d with
  | non => cases w; exact ⟨rfl, .non⟩
  | bl b => cases w; exact ⟨rfl, .bl _⟩
  | int b => cases w; exact ⟨rfl, .int _⟩
  | str b => cases w; exact ⟨rfl, .str _⟩
  | _ => cases f
theorem rp_wk {v : V} {d : D} (S : Sy K g H st) (w : Rp K g v d) : Wk K g H v d := Rp.wk S w
theorem eqv_flat {v w : V} {d e : D} (r : Rp K g v d) (q : Rp K g w e) (f : flatD d = true) (h : flatD e = true) : eqV v w = PyData.eqv d.py e.py := by
  cases r <;> cases q <;> first
    | (cases f; done)
    | (cases h; done)
    | (simp only [D.py, PyData.eqv, eqV]; done)
    | (simp only [D.py, PyData.eqv, eqV] <;> rfl)
theorem all_flat {vs : List V} {ds : List D} (r : RpAll K g vs ds) (S : Sy K g H st) (f : ds.all flatD = true) : vs.all flatV = true := by
  match r with
  | .nil => rfl
  | .cons q r =>
    simp only [List.all_cons, Bool.and_eq_true] at f ⊢
    exact ⟨(flat_rp (rp_wk S q) f.1).1, all_flat r S f.2⟩
theorem inV_flat {v : V} {d : D} {vs : List V} {ds : List D} (q : Rp K g v d) (h : flatD d = true) (r : RpAll K g vs ds) (f : ds.all flatD = true) : inV v vs = ds.any fun z => PyData.eqv z.py d.py := by
  match r with
  | .nil => rfl
  | .cons p r =>
    simp only [List.all_cons, Bool.and_eq_true] at f
    unfold inV
    simp only [List.any_cons]
    rw [eqv_flat p q f.1 h]
    congr 1
    exact inV_flat q h r f.2
theorem isN_ok {x : V} {dx : D} (wx : Wk K g H x dx) : decide (x = V.non) = isNonD dx := by
  cases dx with
  | non => cases wx; rfl
  | bl b => cases wx; rfl
  | int b => cases wx; rfl
  | str b => cases wx; rfl
  | tup b => cases wx; rfl
  | cell b => cases wx; rfl
  | lst b => obtain ⟨a, vs, rfl, _⟩ := wx; rfl
  | dic b => obtain ⟨a, vs, rfl, _⟩ := wx; rfl
  | scr b => obtain ⟨a, rfl, _⟩ := wx; rfl
theorem py_str (x : List Nat) : (D.str x).py = .str ⟨x.toArray⟩ := by rw [D.py]
end
section
variable {X : Cx} {kr : Nat}
theorem op_ltD {x y : V} {d e : PyData} {v u : Value} {pins : List (Addr × Obj)} {s : Shared} {σ : L2.St} {H : Hp} {Q : VK} (hr : Room kr X.A) (I : Inv X pins σ H s) (rx : RelV x v) (ry : RelV y u)
    (hd : Dp X.K H x d) (he : Dp X.K H y e) (ha : PySem.W.alike d e = true) (hn : d ≠ .none) (hs : d.depth ≤ 64) (q : Q (.bl (PySem.W.dataLt d e)) H) : wpAny (model X.prog X.w) X.A (compareOp .Lt v u) (EP X pins σ Q) X.xe s := by
  obtain ⟨as, r1⟩ := Dp.reads I d x v hd rx
  obtain ⟨bs, r2⟩ := Dp.reads I e y u he ry
  have hm : min d.depth e.depth ≤ d.depth := Nat.min_le_left _ _
  have hu := hr.un
  exact PySem.W.rcLt_alike d e X.A s v u as bs r1 r2 ha hn (by omega) X.prog X.w X.xe _ ⟨.bl _, H, I, rfl, q⟩
theorem eqF_ok {K : PySem.W.Frag} {g : Gh} {H : Hp} {x y : V} {dx dy : D} {b : Bool} (wx : Wk K g H x dx) (wy : Wk K g H y dy) (h : eqF dx dy = some b) : scal x y = true ∧ decide (x = y) = b := by
  unfold eqF at h
  split at h <;> first
    | (cases h; cases wx; cases wy; refine ⟨rfl, ?_⟩; rw [Bool.eq_iff_iff]; simp; done)
    | cases h
theorem opC_ok (op : COp) (hr : Room kr X.A) : OpR X (compareOp (copT op)) (rC X.K op) := by
  intro pins s σ H x y v u Q I rx ry h
  obtain ⟨g, st, dx, dy, b, S, wx, wy, e, k⟩ := h
  have hu64 : X.A.units + 64 < cLine := hr.units
  have hu65 : X.A.units + 65 < cLine := by have := hr.un; omega
  unfold opC at e
  split at e
  · split at e
    · rename_i hf
      cases e
      obtain ⟨f1, f2⟩ := eqF_ok wx wy hf
      exact op_eq pins s σ H x y v u Q I rx ry ⟨f1, by rw [f2]; exact k⟩
    obtain ⟨hz, rfl⟩ := iteS e
    simp only [Bool.and_eq_true] at hz
    obtain ⟨a1, a2⟩ := wx.dp S hz.1
    obtain ⟨b1, b2⟩ := wy.dp S hz.2
    exact op_eqD hu64 pins s σ H x y v u Q I rx ry ⟨_, _, a1, b1, a2, b2, k⟩
  · split at e
    · rename_i hf
      cases e
      obtain ⟨f1, f2⟩ := eqF_ok wx wy hf
      exact op_ne pins s σ H x y v u Q I rx ry ⟨f1, by rw [f2]; exact k⟩
    obtain ⟨hz, rfl⟩ := iteS e
    simp only [Bool.and_eq_true] at hz
    obtain ⟨a1, a2⟩ := wx.dp S hz.1
    obtain ⟨b1, b2⟩ := wy.dp S hz.2
    exact op_neD hu64 pins s σ H x y v u Q I rx ry ⟨_, _, a1, b1, a2, b2, k⟩
  · cases wx; cases wy; cases e; exact op_lt pins s σ H _ _ v u Q I rx ry ⟨_, _, rfl, rfl, k⟩
  · cases wx; cases wy; cases e; exact op_le pins s σ H _ _ v u Q I rx ry ⟨_, _, rfl, rfl, k⟩
  · cases wx; cases wy; cases e; exact op_gt pins s σ H _ _ v u Q I rx ry ⟨_, _, rfl, rfl, k⟩
  · cases wx; cases wy; cases e; exact op_ge pins s σ H _ _ v u Q I rx ry ⟨_, _, rfl, rfl, k⟩
  · cases wx; cases wy; cases e; exact op_lt_str pins s σ H _ _ v u Q I rx ry ⟨_, _, rfl, rfl, k⟩
  · obtain ⟨hz, rfl⟩ := iteS e
    simp only [Bool.and_eq_true] at hz
    obtain ⟨a1, a2⟩ := wx.dp S hz.2.1
    obtain ⟨b1, b2⟩ := wy.dp S hz.2.2
    exact op_ltD hr I rx ry a1 b1 hz.1 (by rw [D.py]; exact fun q => nomatch q) (SeqAt.depth_of_shaped a2) k
  · cases wy
    cases e
    exact op_isN pins s σ H x _ v u Q I rx ry ⟨rfl, by rw [isN_ok wx]; exact k⟩
  · cases wy
    cases e
    exact op_notN pins s σ H x _ v u Q I rx ry ⟨rfl, by rw [isN_ok wx]; exact k⟩
  · cases wx; cases wy; cases e
    exact op_isBl pins s σ H _ _ v u Q I rx ry ⟨_, _, rfl, rfl, k⟩
  · cases wx; cases wy; cases e
    exact op_notBl pins s σ H _ _ v u Q I rx ry ⟨_, _, rfl, rfl, k⟩
  · cases wx; cases wy; cases e
    exact op_in_sign pins s σ H _ _ v u Q I rx ry ⟨_, _, rfl, rfl, k⟩
  · cases wx; cases wy; cases e
    exact op_notIn_sign pins s σ H _ _ v u Q I rx ry ⟨_, _, rfl, rfl, k⟩
  · obtain ⟨hz, rfl⟩ := iteS e
    simp only [Bool.and_eq_true] at hz
    obtain ⟨a1, a2⟩ := wx.dp S hz.1
    obtain ⟨b1, b2⟩ := wy.dp S hz.2
    rw [D.py] at b1 b2
    refine op_inD hu65 pins s σ H x y v u Q I rx ry ⟨_, _, a1, b1, a2, b2, ?_⟩
    rw [pyAll_map, List.any_map]
    exact k
  · obtain ⟨hz, rfl⟩ := iteS e
    simp only [Bool.and_eq_true] at hz
    obtain ⟨a1, a2⟩ := wx.dp S hz.1
    obtain ⟨b1, b2⟩ := wy.dp S hz.2
    rw [D.py] at b1 b2
    refine op_notInD hu65 pins s σ H x y v u Q I rx ry ⟨_, _, a1, b1, a2, b2, ?_⟩
    rw [pyAll_map, List.any_map]
    exact k
  · obtain ⟨hz, rfl⟩ := iteS e
    simp only [Bool.and_eq_true] at hz
    obtain ⟨f1, r1⟩ := flat_rp wx hz.1
    cases wy with
    | tup q2 r2 =>
      refine op_in_seq pins s σ H x _ v u Q I rx ry ⟨_, _, rfl, .inr (sqT_mono S.sub q2), f1, all_flat r2 S hz.2, ?_⟩
      rw [inV_flat r1 hz.1 r2 hz.2]
      exact k
  · obtain ⟨hz, rfl⟩ := iteS e
    simp only [Bool.and_eq_true] at hz
    obtain ⟨f1, r1⟩ := flat_rp wx hz.1
    cases wy with
    | tup q2 r2 =>
      refine op_notIn_seq pins s σ H x _ v u Q I rx ry ⟨_, _, rfl, .inr (sqT_mono S.sub q2), f1, all_flat r2 S hz.2, ?_⟩
      rw [inV_flat r1 hz.1 r2 hz.2]
      exact k
  · obtain ⟨k', hk, rfl⟩ := mapS e
    obtain ⟨a, kv, rfl, hq, rk⟩ := wy
    have ex := key_ok wx hk
    subst ex
    cases (show u = Value.ref a from ry)
    refine d_in (by omega) I (DGet.k hq) rx fun s' I' => ⟨.bl _, H, I', rfl, ?_⟩
    rw [rk.isSome]; exact k
  · obtain ⟨k', hk, rfl⟩ := mapS e
    obtain ⟨a, kv, rfl, hq, rk⟩ := wy
    have ex := key_ok wx hk
    subst ex
    cases (show u = Value.ref a from ry)
    refine d_notIn (by omega) I (DGet.k hq) rx fun s' I' => ⟨.bl _, H, I', rfl, ?_⟩
    rw [rk.isSome]; exact k
  · cases e
end
end MW
set_option Elab.async false
set_option linter.all false
set_option maxRecDepth 100000
set_option maxHeartbeats 1000000
set_option autoImplicit false
/-! Calls of built-ins, methods, subscripts, by values. -/
namespace MW
open PySem PySem.Spec PyProof.Rows L2

def r1 (K : PySem.W.Frag) (f : B1) : List V → Hp → VK → Prop := fun xs H Q => ∃ x g st dx rs, xs = [x] ∧ Sy K g H st ∧ Wk K g H x dx ∧ op1 f dx = some rs ∧ okV K g H st rs Q
def b1v : B1 → Value
  | .len => .builtin "len" | .all => .builtin "all" | .any => .builtin "any" | .list => .type "list" | .tuple => .type "tuple"
  | .sorted => .builtin "sorted" | .int => .type "int" | .abs => .builtin "abs" | .min => .builtin "min" | .max => .builtin "max"
  | .setSorted => .none | .setLen => .none
theorem boolsD_ok : ∀ {ds : List D} {bs : List Bool}, boolsD ds = some bs → ds = bs.map D.bl
  | [], bs, e => by cases e; rfl
  | .bl b :: r, bs, e => by
    obtain ⟨cs, h1, h2⟩ := mapS (show (boolsD r).map (b :: ·) = some bs from e)
    rw [← h2, boolsD_ok h1]; rfl
  | .non :: _, _, e => by cases e
  | .int _ :: _, _, e => by cases e
  | .str _ :: _, _, e => by cases e
  | .tup _ :: _, _, e => by cases e
  | .lst _ :: _, _, e => by cases e
  | .dic _ :: _, _, e => by cases e
  | .scr _ :: _, _, e => by cases e
  | .cell _ :: _, _, e => by cases e
theorem strsD_ok : ∀ {ds : List D} {bs : List (List Nat)}, strsD ds = some bs → ds = bs.map D.str
  | [], bs, e => by cases e; rfl
  | .str b :: r, bs, e => by
    obtain ⟨cs, h1, h2⟩ := mapS (show (strsD r).map (b :: ·) = some bs from e)
    rw [← h2, strsD_ok h1]; rfl
  | .non :: _, _, e => by cases e
  | .int _ :: _, _, e => by cases e
  | .bl _ :: _, _, e => by cases e
  | .tup _ :: _, _, e => by cases e
  | .lst _ :: _, _, e => by cases e
  | .dic _ :: _, _, e => by cases e
  | .scr _ :: _, _, e => by cases e
  | .cell _ :: _, _, e => by cases e

theorem intsD_ok : ∀ {ds : List D} {bs : List Int}, intsD ds = some bs → ds = bs.map D.int
  | [], bs, e => by cases e; rfl
  | .int b :: r, bs, e => by
    obtain ⟨cs, h1, h2⟩ := mapS (show (intsD r).map (b :: ·) = some bs from e)
    rw [← h2, intsD_ok h1]; rfl
  | .non :: _, _, e => by cases e
  | .str _ :: _, _, e => by cases e
  | .bl _ :: _, _, e => by cases e
  | .tup _ :: _, _, e => by cases e
  | .lst _ :: _, _, e => by cases e
  | .dic _ :: _, _, e => by cases e
  | .scr _ :: _, _, e => by cases e
  | .cell _ :: _, _, e => by cases e
theorem minI_ok {ns : List Int} {m : Int} (h : minI ns = some m) : 0 < ns.length ∧ m ∈ ns ∧ ∀ y ∈ ns, m ≤ y := by
  cases ns with
  | nil => cases h
  | cons n r =>
    have key : ∀ (r : List Int) (n : Int), (r.foldl (fun a b => if b < a then b else a) n = n ∨ r.foldl (fun a b => if b < a then b else a) n ∈ r) ∧ r.foldl (fun a b => if b < a then b else a) n ≤ n ∧ ∀ y ∈ r, r.foldl (fun a b => if b < a then b else a) n ≤ y := by
      intro r
      induction r with
      | nil => intro n; exact ⟨.inl rfl, Int.le_refl _, fun _ h => nomatch h⟩
      | cons b r ih =>
        intro n
        rw [List.foldl_cons]
        obtain ⟨h1, h2, h3⟩ := ih (if b < n then b else n)
        refine ⟨?_, ?_, fun y hy => ?_⟩
        · rcases h1 with h1 | h1
          · rw [h1]
            split
            · exact .inr List.mem_cons_self
            · exact .inl rfl
          · exact .inr (List.mem_cons_of_mem _ h1)
        · refine Int.le_trans h2 ?_
          split <;> omega
        · rcases List.mem_cons.mp hy with rfl | hy
          · refine Int.le_trans h2 ?_
            split <;> omega
          · exact h3 y hy
    cases h
    obtain ⟨h1, h2, h3⟩ := key r n
    refine ⟨Nat.succ_pos _, ?_, fun y hy => ?_⟩
    · rcases h1 with h1 | h1
      · rw [h1]; exact List.mem_cons_self
      · exact List.mem_cons_of_mem _ h1
    · rcases List.mem_cons.mp hy with rfl | hy
      · exact h2
      · exact h3 y hy
theorem maxI_ok {ns : List Int} {m : Int} (h : maxI ns = some m) : 0 < ns.length ∧ m ∈ ns ∧ ∀ y ∈ ns, y ≤ m := by
  cases ns with
  | nil => cases h
  | cons n r =>
    have key : ∀ (r : List Int) (n : Int), (r.foldl (fun a b => if a < b then b else a) n = n ∨ r.foldl (fun a b => if a < b then b else a) n ∈ r) ∧ n ≤ r.foldl (fun a b => if a < b then b else a) n ∧ ∀ y ∈ r, y ≤ r.foldl (fun a b => if a < b then b else a) n := by
      intro r
      induction r with
      | nil => intro n; exact ⟨.inl rfl, Int.le_refl _, fun _ h => nomatch h⟩
      | cons b r ih =>
        intro n
        rw [List.foldl_cons]
        obtain ⟨h1, h2, h3⟩ := ih (if n < b then b else n)
        refine ⟨?_, ?_, fun y hy => ?_⟩
        · rcases h1 with h1 | h1
          · rw [h1]
            split
            · exact .inr List.mem_cons_self
            · exact .inl rfl
          · exact .inr (List.mem_cons_of_mem _ h1)
        · refine Int.le_trans ?_ h2
          split <;> omega
        · rcases List.mem_cons.mp hy with rfl | hy
          · refine Int.le_trans ?_ h2
            split <;> omega
          · exact h3 y hy
    cases h
    obtain ⟨h1, h2, h3⟩ := key r n
    refine ⟨Nat.succ_pos _, ?_, fun y hy => ?_⟩
    · rcases h1 with h1 | h1
      · rw [h1]; exact List.mem_cons_self
      · exact List.mem_cons_of_mem _ h1
    · rcases List.mem_cons.mp hy with rfl | hy
      · exact h2
      · exact h3 y hy

/-! ### sorted -/
section
variable {X : Cx} {kr : Nat}
def RV (K : PySem.W.Frag) (g : Gh) (u : Value) (d : D) : Prop := ∃ v, RelV v u ∧ Rp K g v d
theorem each_of {K : PySem.W.Frag} {g : Gh} : ∀ {vs : List V} {us : List Value} {ds : List D}, Vals vs us → RpAll K g vs ds → PySem.W.EachIs (RV K g) us ds
  | _, _, _, .nil, .nil => .nil
  | _, _, _, .cons r1 t1, .cons r2 t2 => .cons ⟨_, r1, r2⟩ (each_of t1 t2)
theorem of_each {K : PySem.W.Frag} {g : Gh} : ∀ {us : List Value} {ds : List D}, PySem.W.EachIs (RV K g) us ds → ∃ vs, Vals vs us ∧ RpAll K g vs ds
  | _, _, .nil => ⟨[], .nil, .nil⟩
  | _, _, .cons ⟨v, a, b⟩ t => by
    obtain ⟨vs, h1, h2⟩ := of_each t
    exact ⟨v :: vs, .cons a h1, .cons b h2⟩
theorem mem_pl {xs : List D} {p : D → Bool} (h : xs.all p = true) {d : D} (hd : d ∈ xs) : p d = true := List.all_eq_true.mp h d hd
theorem each_reads {g : Gh} {H : Hp} {st : Store} {pins : List (Addr × Obj)} {s : Shared} {σ : L2.St} (I : Inv X pins σ H s) (S : Sy X.K g H st) :
    ∀ {us : List Value} {ds : List D}, PySem.W.EachIs (RV X.K g) us ds → (ds.all fun x => x.pl) = true → PySem.W.EachIs (fun v b => ∃ as, Reads s.heap v (D.py b) as) us ds
  | _, _, .nil, _ => .nil
  | _, _, .cons ⟨v, a, b⟩ t, h => by
    simp only [List.all_cons, Bool.and_eq_true] at h
    exact .cons (Dp.reads I _ v _ (Rp.dp S b (SeqAt.canLay_of_shaped h.1)) a) (each_reads I S t h.2)
theorem sorted_ok {pins : List (Addr × Obj)} {s : Shared} {σ : L2.St} {H : Hp} {Q : VK} {g : Gh} {st : Store} {a : Addr} {vs : List V} {ds : List D} (hr : Room kr X.A) (I : Inv X pins σ H s) (S : Sy X.K g H st) (q : H a = some (.lst vs)) (r : RpAll X.K g vs ds)
    (hz : sortOkD ds = true) (k : okV X.K g H st (.fr (.lst (sortD ds))) Q) : wpAny (model X.prog X.w) X.A (call (.builtin "sorted") [.ref a]) (EP X pins σ Q) X.xe s := by
  obtain ⟨its, rv, hl, hlen⟩ := I.list (SqL.of (K := X.K) q)
  unfold sortOkD at hz
  simp only [Bool.and_eq_true] at hz
  obtain ⟨⟨h1, h2⟩, h3⟩ := hz
  have e := each_of rv r
  have hal : PySem.W.AllAlike (ds.map D.py) := by
    intro d hd d' hd'
    obtain ⟨b, hb, rfl⟩ := List.mem_map.mp hd
    obtain ⟨b', hb', rfl⟩ := List.mem_map.mp hd'
    exact mem_pl (p := fun y => PySem.W.alike b.py y.py) (mem_pl (p := fun x => ds.all fun y => PySem.W.alike x.py y.py) h1 hb) hb'
  have hk : PySem.W.Sortable (ds.map D.py) := by
    simp only [Bool.or_eq_true] at h2
    rcases h2 with h2 | h2
    · refine .inl fun d hd => ?_
      obtain ⟨b, hb, rfl⟩ := List.mem_map.mp hd
      have := mem_pl h2 hb
      split at this
      · exact ⟨_, _, by rw [D.py, pyAll]⟩
      · cases this
    · refine .inr fun d hd => ?_
      obtain ⟨b, hb, rfl⟩ := List.mem_map.mp hd
      have := mem_pl h2 hb
      split at this
      · rw [D.py]; exact ⟨(fun z => nomatch z), fun _ z => nomatch z⟩
      · rw [D.py]; exact ⟨(fun z => nomatch z), fun _ z => nomatch z⟩
      · rw [D.py]; exact ⟨(fun z => nomatch z), fun _ z => nomatch z⟩
      · cases this
  refine PySem.W.sorted_data (R := RV X.K g) (bs := ds) (enc := D.py) hl.isList e (each_reads I S e h3) hal hk (by rw [← r.length]; exact hlen) (fun b hb => ?_) fun out ho eo => ?_
  · have := SeqAt.depth_of_shaped (mem_pl h3 hb)
    have := hr.un
    omega
  · obtain ⟨ws, w1, w2⟩ := of_each eo
    obtain ⟨ep, he'⟩ := PyProof.Rows.sortedAll_at s.heap its out.toArray
    have hwl : ws.length ≤ sizeLine := by rw [w2.length, List.length_mergeSort, ← r.length]; exact hlen
    exact ⟨.ref _, upd H (s.heap.objs.size + 1) (.lst ws), I.laid (t' := s.toks) (fun _ _ => PyProof.Rows.sortedAll_old) (Nat.le_succ _) ⟨hwl, out, ep, w1, he'⟩, rfl, k.lst S w2 _ (I.hok.fresh (Nat.le_succ _))⟩
/-- the heap when a tuple's items lie in a new list -/
abbrev cpy (h : Heap) (its : Array Value) : Heap := (h.push { cls := .type "list", data := .seq ([] : List Value).toArray }).update h.objs.size (Obj.mapSeq (· ++ its))
theorem tup_collect {prog : Program} {w : World} {A : Around} {E : Value → Shared → Prop} {s : Shared} {Q : List Value → Shared → Prop} (it : Addr) {ob : Obj} {its : Array Value} {n : Nat}
    (hob : s.heap.get? it = some ob) (hcl : ob.cls = .type "tuple") (hdt : ob.data = .seq its n) (fin : Q its.toList { s with heap := cpy s.heap its }) (small : its.size ≤ sizeLine) : wpAny (model prog w) A (collect (.ref it)) Q E s := by
  unfold collect
  refine wpAny_bind (wpAny_runValue (codeAny_builtin F.entry_proto_collect ?_))
  rw [Around.under_plainId F.plain_proto_collect _]
  show wpAny _ A.in1 (newList [] >>= fun l => again (.builtin "list.__iadd__" ⟨[l, .ref it], []⟩)) _ _ s
  refine wpAny_bind (wpAny_newObj_type (wpAny_pure ⟨plainId_quiet F.plain_list_iadd _, codeAny_builtin F.entry_list_iadd ?_⟩))
  rw [Around.under_plainId F.plain_list_iadd _]
  show wpAny _ A.in1 (Builtin.List.listExtendWith (.ref s.heap.objs.size) (.ref it) (.ref s.heap.objs.size)) _ _ _
  have at1 : (s.heap.push { cls := .type "list", data := .seq ([] : List Value).toArray }).get? s.heap.objs.size = some { cls := .type "list", data := .seq #[] 0 } := Heap.get?_push_size _ rfl
  have at2 := Heap.get?_update_self (Obj.mapSeq (· ++ its)) at1 rfl
  have last : wpAny (model prog w) A (match Value.ref s.heap.objs.size with
      | Value.ref a => do
        match (← load a).data with
          | Data.seq xs _ => pure xs.toList
          | _ => unsupported "internal:collect"
      | _ => unsupported "internal:collect") Q E { s with heap := cpy s.heap its } := by
    refine wpAny_bind (wpAny_load at2 (wpAny_pure ?_))
    have e : ((#[] : Array Value) ++ its).toList = its.toList := by simp
    show Q ((#[] : Array Value) ++ its).toList _
    rw [e]; exact fin
  refine wpAny_mono (wpAny_extend_seq (hsz := small) (A := A) (R := fun r z => r = .ok (.ret (.ref s.heap.objs.size)) ∧ z = { s with heap := cpy s.heap its })
    (s := { s with heap := s.heap.push { cls := .type "list", data := .seq ([] : List Value).toArray } }) _ it _ 0 (.inr rfl) at1 (Heap.get?_push_of_some _ hob) hcl hdt ⟨rfl, rfl⟩) (fun f z h => ?_) (fun e z h => ?_)
  · cases f with
    | done f =>
      obtain ⟨e, rfl⟩ := h
      cases e
      exact last
    | again c => exact ⟨h.1, codeAny_mono h.2 fun r z hr => by obtain ⟨rfl, rfl⟩ := hr; exact last⟩
  · exact absurd h.1 (by simp)
theorem cpy_size {h : Heap} {its : Array Value} : (cpy h its).objs.size = h.objs.size + 1 := by
  show ((h.push _).update _ _).objs.size = _
  rw [Heap.size_after_update, Heap.size_push]
theorem cpy_old {h : Heap} {its : Array Value} {b : Addr} {o : Obj} (e : h.get? b = some o) : (cpy h its).get? b = some o :=
  (Heap.get?_update_other _ _ (Nat.ne_of_gt (Heap.lt_size e))).trans (Heap.get?_push_of_some _ e)
/-- sorted(a tuple) -/
theorem sortedT_ok {pins : List (Addr × Obj)} {s : Shared} {σ : L2.St} {H : Hp} {Q : VK} {g : Gh} {st : Store} {a : Addr} {vs : List V} {ds : List D} (hr : Room kr X.A) (I : Inv X pins σ H s) (S : Sy X.K g H st) (q : SqT X.K H a vs) (r : RpAll X.K g vs ds)
    (hz : sortOkD ds = true) (k : okV X.K g H st (.fr (.lst (sortD ds))) Q) : wpAny (model X.prog X.w) X.A (call (.builtin "sorted") [.ref a]) (EP X pins σ Q) X.xe s := by
  obtain ⟨its, rv, hl, hlen⟩ := I.tuple q
  unfold sortOkD at hz
  simp only [Bool.and_eq_true] at hz
  obtain ⟨⟨h1, h2⟩, h3⟩ := hz
  have e := each_of rv r
  have hal : PySem.W.AllAlike (ds.map D.py) := by
    intro d hd d' hd'
    obtain ⟨b, hb, rfl⟩ := List.mem_map.mp hd
    obtain ⟨b', hb', rfl⟩ := List.mem_map.mp hd'
    exact mem_pl (p := fun y => PySem.W.alike b.py y.py) (mem_pl (p := fun x => ds.all fun y => PySem.W.alike x.py y.py) h1 hb) hb'
  have hk : PySem.W.Sortable (ds.map D.py) := by
    simp only [Bool.or_eq_true] at h2
    rcases h2 with h2 | h2
    · refine .inl fun d hd => ?_
      obtain ⟨b, hb, rfl⟩ := List.mem_map.mp hd
      have := mem_pl h2 hb
      split at this
      · exact ⟨_, _, by rw [D.py, pyAll]⟩
      · cases this
    · refine .inr fun d hd => ?_
      obtain ⟨b, hb, rfl⟩ := List.mem_map.mp hd
      have := mem_pl h2 hb
      split at this
      · rw [D.py]; exact ⟨(fun z => nomatch z), fun _ z => nomatch z⟩
      · rw [D.py]; exact ⟨(fun z => nomatch z), fun _ z => nomatch z⟩
      · rw [D.py]; exact ⟨(fun z => nomatch z), fun _ z => nomatch z⟩
      · cases this
  have hL : its.length ≤ sizeLine := by rw [← rv.length]; exact hlen
  obtain ⟨ob, hob, hcl, n, hdt⟩ := hl
  refine Calls.call_function_entry kind_sorted plain_sorted entry_sorted (args_sorted1 _) ?_
  unfold Builtin.«sorted»
  refine wpAny_bind (m := checkCount "sorted" 1 1 _) (wpAny_pure ?_)
  refine wpAny_bind (tup_collect a hob hcl hdt ?_ (by simpa using hL))
  generalize hh1 : cpy s.heap its.toArray = h1'
  have kp : ∀ b o, s.heap.get? b = some o → h1'.get? b = some o := fun b o q => by rw [← hh1]; exact cpy_old q
  have hz : s.heap.objs.size ≤ h1'.objs.size := by rw [← hh1, cpy_size]; exact Nat.le_succ _
  refine wpAny_bind (wpAny_newList ?_ (by simpa using hL))
  have atL : (h1'.push (seqObj "list" its.toArray 0)).get? h1'.objs.size = some (seqObj "list" its.toArray 0) := Heap.get?_push_size _ rfl
  have er : PySem.W.EachIs (fun v b => ∃ as, Reads (PySem.W.sortingHeap (h1'.push (seqObj "list" its.toArray 0)) h1'.objs.size its) v (D.py b) as) its ds :=
    (each_reads I S e h3).mono fun _ _ ⟨as, r⟩ => ⟨as, PyProof.Rows.Reads.keeps (fun b o q => PySem.W.sortingHeap_old (Nat.ne_of_lt (Heap.lt_size (kp b o q))) (Heap.get?_push_of_some _ (kp b o q))) r⟩
  have hu : ∀ b, b ∈ ds → X.A.in1.units + 1 + (D.py b).depth < cLine := fun b hb => by
    have := SeqAt.depth_of_shaped (mem_pl h3 hb)
    have := hr.un
    show X.A.units + 1 + 1 + _ < _
    omega
  refine wpAny_bind (wpAny_holding (wpAny_call_entry slot_list_sort ⟨_, atL, rfl⟩ entry_list_sort (PySem.W.list_sort_vals (κ := PySem.W.dataKind (PySem.W.sortingHeap (h1'.push (seqObj "list" its.toArray 0)) h1'.objs.size its) (ds.map D.py)) atL
    (PySem.W.SortsAt.data (s := { s with heap := PySem.W.sortingHeap (h1'.push (seqObj "list" its.toArray 0)) h1'.objs.size its }) (PySem.W.each_map (R := fun v d => ∃ as, Reads (PySem.W.sortingHeap (h1'.push (seqObj "list" its.toArray 0)) h1'.objs.size its) v d as) D.py er) hal hk (PySem.W.bound_map hu)) hL ⟨.none, rfl, ?_⟩) (args_list_sort _)))
  have eo := PySem.W.sortVals_data false e er hal
  obtain ⟨ws, w1, w2⟩ := of_each eo
  obtain ⟨ep, he'⟩ := sortedHeap_at (vs := its) (out := (PySem.W.sortVals (PySem.W.dataKind (PySem.W.sortingHeap (h1'.push (seqObj "list" its.toArray 0)) h1'.objs.size its) (ds.map D.py)) false its its).toArray) atL
  have hwl : ws.length ≤ sizeLine := by rw [w2.length, List.length_mergeSort, ← r.length]; exact hlen
  have old : ∀ b o, s.heap.get? b = some o → (sortedHeap (h1'.push (seqObj "list" its.toArray 0)) h1'.objs.size its (PySem.W.sortVals (PySem.W.dataKind (PySem.W.sortingHeap (h1'.push (seqObj "list" its.toArray 0)) h1'.objs.size its) (ds.map D.py)) false its its).toArray).get? b = some o := fun b o q => by
    have lt := Heap.lt_size (kp b o q)
    rw [sortedHeap_old (Nat.ne_of_lt lt) (by rw [size_push']; exact Nat.lt_succ_of_lt lt)]
    exact Heap.get?_push_of_some _ (kp b o q)
  refine wpAny_pure ⟨_, rfl, ?_⟩
  exact ⟨.ref _, upd H h1'.objs.size (.lst ws), I.laid (t' := s.toks) old hz ⟨hwl, _, ep, w1, he'⟩, rfl, k.lst S w2 _ (I.hok.fresh hz)⟩
end

theorem signs_rp {K : PySem.W.Frag} {g : Gh} : ∀ x : List Nat, RpAll K g (x.map fun c => V.str ⟨#[c]⟩) (signsD x)
  | [] => .nil
  | c :: x => .cons (.str [c]) (signs_rp x)
section
variable {X : Cx} {kr : Nat}
theorem op1_ok (f : B1) (hr : Room kr X.A) (hc : X.calm = true) : CallR X (b1v f) (r1 X.K f) := by
  intro pins s σ H xs us Q I rs h
  obtain ⟨x, g, st, dx, rr, rfl, S, wx, e, k⟩ := h
  unfold op1 at e
  split at e
  · obtain ⟨hz, rfl⟩ := iteS e
    cases wx
    refine call_len pins s σ H _ us Q I rs ⟨_, _, rfl, ⟨?_, rfl⟩, ?_⟩
    · rw [str_len]; exact bigS hz
    · rw [str_len]; exact k.here S (.int _)
  · cases e
    cases wx with
    | tup q r =>
      refine call_len pins s σ H _ us Q I rs ⟨_, _, rfl, .inr ⟨_, sqT_mono S.sub q, rfl⟩, ?_⟩
      rw [r.length]; exact k.here S (.int _)
  · cases e
    obtain ⟨a, vs, rfl, q, r⟩ := wx
    refine call_len pins s σ H _ us Q I rs ⟨_, _, rfl, .inl ⟨_, SqL.of q, rfl⟩, ?_⟩
    rw [r.length]; exact k.here S (.int _)
  · cases e
    obtain ⟨a, rfl, q⟩ := wx
    refine call_len pins s σ H _ us Q I rs ⟨_, _, rfl, .inl ⟨_, q, rfl⟩, ?_⟩
    rw [List.length_map]; exact k.here S (.int _)
  · obtain ⟨bs, h1, rfl⟩ := mapS e
    obtain ⟨a, vs, rfl, q, r⟩ := wx
    rw [boolsD_ok h1] at r
    rw [r.bls] at q
    exact cr_all hc pins s σ H _ us Q I rs ⟨a, bs, rfl, SqL.of q, k.here S (.bl _)⟩
  · obtain ⟨bs, h1, rfl⟩ := mapS e
    obtain ⟨a, vs, rfl, q, r⟩ := wx
    rw [boolsD_ok h1] at r
    rw [r.bls] at q
    exact cr_any hc pins s σ H _ us Q I rs ⟨a, bs, rfl, SqL.of q, k.here S (.bl _)⟩
  · cases e
    cases wx with
    | tup q r => exact call_list_of pins s σ H _ us Q I rs ⟨_, _, rfl, .inr (sqT_mono S.sub q), fun p hp => k.lst S r p hp⟩
  · cases e
    obtain ⟨a, vs, rfl, q, r⟩ := wx
    exact call_list_of pins s σ H _ us Q I rs ⟨_, _, rfl, .inl (SqL.of q), fun p hp => k.lst S r p hp⟩
  · obtain ⟨hz, rfl⟩ := iteS e
    rename_i xs
    cases wx
    obtain ⟨u, rfl, t, rfl⟩ := vals1 rs
    have hn : (⟨xs.toArray⟩ : Str).cps.size ≤ sizeLine := by simpa using bigS hz
    refine call_list_str (I.ok.hd hc) _ t (fun h' tk acc' c' hk hS' hacc => ?_) hn
    have hv : Vals (xs.map fun c => V.str ⟨#[c]⟩) acc'.toList := by
      refine vals_of_at (by have z := hacc.1; simp at z ⊢; omega) fun j v u h1 h2 => ?_
      obtain ⟨c, tt, hc', rfl⟩ := hacc.2 j u (by simpa using h2)
      have : xs[j]? = some c := by simpa using hc'
      rw [List.getElem?_map, this] at h1
      cases h1
      exact ⟨tt, rfl⟩
    exact ⟨.ref s.heap.objs.size, _, I.laid (t' := tk) hk (Nat.le_refl _) (show ObjOk X.prog X.w _ h' _ (.lst _) from ⟨by rw [List.length_map]; exact bigS hz, acc'.toList, c', hv, by simpa using hS'⟩), rfl, k.lst S (signs_rp xs) _ (I.hok.fresh (Nat.le_refl _))⟩
  · cases e
    cases wx with
    | tup q r => exact call_tuple_of pins s σ H _ us Q I rs ⟨_, _, rfl, .inr ⟨sqT_mono S.sub q, k.here S (.tup q r)⟩⟩
  · cases e
    obtain ⟨a, vs, rfl, q, r⟩ := wx
    exact call_tuple_of pins s σ H _ us Q I rs ⟨_, _, rfl, .inl ⟨SqL.of q, fun p hp => k.tup S r p hp⟩⟩
  · obtain ⟨hz, rfl⟩ := iteS e
    obtain ⟨a, vs, rfl, q, r⟩ := wx
    rw [Vals.ref1 rs]
    exact sorted_ok hr I S q r hz k
  · obtain ⟨hz, rfl⟩ := iteS e
    cases wx with
    | tup q r =>
      rw [Vals.ref1 rs]
      exact sortedT_ok hr I S (sqT_mono S.sub q) r hz k
  · cases e; cases wx
    exact call_int1 pins s σ H _ us Q I rs (.inl ⟨_, rfl, k.here S (.int _)⟩)
  · cases e; cases wx
    exact call_int1 pins s σ H _ us Q I rs (.inr ⟨_, rfl, k.here S (.int _)⟩)
  · cases e; cases wx
    exact call_abs pins s σ H _ us Q I rs ⟨_, rfl, k.here S (.int _)⟩
  · obtain ⟨ns, h1, e⟩ := bindS e
    obtain ⟨m, h2, rfl⟩ := mapS e
    obtain ⟨a, vs, rfl, q, r⟩ := wx
    rw [intsD_ok h1] at r
    rw [r.ints] at q
    obtain ⟨m1, m2, m3⟩ := minI_ok h2
    refine cr_min hc pins s σ H _ us Q I rs ⟨a, ns, rfl, SqL.of q, m1, fun y hy hl => ?_⟩
    have : y = m := Int.le_antisymm (hl m m2) (m3 y hy)
    subst this; exact k.here S (.int _)
  · obtain ⟨ns, h1, e⟩ := bindS e
    obtain ⟨m, h2, rfl⟩ := mapS e
    obtain ⟨a, vs, rfl, q, r⟩ := wx
    rw [intsD_ok h1] at r
    rw [r.ints] at q
    obtain ⟨m1, m2, m3⟩ := maxI_ok h2
    refine cr_max hc pins s σ H _ us Q I rs ⟨a, ns, rfl, SqL.of q, m1, fun y hy hl => ?_⟩
    have : y = m := Int.le_antisymm (m3 y hy) (hl m m2)
    subst this; exact k.here S (.int _)
  · cases e
def r2 (K : PySem.W.Frag) (f : B2) : List V → Hp → VK → Prop := fun xs H Q => ∃ x y g st dx dy rs, xs = [x, y] ∧ Sy K g H st ∧ Wk K g H x dx ∧ Wk K g H y dy ∧ op2 f dx dy = some rs ∧ okV K g H st rs Q
def b2v : B2 → Value
  | .min => .builtin "min"
  | .max => .builtin "max"
theorem op2_ok (f : B2) (hc : X.calm = true) : CallR X (b2v f) (r2 X.K f) := by
  intro pins s σ H xs us Q I rs h
  obtain ⟨x, y, g, st, dx, dy, rr, rfl, S, wx, wy, e, k⟩ := h
  unfold op2 at e
  split at e
  · cases e; cases wx; cases wy
    exact call_min2 hc pins s σ H _ us Q I rs ⟨_, _, rfl, k.here S (.int _)⟩
  · cases e; cases wx; cases wy
    exact call_max2 hc pins s σ H _ us Q I rs ⟨_, _, rfl, k.here S (.int _)⟩
  · cases e
/-! ### isinstance -/
def tyN : Ty → String
  | .int => "int" | .bool => "bool" | .str => "str" | .tuple => "tuple" | .list => "list"
def rIs (K : PySem.W.Frag) (t : Ty) : List V → Hp → VK → Prop := fun xs H Q => ∃ x g st dx b, xs = [x, .ty (tyN t)] ∧ Sy K g H st ∧ Wk K g H x dx ∧ isiD t dx = some b ∧ Q (.bl b) H
theorem tyOf {g : Gh} {H : Hp} {st : Store} {x : V} {d : D} (S : Sy X.K g H st) (w : Wk X.K g H x d) {t : Ty} {b : Bool} (e : isiD t d = some b) : ∃ n, TyX X.K H x (.type n) ∧ kitB n (tyN t) = some b := by
  cases d with
  | dic _ => cases t <;> cases e
  | cell _ => cases t <;> cases e
  | scr _ => cases t <;> cases e
  | non => cases w; refine ⟨"NoneType", .base .non, ?_⟩; cases t <;> cases e <;> decide +kernel
  | bl _ => cases w; refine ⟨"bool", .base (.bl _), ?_⟩; cases t <;> cases e <;> decide +kernel
  | int _ => cases w; refine ⟨"int", .base (.int _), ?_⟩; cases t <;> cases e <;> decide +kernel
  | str _ => cases w; refine ⟨"str", .base (.str _), ?_⟩; cases t <;> cases e <;> decide +kernel
  | lst _ => obtain ⟨a, vs, rfl, q, r⟩ := w; refine ⟨"list", .base (.lst q), ?_⟩; cases t <;> cases e <;> decide +kernel
  | tup _ =>
    cases w with
    | tup q r =>
      refine ⟨"tuple", ?_, by cases t <;> cases e <;> decide +kernel⟩
      rcases sqT_mono S.sub q with (q | ⟨o, q⟩) | ⟨o, its, n, h1, h2, _⟩
      · exact .base (.tup q)
      · exact .fTuple q
      · exact .kTuple h1 h2
theorem isi_ok (t : Ty) : CallR X (.builtin "isinstance") (rIs X.K t) := by
  intro pins s σ H xs us Q I rs h
  obtain ⟨x, g, st, dx, b, rfl, S, w, e, k⟩ := h
  obtain ⟨n, h1, h2⟩ := tyOf S w e
  exact call_isi pins s σ H _ us Q I rs ⟨_, _, _, _, b, rfl, .ty _, h1, kit_ty h2, k⟩

/-! ### methods of texts -/
def m0n : M0 → String
  | .lower => "lower" | .upper => "upper"
def rM0 (K : PySem.W.Frag) (f : M0) : V → List V → Hp → VK → Prop := fun x xs H Q => ∃ g st dx rs, xs = [] ∧ Sy K g H st ∧ Wk K g H x dx ∧ opM0 f dx = some rs ∧ okV K g H st rs Q
theorem map_mk (f : Nat → Nat) (x : List Nat) : (⟨(⟨x.toArray⟩ : Str).cps.map f⟩ : Str) = ⟨(x.map f).toArray⟩ := by simp
theorem lower_ok : MtR X "str.lower" (rM0 X.K .lower) := by
  intro pins s σ H x xs v us Q I rx rs h
  obtain ⟨g, st, dx, rr, rfl, S, w, e, k⟩ := h
  unfold opM0 at e
  split at e
  · obtain ⟨hz, rfl⟩ := iteS e
    simp only [Bool.and_eq_true, List.all_eq_true, decide_eq_true_eq] at hz
    cases w
    refine mt_lower pins s σ H _ _ v us Q I rx rs ⟨_, rfl, rfl, by rw [str_len]; exact hz.2, ?_⟩
    rw [PyProof.Rows.lower_ascii (by simpa using hz.1), map_mk]
    exact k.here S (.str _)
  · rename_i h1; cases h1
  · cases e
theorem upper_ok : MtR X "str.upper" (rM0 X.K .upper) := by
  intro pins s σ H x xs v us Q I rx rs h
  obtain ⟨g, st, dx, rr, rfl, S, w, e, k⟩ := h
  unfold opM0 at e
  split at e
  · rename_i h1; cases h1
  · obtain ⟨hz, rfl⟩ := iteS e
    simp only [Bool.and_eq_true, List.all_eq_true, decide_eq_true_eq] at hz
    cases w
    refine mt_upper pins s σ H _ _ v us Q I rx rs ⟨_, rfl, rfl, by rw [str_len]; exact hz.2, ?_⟩
    rw [PyProof.Rows.upper_ascii (by simpa using hz.1), map_mk]
    exact k.here S (.str _)
  · cases e
def rM1 (K : PySem.W.Frag) (f : M1) : V → List V → Hp → VK → Prop := fun x xs H Q => ∃ y g st dx dy rs, xs = [y] ∧ Sy K g H st ∧ Wk K g H x dx ∧ Wk K g H y dy ∧ opM1 f dx dy = some rs ∧ okV K g H st rs Q
theorem strSub_all (x y : Str) (i : Nat) : True := trivial
end
end MW
set_option Elab.async false
set_option linter.all false
set_option maxRecDepth 100000
set_option maxHeartbeats 1000000
set_option autoImplicit false
/-! Methods of texts with an argument, subscripts, slices. -/
namespace MW
open PySem PySem.Spec PyProof.Rows L2 TL

theorem ends_eq (x y : List Nat) : Txt.endswith ⟨x.toArray⟩ ⟨y.toArray⟩ = y.isSuffixOf x := by
  unfold Txt.endswith
  rw [StrLaws.subAt_eq, str_len, str_len]
  show (decide (0 + y.length ≤ x.length) && ((x.drop (x.length - y.length)).take y.length == y)) = _
  rw [Bool.eq_iff_iff]
  simp only [Bool.and_eq_true, decide_eq_true_eq, beq_iff_eq, List.isSuffixOf_iff_suffix]
  constructor
  · rintro ⟨h1, h2⟩
    rw [List.take_of_length_le (by rw [List.length_drop]; omega)] at h2
    exact ⟨x.take (x.length - y.length), by rw [← h2, List.length_drop]; exact (by
      have : x.length - (x.length - y.length) = y.length := by omega
      conv => rhs; rw [← List.take_append_drop (x.length - y.length) x]
      rw [h2, this])⟩
  · rintro ⟨t, rfl⟩
    refine ⟨by rw [List.length_append]; omega, ?_⟩
    have : (t ++ y).length - y.length = t.length := by rw [List.length_append]; omega
    rw [this, List.drop_left, List.take_length]
theorem starts_eq (x y : List Nat) : Txt.startswith ⟨x.toArray⟩ ⟨y.toArray⟩ = y.isPrefixOf x := by
  unfold Txt.startswith
  rw [StrLaws.subAt_eq, str_len, str_len]
  show (decide (0 + y.length ≤ x.length) && ((x.drop 0).take y.length == y)) = _
  rw [Bool.eq_iff_iff]
  simp only [Bool.and_eq_true, decide_eq_true_eq, beq_iff_eq, List.isPrefixOf_iff_prefix, List.drop_zero]
  constructor
  · rintro ⟨h1, h2⟩
    exact ⟨x.drop y.length, by conv => rhs; rw [← List.take_append_drop y.length x]
                               rw [h2]⟩
  · rintro ⟨t, rfl⟩
    exact ⟨by rw [List.length_append]; omega, by rw [List.take_left]⟩
theorem join_eqD (x : List Nat) : ∀ ys : List (List Nat), joinD x ys = joinL x ys
  | [] => rfl
  | [y] => rfl
  | y :: z :: r => by
    show y ++ (x ++ joinD x (z :: r)) = y ++ (x ++ joinL x (z :: r))
    rw [join_eqD x (z :: r)]
theorem join_ok (x : List Nat) (ys : List (List Nat)) : Txt.join ⟨x.toArray⟩ (ys.map fun y => ⟨y.toArray⟩) = ⟨(joinD x ys).toArray⟩ := by
  rw [join_eq]
  refine ext_tl ?_
  rw [tl_join, List.map_map, join_eqD]
  have : (tl ∘ fun y : List Nat => (⟨y.toArray⟩ : Str)) = id := rfl
  rw [this, List.map_id]
theorem spl_C (c : Nat) : ∀ (x acc : List Nat), spl [c] 0 acc x = match splitC c x with
    | p :: ps => (acc ++ p) :: ps
    | [] => []
  | [], acc => by rw [spl_nil]; simp [splitC]
  | d :: r, acc => by
    have ih := spl_C c r
    have hne : ∃ p ps, splitC c r = p :: ps := by
      cases r with
      | nil => exact ⟨[], [], rfl⟩
      | cons a b =>
        unfold splitC
        split
        · exact ⟨_, _, rfl⟩
        · split
          · exact ⟨_, _, rfl⟩
          · exact ⟨_, _, rfl⟩
    obtain ⟨p, ps, e⟩ := hne
    by_cases h : d = c
    · subst h
      rw [spl_hit (by simp [pre]), show [d].length - 1 = 0 from rfl, ih, e]
      simp [splitC, e]
    · rw [spl_miss (pre_of_head [] r h), ih, e]
      simp [splitC, h, e]
theorem split_ok (c : Nat) (x : List Nat) (hc : c < 256) : Txt.split ⟨x.toArray⟩ ⟨[c].toArray⟩ = (splitC c x).map fun p => ⟨p.toArray⟩ := by
  refine map_tl_inj ?_
  rw [split_spl _ _ (by simp [tl]) (kind_ok (by simp [hc]))]
  show spl [c] 0 [] x = _
  rw [spl_C, List.map_map]
  have : (tl ∘ fun y : List Nat => (⟨y.toArray⟩ : Str)) = id := rfl
  rw [this, List.map_id]
  cases splitC c x <;> rfl
theorem lens (ys : List (List Nat)) : ((ys.map fun y => (⟨y.toArray⟩ : Str)).map (·.length)) = ys.map (·.length) := by
  rw [List.map_map]
  congr 1
section
variable {X : Cx}
theorem ends_ok : MtR X "str.endswith" (rM1 X.K .endswith) := by
  intro pins s σ H x xs v us Q I rx rs h
  obtain ⟨y, g, st, dx, dy, rr, rfl, S, w1, w2, e, k⟩ := h
  unfold opM1 at e
  split at e
  · cases e; cases w1; cases w2
    refine mt_endswith pins s σ H _ _ v us Q I rx rs ⟨_, _, rfl, rfl, ?_⟩
    rw [ends_eq]; exact k.here S (.bl _)
  · rename_i h1; cases h1
  · rename_i h1; cases h1
  · rename_i h1; cases h1
  · cases e
theorem starts_ok : MtR X "str.startswith" (rM1 X.K .startswith) := by
  intro pins s σ H x xs v us Q I rx rs h
  obtain ⟨y, g, st, dx, dy, rr, rfl, S, w1, w2, e, k⟩ := h
  unfold opM1 at e
  split at e
  · rename_i h1; cases h1
  · cases e; cases w1; cases w2
    refine mt_startswith pins s σ H _ _ v us Q I rx rs ⟨_, _, rfl, rfl, ?_⟩
    rw [starts_eq]; exact k.here S (.bl _)
  · rename_i h1; cases h1
  · rename_i h1; cases h1
  · cases e
theorem joinM_ok : MtR X "str.join" (rM1 X.K .join) := by
  intro pins s σ H x xs v us Q I rx rs h
  obtain ⟨y, g, st, dx, dy, rr, rfl, S, w1, w2, e, k⟩ := h
  unfold opM1 at e
  split at e
  · rename_i h1; cases h1
  · rename_i h1; cases h1
  · obtain ⟨zs, hz, e⟩ := bindS e
    obtain ⟨hl, rfl⟩ := iteS e
    cases w1
    obtain ⟨a, vs, rfl, q, r⟩ := w2
    rw [strsD_ok hz] at r
    rw [r.strs] at q
    have q' : H a = some (.lst ((zs.map fun x => (⟨x.toArray⟩ : Str)).map V.str)) := by rw [List.map_map]; exact q
    refine mt_join pins s σ H _ _ v us Q I rx rs ⟨_, a, zs.map fun y => ⟨y.toArray⟩, rfl, rfl, .inl (SqL.of q'), ?_, ?_⟩
    · rw [lens, List.length_map, str_len]; exact of_decide_eq_true hl
    · rw [join_ok]; exact k.here S (.str _)
  · rename_i h1; cases h1
  · cases e
theorem splitM_ok : MtR X "str.split" (rM1 X.K .split) := by
  intro pins s σ H x xs v us Q I rx rs h
  obtain ⟨y, g, st, dx, dy, rr, rfl, S, w1, w2, e, k⟩ := h
  unfold opM1 at e
  split at e
  · rename_i h1; cases h1
  · rename_i h1; cases h1
  · rename_i h1; cases h1
  · obtain ⟨hl, rfl⟩ := iteS e
    simp only [Bool.and_eq_true, decide_eq_true_eq] at hl
    cases w1; cases w2
    refine mt_split pins s σ H _ _ v us Q I rx rs ⟨_, _, rfl, rfl, by rfl, by rw [str_len]; exact hl.1, ?_⟩
    intro p hp
    rw [split_ok _ _ hl.2, List.map_map]
    exact k.lst S (RpAll.of_strs _) p hp
  · cases e

/-! ### subscripts -/
def rIxD (K : PySem.W.Frag) : R2 := fun x y H Q => ∃ g st dx dy d, Sy K g H st ∧ Wk K g H x dx ∧ Wk K g H y dy ∧ ixD st dx dy = some d ∧ okV K g H st (.sh d) Q
theorem RpAll.at {K : PySem.W.Frag} {g : Gh} {vs : List V} {ds : List D} {i : Int} {d : D} (r : RpAll K g vs ds) (h : atI ds i = some d) : ∃ v, atI vs i = some v ∧ Rp K g v d := by
  unfold atI at h ⊢
  rw [r.length]
  obtain ⟨j, hj, h⟩ := bindS h
  obtain ⟨v, h1, h2⟩ := r.get h
  exact ⟨v, by rw [hj]; exact h1, h2⟩
theorem atI_map {α β : Type} (f : α → β) (xs : List α) (i : Int) : atI (xs.map f) i = (atI xs i).map f := by
  unfold atI
  rw [List.length_map]
  cases ixN xs.length i with
  | none => rfl
  | some j => simp
theorem ix_ok (hu : X.A.units + 1 < cLine) : IxR X (rIxD X.K) := by
  intro value slice pins s σ H x y v u Q I rx ry h hs
  obtain ⟨g, st, dx, dy, d, S, w1, w2, e, k⟩ := h
  unfold ixD at e
  split at e
  · obtain ⟨a, vs, rfl, q, r⟩ := w1
    cases w2
    obtain ⟨w, h1, h2⟩ := r.at e
    exact ix_list value slice pins s σ H _ _ v u Q I rx ry ⟨_, _, _, _, rfl, rfl, SqL.of q, h1, k.here S h2⟩ hs
  · cases w1 with
    | tup q r =>
      cases w2
      obtain ⟨w, h1, h2⟩ := r.at e
      exact ix_tup value slice pins s σ H _ _ v u Q I rx ry ⟨_, _, _, _, rfl, rfl, sqT_mono S.sub q, h1, k.here S h2⟩ hs
  · obtain ⟨n, h1, rfl⟩ := mapS e
    obtain ⟨a, rfl, q⟩ := w1
    cases w2
    refine ix_list value slice pins s σ H _ _ v u Q I rx ry ⟨_, _, _, .int n, rfl, rfl, q, ?_, k.here S (.int _)⟩ hs
    rw [atI_map, h1]; rfl
  · split at e
    · rename_i hz
      obtain ⟨c, h1, rfl⟩ := mapS e
      cases w1; cases w2
      exact ix_str value slice pins s σ H _ _ v u Q I rx ry ⟨_, _, c, rfl, rfl, by rw [str_len]; exact bigS hz, h1, k.here S (.str [c])⟩ hs
    · cases e
  · obtain ⟨xs, h1, h2⟩ := bindS e
    cases w1 with
    | cell q =>
      cases w2
      obtain ⟨vs, ds, h3, h4, r⟩ := S.cl _ _ q
      rw [h1] at h3; cases h3
      obtain ⟨w, h5, h6⟩ := r.at h2
      exact ix_list value slice pins s σ H _ _ v u Q I rx ry ⟨_, _, _, _, rfl, rfl, SqL.of h4, h5, k.here S h6⟩ hs
  · obtain ⟨k', hk, e⟩ := bindS e
    obtain ⟨a, kv, rfl, hq, rk⟩ := w1
    have ey := key_ok w2 hk
    subst ey
    cases (show v = Value.ref a from rx)
    obtain ⟨w, h1, h2⟩ := rk.get e
    have dg : DGet H a (kV (keyOf k')) (some w) := by rw [← h1]; exact DGet.k hq
    exact tail_any (dict_typeIs I dg) PySem.F.slot_dict_getitem.lookup (d_getItem hu I dg ry fun w' s3 I3 rw' => ⟨w, H, I3, rw', k.here S h2⟩) hs
  · cases e

/-! ### slices -/
def rSlD (K : PySem.W.Frag) : V → Option Int → Option Int → Hp → VK → Prop := fun x lo hi H Q => ∃ g st dx rs, Sy K g H st ∧ Wk K g H x dx ∧ slD lo hi dx = some rs ∧ okV K g H st rs Q
theorem RpAll.cut {K : PySem.W.Frag} {g : Gh} {vs : List V} {ds : List D} (r : RpAll K g vs ds) (lo hi : Option Int) : RpAll K g (cutV vs lo hi) (cutL ds lo hi) := by
  unfold cutV cutL
  rw [r.length]
  exact (r.drop _).take _
theorem cut_whole {α : Type} (xs : List α) (lo hi : Option Int) (h : HT.sIx xs.length 0 lo = 0 ∧ HT.sIx xs.length xs.length hi = xs.length) : cutL xs lo hi = xs := by
  unfold cutL
  rw [h.1, h.2]
  simp
theorem sl_ok : SlR X (rSlD X.K) := by
  intro pins s σ H x v vl vu lo hi sl Q I rx hs pl pu h
  obtain ⟨g, st, dx, rr, S, w, e, k⟩ := h
  unfold slD at e
  split at e
  · cases e
    obtain ⟨a, vs, rfl, q, r⟩ := w
    exact sl_list pins s σ H _ v vl vu lo hi sl Q I rx hs pl pu ⟨_, _, rfl, SqL.of q, fun p hp => k.lst S (r.cut lo hi) p hp⟩
  · cases e
    cases w with
    | tup q r =>
      refine sl_tupA pins s σ H _ v vl vu lo hi sl Q I rx hs pl pu ⟨_, _, rfl, sqT_mono S.sub q, fun hw => ?_, fun _ p hp => k.tup S (r.cut lo hi) p hp⟩
      rw [r.length] at hw
      rw [cut_whole _ lo hi hw] at k
      exact k.here S (.tup q r)
  · obtain ⟨hz, rfl⟩ := iteS e
    cases w
    refine sl_str pins s σ H _ v vl vu lo hi sl Q I rx hs pl pu ⟨_, rfl, by rw [str_len]; exact bigS hz, ?_⟩
    unfold cutS
    rw [str_len]
    exact k.here S (.str _)
  · cases e
end
end MW
set_option Elab.async false
set_option linter.all false
set_option maxRecDepth 100000
set_option maxHeartbeats 4000000
set_option autoImplicit false
/-! Sets of texts: made of a list, sorted. -/
namespace MW
open PySem PySem.Spec PyProof.Rows L2

def txK (e : Int × Value) : Str := match e.2 with
  | .str k _ => k
  | _ => ⟨#[]⟩
def TxE (w : World) (e : Int × Value) : Prop := ∃ k t, e.2 = Value.str k t ∧ e.1 = hashStr w k
/-- the set of texts at a: its members M, n of them; it can be walked -/
def TxS (w : World) (h : Heap) (a : Addr) (M : Str → Bool) (n : Nat) : Prop :=
  ∃ (ob : Obj) (es : Array (Int × Value)) (ep : Nat) (tb : SetTable), h.get? a = some ob ∧ ob.ExactSet ∧ ob.data = .set es ep tb ∧ (∀ e ∈ es.toList, TxE w e) ∧ (es.toList.map txK).Nodup ∧ (∀ k, M k = true ↔ k ∈ es.toList.map txK) ∧
    es.size < scanBound ∧ tb.fits es.size = true ∧ es.size = n ∧ Ris tb.place.toList ∧ (w.params.followText "set-order" = true ∨ tb.led = true)
section
variable {P : Program} {w : World} {h h' : Heap} {a : Addr} {M : Str → Bool} {n : Nat}
theorem TxS.stay (R : TxS w h a M n) (k : ∀ o, h.get? a = some o → h'.get? a = some o) : TxS w h' a M n := by
  obtain ⟨ob, es, ep, tb, hob, rest⟩ := R
  exact ⟨ob, es, ep, tb, k ob hob, rest⟩
theorem TxS.same {M' : Str → Bool} (R : TxS w h a M n) (e : ∀ k, M' k = M k) : TxS w h a M' n := (funext e : M' = M) ▸ R
theorem txE_els {l : List (Int × Value)} (g : ∀ e ∈ l, TxE w e) : ElemsOf (strKind P w) l := fun e he => by
  obtain ⟨k, t, q1, q2⟩ := g e he
  exact ⟨⟨k, by rw [q1]; exact strKind_is _ _ _ _, q2⟩, by rw [q1] <;> rfl⟩
theorem txE_is {e : Int × Value} (g : TxE w e) (k : Str) : (strKind P w).is k e.2 = true ↔ txK e = k := by
  obtain ⟨j, t, q, _⟩ := g
  unfold txK
  rw [q]
  constructor
  · intro z
    obtain ⟨u, hu⟩ := Value.isStrOf_shape (show Value.isStrOf k (Value.str j t) = true from z)
    cases hu; rfl
  · rintro rfl
    exact strKind_is _ _ _ _
theorem txE_mem {l : List (Int × Value)} (g : ∀ e ∈ l, TxE w e) (k : Str) : k ∈ l.map txK ↔ ∃ e ∈ l, (strKind P w).is k e.2 = true := by
  constructor
  · intro z
    obtain ⟨e, he, q⟩ := List.mem_map.mp z
    exact ⟨e, he, (txE_is (g e he) k).2 q⟩
  · rintro ⟨e, he, q⟩
    exact List.mem_map.mpr ⟨e, he, (txE_is (g e he) k).1 q⟩
end
section
variable {P : Program} {w : World} {A : Around} {E : Value → Shared → Prop} {s : Shared} {a : Addr} {M : Str → Bool} {n : Nat}
theorem tx_stored {h : Heap} {a : Addr} {ob : Obj} {es es' : Array (Int × Value)} {ep : Nat} {tb tb' : SetTable} (hob : h.get? a = some ob) (hdt : ob.data = .set es ep tb) :
    (h.update a (Obj.putSet es' tb')).get? a = some { ob with data := .set es' (ep + 1) tb' } := by
  have z := Heap.get?_update_self (Obj.putSet es' tb') hob (by rw [putSet_of es' tb' hdt]; rfl)
  rwa [putSet_of es' tb' hdt] at z
theorem tx_tail {gw : Bool → Sem Unit} (hgw : ∀ (b : Bool) (s₁ : Shared) (Q' : Unit → Shared → Prop), Q' () s₁ → wpAny (model P w) A (gw b) Q' E s₁)
    {ob : Obj} {es : Array (Int × Value)} {ep : Nat} {tb : SetTable} (hob : s.heap.get? a = some ob) (hx : ob.ExactSet) (hdt : ob.data = .set es ep tb)
    {fs : Array (Int × Value)} {tc : SetTable} {M' : Str → Bool} (gf : ∀ e ∈ fs.toList, TxE w e) (ndf : (fs.toList.map txK).Nodup) (mf : ∀ k, M' k = true ↔ k ∈ fs.toList.map txK)
    (bf : fs.size < scanBound) (ff : tc.fits fs.size = true) (rf : Ris tc.place.toList) (lf : w.params.followText "set-order" = true ∨ tc.led = true) {wasDummy : Bool} {R : Option Bool → Shared → Prop}
    (fin : ∀ h', Heap.SameBut a s.heap h' → TxS w h' a M' fs.size → R (some true) { s with heap := h' }) :
    wpAny (model P w) A (do
        storeSet a fs tc
        if (!wasDummy && tc.tooFull) = true then do
            gw (relayAll tc fs (SetTable.grown fs.size)).2.2
            storeSet a (relayAll tc fs (SetTable.grown fs.size)).1 (relayAll tc fs (SetTable.grown fs.size)).2.1
            pure (some true)
          else pure (some true)) R E s := by
  refine wpAny_bind (wpAny_storeSet_of hob hdt ?_ (fits_of_scanBound bf))
  have at1 := tx_stored (es' := fs) (tb' := tc) hob hdt
  have sb := Heap.SameBut.update s.heap a (Obj.putSet fs tc)
  split
  · have q1 := relayAll_perm tc fs (SetTable.grown fs.size)
    have q2 := relayAll_fits tc fs (SetTable.grown fs.size)
    have q3 := relayAll_ris tc fs (SetTable.grown fs.size)
    have q4 := relayAll_led tc fs (SetTable.grown fs.size)
    generalize relayAll tc fs (SetTable.grown fs.size) = Z at q1 q2 q3 q4 ⊢
    obtain ⟨gs, td, gave⟩ := Z
    dsimp only at q1 q2 q3 q4 ⊢
    have zs : gs.size = fs.size := by rw [← Array.length_toList, q1.length_eq, Array.length_toList]
    have bg : gs.size < scanBound := by rw [zs]; exact bf
    refine wpAny_bind (hgw _ _ _ (wpAny_bind (wpAny_storeSet_of at1 rfl ?_ (fits_of_scanBound bg))))
    have at2 := tx_stored (es' := gs) (tb' := td) at1 rfl
    exact wpAny_pure (fin _ (sb.trans (Heap.SameBut.update _ a _)) ⟨_, gs, _, td, at2, hx, rfl, fun e he => gf e (q1.mem_iff.mp he), (q1.map txK).nodup_iff.mpr ndf, fun k => (mf k).trans (q1.map txK).mem_iff.symm, bg, q2, zs, q3,
      lf.imp id fun z => by rw [q4]; exact z⟩)
  · exact wpAny_pure (fin _ sb ⟨_, fs, _, tc, at1, hx, rfl, gf, ndf, mf, bf, ff, rfl, rf, lf⟩)
theorem tx_add {k : Str} {tk : Tok} {Q : Bool → Shared → Prop} (R : TxS w s.heap a M n) (room : n + 1 < scanBound)
    (fin : ∀ h', Heap.SameBut a s.heap h' → TxS w h' a (fun j => M j || decide (j = k)) (if M k = true then n else n + 1) → Q (!M k) { s with heap := h' }) :
    wpAny (model P w) A (setAddHashed a (.str k tk) ((strKind P w).hash k)) Q E s := by
  obtain ⟨ob, es, ep, tb, hob, hx, hdt, gd, nd, mm, be, fe, ne, re, le⟩ := R
  have key : (strKind P w).is k (.str k tk) = true := strKind_is _ _ _ _
  have sc : (Value.str k tk).scannable = true := rfl
  have els : ElemsOf (strKind P w) es.toList := txE_els gd
  unfold setAddHashed setAddHashedIn
  refine wpAny_holding (wpAny_bind (wpAny_setState_of hob hdt fe ?_))
  dsimp only
  rw [byScan_of sc be els]
  simp only [↓reduceIte]
  unfold setAddByScan
  refine wpAny_bind (wpAny_bind (wpAny_rule (wpAny_bind (wpAny_setScan_of key hob hdt fe els ?_))))
  cases hfi : List.findIdx? (fun e => (strKind P w).is k e.2) es.toList with
  | some j =>
    dsimp only
    obtain ⟨hj, pj, _⟩ := List.findIdx?_eq_some_iff_getElem.mp hfi
    have hM : M k = true := (mm k).2 ((txE_mem (P := P) (w := w) gd k).2 ⟨es.toList[j], List.getElem_mem hj, pj⟩)
    refine wpAny_pure (wpAny_pure ?_)
    have z := fin s.heap (Heap.SameBut.refl a s.heap) ⟨ob, es, ep, tb, hob, hx, hdt, gd, nd, fun i => by
      rw [Bool.or_eq_true, decide_eq_true_eq, ← mm i]
      exact ⟨fun z => z.elim id (fun e => e ▸ hM), .inl⟩, be, fe, by rw [if_pos hM]; exact ne, re, le⟩
    rwa [hM] at z
  | none =>
    dsimp only
    have hnk : k ∉ es.toList.map txK := fun z => by
      obtain ⟨e, he, q⟩ := (txE_mem (P := P) (w := w) gd k).1 z
      have c := List.findIdx?_eq_none_iff.mp hfi e he
      rw [q] at c
      cases c
    have hM : M k = false := by
      cases q : M k with
      | false => rfl
      | true => exact absurd ((mm k).1 q) hnk
    have gws : ∀ (b : Bool) {s₁ : Shared} {Q' : Unit → Shared → Prop}, Q' () s₁ → wpAny (model P w) A (match b with | true => rule "set.scan.the-table-gave-way" | false => pure ()) Q' E s₁ :=
      fun b _ _ q => by cases b <;> first | exact wpAny_pure q | exact wpAny_rule q
    have q1 := layNew_perm tb es ((strKind P w).hash k) (.str k tk)
    have q2 := layNew_fits tb es ((strKind P w).hash k) (.str k tk)
    have q3 := layNew_ris tb es ((strKind P w).hash k) (.str k tk) re
    have q4 := layNew_led tb es ((strKind P w).hash k) (.str k tk)
    generalize layNew tb es ((strKind P w).hash k) (.str k tk) = Z at q1 q2 q3 q4 ⊢
    obtain ⟨fs, tc, wasDummy, gave⟩ := Z
    dsimp only at q1 q2 q3 q4 ⊢
    rw [Array.toList_push] at q1
    have pc : fs.toList.Perm (((strKind P w).hash k, Value.str k tk) :: es.toList) := q1.trans (List.perm_append_singleton _ _)
    have pk : (fs.toList.map txK).Perm (k :: es.toList.map txK) := pc.map txK
    have gf : ∀ e ∈ fs.toList, TxE w e := fun e he => by
      rcases List.mem_cons.mp (pc.mem_iff.mp he) with z | z
      · rw [z]; exact ⟨k, tk, rfl, rfl⟩
      · exact gd e z
    have ndf : (fs.toList.map txK).Nodup := pk.nodup_iff.mpr (List.nodup_cons.mpr ⟨hnk, nd⟩)
    have mf : ∀ i, (M i || decide (i = k)) = true ↔ i ∈ fs.toList.map txK := fun i => by
      rw [Bool.or_eq_true, decide_eq_true_eq, mm i, pk.mem_iff, List.mem_cons]
      exact Or.comm
    have zs : fs.size = n + 1 := by rw [← Array.length_toList, pc.length_eq, List.length_cons, Array.length_toList, ne]
    have bf : fs.size < scanBound := by rw [zs]; exact room
    have lf : w.params.followText "set-order" = true ∨ tc.led = true := le.imp id fun z => by rw [q4]; exact z
    have done : ∀ h', Heap.SameBut a s.heap h' → TxS w h' a (fun j => M j || decide (j = k)) fs.size → Q true { s with heap := h' } := fun h' sb r => by
      have z := fin h' sb
      rw [hM] at z
      rw [zs] at r
      exact z r
    refine wpAny_bind (gws _ ?_)
    split
    · refine wpAny_bind ?_
      rw [hashByValue_scannable 8 sc]
      refine wpAny_pure (tx_tail ?_ hob hx hdt gf ndf mf bf ?_ ?_ ?_ ?_)
      · intro b _ _ q; cases b <;> first | exact wpAny_pure q | exact wpAny_rule q
      · first | (split <;> first | exact q2 | exact SetTable.fits_plain_off q2) | exact q2
      · first | (split <;> exact q3) | exact q3
      · first | (split <;> exact lf) | exact lf
      · intro h' sb r; dsimp only; exact wpAny_pure (done h' sb r)
    · refine wpAny_bind (wpAny_pure ?_)
      simp only [↓reduceIte]
      refine tx_tail ?_ hob hx hdt gf ndf mf bf q2 q3 lf ?_
      · intro b _ _ q; cases b <;> first | exact wpAny_pure q | exact wpAny_rule q
      · intro h' sb r; dsimp only; exact wpAny_pure (done h' sb r)
end

/-- the members of the first i texts -/
def memT (xs : List Str) (i : Nat) (k : Str) : Bool := (xs.take i).any fun y => decide (y = k)
/-- how many different ones -/
def cntT (xs : List Str) : Nat → Nat
  | 0 => 0
  | i + 1 => if memT xs i (xs.getD i ⟨#[]⟩) = true then cntT xs i else cntT xs i + 1
theorem cntT_le (xs : List Str) : ∀ i, cntT xs i ≤ i
  | 0 => Nat.le_refl _
  | i + 1 => by
    rw [cntT]
    have := cntT_le xs i
    split <;> omega
theorem memT_succ {xs : List Str} {i : Nat} (hi : i < xs.length) (k : Str) : memT xs (i + 1) k = (memT xs i k || decide (k = xs.getD i ⟨#[]⟩)) := by
  unfold memT
  rw [List.take_succ_eq_append_getElem hi, List.any_append]
  congr 1
  have hg : xs.getD i ⟨#[]⟩ = xs[i] := by simp [List.getD, hi]
  rw [hg]
  simp only [List.any_cons, List.any_nil, Bool.or_false]
  by_cases e : xs[i] = k
  · simp [e]
  · have : ¬ k = xs[i] := fun z => e z.symm
    simp [e, this]
section
variable {P : Program} {w : World} {A : Around} {E : Value → Shared → Prop} {s : Shared}
theorem tx_loop {I : Addr} {fp wr : List Addr} {G : Array GenState → Array GenState → Prop} {n : Nat} {Pv : Nat → Value → Prop} {St : Nat → Shared → Prop} {R : Result → Shared → Prop}
    (W : WalksS P w A.in1 I fp wr G n Pv St) (D : Addr) (hD : D ∉ fp) (xs : List Str) (hn : xs.length = n) (room : n + 1 < scanBound) (hval : ∀ i v, Pv i v → ∃ t, v = .str (xs.getD i ⟨#[]⟩) t)
    (h0 : Heap) (hS0 : h0.get? D = none) (hw0 : ∀ b ∈ wr, h0.get? b = none) :
    ∀ (k i : Nat) (s : Shared), n - i = k → i ≤ n → St i s → (∀ b o, h0.get? b = some o → s.heap.get? b = some o) → TxS w s.heap D (memT xs i) (cntT xs i) →
      (∀ s', Moved (D :: wr) G s s' → TxS w s'.heap D (memT xs n) (cntT xs n) → (∀ b o, h0.get? b = some o → s'.heap.get? b = some o) → R (.ok (.ret .none)) s') →
      codeAny (model P w) A (.builtin "set.update.loop" ⟨[.ref D, .ref I], []⟩) R s := by
  have hDw : D ∉ wr := fun z => hD (W.sub _ z)
  have more : ∀ b ∈ wr, b ∈ D :: wr := fun b z => List.mem_cons_of_mem _ z
  have kept : ∀ {s s' : Shared}, Moved wr G s s' → (∀ b o, h0.get? b = some o → s.heap.get? b = some o) → ∀ b o, h0.get? b = some o → s'.heap.get? b = some o := fun mv hk b o e =>
    mv.heap b o (fun z => by rw [hw0 b z] at e; cases e) (hk b o e)
  intro k
  induction k with
  | zero =>
    intro i s hz hi hst hk hT hR
    obtain rfl : i = n := by omega
    refine codeAny_builtin F.entry_set_update_loop ?_
    rw [Around.under_plainId F.plain_set_update_loop _]
    show wpAny _ A.in1 (pyNext (.ref I) >>= _) _ _ s
    refine wpAny_bind (W.done s _ _ hst fun s' mv => ?_)
    exact wpAny_pure (hR s' (mv.mono more) (hT.stay fun o e => mv.heap D o hDw e) (kept mv hk))
  | succ k ih =>
    intro i s hz hi hst hk hT hR
    have lt : i < n := by omega
    refine codeAny_builtin F.entry_set_update_loop ?_
    rw [Around.under_plainId F.plain_set_update_loop _]
    show wpAny _ A.in1 (pyNext (.ref I) >>= _) _ _ s
    refine wpAny_bind (W.item i s _ _ lt hst fun v s' hP st1 mv => ?_)
    obtain ⟨tk, rfl⟩ := hval i v hP
    have hk1 := kept mv hk
    have hT1 := hT.stay fun o e => mv.heap D o hDw e
    show wpAny _ A.in1 (holding [Value.str (xs.getD i ⟨#[]⟩) tk] (setAdd D (.str (xs.getD i ⟨#[]⟩) tk)) >>= _) _ _ s'
    refine wpAny_bind (wpAny_holding ?_)
    unfold setAdd
    refine wpAny_holding (wpAny_bind ((strKind P w).pyHash (k := xs.getD i ⟨#[]⟩) (strKind_is _ _ _ _) ?_))
    have cl := cntT_le xs i
    refine tx_add (s := { s' with toks := s'.toks + 1 }) hT1 (by omega) fun h' sb hT2 => ?_
    have hT3 : TxS w h' D (memT xs (i + 1)) (cntT xs (i + 1)) := by
      rw [cntT]
      exact hT2.same fun j => memT_succ (by omega) j
    have hk2 : ∀ b o, h0.get? b = some o → h'.get? b = some o := fun b o e => (sb.2 b (fun z => by rw [z, hS0] at e; cases e)).trans (hk1 b o e)
    refine wpAny_pure ⟨plainId_quiet F.plain_set_update_loop _, ih (i + 1) _ (by omega) lt (W.frame _ s' _ _ st1 (Nat.le_add_right _ _) fun b hb o e => ?_) hk2 hT3 fun s2 mv2 hT4 hk4 => ?_⟩
    · rw [sb.2 b (fun z : b = D => hD (by rw [← z]; exact hb))]; exact e
    · refine hR s2 (Moved.trans W.gtrans ((mv.mono more).then_heap (Nat.le_add_right _ _) fun b o hb e => ?_) mv2) hT4 hk4
      rw [sb.2 b (fun z : b = D => hb (by rw [z]; exact List.mem_cons_self))]; exact e
/-- a new set's object -/
abbrev setO (w : World) : Obj := { cls := .type "set", dict := none, data := .set #[] 0 (.fresh 0 0 (!w.params.followText "set-order")) }
theorem tx_fresh {h : Heap} {a : Addr} (xs : List Str) (ho : h.get? a = some { cls := .type "set", dict := none, data := .set #[] 0 (.fresh 0 0 (!w.params.followText "set-order")) }) : TxS w h a (memT xs 0) (cntT xs 0) :=
  ⟨_, #[], 0, _, ho, ⟨rfl, rfl, rfl⟩, rfl, (fun e he => by simp at he), (by simp), (fun k => by simp [memT]), (by decide), (by rfl), rfl, List.Pairwise.nil, by
    show _ ∨ (!w.params.followText "set-order") = true
    cases w.params.followText "set-order"
    · exact .inr rfl
    · exact .inl rfl⟩
theorem tx_nth : ∀ {us : List Value} {xs : List Str}, StrsAre us xs → ∀ (i : Nat) (v : Value), us[i]? = some v → ∃ t, v = .str (xs.getD i ⟨#[]⟩) t
  | _, _, .nil, i, v, h => by simp at h
  | _, _, .cons n t r, 0, v, h => by simp at h; exact ⟨t, by rw [← h] <;> rfl⟩
  | _, _, .cons n t r, i + 1, v, h => by
    obtain ⟨u, e⟩ := tx_nth r i v (by simpa using h)
    exact ⟨u, by rw [e] <;> rfl⟩
/-- set(a list of texts) -/
theorem tx_call {l : Addr} {items : Array Value} {xs : List Str} {Q : Value → Shared → Prop} (hh : A.handled = none) (hl : s.heap.IsList l items) (hit : StrsAre items.toList xs) (room : xs.length + 1 < scanBound)
    (fin : ∀ (h' : Heap) (tk : Nat), TxS w h' s.heap.objs.size (memT xs xs.length) (cntT xs xs.length) → (∀ b o, s.heap.get? b = some o → h'.get? b = some o) → Q (.ref s.heap.objs.size) { s with heap := h', toks := tk }) :
    wpAny (model P w) A (call (.type "set") [.ref l]) Q E s := by
  have zn : xs.length = items.size := by rw [← hit.len_eq, Array.length_toList]
  obtain ⟨c, tl, mro⟩ := F.called_set.mro
  have made := F.called_set.made
  have subs := F.called_set.sub
  refine wpAny_call (codeAny_of_tree ?_)
  show wpAny _ _ (callAny (.type "set") _) _ _ _
  refine wpAny_pure ⟨Code.quiet_builtin _ (by decide +kernel), codeAny_builtin F.entry_type_call ?_⟩
  rw [Around.under_plain (weight_type_call_type "set" [.ref l] []) rfl]
  have k1 := F.called_set.notType
  have k2 := F.called_set.canCreate
  have k3 := F.typeCall_set_1 (.ref l)
  repeat (any_goals (first | assumption | wp_step))
  refine codeAny_mono (code_set_led1 (.ref l) (E := E) (Q₁ := fun obj s₁ => obj = .ref s.heap.objs.size ∧ s₁ = { s with heap := s.heap.push { cls := .type "set", dict := none, data := .set #[] 0 (.fresh 0 0 (!w.params.followText "set-order")) } }) ⟨rfl, rfl⟩) fun r s₁ hr => ?_
  cases r with
  | error e => exact hr
  | ok fl =>
    cases fl with
    | ret obj =>
      obtain ⟨rfl, rfl⟩ := hr
      have atS : (s.heap.push (setO w)).get? s.heap.objs.size = some (setO w) := Heap.get?_push_size _ rfl
      have tyS : Shared.TypeIs { s with heap := s.heap.push (setO w) } (.ref s.heap.objs.size) "set" := ⟨_, atS, rfl⟩
      have k4 := F.called_set.init.lookup
      have k5 := F.called_set.init.bind (.ref s.heap.objs.size)
      repeat (any_goals (first | assumption | wp_step))
      refine codeAny_mono (codeAny_call_builtin (R := wants (fun r s₂ => r = .none ∧ ∃ h' tk, s₂ = { s with heap := h', toks := tk } ∧ TxS w h' s.heap.objs.size (memT xs xs.length) (cntT xs xs.length) ∧
          (∀ b o, s.heap.get? b = some o → h'.get? b = some o)) E) F.called_set.init.plain F.entry_set_init (check_set_init_1 tyS ?_)) fun r₂ s₂ hr₂ => ?_
      · obtain ⟨ol, hol, hcl, nl, hdl⟩ := hl
        obtain ⟨oc, od, ot, os⟩ := ol
        simp only at hcl hdl
        subst hcl; subst hdl
        have atL : (s.heap.push (setO w)).get? l = some { cls := .type "list", dict := od, data := .seq items nl, slots := os } := Heap.get?_push_of_some _ hol
        have s1 := F.sub_list_set
        have s2 := F.sub_list_frozenset
        have s3 : (Value.type "list" == Value.type "dict") = false := by decide
        have isL : (s.heap.push (setO w)).IsList l items := ⟨_, atL, rfl, nl, rfl⟩
        unfold Builtin.«set.__init__» noKeywords Builtin.Frozenset.updateFrom
        generalize hPI : pyIter = PI
        wp_walk
        subst hPI
        refine wpAny_pyIter_list isL ?_
        refine wpAny_bind (wpAny_runValue ?_)
        have ltL : l < s.heap.objs.size := Heap.lt_size hol
        have hh3 : A.in1.in1.in1.handled = none := by simp [hh]
        have neI : l ≠ (s.heap.push (setO w)).objs.size := by
          rw [Heap.size_push]; exact Nat.ne_of_lt (Nat.lt_succ_of_lt ltL)
        have neS : s.heap.objs.size ∉ [(s.heap.push (setO w)).objs.size, l] := by
          rw [Heap.size_push]
          intro z
          rcases List.mem_cons.mp z with z | z
          · exact absurd z (Nat.ne_of_lt (Nat.lt_succ_self _))
          · exact absurd (List.mem_singleton.mp z) (Nat.ne_of_gt ltL)
        have noth : ∀ b, s.heap.objs.size ≤ b → s.heap.get? b = none := fun b hb => by
          cases q : s.heap.get? b with
          | none => rfl
          | some o => exact absurd (Nat.lt_of_lt_of_le (Heap.lt_size q) hb) (Nat.lt_irrefl _)
        refine tx_loop ((Walks.list hh3 _ l neI items).toS) s.heap.objs.size neS xs zn (by rw [← zn]; exact room) (fun i v hv => tx_nth hit i v (by rw [Array.getElem?_toList]; exact hv)) s.heap (noth _ (Nat.le_refl _))
          (fun b hb => noth b (by rw [List.mem_singleton.mp hb, Heap.size_push]; exact Nat.le_succ _)) (items.size - 0) 0 _ (by omega) (Nat.zero_le _) ⟨⟨_, Heap.get?_push_size _ rfl, rfl, rfl⟩, (isL.push _)⟩
          (fun b o e => Heap.get?_push_of_some _ (Heap.get?_push_of_some _ e)) ?s0 ?sR
        case s0 => exact tx_fresh xs (Heap.get?_push_of_some _ atS)
        case sR =>
          intro s' mv hT hk
          obtain ⟨h', g', d', tk', os'⟩ := s'
          obtain rfl : g' = s.gens := mv.gens
          obtain rfl : d' = s.drawn := mv.drawn
          obtain rfl : os' = s.os := mv.os
          show wpAny _ _ _ _ _ _
          refine wpAny_pure ?_
          show wpAny _ _ (ret Value.none) _ _ _
          rw [← zn] at hT
          exact wpAny_pure ⟨rfl, h', tk', rfl, hT, hk⟩
      · cases r₂ with
        | error e => exact hr₂
        | ok fl₂ =>
          cases fl₂ with
          | ret r =>
            obtain ⟨rfl, h', tk, rfl, hT, hk⟩ := hr₂
            repeat (any_goals (first | assumption | wp_step))
            exact fin _ _ hT hk
          | _ => exact hr₂.elim
    | _ => exact hr.elim
end
end MW
set_option Elab.async false
set_option linter.all false
set_option maxRecDepth 100000
set_option maxHeartbeats 4000000
set_option autoImplicit false
/-! sorted(set(..)) of texts. -/
namespace MW
open PySem PySem.Spec PyProof.Rows L2

theorem onceT_mem : ∀ {zs : List (List Nat)} {z : List Nat}, z ∈ onceT zs ↔ z ∈ zs
  | [], z => by simp [onceT]
  | x :: xs, z => by
    rw [onceT]
    by_cases h : x ∈ xs
    · rw [if_pos h, onceT_mem, List.mem_cons]
      exact ⟨.inr, fun q => q.elim (fun e => e ▸ h) id⟩
    · rw [if_neg h, List.mem_cons, onceT_mem, List.mem_cons]
theorem onceT_nodup : ∀ zs : List (List Nat), (onceT zs).Nodup
  | [] => List.nodup_nil
  | x :: xs => by
    rw [onceT]
    by_cases h : x ∈ xs
    · rw [if_pos h]; exact onceT_nodup xs
    · rw [if_neg h]; exact List.nodup_cons.mpr ⟨fun q => h (onceT_mem.mp q), onceT_nodup xs⟩
theorem leT_total (a b : List Nat) : (leT a b || leT b a) = true := by
  unfold leT
  rw [Bool.or_eq_true]
  by_cases h : b < a
  · right
    simp only [Bool.not_eq_true', decide_eq_false_iff_not]
    exact fun q => absurd (List.lt_trans h q) (List.lt_irrefl _)
  · left; simp [h]
theorem leT_trans (a b c : List Nat) (h1 : leT a b = true) (h2 : leT b c = true) : leT a c = true := by
  unfold leT at *
  simp only [Bool.not_eq_true', decide_eq_false_iff_not] at *
  have e1 : a ≤ b := h1
  have e2 : b ≤ c := h2
  exact List.le_trans e1 e2
theorem leT_anti (a b : List Nat) (h1 : leT a b = true) (h2 : leT b a = true) : a = b := by
  unfold leT at *
  simp only [Bool.not_eq_true', decide_eq_false_iff_not] at *
  have e1 : a ≤ b := h1
  have e2 : b ≤ a := h2
  exact List.le_antisymm e1 e2
theorem sortT_sorted (zs : List (List Nat)) : (sortT zs).Pairwise fun a b => leT a b = true := List.pairwise_mergeSort (le := leT) leT_trans leT_total zs
theorem sortT_perm (zs : List (List Nat)) : (sortT zs).Perm zs := List.mergeSort_perm zs leT
/-- an ascending list with these members, each once -/
theorem sortT_one {l zs : List (List Nat)} (hs : l.Pairwise fun a b => leT a b = true) (nd : l.Nodup) (hm : ∀ x, x ∈ l ↔ x ∈ zs) : l = sortT (onceT zs) := by
  have p : l.Perm (onceT zs) := (List.perm_ext_iff_of_nodup nd (onceT_nodup zs)).mpr fun x => (hm x).trans onceT_mem.symm
  refine List.Perm.eq_of_pairwise (le := fun a b => leT a b = true) (fun a b _ _ h1 h2 => leT_anti a b h1 h2) hs (sortT_sorted _) (p.trans (sortT_perm _).symm)
section
variable {P : Program} {w : World} {A : Around} {E : Value → Shared → Prop} {s : Shared} {a : Addr} {M : Str → Bool} {n : Nat}
def IsT (v : Value) (k : Str) : Prop := ∃ t, v = .str k t
theorem isT_each : ∀ (vs : List Value), (∀ v ∈ vs, ∃ k t, v = Value.str k t) → PySem.W.EachIs IsT vs (vs.map fun v => txK (0, v))
  | [], _ => .nil
  | v :: vs, h => by
    obtain ⟨k, t, rfl⟩ := h v List.mem_cons_self
    exact .cons ⟨t, rfl⟩ (isT_each vs fun u hu => h u (List.mem_cons_of_mem _ hu))
theorem each_vals : ∀ {us : List Value} {ks : List Str}, PySem.W.EachIs IsT us ks → Vals (ks.map V.str) us
  | _, _, .nil => .nil
  | _, _, .cons ⟨t, e⟩ r => .cons ⟨t, e⟩ (each_vals r)
theorem each_reads' {h : Heap} {a : Addr} : ∀ {us : List Value} {ks : List Str}, PySem.W.EachIs IsT us ks → PySem.W.EachIs (fun v b => ∃ as, Reads h v (PyData.str b) as ∧ a ∉ as) us ks
  | _, _, .nil => .nil
  | _, _, .cons ⟨t, e⟩ r => .cons ⟨[], by rw [e]; exact .str _ t, by simp⟩ (each_reads' r)
/-- sorted(a set of texts) -/
theorem tx_sorted {Q : Value → Shared → Prop} (R : TxS w s.heap a M n) (hh : A.handled = none) (hu : A.units + 64 < cLine)
    (fin : ∀ s' p (out : List Value) (c : Nat) (ks : List Str), (∀ b o, s.heap.get? b = some o → s'.heap.get? b = some o) → s'.gens = s.gens → s'.os = s.os → s.heap.objs.size ≤ p →
      s'.heap.get? p = some (seqObj "list" out.toArray c) → Vals (ks.map V.str) out → (ks.map fun k => k.cps.toList).Pairwise (fun a b => leT a b = true) → ks.Nodup → (∀ k, k ∈ ks ↔ M k = true) → ks.length = n → Q (.ref p) s') :
    wpAny (model P w) A (call (.builtin "sorted") [.ref a]) Q E s := by
  obtain ⟨ob, es, ep, tb, hob, hx, hdt, gd, nd, mm, be, fe, ne, re, le⟩ := R
  refine Calls.call_function_entry kind_sorted plain_sorted entry_sorted (args_sorted1 _) ?_
  unfold Builtin.«sorted»
  refine wpAny_bind (m := checkCount "sorted" 1 1 _) (wpAny_pure ?_)
  refine wpAny_bind (collect_set (A := A.in1) hh ⟨ob, hob, hx.1, hdt⟩ fe be re le fun s1 vs k1 hz g1 o1 pm => ?_)
  have hn : vs.length = n := by rw [pm.length_eq, List.length_map, Array.length_toList]; exact ne
  have tx : ∀ v ∈ vs, ∃ k t, v = Value.str k t := fun v hv => by
    obtain ⟨e, he, q⟩ := List.mem_map.mp (pm.mem_iff.mp hv)
    obtain ⟨k, t, q1, _⟩ := gd e he
    exact ⟨k, t, by rw [← q]; exact q1⟩
  have ei := isT_each vs tx
  generalize hks : (vs.map fun v => txK (0, v)) = ks at ei
  have pk : ks.Perm (es.toList.map txK) := by
    have z := pm.map fun v => txK (0, v)
    rw [List.map_map, hks] at z
    exact z
  have bn : vs.length < 4096 := by rw [hn, ← ne]; exact be
  have kl : ks.length = vs.length := by rw [← hks, List.length_map]
  refine wpAny_bind (wpAny_newList ?_ (by rw [sizeLine_eq]; omega))
  have atL : (s1.heap.push (seqObj "list" vs.toArray 0)).get? s1.heap.objs.size = some (seqObj "list" vs.toArray 0) := Heap.get?_push_size _ rfl
  refine wpAny_bind (wpAny_holding (PySem.W.list_sort_data (enc := PyData.str) atL ei (each_reads' ei) (PySem.W.AllAlike.of fun _ _ => rfl) (PySem.W.Sortable.others fun b => ⟨(fun z => nomatch z), fun _ z => nomatch z⟩) (by rw [kl, sizeLine_eq]; omega)
    (fun b _ => by show A.units + 1 + 1 + 0 < cLine; omega) fun out ho eo => ?_))
  obtain ⟨c, hc⟩ := sortedHeap_at (vs := vs) (out := out.toArray) atL
  have ps : (ks.mergeSort (PySem.W.dataLe false PyData.str)).Perm ks := List.mergeSort_perm _ _
  have srt : ((ks.mergeSort (PySem.W.dataLe false PyData.str)).map fun k => k.cps.toList).Pairwise fun a b => leT a b = true := by
    rw [List.pairwise_map]
    refine (PySem.W.sort_pairwise (PySem.W.sortLe_total _ _ _) ks).imp fun {x y} q => ?_
    have q : (!PySem.W.dataLt (.str y) (.str x)) = true := q
    rw [PySem.W.dataLt_str] at q
    exact q
  refine wpAny_pure ⟨_, rfl, fin _ s1.heap.objs.size out c _ (fun b u e => ?_) g1 o1 hz hc (each_vals eo) srt (ps.nodup_iff.mpr (pk.nodup_iff.mpr nd)) (fun k => by rw [ps.mem_iff, pk.mem_iff, ← mm k]) ?_⟩
  · have q := k1 b u e
    have lt := Heap.lt_size q
    show (sortedHeap (s1.heap.push (seqObj "list" vs.toArray 0)) s1.heap.objs.size vs out.toArray).get? b = some u
    rw [sortedHeap_old (Nat.ne_of_lt lt) (by rw [size_push']; exact Nat.lt_succ_of_lt lt)]
    exact Heap.get?_push_of_some _ q
  · rw [ps.length_eq, kl, hn]
end
end MW
set_option Elab.async false
set_option linter.all false
set_option maxRecDepth 100000
set_option maxHeartbeats 1000000
set_option autoImplicit false
/-! Targets, what a loop walks. -/
namespace MW
open PySem PySem.Spec PyProof.Rows L2

theorem En.at_set (env : En) (i j : Nat) (d : D) : En.at (env.set i (some d)) j = if i = j then (if i < env.length then some d else none) else env.at j := by
  unfold En.at
  rw [List.getElem?_set]
  by_cases h : i = j
  · subst h
    simp only [if_true]
    by_cases h2 : i < env.length
    · simp [h2]
    · simp [h2]
  · simp [h]
theorem En.at_wipe (env : En) (i j : Nat) : En.at (env.set i none) j = if i = j then none else env.at j := by
  unfold En.at
  rw [List.getElem?_set]
  by_cases h : i = j
  · subst h
    simp only [if_true]
    by_cases h2 : i < env.length
    · simp [h2]
    · simp [h2]
  · simp [h]
theorem En.at_some {env : En} {i : Nat} {d : D} (h : env.at i = some d) : i < env.length := by
  unfold En.at at h
  cases e : env[i]? with
  | none => rw [e] at h; cases h
  | some o => exact (List.getElem?_eq_some_iff.mp e).1
section
variable {K : PySem.W.Frag} {g : Gh} {H Hb : Hp} {O : List Nat} {σ : L2.St} {env : En}
theorem EnR.set (R : EnR K g H Hb O σ env) {i : Nat} {v : V} {d : D} (hi : i ∉ O) (r : Rp K g v d) : EnR K g H Hb O (σ.set i (some v)) (env.set i (some d)) where
  get := fun j e h => by
    rw [En.at_set] at h
    by_cases hij : i = j
    · subst hij
      rw [if_pos rfl] at h
      by_cases hl : i < env.length
      · rw [if_pos hl] at h; cases h
        exact ⟨v, by rw [List.getElem?_set_self (by rw [← R.len]; exact hl)], fun _ => r, fun m => absurd m hi⟩
      · rw [if_neg hl] at h; cases h
    · rw [if_neg hij] at h
      obtain ⟨w, a, b, c⟩ := R.get j e h
      exact ⟨w, by rw [List.getElem?_set_ne hij]; exact a, b, c⟩
  inj := fun j k p hj hk ej ek e1 e2 => by
    have nj : i ≠ j := fun e => hi (e ▸ hj)
    have nk : i ≠ k := fun e => hi (e ▸ hk)
    rw [List.getElem?_set_ne nj] at e1
    rw [List.getElem?_set_ne nk] at e2
    rw [En.at_set, if_neg nj] at ej
    rw [En.at_set, if_neg nk] at ek
    exact R.inj j k p hj hk ej ek e1 e2
  len := by rw [List.length_set, List.length_set]; exact R.len
/-- an own slot takes a new list -/
theorem EnR.seto (R : EnR K g H Hb O σ env) {i : Nat} {p : Addr} {d : D} (hi : i ∈ O) (c : Cn K g H p d) (hg : g.G p = none) (hc : p ∉ g.cm) (hb : Hb p = none)
    (hn : ∀ j q e, j ∈ O → j ≠ i → env.at j = some e → σ[j]? = some (some (.ref q)) → q ≠ p) : EnR K g H Hb O (σ.set i (some (.ref p))) (env.set i (some d)) where
  get := fun j e h => by
    rw [En.at_set] at h
    by_cases hij : i = j
    · subst hij
      rw [if_pos rfl] at h
      by_cases hl : i < env.length
      · rw [if_pos hl] at h; cases h
        exact ⟨_, by rw [List.getElem?_set_self (by rw [← R.len]; exact hl)], fun n => absurd hi n, fun _ => ⟨p, rfl, c, hg, hc, hb⟩⟩
      · rw [if_neg hl] at h; cases h
    · rw [if_neg hij] at h
      obtain ⟨w, a, b, c⟩ := R.get j e h
      exact ⟨w, by rw [List.getElem?_set_ne hij]; exact a, b, c⟩
  inj := fun j k q hj hk ej ek e1 e2 => by
    have some_of : ∀ {m : Nat}, env.at m ≠ none → ∃ e, env.at m = some e := fun {m} h => by
      cases q : env.at m with
      | none => exact absurd q h
      | some e => exact ⟨e, rfl⟩
    have hiσ : ∀ {x : Option V}, (σ.set i (some (.ref p)))[i]? = some x → x = some (.ref p) := fun {x} e => by
      rw [List.getElem?_set] at e
      simp only [if_true] at e
      split at e
      · cases e; rfl
      · cases e
    by_cases nj : i = j
    · subst nj
      by_cases nk : i = k
      · exact nk
      · have e1' := hiσ e1
        cases e1'
        rw [List.getElem?_set_ne nk] at e2
        rw [En.at_set, if_neg nk] at ek
        obtain ⟨e, he⟩ := some_of ek
        exact absurd rfl (hn k p e hk (Ne.symm nk) he e2)
    · by_cases nk : i = k
      · subst nk
        have e2' := hiσ e2
        cases e2'
        rw [List.getElem?_set_ne nj] at e1
        rw [En.at_set, if_neg nj] at ej
        obtain ⟨e, he⟩ := some_of ej
        exact absurd rfl (hn j p e hj (Ne.symm nj) he e1)
      · rw [List.getElem?_set_ne nj] at e1
        rw [List.getElem?_set_ne nk] at e2
        rw [En.at_set, if_neg nj] at ej
        rw [En.at_set, if_neg nk] at ek
        exact R.inj j k q hj hk ej ek e1 e2
  len := by rw [List.length_set, List.length_set]; exact R.len
theorem EnR.wipe1 (R : EnR K g H Hb O σ env) (i : Nat) : EnR K g H Hb O (σ.set i none) (env.set i none) where
  get := fun j e h => by
    rw [En.at_wipe] at h
    by_cases hij : i = j
    · rw [if_pos hij] at h; cases h
    · rw [if_neg hij] at h
      obtain ⟨w, a, b, c⟩ := R.get j e h
      exact ⟨w, by rw [List.getElem?_set_ne hij]; exact a, b, c⟩
  inj := fun j k p hj hk ej ek e1 e2 => by
    rw [En.at_wipe] at ej ek
    by_cases nj : i = j
    · rw [if_pos nj] at ej; exact absurd rfl ej
    · by_cases nk : i = k
      · rw [if_pos nk] at ek; exact absurd rfl ek
      · rw [if_neg nj] at ej
        rw [if_neg nk] at ek
        rw [List.getElem?_set_ne nj] at e1
        rw [List.getElem?_set_ne nk] at e2
        exact R.inj j k p hj hk ej ek e1 e2
  len := by rw [List.length_set, List.length_set]; exact R.len
theorem EnR.wipe (R : EnR K g H Hb O σ env) : ∀ ws : List Nat, EnR K g H Hb O (L2.wipe σ ws) (wipeE env ws)
  | [] => R
  | w :: ws => (EnR.wipe R ws).wipe1 w
end
theorem wipe_set {σ : L2.St} {x : Option V} : ∀ {ws : List Nat} {i : Nat}, i ∈ ws → L2.wipe (σ.set i x) ws = L2.wipe σ ws
  | [], _, h => by cases h
  | w :: ws, i, h => by
    show (L2.wipe (σ.set i x) ws).set w none = (L2.wipe σ ws).set w none
    by_cases h2 : i ∈ ws
    · rw [wipe_set h2]
    · have e : i = w := by
        rcases List.mem_cons.mp h with e | e
        · exact e
        · exact absurd e h2
      subst e
      have : ∀ (us : List Nat), i ∉ us → (L2.wipe (σ.set i x) us) = (L2.wipe σ us).set i x := by
        intro us
        induction us with
        | nil => intro _; rfl
        | cons u us ih =>
          intro hu
          show (L2.wipe (σ.set i x) us).set u none = ((L2.wipe σ us).set u none).set i x
          rw [ih (fun q => hu (List.mem_cons_of_mem _ q))]
          exact List.set_comm _ _ (fun e => hu (by rw [e]; exact List.mem_cons_self))
      rw [this ws h2, List.set_set]
theorem wipe_wipe (σ : L2.St) : ∀ ws : List Nat, L2.wipe (L2.wipe σ ws) ws = L2.wipe σ ws := by
  have gen : ∀ (us ws : List Nat), (∀ u ∈ us, u ∈ ws) → L2.wipe (L2.wipe σ us) ws = L2.wipe σ ws := by
    intro us
    induction us with
    | nil => intro ws _; rfl
    | cons u us ih =>
      intro ws h
      show L2.wipe ((L2.wipe σ us).set u none) ws = _
      rw [wipe_set (h u List.mem_cons_self)]
      exact ih ws fun z hz => h z (List.mem_cons_of_mem _ hz)
  exact fun ws => gen ws ws fun _ h => h

/-! ### targets -/
mutual
/-- the slots of a target are no own ones; all lie in ws -/
def tgIn (ws : List Nat) : Tg → Bool
  | .nm i => ws.contains i
  | .tup ts => tgsIn ws ts
def tgsIn (ws : List Nat) : Tgs → Bool
  | .nil => true
  | .cons t ts => tgIn ws t && tgsIn ws ts
end
mutual
def tgFree (O : List Nat) : Tg → Bool
  | .nm i => !O.contains i
  | .tup ts => tgsFree O ts
def tgsFree (O : List Nat) : Tgs → Bool
  | .nil => true
  | .cons t ts => tgFree O t && tgsFree O ts
end
def tG (C : Ct) (m : Tg) : TG := fun v σ H Q => ∃ g env st d env', Ste C σ g H env st ∧ Rp C.K g v d ∧ bindT m d env = some env' ∧
  ∀ σ', Ste C σ' g H env' st → (∀ ws, tgIn ws m = true → L2.wipe σ' ws = L2.wipe σ ws) → Q σ' H
def tGs (C : Ct) (m : Tgs) : TGs := fun vs σ H Q => ∃ g env st ds env', Ste C σ g H env st ∧ RpAll C.K g vs ds ∧ bindTs m ds env = some env' ∧
  ∀ σ', Ste C σ' g H env' st → (∀ ws, tgsIn ws m = true → L2.wipe σ' ws = L2.wipe σ ws) → Q σ' H
theorem _root_.L2.PG.imp {X : Cx} {e : Expr} {t t' : TG} (h : PG X e t) (i : ∀ v σ H Q, t' v σ H Q → t v σ H Q) : PG X e t' := ⟨fun pins s σ H v u Q I r q => h.run pins s σ H v u Q I r (i v σ H Q q)⟩
theorem _root_.L2.PGs.imp {X : Cx} {e : List Expr} {t t' : TGs} (h : PGs X e t) (i : ∀ v σ H Q, t' v σ H Q → t v σ H Q) : PGs X e t' := ⟨fun pins s σ H v u Q I r q => h.run pins s σ H v u Q I r (i v σ H Q q)⟩
theorem tG_nm {C : Ct} {i : Nat} (hi : i ∉ C.O) : ∀ v σ H Q, tG C (.nm i) v σ H Q → gName i v σ H Q := by
  rintro v σ H Q ⟨g, env, st, d, env', S, r, e, k⟩
  rw [bindT] at e
  cases e
  exact k _ ⟨S.sy, S.en.set hi r, S.ext⟩ fun ws h => wipe_set (by simpa [tgIn] using h)
theorem tG_tup {C : Ct} {X : Cx} {ts : Tgs} (hk : X.K = C.K) {n : Nat} (hn : ∀ ds env env', bindTs ts ds env = some env' → ds.length = n) : ∀ v σ H Q, tG C (.tup ts) v σ H Q → gTup X.K n (tGs C ts) v σ H Q := by
  rintro v σ H Q ⟨g, env, st, d, env', S, r, e, k⟩
  cases d with
  | tup ds =>
    rw [bindT] at e
    cases r with
    | tup q r =>
      refine ⟨_, _, rfl, by rw [hk]; exact sqT_mono S.sy.sub q, by rw [r.length]; exact hn _ _ _ e, g, env, st, ds, env', S, r, e, fun σ' S' h => k σ' S' fun ws hw => h ws (by rw [tgIn] at hw; exact hw)⟩
  | _ => rw [bindT] at e <;> first | cases e | (intro _ h; cases h)
theorem tGs_nil {C : Ct} : ∀ v σ H Q, tGs C .nil v σ H Q → gNil v σ H Q := by
  rintro v σ H Q ⟨g, env, st, d, env', S, r, e, k⟩
  cases r with
  | nil => rw [bindTs] at e; cases e; exact ⟨rfl, k σ S fun _ _ => rfl⟩
  | cons a b => rw [bindTs] at e <;> first | cases e | (intro h; cases h)
theorem tGs_cons {C : Ct} {t : Tg} {ts : Tgs} : ∀ v σ H Q, tGs C (.cons t ts) v σ H Q → gCons (tG C t) (tGs C ts) v σ H Q := by
  rintro v σ H Q ⟨g, env, st, d, env', S, r, e, k⟩
  cases r with
  | nil => rw [bindTs] at e <;> first | cases e | (intro _ _ h; cases h)
  | cons a b =>
    rw [bindTs] at e
    obtain ⟨e1, h1, h2⟩ := bindS e
    refine ⟨_, _, rfl, g, env, st, _, e1, S, a, h1, fun σ1 S1 w1 => ⟨g, e1, st, _, env', S1, b, h2, fun σ2 S2 w2 => k σ2 S2 fun ws hw => ?_⟩⟩
    rw [tgsIn, Bool.and_eq_true] at hw
    rw [w2 ws hw.2, w1 ws hw.1]

/-! ### what is walked -/
def WkD (J : It) (Gd : Hp → Prop) (K : PySem.W.Frag) (g : Gh) (xs : List D) : Prop := ∃ Y, Walk J xs.length Gd Y ∧
  ∀ i H v H' g1 st, i < xs.length → Y i H v H' → Sy K g1 H st → g.le g1 → ∃ g2, Ext g1 H g2 H' ∧ Sy K g2 H' st ∧ ∃ d, xs[i]? = some d ∧ Rp K g2 v d
def WkE (J : It) (K : PySem.W.Frag) (g : Gh) (H : Hp) (b : Bool) (xs : List D) : Prop := ∃ Gd, WkD J Gd K g xs ∧ (b = false → ∀ H', (∀ a o, g.G a = some o → H' a = some o) → Gd H') ∧
  ∀ g' H', Ext g H g' H' → (∀ a o, g'.G a = some o → H' a = some o) → Gd H'
def tI (C : Ct) (m : Itb) : TI := fun σ H R => ∃ g env st xs b st', Ste C σ g H env st ∧ evI C.W m env st = some (xs, b, st') ∧ ∀ J g' H', Ext g H g' H' → Sy C.K g' H' st' → WkE J C.K g' H' b xs → R J H'
theorem _root_.L2.PI.imp {X : Cx} {tg e : Expr} {t t' : TI} (h : PI X tg e t) (i : ∀ σ H Q, t' σ H Q → t σ H Q) : PI X tg e t' := ⟨fun pins s σ H Q I q => h.run pins s σ H Q I (i σ H Q q)⟩
theorem _root_.L2.PI.or {X : Cx} {tg e : Expr} {t t' : TI} (h : PI X tg e t) (h' : PI X tg e t') : PI X tg e (fun σ H R => t σ H R ∨ t' σ H R) := ⟨fun pins s σ H Q I q => by
  rcases q with q | q
  · exact h.run pins s σ H Q I q
  · exact h'.run pins s σ H Q I q⟩
section
variable {K : PySem.W.Frag} {g : Gh} {H H0 : Hp} {st : Store}
theorem wk_at {vs : List V} {xs : List D} (r : RpAll K g vs xs) {J : It} {Gd : Hp → Prop} (w : Walk J vs.length Gd (YAt vs)) : WkD J Gd K g xs := by
  refine ⟨YAt vs, by rw [← r.length]; exact w, fun i H v H' g1 st hi y S hg => ?_⟩
  obtain ⟨rfl, e⟩ := y
  obtain ⟨d, h1, h2⟩ := r.get' e
  exact ⟨g1, .refl _ _, S, d, h1, h2.mono hg⟩
/-- a list that is shared, fresh, or seen: what stands there as long as it is walked -/
theorem lst_of {r : Rs} {xs : List D} {v : V} (S : Sy K g H st) (R : RsR K g H H0 v r) (e : r.d = .lst xs) {g0 : Gh} (E : Ext g0 H0 g H) :
    ∃ a g' vs, v = .ref a ∧ SqL K H a vs ∧ RpAll K g' vs xs ∧ Ext g0 H0 g' H ∧ Sy K g' H st ∧ (r.vwB = false → ∀ H', (∀ a o, g'.G a = some o → H' a = some o) → SqL K H' a vs) ∧
      ∀ g'' H', Ext g' H g'' H' → (∀ a o, g''.G a = some o → H' a = some o) → SqL K H' a vs := by
  cases r with
  | sh d =>
    cases e
    cases R with
    | lst q r =>
      exact ⟨_, g, _, rfl, SqL.of (S.sub _ _ q), r, E, S, fun _ H' h => SqL.of (h _ _ q), fun g' H' E' h => SqL.of (h _ _ (E'.le.G _ _ q))⟩
  | fr d =>
    cases e
    obtain ⟨p, rfl, ⟨vs, q, r⟩, hg, hc, h0⟩ := R
    have le := Gh.frz_le (g := g) (p := p) (o := .lst vs) hg
    exact ⟨p, g.frz p (.lst vs), vs, rfl, SqL.of q, r.mono le, E.frz hg h0, S.frz hg hc q, fun _ H' h => SqL.of (h _ _ Gh.frz_at), fun g' H' E' h => SqL.of (h _ _ (E'.le.G _ _ Gh.frz_at))⟩
  | vw d =>
    cases e
    obtain ⟨p, rfl, ⟨vs, q, r⟩, hg, hc⟩ := R
    exact ⟨p, g, vs, rfl, SqL.of q, r, E, S, (fun e => Bool.noConfusion e), fun g' H' E' h => SqL.of (E'.keep _ _ hc q)⟩
theorem lst_keep {r : Rs} {xs : List D} {v : V} (S : Sy K g H st) (R : RsR K g H H0 v r) (e : r.d = .lst xs) :
    ∃ a vs, v = .ref a ∧ SqL K H a vs ∧ RpAll K g vs xs ∧ ∀ g'' H', Ext g H g'' H' → (∀ a o, g''.G a = some o → H' a = some o) → SqL K H' a vs := by
  cases r with
  | sh d =>
    cases e
    cases R with
    | lst q r => exact ⟨_, _, rfl, SqL.of (S.sub _ _ q), r, fun g' H' E' h => SqL.of (h _ _ (E'.le.G _ _ q))⟩
  | fr d =>
    cases e
    obtain ⟨p, rfl, ⟨vs, q, r⟩, hg, hc, h0⟩ := R
    exact ⟨p, vs, rfl, SqL.of q, r, fun g' H' E' h => SqL.of (E'.keep _ _ hc q)⟩
  | vw d =>
    cases e
    obtain ⟨p, rfl, ⟨vs, q, r⟩, hg, hc⟩ := R
    exact ⟨p, vs, rfl, SqL.of q, r, fun g' H' E' h => SqL.of (E'.keep _ _ hc q)⟩
theorem wk_lst {r : Rs} {xs : List D} {v : V} (S : Sy K g H st) (R : RsR K g H H0 v r) (e : r.d = .lst xs) {g0 : Gh} (E : Ext g0 H0 g H) :
    ∃ a g', v = .ref a ∧ (∃ ys, SqL K H a ys) ∧ Ext g0 H0 g' H ∧ Sy K g' H st ∧ WkE (Itl K a) K g' H r.vwB xs := by
  obtain ⟨a, g', vs, h1, h2, h3, h4, h5, h6, h7⟩ := lst_of S R e E
  exact ⟨a, g', h1, ⟨_, h2⟩, h4, h5, _, wk_at h3 walk_list, h6, h7⟩
theorem rs_tup {r : Rs} {xs : List D} {v : V} (S : Sy K g H st) (R : RsR K g H H0 v r) (e : r.d = .tup xs) : ∃ a vs, v = .ref a ∧ SqT K g.G a vs ∧ RpAll K g vs xs ∧ r.vwB = false := by
  cases r with
  | sh d => cases e; cases R with | tup q r => exact ⟨_, _, rfl, q, r, rfl⟩
  | fr d => cases e; obtain ⟨p, _, c, _⟩ := R; exact c.elim
  | vw d => cases e; obtain ⟨p, _, c, _⟩ := R; exact c.elim
theorem rs_str {r : Rs} {x : List Nat} {v : V} (R : RsR K g H H0 v r) (e : r.d = .str x) : v = .str ⟨x.toArray⟩ ∧ r.vwB = false := by
  cases r with
  | sh d => cases e; cases R; exact ⟨rfl, rfl⟩
  | fr d => cases e; obtain ⟨p, _, c, _⟩ := R; exact c.elim
  | vw d => cases e; obtain ⟨p, _, c, _⟩ := R; exact c.elim
theorem wk_tup {r : Rs} {xs : List D} {v : V} (S : Sy K g H st) (R : RsR K g H H0 v r) (e : r.d = .tup xs) : ∃ a, v = .ref a ∧ (∃ ys, SqT K H a ys) ∧ WkE (Itt K a) K g H r.vwB xs := by
  obtain ⟨a, vs, rfl, q, r', hv⟩ := rs_tup S R e
  exact ⟨a, rfl, ⟨_, sqT_mono S.sub q⟩, _, wk_at r' walk_tup, fun _ H' h => sqT_mono h q, fun g' H' E' h => sqT_mono h (sqT_mono E'.le.G q)⟩
theorem wk_str {x : List Nat} : WkE (Its ⟨x.toArray⟩) K g H false (signsD x) := by
  refine ⟨fun _ => True, ⟨fun i H v H' => H' = H ∧ ∃ c, (⟨x.toArray⟩ : Str).cps[i]? = some c ∧ v = .str ⟨#[c]⟩, ?_, fun i H v H' g1 st hi y S hg => ?_⟩, fun _ _ _ => trivial, fun _ _ _ _ => trivial⟩
  · have := walk_str (z := ⟨x.toArray⟩)
    have e : (⟨x.toArray⟩ : Str).cps.size = (signsD x).length := by unfold signsD; simp
    rw [e] at this
    exact this
  · obtain ⟨rfl, c, h1, rfl⟩ := y
    refine ⟨g1, .refl _ _, S, .str [c], ?_, .str [c]⟩
    unfold signsD
    rw [List.getElem?_map]
    have : x[i]? = some c := by simpa using h1
    rw [this]; rfl
theorem wk_fn {J : It} {n : Nat} {f : Nat → Int} (w : Walk J n (fun _ => True) (YFn fun i => .int (f i))) : WkE J K g H false ((List.range n).map fun i => .int (f i)) := by
  refine ⟨fun _ => True, ⟨YFn fun i => .int (f i), by simpa using w, fun i H v H' g1 st hi y S hg => ?_⟩, fun _ _ _ => trivial, fun _ _ _ _ => trivial⟩
  obtain ⟨rfl, rfl⟩ := y
  refine ⟨g1, .refl _ _, S, .int (f i), ?_, .int _⟩
  have : i < n := by simpa using hi
  simp [this]
end
end MW
set_option Elab.async false
set_option linter.all false
set_option maxRecDepth 100000
set_option maxHeartbeats 1000000
set_option autoImplicit false
/-! Expressions, one by one. -/
namespace MW
open PySem PySem.Spec PyProof.Rows L2

theorem fstE {α β : Type} {o : Option (α × β)} {p : α × β} (h : o = some p) : o = some (p.1, p.2) := h
section
variable {X : Cx} {C : Ct} {kr : Nat} {a b c : Expr} {ma mb mc : E} {pos : Pos}
theorem boolOf_ok {r : Rs} {b : Bool} (h : boolOf r = some b) : r = .sh (.bl b) := by
  unfold boolOf at h
  split at h
  · cases h; rfl
  · cases h
theorem intOf_ok {r : Rs} {b : Int} (h : intOf r = some b) : r = .sh (.int b) := by
  unfold intOf at h
  split at h
  · cases h; rfl
  · cases h
theorem rs_bl {K : PySem.W.Frag} {g : Gh} {H H0 : Hp} {v : V} {b : Bool} (R : RsR K g H H0 v (.sh (.bl b))) : v = .bl b := by
  have R' : Rp K g v (.bl b) := R
  cases R'; rfl
theorem rs_int {K : PySem.W.Frag} {g : Gh} {H H0 : Hp} {v : V} {b : Int} (R : RsR K g H H0 v (.sh (.int b))) : v = .int b := by
  have R' : Rp K g v (.int b) := R
  cases R'; rfl
theorem se_c {d : D} {v : V} (h : PE X a (tC v)) (r : ∀ g, Rp C.K g v d) : PE X a (tE C (.c d)) := h.imp fun σ H Q h => by
  obtain ⟨g, env, st, rs, st', S, e, k⟩ := h
  rw [evE] at e
  cases e
  exact k v g H (.refl g H) S.sy (r g)
theorem se_v {i : Nat} (h : PE X a (tVar i)) (hi : i ∉ C.O) : PE X a (tE C (.v i)) := h.imp fun σ H Q h => by
  obtain ⟨g, env, st, rs, st', S, e, k⟩ := h
  rw [evE] at e
  obtain ⟨d, h1, h2⟩ := mapS e
  cases h2
  obtain ⟨v, h3, h4, _⟩ := S.en.get i d h1
  exact ⟨v, h3, k v g H (.refl g H) S.sy (h4 hi)⟩
theorem se_vo {i : Nat} (h : PE X a (tVar i)) (hi : i ∈ C.O) : PE X a (tE C (.vo i)) := h.imp fun σ H Q h => by
  obtain ⟨g, env, st, rs, st', S, e, k⟩ := h
  rw [evE] at e
  obtain ⟨d, h1, h2⟩ := mapS e
  cases h2
  obtain ⟨v, h3, _, h4⟩ := S.en.get i d h1
  obtain ⟨p, h5, h6, h7, h8, h9⟩ := h4 hi
  exact ⟨v, h3, k v g H (.refl g H) S.sy ⟨p, h5, h6, h7, h8⟩⟩
theorem se_bin {op : BOp} (hK : X.K = C.K) (ha : PE X a (tE C ma)) (hb : PE X b (tE C mb)) : PE X (.BinOp a (bopT op) b pos) (tE C (.bin op ma mb)) := (pe_op (opB_ok op) ha hb).imp fun σ H Q h => by
  obtain ⟨g, env, st, rs, st', S, e, k⟩ := h
  rw [evE] at e
  obtain ⟨x, e1, e⟩ := bindS e
  obtain ⟨y, e2, e⟩ := bindS e
  obtain ⟨r, e3, e⟩ := mapS e
  cases e
  refine tE_one S (fstE e1) fun v g1 H1 E1 S1 R1 => ?_
  refine tE_one S1 (fstE e2) fun w g2 H2 E2 S2 R2 => ?_
  rw [hK]
  exact ⟨g2, y.2, x.1.d, y.1.d, rs, S2.sy, (R1.ext E2).wk S2.sy, R2.wk S2.sy, e3, fun v g3 H3 E3 Y3 R3 => k v g3 H3 (E1.trans (E2.trans E3)) Y3 (R3.older fun a h => E1.live a (E2.live a h))⟩
theorem se_neg (ha : PE X a (tE C ma)) : PE X (.UnaryOp .USub a pos) (tE C (.neg ma)) := (pe_un un_neg ha).imp fun σ H Q h => by
  obtain ⟨g, env, st, rs, st', S, e, k⟩ := h
  rw [evE] at e
  obtain ⟨x, e1, e⟩ := bindS e
  obtain ⟨i, e2, e⟩ := mapS e
  cases e
  refine tE_one S (fstE e1) fun v g1 H1 E1 S1 R1 => ?_
  rw [intOf_ok e2] at R1
  exact ⟨i, rs_int R1, k _ g1 H1 E1 S1.sy (.int _)⟩
theorem se_not (ha : PE X a (tE C ma)) : PE X (.UnaryOp .Not a pos) (tE C (.not ma)) := (pe_not ha).imp fun σ H Q h => by
  obtain ⟨g, env, st, rs, st', S, e, k⟩ := h
  rw [evE] at e
  obtain ⟨x, e1, e⟩ := bindS e
  obtain ⟨i, e2, e⟩ := mapS e
  cases e
  refine tE_one S (fstE e1) fun v g1 H1 E1 S1 R1 => ?_
  rw [boolOf_ok e2] at R1
  exact ⟨i, rs_bl R1, k _ g1 H1 E1 S1.sy (.bl _)⟩
theorem st_not (ha : PT X a (tT C ma)) : PT X (.UnaryOp .Not a pos) (tT C (.not ma)) := (pt_not ha).imp fun σ H Q h => by
  obtain ⟨g, env, st, b, st', S, e, k⟩ := h
  rw [evE] at e
  obtain ⟨x, e1, e⟩ := bindS e
  obtain ⟨i, e2, e⟩ := mapS e
  cases e
  have e1' := fstE e1
  rw [boolOf_ok e2] at e1'
  exact tT_one S e1' fun g1 H1 E1 S1 => k g1 H1 E1 S1.sy
/-- a value that is a bool, as a test -/
theorem st_val (ha : PE X a (tE C ma)) (he : ∀ whole, isTrue a X.env whole = (do let v ← whole; standAt a.pos; holding [v] (truthy v))) : PT X a (tT C ma) := (pt_val ha he).imp fun σ H Q h => by
  obtain ⟨g, env, st, b, st', S, e, k⟩ := h
  exact tE_one S e fun v g1 H1 E1 S1 R1 => ⟨b, rs_bl R1, k g1 H1 E1 S1.sy⟩
theorem cmp_core {op : COp} (hK : X.K = C.K) {σ : L2.St} {H : Hp} {Q : VK} {g : Gh} {env : En} {st : Store} {rs : Rs} {st' : Store} (S : Ste C σ g H env st) (e : evE C.W (.cmp op ma mb) env st = some (rs, st'))
    (k : ∀ b g' H', rs = .sh (.bl b) → Ext g H g' H' → Sy C.K g' H' st' → Q (.bl b) H') : tOp (rC X.K op) (tE C ma) (tE C mb) σ H Q := by
  rw [evE] at e
  obtain ⟨x, e1, e⟩ := bindS e
  obtain ⟨y, e2, e⟩ := bindS e
  obtain ⟨r, e3, e⟩ := mapS e
  cases e
  refine tE_one S (fstE e1) fun v g1 H1 E1 S1 R1 => ?_
  refine tE_one S1 (fstE e2) fun w g2 H2 E2 S2 R2 => ?_
  rw [hK]
  exact ⟨g2, y.2, x.1.d, y.1.d, r, S2.sy, (R1.ext E2).wk S2.sy, R2.wk S2.sy, e3, k r g2 H2 rfl (E1.trans E2) S2.sy⟩
theorem se_cmp {op : COp} (hK : X.K = C.K) (hr : Room kr X.A) (ha : PE X a (tE C ma)) (hb : PE X b (tE C mb)) (hm : behindInMarks (copT op) b = false) : PE X (.Compare a [copT op] [b] pos) (tE C (.cmp op ma mb)) :=
  (pe_cmpR (opC_ok op hr) ha hb hm).imp fun σ H Q h => by
    obtain ⟨g, env, st, rs, st', S, e, k⟩ := h
    exact cmp_core hK S e fun b g' H' h E Y => k _ g' H' E Y (by rw [h]; exact .bl b)
theorem st_cmp {op : COp} (hK : X.K = C.K) (hr : Room kr X.A) (ha : PE X a (tE C ma)) (hb : PE X b (tE C mb)) (hm : behindInMarks (copT op) b = false) : PT X (.Compare a [copT op] [b] pos) (tT C (.cmp op ma mb)) :=
  (pt_cmpR (opC_ok op hr) ha hb hm).imp fun σ H Q h => by
    obtain ⟨g, env, st, b, st', S, e, k⟩ := h
    exact cmp_core hK S e fun b' g' H' h E Y => ⟨b', rfl, by cases h; exact k g' H' E Y⟩
theorem chain_core {op op' : COp} (hK : X.K = C.K) {σ : L2.St} {H : Hp} {Q : VK} {g : Gh} {env : En} {st : Store} {rs : Rs} {st' : Store} (S : Ste C σ g H env st) (e : evE C.W (.chain op op' ma mb mc) env st = some (rs, st'))
    (k : ∀ b g' H', rs = .sh (.bl b) → Ext g H g' H' → Sy C.K g' H' st' → Q (.bl b) H') : tChain (rC X.K op) (rC X.K op') (tE C ma) (tE C mb) (tE C mc) σ H Q := by
  rw [evE] at e
  obtain ⟨x, e1, e⟩ := bindS e
  obtain ⟨y, e2, e⟩ := bindS e
  obtain ⟨r, e3, e⟩ := bindS e
  refine tE_one S (fstE e1) fun v g1 H1 E1 S1 R1 => ?_
  refine tE_one S1 (fstE e2) fun w g2 H2 E2 S2 R2 => ?_
  rw [hK]
  refine ⟨g2, y.2, x.1.d, y.1.d, r, S2.sy, (R1.ext E2).wk S2.sy, R2.wk S2.sy, e3, r, rfl, ?_⟩
  cases r with
  | false =>
    rw [if_neg Bool.false_ne_true] at e ⊢
    cases e
    exact k false g2 H2 rfl (E1.trans E2) S2.sy
  | true =>
    rw [if_pos rfl] at e ⊢
    obtain ⟨z, e4, e⟩ := bindS e
    obtain ⟨r, e5, e⟩ := mapS e
    cases e
    refine tE_one S2 (fstE e4) fun u g3 H3 E3 S3 R3 => ?_
    exact ⟨g3, z.2, y.1.d, z.1.d, r, S3.sy, (R2.ext E3).wk S3.sy, R3.wk S3.sy, e5, k r g3 H3 rfl (E1.trans (E2.trans E3)) S3.sy⟩
theorem se_chain {op op' : COp} (hK : X.K = C.K) (hr : Room kr X.A) (ha : PE X a (tE C ma)) (hb : PE X b (tE C mb)) (hc : PE X c (tE C mc)) (hm : lastMarks [copT op, copT op'] [b, c] = false) :
    PE X (.Compare a [copT op, copT op'] [b, c] pos) (tE C (.chain op op' ma mb mc)) :=
  (pe_chain (opC_ok op hr) (opC_ok op' hr) ha hb hc hm).imp fun σ H Q h => by
    obtain ⟨g, env, st, rs, st', S, e, k⟩ := h
    exact chain_core hK S e fun b g' H' h E Y => k _ g' H' E Y (by rw [h]; exact .bl b)
theorem st_chain {op op' : COp} (hK : X.K = C.K) (hr : Room kr X.A) (ha : PE X a (tE C ma)) (hb : PE X b (tE C mb)) (hc : PE X c (tE C mc)) (hm : lastMarks [copT op, copT op'] [b, c] = false) :
    PT X (.Compare a [copT op, copT op'] [b, c] pos) (tT C (.chain op op' ma mb mc)) :=
  (pt_chain (opC_ok op hr) (opC_ok op' hr) ha hb hc hm).imp fun σ H Q h => by
    obtain ⟨g, env, st, b, st', S, e, k⟩ := h
    exact chain_core hK S e fun b' g' H' h E Y => ⟨b', rfl, by cases h; exact k g' H' E Y⟩
theorem se_and {r : List Expr} {p : Pos} (ha : PE X a (tE C ma)) (hb : PE X (.BoolOp .And (b :: r) p) (tE C mb)) : PE X (.BoolOp .And (a :: b :: r) p) (tE C (.and ma mb)) := (pe_and ha hb).imp fun σ H Q h => by
  obtain ⟨g, env, st, rs, st', S, e, k⟩ := h
  rw [evE] at e
  obtain ⟨x, e1, e⟩ := bindS e
  obtain ⟨i, e2, e⟩ := bindS e
  refine tE_one S (fstE e1) fun v g1 H1 E1 S1 R1 => ?_
  rw [boolOf_ok e2] at R1
  refine ⟨i, rs_bl R1, ?_⟩
  cases i with
  | true =>
    rw [if_pos rfl] at e ⊢
    exact tE_one S1 e fun w g2 H2 E2 S2 R2 => k w g2 H2 (E1.trans E2) S2.sy (R2.older fun a h => E1.live a h)
  | false =>
    rw [if_neg Bool.false_ne_true] at e ⊢
    cases e
    exact k _ g1 H1 E1 S1.sy (.bl false)
theorem se_or {r : List Expr} {p : Pos} (ha : PE X a (tE C ma)) (hb : PE X (.BoolOp .Or (b :: r) p) (tE C mb)) : PE X (.BoolOp .Or (a :: b :: r) p) (tE C (.or ma mb)) := (pe_or ha hb).imp fun σ H Q h => by
  obtain ⟨g, env, st, rs, st', S, e, k⟩ := h
  rw [evE] at e
  obtain ⟨x, e1, e⟩ := bindS e
  obtain ⟨i, e2, e⟩ := bindS e
  refine tE_one S (fstE e1) fun v g1 H1 E1 S1 R1 => ?_
  rw [boolOf_ok e2] at R1
  refine ⟨i, rs_bl R1, ?_⟩
  cases i with
  | false =>
    rw [if_neg Bool.false_ne_true] at e ⊢
    exact tE_one S1 e fun w g2 H2 E2 S2 R2 => k w g2 H2 (E1.trans E2) S2.sy (R2.older fun a h => E1.live a h)
  | true =>
    rw [if_pos rfl] at e ⊢
    cases e
    exact k _ g1 H1 E1 S1.sy (.bl true)
theorem st_and1 {p : Pos} (ha : PT X a (tT C ma)) : PW X (.BoolOp .And [a] p) (tT C ma) := pw_and1 ha
theorem st_or1 {p : Pos} (ha : PT X a (tT C ma)) : PW X (.BoolOp .Or [a] p) (tT C ma) := pw_or1 ha
theorem _root_.L2.PW.imp {e : Expr} {t t' : TT} (h : PW X e t) (i : ∀ σ H Q, t' σ H Q → t σ H Q) : PW X e t' := ⟨fun wh pins s σ H Q I q => h.run wh pins s σ H Q I (i σ H Q q)⟩
theorem st_and {r : List Expr} {p : Pos} (ha : PT X a (tT C ma)) (hb : PW X (.BoolOp .And (b :: r) p) (tT C mb)) : PW X (.BoolOp .And (a :: b :: r) p) (tT C (.and ma mb)) := (pw_and ha hb).imp fun σ H Q h => by
  obtain ⟨g, env, st, rs, st', S, e, k⟩ := h
  rw [evE] at e
  obtain ⟨x, e1, e⟩ := bindS e
  obtain ⟨i, e2, e⟩ := bindS e
  have e1' := fstE e1
  rw [boolOf_ok e2] at e1'
  refine tT_one S e1' fun g1 H1 E1 S1 => ?_
  cases i with
  | true =>
    rw [if_pos rfl] at e ⊢
    exact tT_one S1 e fun g2 H2 E2 S2 => k g2 H2 (E1.trans E2) S2.sy
  | false =>
    rw [if_neg Bool.false_ne_true] at e ⊢
    cases e
    exact k g1 H1 E1 S1.sy
theorem st_or {r : List Expr} {p : Pos} (ha : PT X a (tT C ma)) (hb : PW X (.BoolOp .Or (b :: r) p) (tT C mb)) : PW X (.BoolOp .Or (a :: b :: r) p) (tT C (.or ma mb)) := (pw_or ha hb).imp fun σ H Q h => by
  obtain ⟨g, env, st, rs, st', S, e, k⟩ := h
  rw [evE] at e
  obtain ⟨x, e1, e⟩ := bindS e
  obtain ⟨i, e2, e⟩ := bindS e
  have e1' := fstE e1
  rw [boolOf_ok e2] at e1'
  refine tT_one S e1' fun g1 H1 E1 S1 => ?_
  cases i with
  | false =>
    rw [if_neg Bool.false_ne_true] at e ⊢
    exact tT_one S1 e fun g2 H2 E2 S2 => k g2 H2 (E1.trans E2) S2.sy
  | true =>
    rw [if_pos rfl] at e ⊢
    cases e
    exact k g1 H1 E1 S1.sy
theorem se_ite (hc : PT X c (tT C mc)) (ha : PE X a (tE C ma)) (hb : PE X b (tE C mb)) : PE X (.IfExp c a b pos) (tE C (.ite mc ma mb)) := (pe_ifExp hc ha hb).imp fun σ H Q h => by
  obtain ⟨g, env, st, rs, st', S, e, k⟩ := h
  rw [evE] at e
  obtain ⟨x, e1, e⟩ := bindS e
  obtain ⟨i, e2, e⟩ := bindS e
  have e1' := fstE e1
  rw [boolOf_ok e2] at e1'
  refine tT_one S e1' fun g1 H1 E1 S1 => ?_
  cases i with
  | true =>
    rw [if_pos rfl] at e ⊢
    exact tE_one S1 e fun w g2 H2 E2 S2 R2 => k w g2 H2 (E1.trans E2) S2.sy (R2.older fun a h => E1.live a h)
  | false =>
    rw [if_neg Bool.false_ne_true] at e ⊢
    exact tE_one S1 e fun w g2 H2 E2 S2 R2 => k w g2 H2 (E1.trans E2) S2.sy (R2.older fun a h => E1.live a h)

/-! ### arguments -/
theorem own_ok {r : Rs} {d : D} (h : r.own? = some d) : r.d = d ∧ ∀ d', r ≠ .vw d' := by
  cases r with
  | sh d => cases h; exact ⟨rfl, fun _ q => nomatch q⟩
  | fr d => cases h; exact ⟨rfl, fun _ q => nomatch q⟩
  | vw d => cases h
theorem sa_nil : PA X [] (tA C .nil) := pa_nil.imp fun σ H Q h => by
  obtain ⟨g, env, st, ds, st', S, e, k⟩ := h
  rw [evEs] at e
  cases e
  exact k [] g H (.refl g H) S.sy .nil
theorem sa_cons {es : List Expr} {ms : Es} (ha : PE X a (tE C ma)) (hr : PA X es (tA C ms)) (hs : starEach (a :: es) X.env = (false, eval a X.env) :: starEach es X.env) : PA X (a :: es) (tA C (.cons ma ms)) := (pa_cons ha hr hs).imp fun σ H Q h => by
  obtain ⟨g, env, st, ds, st', S, e, k⟩ := h
  rw [evEs] at e
  obtain ⟨x, e1, e⟩ := bindS e
  obtain ⟨d, e2, e⟩ := bindS e
  obtain ⟨z, e3, e⟩ := mapS e
  cases e
  obtain ⟨rfl, nv⟩ := own_ok e2
  refine tE_one S (fstE e1) fun v g1 H1 E1 S1 R1 => ?_
  obtain ⟨g2, Y2, E2, le, rp, _, _⟩ := R1.share S1.sy nv E1
  have S2 : Ste C σ g2 H1 env x.2 := S.of E2 Y2
  exact tA_one S2 (fstE e3) fun vs g3 H3 E3 S3 R3 => k _ g3 H3 (E2.trans E3) S3.sy (.cons (rp.mono E3.le) R3)
/-- an argument of a built-in: read only -/
theorem pa1 (ha : PE X a (tE C ma)) (hs : starEach (a :: []) X.env = (false, eval a X.env) :: starEach [] X.env) : PA X [a] (tCons (tE C ma) tNil) := pa_cons ha pa_nil hs
theorem se_tup {es : List Expr} {ms : Es} {x1 : Nat} (h : PA X es (tA C ms)) (hl : ∀ env st ds st', evEs C.W ms env st = some (ds, st') → ds.length ≤ sizeLine) : PE X (.Tuple es x1 pos) (tE C (.tup ms)) := (pe_tup h).imp fun σ H Q h => by
  obtain ⟨g, env, st, rs, st', S, e, k⟩ := h
  rw [evE] at e
  obtain ⟨x, e1, e⟩ := mapS e
  cases e
  refine tA_one S (fstE e1) fun vs g1 H1 E1 S1 R1 => ⟨by rw [R1.length]; exact hl _ _ _ _ (fstE e1), fun p hp => ?_⟩
  obtain ⟨a, b, c⟩ := tup_new S1.sy R1 p hp
  exact k _ _ _ (E1.trans a) b c
theorem se_lst {es : List Expr} {ms : Es} (h : PA X es (tA C ms)) (hl : ∀ env st ds st', evEs C.W ms env st = some (ds, st') → ds.length ≤ sizeLine) : PE X (.List es pos) (tE C (.lst ms)) := (pe_lst h).imp fun σ H Q h => by
  obtain ⟨g, env, st, rs, st', S, e, k⟩ := h
  rw [evE] at e
  obtain ⟨x, e1, e⟩ := mapS e
  cases e
  refine tA_one S (fstE e1) fun vs g1 H1 E1 S1 R1 => ⟨by rw [R1.length]; exact hl _ _ _ _ (fstE e1), fun p hp => ?_⟩
  have f := S1.sy.fresh hp
  exact k _ g1 _ (E1.trans (Ext.alloc hp)) (S1.sy.alloc hp) ⟨p, rfl, ⟨vs, upd_same, R1⟩, f.1, f.2, E1.live p hp⟩
theorem cell_new {K : PySem.W.Frag} {g : Gh} {H : Hp} {st : Store} {vs : List V} {ds : List D} (S : Sy K g H st) (r : RpAll K g vs ds) (p : Addr) (hp : H p = none) :
    Ext g H ⟨g.G, g.cm ++ [p]⟩ (upd H p (.lst vs)) ∧ Sy K ⟨g.G, g.cm ++ [p]⟩ (upd H p (.lst vs)) (st ++ [ds]) ∧ Rp K ⟨g.G, g.cm ++ [p]⟩ (.ref p) (.cell st.length) := by
  have f := S.fresh hp
  have le : g.le ⟨g.G, g.cm ++ [p]⟩ := ⟨fun _ _ h => h, fun n a h => by
    show (g.cm ++ [p])[n]? = some a
    rw [List.getElem?_append_left (List.getElem?_eq_some_iff.mp h).1]; exact h⟩
  refine ⟨⟨le, fun _ _ h => .inl h, fun a m => ?_, fun a o _ h => by rw [upd_ne (ne_of_none h hp)]; exact h, fun a h => ?_⟩, ⟨fun a u h => ?_, fun a m => ?_, fun n a e => ?_, ?_, ?_⟩, ?_⟩
  · rcases List.mem_append.mp m with m | m
    · exact .inl m
    · rw [List.mem_singleton.mp m]; exact .inr hp
  · by_cases e : a = p
    · rw [e]; exact hp
    · rw [upd_ne e] at h; exact h
  · have := S.sub a u h
    rw [upd_ne (ne_of_none this hp)]; exact this
  · rcases List.mem_append.mp m with m | m
    · exact S.nm a m
    · rw [List.mem_singleton.mp m]; exact f.1
  · have e' : (g.cm ++ [p])[n]? = some a := e
    by_cases hn : n < g.cm.length
    · rw [List.getElem?_append_left hn] at e'
      obtain ⟨ws, es, h1, h2, h3⟩ := S.cl n a e'
      exact ⟨ws, es, by rw [List.getElem?_append_left (List.getElem?_eq_some_iff.mp h1).1]; exact h1, by rw [upd_ne (ne_of_none h2 hp)]; exact h2, h3.mono le⟩
    · rw [List.getElem?_append_right (by omega)] at e'
      have h0 : n - g.cm.length = 0 := by
        rcases Nat.eq_zero_or_pos (n - g.cm.length) with z | z
        · exact z
        · rw [List.getElem?_eq_none (by simp; omega)] at e'; cases e'
      rw [h0] at e'
      cases e'
      have : n = st.length := by have := S.ln; omega
      subst this
      exact ⟨vs, ds, by simp, upd_same, r.mono le⟩
  · show (g.cm ++ [p]).length = (st ++ [ds]).length
    rw [List.length_append, List.length_append, S.ln]; rfl
  · show (g.cm ++ [p]).Nodup
    rw [List.nodup_append]
    exact ⟨S.nd, by simp, fun a ha b hb e => by rw [List.mem_singleton.mp hb] at e; exact f.2 (e ▸ ha)⟩
  · refine .cell ?_
    show (g.cm ++ [p])[st.length]? = some p
    rw [← S.ln]; simp
theorem se_cel {es : List Expr} {ms : Es} (h : PA X es (tA C ms)) (hl : ∀ env st ds st', evEs C.W ms env st = some (ds, st') → ds.length ≤ sizeLine) : PE X (.List es pos) (tE C (.cel ms)) := (pe_lst h).imp fun σ H Q h => by
  obtain ⟨g, env, st, rs, st', S, e, k⟩ := h
  rw [evE] at e
  obtain ⟨x, e1, e⟩ := mapS e
  cases e
  refine tA_one S (fstE e1) fun vs g1 H1 E1 S1 R1 => ⟨by rw [R1.length]; exact hl _ _ _ _ (fstE e1), fun p hp => ?_⟩
  obtain ⟨a, b, c⟩ := cell_new S1.sy R1 p hp
  exact k _ _ _ (E1.trans a) b c
end
end MW
set_option Elab.async false
set_option linter.all false
set_option maxRecDepth 100000
set_option maxHeartbeats 1000000
set_option autoImplicit false
/-! Calls, subscripts, what is walked, comprehensions. -/
namespace MW
open PySem PySem.Spec PyProof.Rows L2

/-- a def's promise: what the evaluator's call gives -/
def spF (K : PySem.W.Frag) (W : Wd) (f : Nat) : Sp := fun vs H Q _ => ∃ g st ds rs st', Sy K g H st ∧ RpAll K g vs ds ∧ W.call f ds st = some (rs, st') ∧ ∀ v g' H', Ext g H g' H' → Sy K g' H' st' → RsR K g' H' H v rs → Q v H'
theorem Sy.upd_own {K : PySem.W.Frag} {g : Gh} {H : Hp} {st : Store} {p : Addr} {o : HO} (S : Sy K g H st) (hg : g.G p = none) (hc : p ∉ g.cm) : Sy K g (upd H p o) st where
  sub := fun a u h => by
    have : a ≠ p := fun e => by rw [e, hg] at h; cases h
    rw [upd_ne this]; exact S.sub a u h
  nm := S.nm
  cl := fun n a e => by
    obtain ⟨vs, ds, h1, h2, h3⟩ := S.cl n a e
    have : a ≠ p := fun z => hc (z ▸ List.mem_of_getElem? e)
    exact ⟨vs, ds, h1, by rw [upd_ne this]; exact h2, h3⟩
  ln := S.ln
  nd := S.nd
theorem Ext.upd_new {g0 g : Gh} {H0 H : Hp} {p : Addr} {o : HO} (E : Ext g0 H0 g H) (h0 : H0 p = none) : Ext g0 H0 g (upd H p o) where
  le := E.le
  new := E.new
  newc := E.newc
  keep := fun a u hn h => by
    rw [upd_ne (ne_of_none h h0)]; exact E.keep a u hn h
  live := fun a h => by
    by_cases e : a = p
    · rw [e]; exact h0
    · rw [upd_ne e] at h; exact E.live a h
section
variable {X : Cx} {C : Ct} {kr : Nat} {a b c : Expr} {ma mb mc : E} {pos p : Pos} {x : Str}
theorem se_call {f k : Nat} {ad : Addr} {fd : FuncData} {ps : List Str} {es : List Expr} {ms : Es} (hK : X.K = C.K) (F : FnOk X.prog X.w X.K X.mg X.base CX0 k ad fd ps (spF X.K C.W f)) (hr : Room k X.A) (hg : Gl X x) (hm : X.mg x = some (.ref ad))
    (hk : PySem.W.keepIn X.K (.ref ad) = true) (hb : Binds X.K fd ps []) (ha : PA X (a :: es) (tA C ms)) (hdb : (x == ("__debug__" : Str)) = false) (he : starEach (a :: es) X.env = (false, eval a X.env) :: starEach es X.env) (hpl : (backTo pos (starEach es X.env)).any (·.1) = false) :
    PE X (.Call (.Name x p) (a :: es) [] pos) (tE C (.call f ms)) := (pe_call F hr hg hm hk hb .nil (pass0 (X := X)) ha hdb he hpl).imp fun σ H Q h => by
  obtain ⟨g, env, st, rs, st', S, e, k⟩ := h
  rw [evE] at e
  obtain ⟨x, e1, e⟩ := bindS e
  refine tA_one S (fstE e1) fun vs g1 H1 E1 S1 R1 => ?_
  rw [hK]
  exact ⟨g1, x.2, x.1, rs, st', S1.sy, by rw [List.append_nil]; exact R1, e, fun v g2 H2 E2 Y2 R2 => k v g2 H2 (E1.trans E2) Y2 (R2.older fun a h => E1.live a h)⟩
theorem se_call0 {f k : Nat} {ad : Addr} {fd : FuncData} {ps : List Str} (hK : X.K = C.K) (F : FnOk X.prog X.w X.K X.mg X.base CX0 k ad fd ps (spF X.K C.W f)) (hr : Room k X.A) (hg : Gl X x) (hm : X.mg x = some (.ref ad))
    (hk : PySem.W.keepIn X.K (.ref ad) = true) (hb : Binds X.K fd ps []) (hdb : (x == ("__debug__" : Str)) = false) :
    PE X (.Call (.Name x p) [] [] pos) (tE C (.call f .nil)) := (pe_call0 F hr hg hm hk hb .nil (pass0 (X := X)) hdb).imp fun σ H Q h => by
  obtain ⟨g, env, st, rs, st', S, e, k⟩ := h
  rw [evE] at e
  obtain ⟨x, e1, e⟩ := bindS e
  rw [evEs] at e1
  cases e1
  show spF X.K C.W f ([] ++ []) H Q E0
  rw [hK]
  exact ⟨g, st, [], rs, st', S.sy, .nil, e, k⟩
theorem b1_core {f : B1} (hK : X.K = C.K) {σ : L2.St} {H : Hp} {Q : VK} (h : tE C (.b1 f ma) σ H Q) : tCB (r1 X.K f) (tCons (tE C ma) tNil) σ H Q := by
  obtain ⟨g, env, st, rs, st', S, e, k⟩ := h
  rw [evE] at e
  obtain ⟨x, e1, e⟩ := bindS e
  obtain ⟨r, e2, e⟩ := mapS e
  cases e
  refine tE_one S (fstE e1) fun v g1 H1 E1 S1 R1 => ?_
  rw [hK]
  exact ⟨v, g1, x.2, x.1.d, rs, rfl, S1.sy, R1.wk S1.sy, e2, fun v g2 H2 E2 Y2 R2 => k v g2 H2 (E1.trans E2) Y2 (R2.older fun a h => E1.live a h)⟩
theorem se_b1 {f : B1} {id : String} (hK : X.K = C.K) (hr : Room kr X.A) (hc : X.calm = true) (hv : b1v f = .builtin id) (hx : bootBuiltins x = some (.builtin id)) (hg : Gl X x) (hm : X.mg x = none) (ha : PE X a (tE C ma)) (hn : x ≠ "__name__") (hdb : (x == ("__debug__" : Str)) = false)
    (hs : starEach [a] X.env = (false, eval a X.env) :: starEach [] X.env) : PE X (.Call (.Name x p) [a] [] pos) (tE C (.b1 f ma)) :=
  (pe_callB (hv ▸ op1_ok f hr hc) hg hm hx (pa1 ha hs) hn hdb hs (by rfl)).imp fun σ H Q h => b1_core hK h
theorem se_b1T {f : B1} {id : String} (hK : X.K = C.K) (hr : Room kr X.A) (hc : X.calm = true) (hv : b1v f = .type id) (hx : bootBuiltins x = some (.type id)) (hg : Gl X x) (hm : X.mg x = none) (ha : PE X a (tE C ma)) (hn : x ≠ "__name__") (hdb : (x == ("__debug__" : Str)) = false)
    (hs : starEach [a] X.env = (false, eval a X.env) :: starEach [] X.env) : PE X (.Call (.Name x p) [a] [] pos) (tE C (.b1 f ma)) :=
  (pe_callTy (hv ▸ op1_ok f hr hc) hg hm hx (pa1 ha hs) hn hdb hs (by rfl)).imp fun σ H Q h => b1_core hK h
theorem se_b2 {f : B2} {id : String} (hK : X.K = C.K) (hc : X.calm = true) (hv : b2v f = .builtin id) (hx : bootBuiltins x = some (.builtin id)) (hg : Gl X x) (hm : X.mg x = none) (ha : PE X a (tE C ma)) (hb : PE X b (tE C mb)) (hn : x ≠ "__name__") (hdb : (x == ("__debug__" : Str)) = false)
    (hs : starEach [a, b] X.env = (false, eval a X.env) :: starEach [b] X.env) (hs2 : starEach [b] X.env = (false, eval b X.env) :: starEach [] X.env) : PE X (.Call (.Name x p) [a, b] [] pos) (tE C (.b2 f ma mb)) :=
  (pe_callB (hv ▸ op2_ok f hc) hg hm hx (pa_cons ha (pa1 hb hs2) hs) hn hdb hs (by rw [hs2]; rfl)).imp fun σ H Q h => by
    obtain ⟨g, env, st, rs, st', S, e, k⟩ := h
    rw [evE] at e
    obtain ⟨x, e1, e⟩ := bindS e
    obtain ⟨y, e2, e⟩ := bindS e
    obtain ⟨r, e3, e⟩ := mapS e
    cases e
    refine tE_one S (fstE e1) fun v g1 H1 E1 S1 R1 => ?_
    refine tE_one S1 (fstE e2) fun w g2 H2 E2 S2 R2 => ?_
    rw [hK]
    exact ⟨v, w, g2, y.2, x.1.d, y.1.d, rs, rfl, S2.sy, (R1.ext E2).wk S2.sy, R2.wk S2.sy, e3, fun v g3 H3 E3 Y3 R3 => k v g3 H3 (E1.trans (E2.trans E3)) Y3 (R3.older fun a h => E1.live a (E2.live a h))⟩
theorem se_isi {t : Ty} {y : Str} {py : Pos} (hK : X.K = C.K) (hx : bootBuiltins x = some (.builtin "isinstance")) (hg : Gl X x) (hm : X.mg x = none) (hn : x ≠ "__name__") (hdb : (x == ("__debug__" : Str)) = false)
    (hy : bootBuiltins y = some (.type (tyN t))) (hgy : Gl X y) (hmy : X.mg y = none) (hny : y ≠ "__name__") (hdy : (y == ("__debug__" : Str)) = false) (ha : PE X a (tE C ma))
    (hs : starEach [a, .Name y py] X.env = (false, eval a X.env) :: starEach [.Name y py] X.env) : PE X (.Call (.Name x p) [a, .Name y py] [] pos) (tE C (.isi t ma)) :=
  (pe_callB (isi_ok t) hg hm hx (pa_cons ha (pa_cons (pe_bltn (v := .ty (tyN t)) hgy hmy hy rfl hny hdy) pa_nil (by rfl)) hs) hn hdb hs (by rfl)).imp fun σ H Q h => by
    obtain ⟨g, env, st, rs, st', S, e, k⟩ := h
    rw [evE] at e
    obtain ⟨x, e1, e⟩ := bindS e
    obtain ⟨r, e2, e⟩ := mapS e
    cases e
    refine tE_one S (fstE e1) fun v g1 H1 E1 S1 R1 => ?_
    show rIs X.K t [v, .ty (tyN t)] H1 Q
    rw [hK]
    exact ⟨v, g1, x.2, x.1.d, r, rfl, S1.sy, R1.wk S1.sy, e2, k _ g1 H1 E1 S1.sy (.bl r)⟩
theorem m0_str {f : M0} {d : D} {rs : Rs} (h : opM0 f d = some rs) : ∃ x, d = .str x := by
  unfold opM0 at h
  split at h
  · exact ⟨_, rfl⟩
  · exact ⟨_, rfl⟩
  · cases h
theorem m1_str {f : M1} {d e : D} {rs : Rs} (h : opM1 f d e = some rs) : ∃ x, d = .str x := by
  unfold opM1 at h
  split at h
  · exact ⟨_, rfl⟩
  · exact ⟨_, rfl⟩
  · exact ⟨_, rfl⟩
  · exact ⟨_, rfl⟩
  · cases h
theorem wk_str' {K : PySem.W.Frag} {g : Gh} {H : Hp} {v : V} {d : D} (w : Wk K g H v d) (h : ∃ x, d = .str x) : ∃ a, v = .str a := by
  obtain ⟨x, rfl⟩ := h
  cases w; exact ⟨_, rfl⟩
theorem se_m0 {f : M0} {id : String} {apos : Pos} (hK : X.K = C.K) (slot : Slot "str" x id) (ty : typeOf (.builtin id) = pure (.type "method_descriptor")) (rule : MtR X id (rM0 X.K f)) (ha : PE X a (tE C ma))
    (hbase : attributeBase a x X.env (eval a X.env) = eval a X.env) (hline : (apos.endLine == pos.line) = true) : PE X (.Call (.Attribute a x apos) [] [] pos) (tE C (.m0 f ma)) := (pe_m0 slot ty rule ha hbase hline).imp fun σ H Q h => by
  obtain ⟨g, env, st, rs, st', S, e, k⟩ := h
  rw [evE] at e
  obtain ⟨x, e1, e⟩ := bindS e
  obtain ⟨r, e2, e⟩ := mapS e
  cases e
  refine tE_one S (fstE e1) fun v g1 H1 E1 S1 R1 => ⟨wk_str' (R1.wk S1.sy) (m0_str e2), ?_⟩
  rw [hK]
  exact ⟨g1, x.2, x.1.d, rs, rfl, S1.sy, R1.wk S1.sy, e2, fun v g2 H2 E2 Y2 R2 => k v g2 H2 (E1.trans E2) Y2 (R2.older fun a h => E1.live a h)⟩
theorem se_m1 {f : M1} {id : String} {apos : Pos} (hK : X.K = C.K) (slot : Slot "str" x id) (ty : typeOf (.builtin id) = pure (.type "method_descriptor")) (rule : MtR X id (rM1 X.K f)) (ha : PE X a (tE C ma)) (hb : PE X b (tE C mb))
    (hs : starEach [b] X.env = [(false, eval b X.env)]) (hbase : attributeBase a x X.env (eval a X.env) = eval a X.env) (hline : (apos.endLine == pos.line) = true) : PE X (.Call (.Attribute a x apos) [b] [] pos) (tE C (.m1 f ma mb)) := (pe_m1 slot ty rule ha hb hs hbase hline).imp fun σ H Q h => by
  obtain ⟨g, env, st, rs, st', S, e, k⟩ := h
  rw [evE] at e
  obtain ⟨x, e1, e⟩ := bindS e
  obtain ⟨y, e2, e⟩ := bindS e
  obtain ⟨r, e3, e⟩ := mapS e
  cases e
  refine tE_one S (fstE e1) fun v g1 H1 E1 S1 R1 => ⟨wk_str' (R1.wk S1.sy) (m1_str e3), ?_⟩
  refine tE_one S1 (fstE e2) fun w g2 H2 E2 S2 R2 => ?_
  rw [hK]
  exact ⟨w, g2, y.2, x.1.d, y.1.d, rs, rfl, S2.sy, (R1.ext E2).wk S2.sy, R2.wk S2.sy, e3, fun v g3 H3 E3 Y3 R3 => k v g3 H3 (E1.trans (E2.trans E3)) Y3 (R3.older fun a h => E1.live a (E2.live a h))⟩
theorem se_idx (hK : X.K = C.K) (hu : X.A.units + 1 < cLine) (ha : PE X a (tE C ma)) (hb : PE X b (tE C mb)) (hp : PlainIx b) : PE X (.Subscript a b pos) (tE C (.idx ma mb)) := (pe_ix (ix_ok hu) ha hb hp).imp fun σ H Q h => by
  obtain ⟨g, env, st, rs, st', S, e, k⟩ := h
  rw [evE] at e
  obtain ⟨x, e1, e⟩ := bindS e
  obtain ⟨y, e2, e⟩ := bindS e
  obtain ⟨r, e3, e⟩ := mapS e
  cases e
  refine tE_one S (fstE e1) fun v g1 H1 E1 S1 R1 => ?_
  refine tE_one S1 (fstE e2) fun w g2 H2 E2 S2 R2 => ?_
  rw [hK]
  exact ⟨g2, y.2, x.1.d, y.1.d, r, S2.sy, (R1.ext E2).wk S2.sy, R2.wk S2.sy, e3, fun v g3 H3 E3 Y3 R3 => k v g3 H3 (E1.trans (E2.trans E3)) Y3 (R3.older fun a h => E1.live a (E2.live a h))⟩
/-- a slice's part -/
def tP (C : Ct) (m : Eo) : TO := fun σ H Q => ∃ g env st o st', Ste C σ g H env st ∧ evEo C.W m env st = some (o, st') ∧ ∀ g' H', Ext g H g' H' → Sy C.K g' H' st' → Q o H'
theorem _root_.L2.PO.imp {e : Option Expr} {t t' : TO} (h : PO X e t) (i : ∀ σ H Q, t' σ H Q → t σ H Q) : PO X e t' := ⟨fun pins s σ H Q I q => h.run pins s σ H Q I (i σ H Q q)⟩
theorem tP_one {m : Eo} {σ : L2.St} {g : Gh} {H : Hp} {env : En} {st st' : Store} {b : Option Int} {Q : Option Int → Hp → Prop} (S : Ste C σ g H env st) (e : evEo C.W m env st = some (b, st'))
    (h : ∀ g' H', Ext g H g' H' → Ste C σ g' H' env st' → Q b H') : tP C m σ H Q := ⟨g, env, st, b, st', S, e, fun g' H' E y => h g' H' E (S.of E y)⟩
theorem so_no : PO X none (tP C .no) := po_none.imp fun σ H Q h => by
  obtain ⟨g, env, st, b, st', S, e, k⟩ := h
  rw [evEo] at e
  cases e
  exact k g H (.refl g H) S.sy
theorem so_so (ha : PE X a (tE C ma)) : PO X (some a) (tP C (.so ma)) := (po_some ha).imp fun σ H Q h => by
  obtain ⟨g, env, st, b, st', S, e, k⟩ := h
  rw [evEo] at e
  obtain ⟨x, e1, e⟩ := bindS e
  obtain ⟨i, e2, e⟩ := mapS e
  cases e
  refine tE_one S (fstE e1) fun v g1 H1 E1 S1 R1 => ?_
  rw [intOf_ok e2] at R1
  exact ⟨i, rs_int R1, k g1 H1 E1 S1.sy⟩
theorem se_sl {lo hi : Option Expr} {ml mh : Eo} {p2 : Pos} (hK : X.K = C.K) (ha : PE X a (tE C ma)) (hl : PO X lo (tP C ml)) (hh : PO X hi (tP C mh)) : PE X (.Subscript a (.Slice lo hi none p2) pos) (tE C (.sl ma ml mh)) := (pe_slice sl_ok ha hl hh).imp fun σ H Q h => by
  obtain ⟨g, env, st, rs, st', S, e, k⟩ := h
  rw [evE] at e
  obtain ⟨x, e1, e⟩ := bindS e
  obtain ⟨l, e2, e⟩ := bindS e
  obtain ⟨u, e3, e⟩ := bindS e
  obtain ⟨r, e4, e⟩ := mapS e
  cases e
  refine tE_one S (fstE e1) fun v g1 H1 E1 S1 R1 => ?_
  refine tP_one S1 (fstE e2) fun g2 H2 E2 S2 => ?_
  refine tP_one S2 (fstE e3) fun g3 H3 E3 S3 => ?_
  rw [hK]
  exact ⟨g3, u.2, x.1.d, rs, S3.sy, ((R1.ext E2).ext E3).wk S3.sy, e4, fun v g4 H4 E4 Y4 R4 => k v g4 H4 (E1.trans (E2.trans (E3.trans E4))) Y4 (R4.older fun a h => E1.live a (E2.live a (E3.live a h)))⟩
theorem se_rev {k : Nat} {p1 p2 p3 : Pos} (hK : X.K = C.K) (ha : PE X a (tE C ma)) : PE X (.Subscript a (.Slice none none (some (.UnaryOp .USub (.Constant (.int 1) k p1) p2)) p3) pos) (tE C (.rev ma)) := (pe_revL ha).imp fun σ H Q h => by
  obtain ⟨g, env, st, rs, st', S, e, k⟩ := h
  rw [evE] at e
  obtain ⟨x, e1, e⟩ := bindS e
  refine tE_one S (fstE e1) fun v g1 H1 E1 S1 R1 => ?_
  have w := R1.wk S1.sy
  cases hd : x.1.d with
  | lst xs =>
    rw [hd] at e w
    cases e
    obtain ⟨a, vs, rfl, q, r⟩ := w
    refine ⟨a, vs, rfl, SqL.of q, fun p hp => ?_⟩
    have f := S1.sy.fresh hp
    exact k _ g1 _ (E1.trans (Ext.alloc hp)) (S1.sy.alloc hp) ⟨p, rfl, ⟨_, upd_same, r.reverse⟩, f.1, f.2, E1.live p hp⟩
  | _ => rw [hd] at e; cases e

/-! ### what is walked -/
theorem si_e {tg : Expr} (hK : X.K = C.K) (ha : PE X a (tE C ma)) : PI X tg a (tI C (.e ma)) := ((pi_list ha).or ((pi_tup ha).or (pi_str ha))).imp fun σ H R h => by
  obtain ⟨g, env, st, xs, b, st', S, e, k⟩ := h
  rw [evI] at e
  obtain ⟨x, e1, e⟩ := bindS e
  obtain ⟨ys, e2, e⟩ := mapS e
  cases e
  cases hd : x.1.d with
  | lst zs =>
    rw [hd] at e2
    cases e2
    refine .inl (tE_one S (fstE e1) fun v g1 H1 E1 S1 R1 => ?_)
    obtain ⟨a, g2, rfl, h1, E2, Y2, w⟩ := wk_lst S1.sy R1 hd E1
    rw [hK]
    exact ⟨a, rfl, h1, k _ g2 H1 E2 Y2 w⟩
  | tup zs =>
    rw [hd] at e2
    cases e2
    refine .inr (.inl (tE_one S (fstE e1) fun v g1 H1 E1 S1 R1 => ?_))
    obtain ⟨a, rfl, h1, w⟩ := wk_tup S1.sy R1 hd
    rw [hK]
    exact ⟨a, rfl, h1, k _ g1 H1 E1 S1.sy w⟩
  | str z =>
    rw [hd] at e2
    cases e2
    refine .inr (.inr (tE_one S (fstE e1) fun v g1 H1 E1 S1 R1 => ?_))
    obtain ⟨rfl, hv⟩ := rs_str R1 hd
    rw [hv] at k
    exact ⟨_, rfl, k _ g1 H1 E1 S1.sy wk_str⟩
  | _ => rw [hd] at e2; cases e2
theorem bnd_ok {i : Int} (h : bnd i = true) : -(2 ^ 62) ≤ i ∧ i < 2 ^ 62 := by
  unfold bnd at h
  simp only [Bool.and_eq_true, decide_eq_true_eq] at h
  exact h
theorem si_rng1 {tg : Expr} {ms : Es} (hg : Gl X "range") (hm : X.mg "range" = none) (ha : PA X [a] (tA C ms)) (hs : starEach [a] X.env = [(false, eval a X.env)]) (h1 : ∀ env st ds st', evEs C.W ms env st = some (ds, st') → ds.length = 1) :
    PI X tg (.Call (.Name "range" p) [a] [] pos) (tI C (.rng ms)) := (pi_range1 hg hm ha hs).imp fun σ H R h => by
  obtain ⟨g, env, st, xs, b, st', S, e, k⟩ := h
  rw [evI] at e
  obtain ⟨x, e1, e⟩ := bindS e
  obtain ⟨ys, e2, e⟩ := mapS e
  cases e
  have hl := h1 _ _ _ _ (fstE e1)
  refine tA_one S (fstE e1) fun vs g1 H1 E1 S1 R1 => ?_
  unfold rngOf at e2
  split at e2
  · rename_i j hj
    obtain ⟨hz, rfl⟩ := iteS e2
    rw [hj] at R1
    cases R1 with
    | cons q r =>
      cases r; cases q
      exact ⟨j, rfl, (bnd_ok hz).1, (bnd_ok hz).2, k _ g1 H1 E1 S1.sy (wk_fn (f := fun i => 0 + (i : Nat)) walk_range)⟩
  · rename_i i j hj; rw [hj] at hl; cases hl
  · rename_i i j c hj; rw [hj] at hl; cases hl
  · cases e2
theorem si_rng2 {tg : Expr} {ms : Es} (hg : Gl X "range") (hm : X.mg "range" = none) (ha : PA X [a, b] (tA C ms)) (hs : starEach [a, b] X.env = [(false, eval a X.env), (false, eval b X.env)]) (hs2 : starEach [b] X.env = [(false, eval b X.env)])
    (h1 : ∀ env st ds st', evEs C.W ms env st = some (ds, st') → ds.length = 2) :
    PI X tg (.Call (.Name "range" p) [a, b] [] pos) (tI C (.rng ms)) := (pi_range2 hg hm ha hs hs2).imp fun σ H R h => by
  obtain ⟨g, env, st, xs, b, st', S, e, k⟩ := h
  rw [evI] at e
  obtain ⟨x, e1, e⟩ := bindS e
  obtain ⟨ys, e2, e⟩ := mapS e
  cases e
  have hl := h1 _ _ _ _ (fstE e1)
  refine tA_one S (fstE e1) fun vs g1 H1 E1 S1 R1 => ?_
  unfold rngOf at e2
  split at e2
  · rename_i j hj; rw [hj] at hl; cases hl
  · rename_i i j hj
    obtain ⟨hz, rfl⟩ := iteS e2
    rw [Bool.and_eq_true] at hz
    rw [hj] at R1
    cases R1 with
    | cons q r =>
      cases r with
      | cons q' r =>
        cases r; cases q; cases q'
        exact ⟨i, j, rfl, ⟨(bnd_ok hz.1).1, (bnd_ok hz.1).2, (bnd_ok hz.2).1, (bnd_ok hz.2).2⟩, k _ g1 H1 E1 S1.sy (wk_fn (f := fun n => i + (n : Nat)) walk_range)⟩
  · rename_i i j c hj; rw [hj] at hl; cases hl
  · cases e2
theorem si_rng3 {tg : Expr} {ms : Es} (hg : Gl X "range") (hm : X.mg "range" = none) (ha : PA X [a, b, c] (tA C ms)) (hs : starEach [a, b, c] X.env = (false, eval a X.env) :: starEach [b, c] X.env) (hpl : (backTo pos (starEach [b, c] X.env)).any (·.1) = false)
    (h1 : ∀ env st ds st', evEs C.W ms env st = some (ds, st') → ds.length = 3) :
    PI X tg (.Call (.Name "range" p) [a, b, c] [] pos) (tI C (.rng ms)) := (pi_range3 hg hm ha hs hpl).imp fun σ H R h => by
  obtain ⟨g, env, st, xs, b, st', S, e, k⟩ := h
  rw [evI] at e
  obtain ⟨x, e1, e⟩ := bindS e
  obtain ⟨ys, e2, e⟩ := mapS e
  cases e
  have hl := h1 _ _ _ _ (fstE e1)
  refine tA_one S (fstE e1) fun vs g1 H1 E1 S1 R1 => ?_
  unfold rngOf at e2
  split at e2
  · rename_i j hj; rw [hj] at hl; cases hl
  · rename_i i j hj; rw [hj] at hl; cases hl
  · rename_i i j c hj
    split at e2
    · rename_i hz
      rw [Bool.and_eq_true] at hz
      split at e2
      · rename_i hc
        subst hc
        cases e2
        rw [hj] at R1
        cases R1 with
        | cons q r =>
          cases r with
          | cons q' r =>
            cases r with
            | cons q'' r =>
              cases r; cases q; cases q'; cases q''
              exact ⟨i, j, -1, _, rfl, RgC.neg (bnd_ok hz.1).1 (bnd_ok hz.1).2 (bnd_ok hz.2).1 (bnd_ok hz.2).2, k _ g1 H1 E1 S1.sy (wk_fn (f := fun n => i + (n : Nat) * (-1)) walk_rangeC)⟩
      · cases e2
    · cases e2
  · cases e2
end
end MW
set_option Elab.async false
set_option linter.all false
set_option maxRecDepth 100000
set_option maxHeartbeats 4000000
set_option autoImplicit false
/-! sorted(set(..)) as a construct. -/
namespace MW
open PySem PySem.Spec PyProof.Rows L2

def TxSO (w : World) (a : Addr) (M : Str → Bool) (n : Nat) : HO := .ext fun h => TxS w h a M n
theorem txSO_new {w : World} {P : Program} {H : Hp} {h : Heap} {a : Addr} {M : Str → Bool} {n : Nat} (R : TxS w h a M n) : ObjOk P w H h a (TxSO w a M n) := by
  have R2 := R
  obtain ⟨ob, _, _, _, hob, _⟩ := R2
  exact ⟨R, ⟨ob, hob⟩, fun _ _ p k => TxS.stay p k⟩
def stS' (x : List Nat) : Str := ⟨x.toArray⟩
section
variable {X : Cx} {C : Ct} {a : Expr} {ma : E} {pos p p2 pos2 : Pos}
theorem vals_strs : ∀ {zs : List (List Nat)} {us : List Value}, Vals (zs.map fun x => V.str (stS' x)) us → StrsAre us (zs.map stS')
  | [], _, h => by cases h; exact .nil
  | z :: zs, _, h => by
    cases h with
    | cons r t =>
      obtain ⟨tk, rfl⟩ := r
      exact .cons _ tk (vals_strs t)
/-- set(a list of texts) -/
def rSetTx (K : PySem.W.Frag) (w : World) : List V → Hp → VK → Prop := fun xs H Q => ∃ (l : Addr) (zs : List (List Nat)), xs = [V.ref l] ∧ H l = some (.lst (zs.map fun x => V.str (stS' x))) ∧ zs.length + 1 < 4096 ∧
  ∀ q, H q = none → Q (.ref q) (upd H q (TxSO w q (memT (zs.map stS') (zs.map stS').length) (cntT (zs.map stS') (zs.map stS').length)))
theorem cr_setTx (hc : X.calm = true) : CallR X (.type "set") (rSetTx X.K X.w) := by
  intro pins s σ H xs us Q I r h
  obtain ⟨l, zs, rfl, hl, room, q⟩ := h
  obtain ⟨its, rv, il, _⟩ := I.list (SqL.of (K := X.K) hl)
  rw [Vals.ref1 r]
  refine tx_call (I.ok.hd hc) il.isList (vals_strs (by simpa using rv)) (by rw [List.length_map]; exact room) fun h' tk hT hk => ?_
  have J := I.laid (h' := h') (t' := tk) (a := s.heap.objs.size) hk (Nat.le_refl _) (txSO_new hT)
  exact ⟨.ref _, _, J, rfl, q _ (I.hok.fresh (Nat.le_refl _))⟩
/-- sorted(it) -/
def rSortTx (w : World) : List V → Hp → VK → Prop := fun xs H Q => ∃ (l : Addr) (M : Str → Bool) (n : Nat), xs = [V.ref l] ∧ H l = some (TxSO w l M n) ∧
  ∀ (ks : List Str) (q : Addr), (ks.map fun k => k.cps.toList).Pairwise (fun a b => leT a b = true) → ks.Nodup → (∀ k, k ∈ ks ↔ M k = true) → H q = none → Q (.ref q) (upd H q (.lst (ks.map V.str)))
theorem cr_sortTx {kr : Nat} (hr : Room kr X.A) (hc : X.calm = true) : CallR X (.builtin "sorted") (rSortTx X.w) := by
  intro pins s σ H xs us Q I r h
  obtain ⟨l, M, n, rfl, hl, q⟩ := h
  rw [Vals.ref1 r]
  have R : TxS X.w s.heap l M n := (I.hok l _ hl).1
  have bn : n < 4096 := by obtain ⟨_, _, _, _, _, _, _, _, _, _, be, _, ne, _⟩ := R; rw [← ne]; exact be
  refine tx_sorted R (I.ok.hd hc) hr.units fun s' pp out c ks k1 g1 o1 hz hc' hv hs hd hm hn => ?_
  have zl : (ks.map V.str).length ≤ sizeLine := by rw [List.length_map, hn, sizeLine_eq]; omega
  have hpn : H pp = none := I.hok.fresh hz
  have J : Inv X pins σ (upd H pp (.lst (ks.map V.str))) { s with heap := s'.heap, gens := s'.gens, drawn := s'.drawn, toks := s'.toks } :=
    I.call (ch := []) (Un.laid k1 hz hpn) (I.hok.laid k1 hz ⟨zl, out, c, hv, hc'⟩) (by rw [g1]; exact I.bare) (fun _ z => nomatch z)
  have e : s' = { s with heap := s'.heap, gens := s'.gens, drawn := s'.drawn, toks := s'.toks } := by
    cases s'; cases s; cases o1; rfl
  rw [e]
  exact ⟨.ref pp, _, J, rfl, q ks pp hs hd hm hpn⟩
theorem boot_sorted' : bootBuiltins "sorted" = some (.builtin "sorted") := by decide +kernel
theorem memT_all {zs : List (List Nat)} {k : Str} : memT (zs.map stS') (zs.map stS').length k = true ↔ k.cps.toList ∈ zs := by
  unfold memT
  rw [List.take_length, List.any_eq_true]
  constructor
  · rintro ⟨y, hy, e⟩
    obtain ⟨z, hz, rfl⟩ := List.mem_map.mp hy
    have e := of_decide_eq_true e
    subst e
    exact hz
  · intro h
    refine ⟨stS' k.cps.toList, List.mem_map_of_mem h, decide_eq_true ?_⟩
    unfold stS'
    simp
end
end MW
set_option Elab.async false
set_option linter.all false
set_option maxRecDepth 100000
set_option maxHeartbeats 4000000
set_option autoImplicit false
/-! Sets of tuples of texts: what is asked of one tuple; the search; one put in. -/
namespace MW
open PySem PySem.Spec PyProof.Rows L2

abbrev TpAt (P : Program) (w : World) (h : Heap) (k : List Str) (b : Addr) : Prop := IsTupleKey (strKind P w) h k b
abbrev hsT (P : Program) (w : World) (k : List Str) : Int := tupleKeyHash (strKind P w) k
section
variable {P : Program} {w : World} {A : Around} {E : Value → Shared → Prop} {s : Shared}
theorem all_texts {k : List Str} {vs : List Value} (h : ItemsAre (strKind P w) k vs) : ∀ v ∈ vs, ∃ x t, v = Value.str x t := by
  induction h with
  | nil => exact fun v z => nomatch z
  | @cons x v' ks vs h1 _ ih =>
    intro v z
    rcases List.mem_cons.mp z with rfl | z
    · obtain ⟨t, e⟩ := Value.isStrOf_shape (show Value.isStrOf x v = true from h1)
      exact ⟨x, t, e⟩
    · exact ih v z
theorem cls_text (n : Nat) (x : Str) (t : Tok) : ofAClassStatement n (.str x t) = pure false := by cases n <;> rfl
theorem val_text (n : Nat) (x : Str) (t : Tok) : hashByValue n (.str x t) = pure false := hashByValue_scannable n (x := .str x t) rfl
/-- the state and the answer so far: nothing found, only texts ahead -/
abbrev StillT (s : Shared) (rest : List Value) (r : Option Bool × Unit) (s' : Shared) : Prop := r.1 = none ∧ s' = s ∧ ∀ v ∈ rest, ∃ x t, v = Value.str x t
theorem cls_tup {k : List Str} {b : Addr} {Q : Bool → Shared → Prop} (tp : TpAt P w s.heap k b) (q : Q false s) : wpAny (model P w) A (ofAClassStatement 8 (.ref b)) Q E s := by
  have ty := tp.typeIs
  obtain ⟨ob, its, n, at_, _, dt, each⟩ := tp
  unfold ofAClassStatement
  refine wpAny_bind (wpAny_typeOf ty ?_)
  dsimp only
  simp only [show (("tuple" : String) == "tuple") = true by decide, if_true, Bool.not_true, Bool.false_eq_true, if_false]
  show wpAny _ _ (seqItems? (.ref b) >>= _) _ _ s
  refine wpAny_bind (wpAny_seqItems at_ dt ?_)
  dsimp only
  refine wpAny_bind ?_
  show wpAny _ _ (forIn its _ _) _ _ s
  rw [← Array.forIn_toList]
  refine wpAny_forIn_list _ (fun rest r s' => r.1 = none ∧ s' = s ∧ ∀ v ∈ rest, ∃ x t, v = Value.str x t) _ (fun v rest r s' z => ?_) (fun r s' z => ?_) _ _ ⟨rfl, rfl, all_texts each⟩
  · obtain ⟨r0, rfl, al⟩ := z
    obtain ⟨x, t, rfl⟩ := al v List.mem_cons_self
    rw [cls_text]
    refine wpAny_bind (wpAny_pure ?_)
    simp only [Bool.false_eq_true, if_false]
    exact wpAny_pure ⟨rfl, rfl, fun u z => al u (List.mem_cons_of_mem _ z)⟩
  · obtain ⟨r1, r2⟩ := r
    obtain ⟨r0, rfl, _⟩ := z
    cases r0
    exact wpAny_pure q
theorem val_tup {k : List Str} {b : Addr} {Q : Bool → Shared → Prop} (tp : TpAt P w s.heap k b) (q : ∀ d, Q d s) : wpAny (model P w) A (hashByValue 8 (.ref b)) Q E s := by
  have ty := tp.typeIs
  obtain ⟨ob, its, n, at_, _, dt, each⟩ := tp
  unfold hashByValue
  refine wpAny_bind (wpAny_specialOf ty F.slot_tuple_hash.lookup ?_)
  show wpAny _ _ (seqItems? (.ref b) >>= _) _ _ s
  refine wpAny_bind (wpAny_seqItems at_ dt (wpAny_bind ?_))
  show wpAny _ _ (forIn its _ _) _ _ s
  rw [← Array.forIn_toList]
  refine wpAny_forIn_list _ (fun rest r s' => r.1 = none ∧ s' = s ∧ ∀ v ∈ rest, ∃ x t, v = Value.str x t) _ (fun v rest r s' z => ?_) (fun r s' z => ?_) _ _ ⟨rfl, rfl, all_texts each⟩
  · obtain ⟨r0, rfl, al⟩ := z
    obtain ⟨x, t, rfl⟩ := al v List.mem_cons_self
    rw [val_text]
    refine wpAny_bind (wpAny_pure ?_)
    simp only [Bool.not_false, if_true]
    exact wpAny_pure (wpAny_pure (q false))
  · obtain ⟨r1, r2⟩ := r
    obtain ⟨r0, rfl, _⟩ := z
    cases r0
    exact wpAny_pure (q true)
/-- some tuple of texts -/
abbrev SomeT (P : Program) (w : World) (h : Heap) (v : Value) : Prop := ∃ k b, v = Value.ref b ∧ TpAt P w h k b
theorem unseen_tup {k : List Str} {b : Addr} {Q : Bool → Shared → Prop} (tp : TpAt P w s.heap k b) {ys : List Value} (al : ∀ y ∈ ys, SomeT P w s.heap y) (q : Q false s) : wpAny (model P w) A (searchCouldBeSeen (.ref b) ys) Q E s := by
  unfold searchCouldBeSeen
  refine wpAny_bind (wpAny_forIn_list _ (fun rest r s' => r.1 = none ∧ s' = s ∧ ∀ y ∈ rest, SomeT P w s.heap y) _ (fun v rest r s' z => ?_) (fun r s' z => ?_) _ _ ⟨rfl, rfl, al⟩)
  · obtain ⟨r0, rfl, al⟩ := z
    obtain ⟨k', c, rfl, tp'⟩ := al v List.mem_cons_self
    have next : r.1 = none ∧ s' = s' ∧ ∀ y ∈ rest, SomeT P w s'.heap y := ⟨r0, rfl, fun u z => al u (List.mem_cons_of_mem _ z)⟩
    dsimp only
    by_cases bc : (b == c || (carriedByValue (.ref b) && carriedByValue (.ref c))) = true
    · exact wp_if_pos bc (wpAny_pure ⟨rfl, next.2⟩)
    · refine wp_if_neg bc (wpAny_bind (wpAny_eqIsQuiet_tuple tp ?_))
      simp only [Bool.not_true, Bool.false_eq_true, if_false]
      refine wpAny_bind (wpAny_eqIsQuiet_tuple tp' ?_)
      simp only [Bool.not_true, Bool.false_eq_true, if_false]
      refine wpAny_bind (cls_tup tp ?_)
      simp only [Bool.false_eq_true, if_false]
      refine wpAny_bind (cls_tup tp' ?_)
      simp only [Bool.false_eq_true, if_false]
      exact wpAny_pure ⟨rfl, next.2⟩
  · obtain ⟨r1, r2⟩ := r
    obtain ⟨r0, rfl, _⟩ := z
    cases r0
    exact wpAny_pure q

/-! ### the set -/
def entT (P : Program) (w : World) (L : List (Addr × List Str)) : List (Int × Value) := L.map fun p => (hsT P w p.2, Value.ref p.1)
/-- at a the set of the tuples L -/
structure TpSet (P : Program) (w : World) (h : Heap) (a : Addr) (L : List (Addr × List Str)) (es : Array (Int × Value)) (ep : Nat) (t : SetTable) : Prop where
  obj : ∃ o, h.get? a = some o ∧ o.ExactSet ∧ o.data = .set es ep t
  ent : es.toList = entT P w L
  tab : TabOk t (L.map fun p => hsT P w p.2)
  one : (L.map (·.2)).Nodup
  tps : ∀ p ∈ L, TpAt P w h p.2 p.1
  led : w.params.followText "set-order" = true ∨ t.led = true
  room : L.length * 5 < t.mask * 3
  few : L.length < 64
theorem entT_len {L : List (Addr × List Str)} {es : Array (Int × Value)} (h : es.toList = entT P w L) : es.size = L.length := by
  rw [← Array.length_toList, h, entT, List.length_map]
theorem entT_at {L : List (Addr × List Str)} {es : Array (Int × Value)} (h : es.toList = entT P w L) {i : Nat} {p : Addr × List Str} (e : L[i]? = some p) : es[i]? = some (hsT P w p.2, Value.ref p.1) := by
  rw [← Array.getElem?_toList, h, entT, List.getElem?_map, e, Option.map_some]
variable {a : Addr} {L : List (Addr × List Str)} {es : Array (Int × Value)} {ep : Nat} {t : SetTable}
theorem tab_fits (T : TabOk t (L.map fun p => hsT P w p.2)) (n : es.size = L.length) (r : L.length ≤ t.mask) : t.fits es.size = true := by
  have z := T.sz
  rw [List.length_map] at z
  unfold SetTable.fits SetTable.fill
  rw [T.dm, Bool.and_eq_true, beq_iff_eq, decide_eq_true_eq]
  exact ⟨by omega, show t.place.size + 0 ≤ t.mask by omega⟩
theorem TpSet.fits (R : TpSet P w s.heap a L es ep t) : t.fits es.size = true := tab_fits R.tab (entT_len R.ent) (by have := R.room; omega)
theorem adv_mute (m : Nat) : ∀ (n : Nat) (p : SetTable.Probe), p.dummy = none → (nth m p n).dummy = none
  | 0, p, h => h
  | n + 1, p, h => adv_mute m n (adv m p) (by unfold adv; split <;> exact h)
/-- where a search for k begins -/
abbrev beg (P : Program) (w : World) (t : SetTable) (k : List Str) : SetTable.Probe := runAt t.mask (SetTable.bits (hsT P w k) % (t.mask + 1)) (SetTable.bits (hsT P w k))
abbrev stp (P : Program) (w : World) (t : SetTable) (k : List Str) (c : Nat) : Nat := way t.mask (hsT P w k) c
/-- from the c-th step on: k is there, or the first empty slot is told -/
theorem seek (R : TpSet P w s.heap a L es ep t) {x : Addr} {k : List Str} (tp : TpAt P w s.heap k x) (hu : A.units < cLine) {K : Nat} (hb : K < 10 * SetTable.turns t.mask)
    (free : stp P w t k K ∉ t.place.toList) (full : ∀ c, c < K → stp P w t k c ∈ t.place.toList) {Q : SetFound → Shared → Prop}
    (yes : k ∈ L.map (·.2) → Q (.there none) s) (no : k ∉ L.map (·.2) → Q (.free (stp P w t k K) false) s) :
    ∀ (f c : Nat) (from_ : Option SetTable.Probe), from_.getD (t.probeStart (hsT P w k)) = nth t.mask (beg P w t k) c → c ≤ K → K - c < f →
      (∀ (i : Nat) p, L[i]? = some p → p.2 = k → ∃ c', c ≤ c' ∧ c' < K ∧ t.place.toList[i]? = some (stp P w t k c')) →
      wpAny (model P w) A (setSearchFrom a (.ref x) (hsT P w k) true f from_) Q E s := by
  intro f
  induction f with
  | zero => exact fun c _ _ _ z _ => absurd z (Nat.not_lt_zero _)
  | succ f ih =>
    intro c from_ hfr cK left ahead
    obtain ⟨ob, at_, ex, dt⟩ := R.obj
    have sum : ∀ q, nth t.mask (nth t.mask (beg P w t k) c) q = nth t.mask (beg P w t k) (c + q) := fun q => (nth_add t.mask c _ q).symm
    have slot : ∀ q, (nth t.mask (nth t.mask (beg P w t k) c) q).j = stp P w t k (c + q) := fun q => congrArg SetTable.Probe.j (sum q)
    have last : c + (K - c) = K := by omega
    have hash_at : ∀ (i : Nat) p, L[i]? = some p → (fun i => (es[i]?.map (·.1)).getD 0) i = hsT P w p.2 := fun i p e => by
      show (es[i]?.map (·.1)).getD 0 = _
      rw [entT_at R.ent e]; rfl
    rw [setSearchFrom_succ]
    refine wpAny_bind (wpAny_setState_of at_ dt R.fits ?_)
    dsimp only
    refine wp_if_neg (by unfold SetTable.gaveWay; rw [mask_odd R.tab.mok]; decide) ?_
    try refine wpAny_bind (wpAny_pure ?_)
    rcases go_spec t R.tab.ris R.tab.dm (fun i => (es[i]?.map (·.1)).getD 0) (hsT P w k) (10 * SetTable.turns t.mask) (K - c) _ (adv_mute t.mask c (beg P w t k) rfl) (by omega)
      (fun q z => by rw [slot]; exact full _ (by omega)) (by rw [slot, last]; exact free) with ⟨q, i, qK, pl, same, none_before, pr⟩ | ⟨none_, pr⟩
    · have pr' : t.probe (fun i => (es[i]?.map (·.1)).getD 0) (hsT P w k) (from_.getD (t.probeStart (hsT P w k))) = some (.candidate (stp P w t k (c + q)) i (nth t.mask (beg P w t k) (c + (q + 1)))) := by
        rw [hfr, ← slot, ← sum]; exact pr
      rw [slot] at pl
      have iL : i < L.length := by
        have z := (List.getElem?_eq_some_iff.mp pl).1
        have z2 := R.tab.sz
        rw [List.length_map] at z2
        rw [Array.length_toList] at z
        omega
      obtain ⟨p, ep'⟩ : ∃ p, L[i]? = some p := ⟨_, List.getElem?_eq_getElem iL⟩
      have pL : p ∈ L := List.mem_of_getElem? ep'
      have live := slot_live R.tab.ris pl
      have tail : wpAny (model P w) A (searchRest a (.ref x) (hsT P w k) true f es t (stp P w t k (c + q)) i (nth t.mask (beg P w t k) (c + (q + 1)))) Q E s := by
        unfold searchRest
        rw [entT_at R.ent ep']
        dsimp only
        refine wpAny_bind (wpAny_holding (wpAny_eqBool_tuple hu (R.tps p pL) tp (wpAny_bind (wpAny_setState_of at_ dt R.fits ?_))))
        dsimp only
        by_cases pk : p.2 = k
        · exact wp_if_pos (by simp [pk]) (wpAny_pure (yes (List.mem_map.mpr ⟨p, pL, pk⟩)))
        · refine wp_if_neg (by simp [pk]) ?_
          try refine wpAny_bind (wpAny_pure ?_)
          rw [sameMem]
          dsimp only
          simp only [if_true, live, entT_at R.ent ep']
          refine wpAny_bind (wpAny_isSame_ref_self (wpAny_bind (wpAny_pure ?_)))
          simp only [if_true]
          refine wp_if_neg (by simp [pk]) (ih (c + (q + 1)) _ rfl (by omega) (by omega) fun i0 p0 e0 k0 => ?_)
          obtain ⟨c', h1, h2, h3⟩ := ahead i0 p0 e0 k0
          refine ⟨c', ?_, h2, h3⟩
          rcases Nat.lt_trichotomy c' (c + q) with z | z | z
          · exact absurd ((hash_at i0 p0 e0).trans (congrArg (hsT P w) k0)) (none_before (c' - c) i0 (by omega) (by rw [slot, show c + (c' - c) = c' by omega]; exact h3))
          · rw [z] at h3
            have l2 := slot_live R.tab.ris h3
            rw [live] at l2
            cases l2
            rw [ep'] at e0
            cases e0
            exact absurd k0 pk
          · omega
      rw [pr']
      dsimp only
      by_cases ld : t.led = true
      · refine wp_if_neg (by simp [ld]) ?_
        try refine wpAny_bind (wpAny_pure ?_)
        exact tail
      · refine wp_if_pos (by simp [ld]) (wpAny_bind (unseen_tup tp (fun y hy => ?_) (wp_if_neg (by decide) ?_)))
        · obtain ⟨e, he, rfl⟩ := List.mem_map.mp hy
          have he' : e ∈ es.toList := by simpa using (show e ∈ es ∧ e.1 = hsT P w k by simpa using he).1
          rw [R.ent] at he'
          obtain ⟨p2, m2, rfl⟩ := List.mem_map.mp he'
          exact ⟨p2.2, p2.1, rfl, R.tps p2 m2⟩
        · try refine wpAny_bind (wpAny_pure ?_)
          exact tail
    · have pr' : t.probe (fun i => (es[i]?.map (·.1)).getD 0) (hsT P w k) (from_.getD (t.probeStart (hsT P w k))) = some (.empty (stp P w t k K) none) := by
        have z := slot (K - c)
        rw [last] at z
        rw [hfr, ← z]; exact pr
      rw [pr']
      dsimp only
      refine wpAny_pure (no fun m => ?_)
      obtain ⟨p0, m0, k0⟩ := List.mem_map.mp m
      obtain ⟨i0, e0⟩ := List.getElem?_of_mem m0
      obtain ⟨c', h1, h2, h3⟩ := ahead i0 p0 e0 k0
      exact none_ (c' - c) i0 (by omega) (by rw [slot, show c + (c' - c) = c' by omega]; exact h3) ((hash_at i0 p0 e0).trans (congrArg (hsT P w) k0))
end
end MW
set_option Elab.async false
set_option linter.all false
set_option maxRecDepth 100000
set_option maxHeartbeats 4000000
set_option autoImplicit false
/-! Sets of tuples of texts: one put in, the table laid anew, set(list). -/
namespace MW
open PySem PySem.Spec PyProof.Rows L2
theorem get_all {α : Type} : ∀ L : List α, (List.range L.length).filterMap (fun i => L[i]?) = L
  | [] => rfl
  | x :: L => by
    have ih := get_all L
    rw [List.length_cons, List.range_succ_eq_map, List.filterMap_cons]
    simp only [List.getElem?_cons_zero]
    rw [List.filterMap_map]
    exact congrArg (x :: ·) ih
theorem fm_map {α β : Type} {f : α → Option β} {g : α → β} : ∀ l : List α, (∀ i ∈ l, f i = some (g i)) → l.filterMap f = l.map g
  | [], _ => rfl
  | i :: l, h => by
    rw [List.filterMap_cons, h i List.mem_cons_self, List.map_cons, fm_map l fun j z => h j (List.mem_cons_of_mem _ z)]
theorem mid_perm {α : Type} (L : List α) (p : Nat) (x : α) : (L.take p ++ x :: L.drop p).Perm (x :: L) := by
  have h : (L.take p ++ x :: L.drop p).Perm (x :: (L.take p ++ L.drop p)) := List.perm_middle
  rwa [List.take_append_drop] at h
theorem dull {t : SetTable} {hs : List Int} (T : TabOk t hs) : TabOk { t with plain := false } hs := ⟨T.ris, T.dm, T.sz, T.mok, T.bd, T.reach⟩
section
variable {P : Program} {w : World} {A : Around} {E : Value → Shared → Prop} {s : Shared} {a : Addr} {L : List (Addr × List Str)} {es : Array (Int × Value)} {ep : Nat} {t : SetTable}
theorem seek_put (R : TpSet P w s.heap a L es ep t) {x : Addr} {k : List Str} (tp : TpAt P w s.heap k x) (hu : A.units < cLine) {Q : SetFound → Shared → Prop} (yes : k ∈ L.map (·.2) → Q (.there none) s)
    (no : ∀ K, k ∉ L.map (·.2) → stp P w t k K ∉ t.place.toList → (∀ c, c < K → stp P w t k c ∈ t.place.toList) → Q (.free (stp P w t k K) false) s) : wpAny (model P w) A (setSearch a (.ref x) (hsT P w k) true) Q E s := by
  have rm := R.room
  obtain ⟨K, hb, free, full⟩ := R.tab.first (by rw [List.length_map]; omega) (hsT P w k)
  have small : K < 100000 := by
    have : 10 * SetTable.turns t.mask ≤ 1420 := by
      unfold SetTable.turns
      rcases R.tab.mok with e | e | e <;> omega
    omega
  unfold setSearch
  refine seek R tp hu hb free full yes (fun z => no K z free full) 100000 0 none rfl (Nat.zero_le _) (by omega) fun i p e pk => ?_
  have z := (List.getElem?_eq_some_iff.mp e).1
  have z2 := R.tab.sz
  rw [List.length_map] at z2
  have il : i < t.place.toList.length := by rw [Array.length_toList]; omega
  obtain ⟨c, cK, pe⟩ := R.tab.before free (i := i) (h := hsT P w k) (by rw [List.getElem?_map, e, Option.map_some, pk]) (List.getElem?_eq_getElem il)
  exact ⟨c, Nat.zero_le _, cK, by rw [List.getElem?_eq_getElem il, ← pe]⟩
/-- a tuple is not the set: it stays -/
theorem tp_same {h h' : Heap} {k : List Str} {b : Addr} {o : Obj} {es : Array (Int × Value)} {ep : Nat} {t : SetTable} (tp : TpAt P w h k b) (ho : h.get? a = some o) (hd : o.data = .set es ep t) (sb : Heap.SameBut a h h') : TpAt P w h' k b := by
  obtain ⟨o', its, n, at_, c, dt, each⟩ := tp
  refine ⟨o', its, n, (sb.2 b fun z => ?_).trans at_, c, dt, each⟩
  rw [z, ho] at at_
  cases at_
  rw [hd] at dt
  cases dt
theorem tp_stay {h h' : Heap} {k : List Str} {b : Addr} (tp : TpAt P w h k b) (st : ∀ c o, h.get? c = some o → h'.get? c = some o) : TpAt P w h' k b := by
  obtain ⟨o', its, n, at_, r⟩ := tp
  exact ⟨o', its, n, st b o' at_, r⟩
/-- entries in another order -/
theorem reorder (order : Array Nat) (ent : es.toList = entT P w L) (pm : order.toList.Perm (List.range L.length)) :
    ∃ L2, (order.filterMap (es[·]?)).toList = entT P w L2 ∧ L2.Perm L ∧ (L2.map fun p => hsT P w p.2) = order.toList.map fun i => (es.map (·.1)).getD i 0 := by
  have g : ∀ i : Nat, es[i]? = (L[i]?).map fun p => (hsT P w p.2, Value.ref p.1) := fun i => by rw [← Array.getElem?_toList, ent, entT, List.getElem?_map]
  refine ⟨order.toList.filterMap fun i => L[i]?, ?_, ?_, ?_⟩
  · rw [Array.toList_filterMap, entT, List.map_filterMap]
    exact congrArg (fun f => List.filterMap f order.toList) (funext g)
  · have z := pm.filterMap fun i => L[i]?
    rwa [get_all] at z
  · rw [List.map_filterMap]
    refine fm_map _ fun i hi => ?_
    have lt : i < L.length := List.mem_range.mp (pm.mem_iff.mp hi)
    have e1 : (es.map (·.1))[i]? = some (hsT P w (L[i]).2) := by rw [Array.getElem?_map, g i, List.getElem?_eq_getElem lt]; rfl
    rw [List.getElem?_eq_getElem lt]
    simp [Array.getD_eq_getD_getElem?, e1]
/-- the table grows -/
theorem regrow {o : Obj} (at_ : s.heap.get? a = some o) (ex : o.ExactSet) (dt : o.data = .set es ep t) (ent : es.toList = entT P w L) (T : TabOk t (L.map fun p => hsT P w p.2)) (lm : L.length ≤ t.mask)
    (one : (L.map (·.2)).Nodup) (tps : ∀ p ∈ L, TpAt P w s.heap p.2 p.1) (led : w.params.followText "set-order" = true ∨ t.led = true) (few : L.length < 64) {wanted M : Nat}
    (sz : SetTable.sizeAbove wanted - 1 = M) (mok : MaskOk M) (sz2 : SetTable.sizeAbove wanted ≤ 128) (rm : L.length * 5 < M * 3) {Q : Unit → Shared → Prop}
    (fin : ∀ h' L' es' ep' t', Heap.SameBut a s.heap h' → TpSet P w h' a L' es' ep' t' → L'.Perm L → Q () { s with heap := h' }) : wpAny (model P w) A (setRelay a wanted) Q E s := by
  have n := entT_len ent
  obtain ⟨t', order, e, pm, T', em, el, _, _⟩ := relaid_ok t (hs := es.map (·.1)) (wanted := wanted) sz mok (by rw [Array.size_map, n]; omega)
  rw [Array.size_map, n] at pm
  obtain ⟨L2, e2, p2, h2⟩ := reorder order ent pm
  rw [← h2] at T'
  have n2 : (order.filterMap (es[·]?)).size = es.size := by rw [entT_len e2, p2.length_eq, n]
  rw [setRelay_eq]
  refine wpAny_bind (wpAny_setState_of at_ dt (tab_fits T n lm) ?_)
  dsimp only
  refine wp_if_neg (by rw [sizeLine_eq]; omega) ?_
  try refine wpAny_bind (wpAny_pure ?_)
  rw [e]
  dsimp only
  refine wpAny_bind (wp_if_neg (by rw [n2]; simp) ?_)
  try refine wpAny_bind (wpAny_pure ?_)
  refine wpAny_pure ?_
  dsimp only
  have sb : Heap.SameBut a s.heap (s.heap.update a (Obj.putSet (order.filterMap (es[·]?)) t')) := Heap.SameBut.update ..
  refine wpAny_storeSet_of at_ dt (fin _ L2 (order.filterMap (es[·]?)) (ep + 1) t' sb ⟨⟨_, store_at at_ dt, ⟨ex.1, ex.2.1, ex.2.2⟩, rfl⟩, e2, T', (p2.map (·.2)).nodup_iff.mpr one, fun p m => tp_same (tps p (p2.mem_iff.mp m)) at_ dt sb, by rw [el]; exact led, by rw [p2.length_eq, em]; exact rm, by rw [p2.length_eq]; exact few⟩ p2) (by rw [n2, n, sizeLine_eq]; omega)
/-- one put in -/
theorem put_tup (R : TpSet P w s.heap a L es ep t) {x : Addr} {k : List Str} (tp : TpAt P w s.heap k x) (hu : A.units < cLine) (few : L.length + 1 < 64) {Q : Bool → Shared → Prop}
    (fin : ∀ b h' L' es' ep' t', Heap.SameBut a s.heap h' → TpSet P w h' a L' es' ep' t' → (k ∈ L.map (·.2) → L' = L) → (k ∉ L.map (·.2) → L'.Perm ((x, k) :: L)) → Q b { s with heap := h' }) :
    wpAny (model P w) A (setAddHashed a (.ref x) (hsT P w k)) Q E s := by
  obtain ⟨o, at_, ex, dt⟩ := R.obj
  have n := entT_len R.ent
  have rm := R.room
  unfold setAddHashed
  refine wpAny_holding ?_
  rw [show (100000 : Nat) = 99999 + 1 from rfl, setAddHashedIn_succ]
  refine wpAny_bind (wpAny_setState_of at_ dt R.fits ?_)
  dsimp only
  refine wp_if_neg (by simp [byScan, Value.scannable]) ?_
  try refine wpAny_bind (wpAny_pure ?_)
  refine wpAny_bind (seek_put R tp hu (fun m => ?_) fun K m free full => ?_)
  · dsimp only
    exact wpAny_pure (fin false s.heap L es ep t (Heap.SameBut.refl a s.heap) R (fun _ => rfl) fun z => absurd m z)
  · dsimp only
    refine wpAny_bind (wpAny_setState_of at_ dt R.fits ?_)
    dsimp only
    obtain ⟨e1, le, T1, m1, l1, _, _, _, f1⟩ := R.tab.put free full
    generalize t.put (way t.mask (hsT P w k) K) = pt at e1 T1 m1 l1 f1 ⊢
    obtain ⟨t1, p⟩ := pt
    dsimp only at e1 T1 m1 l1 f1 ⊢
    subst e1
    generalize SetTable.below t.place (way t.mask (hsT P w k) K) = p at le T1 ⊢
    have ent1 : (SetTable.insertAt es p (hsT P w k, Value.ref x)).toList = entT P w (L.take p ++ (x, k) :: L.drop p) := by
      rw [SetTable.toList_insertAt, R.ent]
      unfold entT
      rw [List.map_append, List.map_cons, List.map_take, List.map_drop]
    have hh : (L.take p ++ (x, k) :: L.drop p).map (fun p => hsT P w p.2) = (L.map fun p => hsT P w p.2).take p ++ hsT P w k :: (L.map fun p => hsT P w p.2).drop p := by
      rw [List.map_append, List.map_cons, List.map_take, List.map_drop]
    rw [← hh] at T1
    have pm := mid_perm L p (x, k)
    have len : (L.take p ++ (x, k) :: L.drop p).length = L.length + 1 := pm.length_eq
    have one1 : ((L.take p ++ (x, k) :: L.drop p).map (·.2)).Nodup := (pm.map (·.2)).nodup_iff.mpr (by rw [List.map_cons]; exact List.nodup_cons.mpr ⟨m, R.one⟩)
    generalize L.take p ++ (x, k) :: L.drop p = L1 at ent1 T1 pm len one1
    generalize SetTable.insertAt es p (hsT P w k, Value.ref x) = es1 at ent1 ⊢
    have n1 := entT_len ent1
    -- by value or not: the table is as good
    have both : ∀ t2 : SetTable, TabOk t2 (L1.map fun p => hsT P w p.2) → t2.mask = t.mask → t2.led = t.led → t2.fill = L.length + 1 → wpAny (model P w) A (do
        storeSet a es1 t2
        if (!false && t2.tooFull) = true then do setRelay a (SetTable.grown (es.size + 1)); pure true else pure true) Q E s := by
      intro t2 T2 m2 l2 f2
      have sb : Heap.SameBut a s.heap (s.heap.update a (Obj.putSet es1 t2)) := Heap.SameBut.update ..
      have at1 := store_at (es' := es1) (t' := t2) at_ dt
      refine wpAny_bind (wpAny_storeSet_of at_ dt ?_ (by rw [n1, len, sizeLine_eq]; omega))
      generalize s.heap.update a (Obj.putSet es1 t2) = h1 at sb at1 ⊢
      have tps1 : ∀ p ∈ L1, TpAt P w h1 p.2 p.1 := fun p hp => by
        rcases List.mem_cons.mp (pm.mem_iff.mp hp) with e | hp
        · rw [e]; exact tp_same tp at_ dt sb
        · exact tp_same (R.tps p hp) at_ dt sb
      have led1 : w.params.followText "set-order" = true ∨ t2.led = true := by rw [l2]; exact R.led
      by_cases tf : t2.tooFull = true
      · refine wp_if_pos (by simp [tf]) ?_
        have full2 : (L.length + 1) * 5 ≥ t2.mask * 3 := by
          unfold SetTable.tooFull at tf
          rwa [decide_eq_true_eq, f2] at tf
        rw [n]
        have grow : ∀ M, SetTable.sizeAbove (SetTable.grown (L.length + 1)) - 1 = M → MaskOk M → SetTable.sizeAbove (SetTable.grown (L.length + 1)) ≤ 128 → (L.length + 1) * 5 < M * 3 →
            wpAny (model P w) A (setRelay a (SetTable.grown (L.length + 1))) (fun _ s' => wpAny (model P w) A (pure true) Q E s') E { s with heap := h1 } := fun M z1 z2 z3 z4 =>
          regrow (s := { s with heap := h1 }) at1 ⟨ex.1, ex.2.1, ex.2.2⟩ rfl ent1 T2 (by rw [len, m2]; omega) one1 tps1 led1 (by rw [len]; exact few) z1 z2 z3 (by rw [len]; exact z4) fun h2 L2 es2 ep2 t3 sb2 R2 pm2 =>
            wpAny_pure (fin true h2 L2 es2 ep2 t3 (sb.trans sb2) R2 (fun z => absurd z m) fun _ => pm2.trans pm)
        refine wpAny_bind ?_
        rcases R.tab.mok with e | e | e
        · have l4 : L.length = 4 := by rw [m2, e] at full2; rw [e] at rm; omega
          exact grow 31 (by rw [l4, size_20]) (.inr (.inl rfl)) (by rw [l4, size_20]; decide) (by omega)
        · have l18 : L.length = 18 := by rw [m2, e] at full2; rw [e] at rm; omega
          exact grow 127 (by rw [l18, size_76]) (.inr (.inr rfl)) (by rw [l18, size_76]; decide) (by omega)
        · rw [m2, e] at full2; omega
      · refine wp_if_neg (by simp [tf]) (wpAny_pure (fin true h1 L1 es1 (ep + 1) t2 sb ⟨⟨_, at1, ⟨ex.1, ex.2.1, ex.2.2⟩, rfl⟩, ent1, T2, one1, tps1, led1, ?_, by rw [len]; exact few⟩ (fun z => absurd z m) fun _ => pm))
        unfold SetTable.tooFull at tf
        rw [decide_eq_true_eq, f2] at tf
        rw [len]
        omega
    rw [List.length_map] at f1
    by_cases pl : t1.plain = true
    · refine wp_if_pos pl (wpAny_bind (val_tup tp fun d => ?_))
      cases d with
      | true => exact both t1 T1 m1 l1 f1
      | false => exact both { t1 with plain := false } (dull T1) m1 l1 f1
    · refine wp_if_neg pl (wpAny_bind (wpAny_pure ?_))
      exact both t1 T1 m1 l1 f1
end
end MW
set_option Elab.async false
set_option linter.all false
set_option maxRecDepth 100000
set_option maxHeartbeats 4000000
set_option autoImplicit false
/-! set(a list of tuples of texts). -/
namespace MW
open PySem PySem.Spec PyProof.Rows L2
/-- what the first i items leave -/
structure Kept (ks : List (Addr × List Str)) (i : Nat) (L : List (Addr × List Str)) : Prop where
  low : ∀ p ∈ L, p ∈ ks.take i
  all : ∀ p ∈ ks.take i, p.2 ∈ L.map (·.2)
  len : L.length ≤ i
theorem take_snoc {α : Type} {l : List α} {i : Nat} {x : α} (h : l[i]? = some x) : l.take (i + 1) = l.take i ++ [x] := by
  obtain ⟨lt, e⟩ := List.getElem?_eq_some_iff.mp h
  rw [List.take_succ_eq_append_getElem lt, e]
section
variable {P : Program} {w : World} {A : Around} {E : Value → Shared → Prop} {s : Shared}
abbrev Laid (P : Program) (w : World) (ks : List (Addr × List Str)) (i : Nat) (a : Addr) (h : Heap) : Prop := ∃ L es ep t, TpSet P w h a L es ep t ∧ Kept ks i L
theorem Laid.stay {ks : List (Addr × List Str)} {i : Nat} {a : Addr} {h h' : Heap} (x : Laid P w ks i a h) (ha : ∀ o, h.get? a = some o → h'.get? a = some o) (tp : ∀ p ∈ ks, TpAt P w h' p.2 p.1) : Laid P w ks i a h' := by
  obtain ⟨L, es, ep, t, R, g⟩ := x
  obtain ⟨o, h1, r⟩ := R.obj
  exact ⟨L, es, ep, t, ⟨⟨o, ha o h1, r⟩, R.ent, R.tab, R.one, fun p m => tp p (List.mem_of_mem_take (g.low p m)), R.led, R.room, R.few⟩, g⟩
theorem tp_loop {I : Addr} {fp wr : List Addr} {G : Array GenState → Array GenState → Prop} {n : Nat} {Pv : Nat → Value → Prop} {St : Nat → Shared → Prop} {R : Result → Shared → Prop}
    (W : WalksS P w A.in1 I fp wr G n Pv St) (hu : A.in1.units < cLine) (D : Addr) (hD : D ∉ fp) (ks : List (Addr × List Str)) (hn : ks.length = n) (few : n < 64) (hval : ∀ i v, Pv i v → ∃ p, ks[i]? = some p ∧ v = .ref p.1)
    (h0 : Heap) (hS0 : h0.get? D = none) (hw0 : ∀ b ∈ wr, h0.get? b = none) (tp0 : ∀ p ∈ ks, TpAt P w h0 p.2 p.1) :
    ∀ (k i : Nat) (s : Shared), n - i = k → i ≤ n → St i s → (∀ b o, h0.get? b = some o → s.heap.get? b = some o) → Laid P w ks i D s.heap →
      (∀ s', Moved (D :: wr) G s s' → Laid P w ks n D s'.heap → (∀ b o, h0.get? b = some o → s'.heap.get? b = some o) → R (.ok (.ret .none)) s') →
      codeAny (model P w) A (.builtin "set.update.loop" ⟨[.ref D, .ref I], []⟩) R s := by
  have DW : D ∉ wr := fun z => hD (W.sub _ z)
  have more : ∀ b ∈ wr, b ∈ D :: wr := fun b z => List.mem_cons_of_mem _ z
  have kept : ∀ {s s' : Shared}, Moved wr G s s' → (∀ b o, h0.get? b = some o → s.heap.get? b = some o) → ∀ b o, h0.get? b = some o → s'.heap.get? b = some o := fun mv hk b o e =>
    mv.heap b o (fun z => by rw [hw0 b z] at e; cases e) (hk b o e)
  have tpk : ∀ {h : Heap}, (∀ b o, h0.get? b = some o → h.get? b = some o) → ∀ p ∈ ks, TpAt P w h p.2 p.1 := fun hk p m => tp_stay (tp0 p m) hk
  intro k
  induction k with
  | zero =>
    intro i s hz hi hst hk hT fin
    obtain rfl : i = n := by omega
    refine codeAny_builtin F.entry_set_update_loop ?_
    rw [Around.under_plainId F.plain_set_update_loop _]
    show wpAny _ A.in1 (pyNext (.ref I) >>= _) _ _ s
    exact wpAny_bind (W.done s _ _ hst fun s' mv => wpAny_pure (fin s' (mv.mono more) (hT.stay (fun o e => mv.heap D o DW e) (tpk (kept mv hk))) (kept mv hk)))
  | succ k ih =>
    intro i s hz hi hst hk hT fin
    have lt : i < n := by omega
    refine codeAny_builtin F.entry_set_update_loop ?_
    rw [Around.under_plainId F.plain_set_update_loop _]
    show wpAny _ A.in1 (pyNext (.ref I) >>= _) _ _ s
    refine wpAny_bind (W.item i s _ _ lt hst fun v s' hP st1 mv => ?_)
    obtain ⟨p, pi, rfl⟩ := hval i v hP
    have pk : p ∈ ks := List.mem_of_getElem? pi
    have hk1 := kept mv hk
    obtain ⟨L, es, ep, t, T, g⟩ := hT.stay (fun o e => mv.heap D o DW e) (tpk hk1)
    show wpAny _ A.in1 (holding [Value.ref p.1] (setAdd D (.ref p.1)) >>= _) _ _ s'
    refine wpAny_bind (wpAny_holding ?_)
    unfold setAdd
    refine wpAny_holding (wpAny_bind (wpAny_pyHash_tuple hu (tpk hk1 p pk) ?_))
    have T' : TpSet P w ({ s' with toks := s'.toks + (p.2.length + 1) } : Shared).heap D L es ep t := T
    refine put_tup (s := { s' with toks := s'.toks + (p.2.length + 1) }) T' (tpk hk1 p pk) hu (by have := g.len; omega) fun d h' L' es' ep' t' sb T2 c1 c2 => ?_
    have hk2 : ∀ b o, h0.get? b = some o → h'.get? b = some o := fun b o e => (sb.2 b (fun z => by rw [z, hS0] at e; cases e)).trans (hk1 b o e)
    have g2 : Kept ks (i + 1) L' := by
      have ts := take_snoc pi
      by_cases m : p.2 ∈ L.map (·.2)
      · rw [c1 m]
        refine ⟨fun q z => by rw [ts]; exact List.mem_append_left _ (g.low q z), fun q z => ?_, by have := g.len; omega⟩
        rw [ts] at z
        rcases List.mem_append.mp z with z | z
        · exact g.all q z
        · rw [List.mem_singleton.mp z]; exact m
      · have pm := c2 m
        refine ⟨fun q z => ?_, fun q z => ?_, by have := g.len; rw [pm.length_eq, List.length_cons]; omega⟩
        · rw [ts]
          rcases List.mem_cons.mp (pm.mem_iff.mp z) with z | z
          · rw [z]; exact List.mem_append_right _ List.mem_cons_self
          · exact List.mem_append_left _ (g.low q z)
        · rw [(pm.map (·.2)).mem_iff, List.map_cons]
          rw [ts] at z
          rcases List.mem_append.mp z with z | z
          · exact List.mem_cons_of_mem _ (g.all q z)
          · rw [List.mem_singleton.mp z]; exact List.mem_cons_self
    refine wpAny_pure ⟨plainId_quiet F.plain_set_update_loop _, ih (i + 1) _ (by omega) lt (W.frame _ s' _ _ st1 (Nat.le_add_right _ _) fun b hb o e => ?_) hk2 ⟨L', es', ep', t', T2, g2⟩ fun s2 mv2 hT4 hk4 => ?_⟩
    · rw [sb.2 b (fun z : b = D => hD (by rw [← z]; exact hb))]; exact e
    · refine fin s2 (Moved.trans W.gtrans ((mv.mono more).then_heap (Nat.le_add_right _ _) fun b o hb e => ?_) mv2) hT4 hk4
      rw [sb.2 b (fun z : b = D => hb (by rw [z]; exact List.mem_cons_self))]; exact e
theorem tp_fresh {h : Heap} {a : Addr} (ks : List (Addr × List Str)) (ho : h.get? a = some (setO w)) : Laid P w ks 0 a h :=
  ⟨[], #[], 0, _, ⟨⟨_, ho, ⟨rfl, rfl, rfl⟩, rfl⟩, rfl, ⟨List.Pairwise.nil, rfl, rfl, .inl rfl, (fun x z => by cases z), fun i h j z => by simp at z⟩, List.nodup_nil, (fun p z => nomatch z), by
    show _ ∨ (!w.params.followText "set-order") = true
    cases w.params.followText "set-order"
    · exact .inr rfl
    · exact .inl rfl, by show 0 * 5 < 7 * 3; decide, by decide⟩, ⟨(fun p z => nomatch z), (fun p z => by simp at z), Nat.le_refl _⟩⟩
/-- set(a list of tuples of texts) -/
theorem tp_call {l : Addr} {items : Array Value} {ks : List (Addr × List Str)} {Q : Value → Shared → Prop} (hh : A.handled = none) (hl : s.heap.IsList l items) (hit : items.toList = ks.map fun p => Value.ref p.1) (few : ks.length < 64) (hu : A.units + 8 < cLine)
    (tp0 : ∀ p ∈ ks, TpAt P w s.heap p.2 p.1)
    (fin : ∀ (h' : Heap) (tk : Nat), Laid P w ks ks.length s.heap.objs.size h' → (∀ b o, s.heap.get? b = some o → h'.get? b = some o) → Q (.ref s.heap.objs.size) { s with heap := h', toks := tk }) :
    wpAny (model P w) A (call (.type "set") [.ref l]) Q E s := by
  have zn : ks.length = items.size := by rw [← Array.length_toList, hit, List.length_map]
  obtain ⟨c, tl, mro⟩ := F.called_set.mro
  have made := F.called_set.made
  have subs := F.called_set.sub
  refine wpAny_call (codeAny_of_tree ?_)
  show wpAny _ _ (callAny (.type "set") _) _ _ _
  refine wpAny_pure ⟨Code.quiet_builtin _ (by decide +kernel), codeAny_builtin F.entry_type_call ?_⟩
  rw [Around.under_plain (weight_type_call_type "set" [.ref l] []) rfl]
  have k1 := F.called_set.notType
  have k2 := F.called_set.canCreate
  have k3 := F.typeCall_set_1 (.ref l)
  repeat (any_goals (first | assumption | wp_step))
  refine codeAny_mono (code_set_led1 (.ref l) (E := E) (Q₁ := fun obj s₁ => obj = .ref s.heap.objs.size ∧ s₁ = { s with heap := s.heap.push { cls := .type "set", dict := none, data := .set #[] 0 (.fresh 0 0 (!w.params.followText "set-order")) } }) ⟨rfl, rfl⟩) fun r s₁ hr => ?_
  cases r with
  | error e => exact hr
  | ok fl =>
    cases fl with
    | ret obj =>
      obtain ⟨rfl, rfl⟩ := hr
      have atS : (s.heap.push (setO w)).get? s.heap.objs.size = some (setO w) := Heap.get?_push_size _ rfl
      have tyS : Shared.TypeIs { s with heap := s.heap.push (setO w) } (.ref s.heap.objs.size) "set" := ⟨_, atS, rfl⟩
      have k4 := F.called_set.init.lookup
      have k5 := F.called_set.init.bind (.ref s.heap.objs.size)
      repeat (any_goals (first | assumption | wp_step))
      refine codeAny_mono (codeAny_call_builtin (R := wants (fun r s₂ => r = .none ∧ ∃ h' tk, s₂ = { s with heap := h', toks := tk } ∧ Laid P w ks ks.length s.heap.objs.size h' ∧
          (∀ b o, s.heap.get? b = some o → h'.get? b = some o)) E) F.called_set.init.plain F.entry_set_init (check_set_init_1 tyS ?_)) fun r₂ s₂ hr₂ => ?_
      · obtain ⟨ol, hol, hcl, nl, hdl⟩ := hl
        obtain ⟨oc, od, ot, os⟩ := ol
        simp only at hcl hdl
        subst hcl; subst hdl
        have atL : (s.heap.push (setO w)).get? l = some { cls := .type "list", dict := od, data := .seq items nl, slots := os } := Heap.get?_push_of_some _ hol
        have s1 := F.sub_list_set
        have s2 := F.sub_list_frozenset
        have s3 : (Value.type "list" == Value.type "dict") = false := by decide
        have isL : (s.heap.push (setO w)).IsList l items := ⟨_, atL, rfl, nl, rfl⟩
        unfold Builtin.«set.__init__» noKeywords Builtin.Frozenset.updateFrom
        generalize hPI : pyIter = PI
        wp_walk
        subst hPI
        refine wpAny_pyIter_list isL ?_
        refine wpAny_bind (wpAny_runValue ?_)
        have ltL : l < s.heap.objs.size := Heap.lt_size hol
        have hh3 : A.in1.in1.in1.handled = none := by simp [hh]
        have neI : l ≠ (s.heap.push (setO w)).objs.size := by
          rw [Heap.size_push]; exact Nat.ne_of_lt (Nat.lt_succ_of_lt ltL)
        have neS : s.heap.objs.size ∉ [(s.heap.push (setO w)).objs.size, l] := by
          rw [Heap.size_push]
          intro z
          rcases List.mem_cons.mp z with z | z
          · exact absurd z (Nat.ne_of_lt (Nat.lt_succ_self _))
          · exact absurd (List.mem_singleton.mp z) (Nat.ne_of_gt ltL)
        have noth : ∀ b, s.heap.objs.size ≤ b → s.heap.get? b = none := fun b hb => by
          cases q : s.heap.get? b with
          | none => rfl
          | some o => exact absurd (Nat.lt_of_lt_of_le (Heap.lt_size q) hb) (Nat.lt_irrefl _)
        refine tp_loop ((Walks.list hh3 _ l neI items).toS) (by show A.units + 1 + 1 + 1 < cLine; omega) s.heap.objs.size neS ks zn (by rw [← zn]; exact few) (fun i v hv => ?_) s.heap (noth _ (Nat.le_refl _))
          (fun b hb => noth b (by rw [List.mem_singleton.mp hb, Heap.size_push]; exact Nat.le_succ _)) tp0 (items.size - 0) 0 _ (by omega) (Nat.zero_le _) ⟨⟨_, Heap.get?_push_size _ rfl, rfl, rfl⟩, (isL.push _)⟩
          (fun b o e => Heap.get?_push_of_some _ (Heap.get?_push_of_some _ e)) ?s0 ?sR
        case s0 => exact tp_fresh ks (Heap.get?_push_of_some _ atS)
        case sR =>
          intro s' mv hT hk
          obtain ⟨h', g', d', tk', os'⟩ := s'
          obtain rfl : g' = s.gens := mv.gens
          obtain rfl : d' = s.drawn := mv.drawn
          obtain rfl : os' = s.os := mv.os
          show wpAny _ _ _ _ _ _
          refine wpAny_pure ?_
          show wpAny _ _ (ret Value.none) _ _ _
          rw [← zn] at hT
          exact wpAny_pure ⟨rfl, h', tk', rfl, hT, hk⟩
        · have hv : items[i]? = some v := hv
          rw [← Array.getElem?_toList, hit, List.getElem?_map] at hv
          obtain ⟨p, e1, e2⟩ := Option.map_eq_some_iff.mp hv
          exact ⟨p, e1, e2.symm⟩
      · cases r₂ with
        | error e => exact hr₂
        | ok fl₂ =>
          cases fl₂ with
          | ret r =>
            obtain ⟨rfl, h', tk, rfl, hT, hk⟩ := hr₂
            repeat (any_goals (first | assumption | wp_step))
            exact fin _ _ hT hk
          | _ => exact hr₂.elim
    | _ => exact hr.elim
end
end MW
set_option Elab.async false
set_option linter.all false
set_option maxRecDepth 100000
set_option maxHeartbeats 4000000
set_option autoImplicit false
/-! sorted(a set of tuples of texts). -/
namespace MW
open PySem PySem.Spec PyProof.Rows L2
theorem perm_back {α β : Type} {f : α → β} {vs ws : List β} (h : vs.Perm ws) : ∀ L : List α, ws = L.map f → ∃ L1 : List α, L1.Perm L ∧ vs = L1.map f := by
  induction h with
  | nil =>
    intro L e
    cases L with
    | nil => exact ⟨[], .nil, rfl⟩
    | cons _ _ => cases e
  | cons x h ih =>
    intro L e
    cases L with
    | nil => cases e
    | cons y L =>
      obtain ⟨e1, e2⟩ := List.cons.inj e
      obtain ⟨L1, p, e3⟩ := ih L e2
      exact ⟨y :: L1, p.cons y, by rw [List.map_cons, e3, e1]⟩
  | swap x y l =>
    intro L e
    cases L with
    | nil => cases e
    | cons a L =>
      cases L with
      | nil => cases e
      | cons b L =>
        obtain ⟨e1, e2⟩ := List.cons.inj e
        obtain ⟨e3, e4⟩ := List.cons.inj e2
        exact ⟨b :: a :: L, List.Perm.swap a b L, by rw [List.map_cons, List.map_cons, e1, e3, e4]⟩
  | trans _ _ ih1 ih2 =>
    intro L e
    obtain ⟨L2, p2, e2⟩ := ih2 L e
    obtain ⟨L1, p1, e1⟩ := ih1 L2 e2
    exact ⟨L1, p1.trans p2, e1⟩
abbrev txs (k : List Str) : List (List Nat) := k.map fun x => x.cps.toList
theorem row_texts : ∀ xs ys : List Str, PySem.W.rowLt (xs.map PyData.str) (ys.map PyData.str) = decide (txs xs < txs ys)
  | [], [] => by
    have e : PySem.W.rowLt [] [] = false := lex_irrefl _
    rw [List.map_nil, e]
    exact (decide_eq_false (List.lt_irrefl _)).symm
  | [], y :: ys => by
    have e : PySem.W.rowLt [] ((y :: ys).map PyData.str) = true := by
      unfold PySem.W.rowLt
      rw [List.map_cons, PySem.W.toks_all_cons]
      simp only [PySem.W.keyToksAll]
      rw [lex_diff (O := itemOrd) (by simp)]
      rfl
    rw [List.map_nil, e]
    exact (decide_eq_true (List.nil_lt_cons _ _)).symm
  | x :: xs, [] => by
    have e : PySem.W.rowLt ((x :: xs).map PyData.str) [] = false := by
      unfold PySem.W.rowLt
      rw [List.map_cons, PySem.W.toks_all_cons]
      simp only [PySem.W.keyToksAll]
      rw [lex_diff (O := itemOrd) (by simp)]
      rfl
    rw [List.map_nil, e]
    exact (decide_eq_false (List.not_lt_nil _)).symm
  | x :: xs, y :: ys => by
    have ih := row_texts xs ys
    unfold PySem.W.rowLt at ih ⊢
    rw [List.map_cons, List.map_cons, PySem.W.dataLt_cons (by rfl), ih, PySem.W.dataLt_str]
    have e : PyData.eqv (.str x) (.str y) = decide (x = y) := by
      simp only [PyData.eqv]
      by_cases h : x = y <;> simp [h]
    rw [e]
    show _ = decide (x.cps.toList :: txs xs < y.cps.toList :: txs ys)
    by_cases h : x = y
    · subst h
      simp [List.cons_lt_cons_iff, List.lt_irrefl]
    · have h' : x.cps.toList ≠ y.cps.toList := fun z => h (TL.ext_tl z)
      simp [List.cons_lt_cons_iff, h, h']
theorem lt_texts (xs ys : List Str) : PySem.W.dataLt (.tuple (xs.map PyData.str)) (.tuple (ys.map PyData.str)) = decide (txs xs < txs ys) := by
  rw [PySem.W.dataLt_tuple]
  exact row_texts xs ys
section
variable {P : Program} {w : World} {A : Around} {E : Value → Shared → Prop} {s : Shared}
theorem texts_read {h : Heap} {k : List Str} {vs : List Value} (each : ItemsAre (strKind P w) k vs) : ReadsAll h vs (k.map PyData.str) [] := by
  induction each with
  | nil => exact .nil
  | @cons x v' ks vs h1 _ ih =>
    obtain ⟨t, e⟩ := Value.isStrOf_shape (show Value.isStrOf x v' = true from h1)
    rw [e]
    exact ReadsAll.cons (as := []) (bs := []) (.str x t) ih
theorem tp_reads {h : Heap} {k : List Str} {b : Addr} (tp : TpAt P w h k b) : Reads h (.ref b) (.tuple (k.map PyData.str)) [] := by
  obtain ⟨o, its, n, at_, c, dt, each⟩ := tp
  exact .tuple at_ c dt (texts_read each)
end
end MW
set_option Elab.async false
set_option linter.all false
set_option maxRecDepth 100000
set_option maxHeartbeats 4000000
set_option autoImplicit false
/-! sorted(set(..)) of tuples of texts as a construct. -/
namespace MW
open PySem PySem.Spec PyProof.Rows L2
theorem onceK_mem : ∀ {zs : List (List (List Nat))} {z : List (List Nat)}, z ∈ onceK zs ↔ z ∈ zs
  | [], z => by simp [onceK]
  | x :: xs, z => by
    rw [onceK]
    by_cases h : x ∈ xs
    · rw [if_pos h, onceK_mem, List.mem_cons]
      exact ⟨.inr, fun q => q.elim (fun e => e ▸ h) id⟩
    · rw [if_neg h, List.mem_cons, onceK_mem, List.mem_cons]
theorem onceK_nodup : ∀ zs : List (List (List Nat)), (onceK zs).Nodup
  | [] => List.nodup_nil
  | x :: xs => by
    rw [onceK]
    by_cases h : x ∈ xs
    · rw [if_pos h]; exact onceK_nodup xs
    · rw [if_neg h]; exact List.nodup_cons.mpr ⟨fun q => h (onceK_mem.mp q), onceK_nodup xs⟩
theorem leK_total (a b : List (List Nat)) : (leK a b || leK b a) = true := by
  unfold leK
  rw [Bool.or_eq_true]
  by_cases h : b < a
  · right
    simp only [Bool.not_eq_true', decide_eq_false_iff_not]
    exact fun q => absurd (List.lt_trans h q) (List.lt_irrefl _)
  · left; simp [h]
theorem leK_trans (a b c : List (List Nat)) (h1 : leK a b = true) (h2 : leK b c = true) : leK a c = true := by
  unfold leK at *
  simp only [Bool.not_eq_true', decide_eq_false_iff_not] at *
  have e1 : a ≤ b := h1
  have e2 : b ≤ c := h2
  exact List.le_trans e1 e2
theorem leK_anti (a b : List (List Nat)) (h1 : leK a b = true) (h2 : leK b a = true) : a = b := by
  unfold leK at *
  simp only [Bool.not_eq_true', decide_eq_false_iff_not] at *
  have e1 : a ≤ b := h1
  have e2 : b ≤ a := h2
  exact List.le_antisymm e1 e2
theorem sortK_sorted (zs : List (List (List Nat))) : (sortK zs).Pairwise fun a b => leK a b = true := List.pairwise_mergeSort (le := leK) leK_trans leK_total zs
theorem sortK_perm (zs : List (List (List Nat))) : (sortK zs).Perm zs := List.mergeSort_perm zs leK
theorem sortK_one {l zs : List (List (List Nat))} (hs : l.Pairwise fun a b => leK a b = true) (nd : l.Nodup) (hm : ∀ x, x ∈ l ↔ x ∈ zs) : l = sortK (onceK zs) := by
  have p : l.Perm (onceK zs) := (List.perm_ext_iff_of_nodup nd (onceK_nodup zs)).mpr fun x => (hm x).trans onceK_mem.symm
  refine List.Perm.eq_of_pairwise (le := fun a b => leK a b = true) (fun a b _ _ h1 h2 => leK_anti a b h1 h2) hs (sortK_sorted _) (p.trans (sortK_perm _).symm)
section
variable {P : Program} {w : World} {A : Around} {E : Value → Shared → Prop} {s : Shared} {a : Addr} {L : List (Addr × List Str)} {es : Array (Int × Value)} {ep : Nat} {t : SetTable}
theorem alike_texts : ∀ xs ys : List Str, PySem.W.alikeAll (xs.map PyData.str) (ys.map PyData.str) = true
  | [], [] => by rfl
  | [], y :: ys => by rfl
  | x :: xs, [] => by rfl
  | x :: xs, y :: ys => by
    rw [List.map_cons, List.map_cons, PySem.W.alikeAll, alike_texts xs ys]; rfl
def encT (b : Addr × List Str) : PyData := .tuple (b.2.map PyData.str)
theorem refs_are : ∀ L : List (Addr × List Str), PySem.W.EachIs (fun (v : Value) (b : Addr × List Str) => v = Value.ref b.1) (L.map fun q => Value.ref q.1) L
  | [] => .nil
  | q :: L => .cons rfl (refs_are L)
theorem refs_back : ∀ {us : List Value} {L : List (Addr × List Str)}, PySem.W.EachIs (fun (v : Value) (b : Addr × List Str) => v = Value.ref b.1) us L → us = L.map fun q => Value.ref q.1
  | _, _, .nil => rfl
  | _, _, .cons e r => by rw [e, refs_back r]; rfl
theorem refs_read {h : Heap} {c : Addr} : ∀ {L : List (Addr × List Str)}, (∀ q ∈ L, TpAt P w h q.2 q.1) → PySem.W.EachIs (fun v b => ∃ as, Reads h v (encT b) as ∧ c ∉ as) (L.map fun q => Value.ref q.1) L
  | [], _ => .nil
  | q :: L, al => .cons ⟨[], tp_reads (al q List.mem_cons_self), by simp⟩ (refs_read fun r z => al r (List.mem_cons_of_mem _ z))
theorem tp_sorted {Q : Value → Shared → Prop} (R : TpSet P w s.heap a L es ep t) (hh : A.handled = none) (hu : A.units + 64 < cLine) (ne : ∀ p ∈ L, p.2 ≠ [])
    (fin : ∀ s' p (c : Nat) (L' : List (Addr × List Str)), (∀ b o, s.heap.get? b = some o → s'.heap.get? b = some o) → s'.gens = s.gens → s'.os = s.os → s.heap.objs.size ≤ p →
      s'.heap.get? p = some (seqObj "list" (L'.map fun q => Value.ref q.1).toArray c) → L'.Perm L → (L'.map fun q => txs q.2).Pairwise (fun x y => leK x y = true) → Q (.ref p) s') :
    wpAny (model P w) A (call (.builtin "sorted") [.ref a]) Q E s := by
  have few := R.few
  have n := entT_len R.ent
  obtain ⟨o, at_, ex, dt⟩ := R.obj
  refine Calls.call_function_entry kind_sorted plain_sorted entry_sorted (args_sorted1 _) ?_
  unfold Builtin.«sorted»
  refine wpAny_bind (m := checkCount "sorted" 1 1 _) (wpAny_pure ?_)
  refine wpAny_bind (collect_set (A := A.in1) hh ⟨o, at_, ex.1, dt⟩ R.fits (by unfold scanBound; omega) R.tab.ris R.led fun s1 vs k1 hz g1 o1 pm => ?_)
  have em : es.toList.map (·.2) = L.map fun q => Value.ref q.1 := by
    rw [R.ent, entT, List.map_map]; rfl
  obtain ⟨L1, p1, rfl⟩ := perm_back pm L em
  have tp1 : ∀ q ∈ L1, TpAt P w s1.heap q.2 q.1 := fun q m => tp_stay (R.tps q (p1.mem_iff.mp m)) k1
  have len1 : (L1.map fun q => Value.ref q.1).length = L1.length := List.length_map _
  have l1 := p1.length_eq
  refine wpAny_bind (wpAny_newList ?_ (by rw [len1, sizeLine_eq]; omega))
  have atL : (s1.heap.push (seqObj "list" (L1.map fun q => Value.ref q.1).toArray 0)).get? s1.heap.objs.size = some (seqObj "list" (L1.map fun q => Value.ref q.1).toArray 0) := Heap.get?_push_size _ rfl
  refine wpAny_bind (wpAny_holding (PySem.W.list_sort_data (R := fun (v : Value) (b : Addr × List Str) => v = Value.ref b.1) (bs := L1) (enc := encT) atL (refs_are L1) (refs_read fun q m => tp_stay (tp1 q m) fun c u e => Heap.get?_push_of_some _ e)
    (fun d hd d' hd' => ?_) (.inl fun d hd => ?_) (by rw [sizeLine_eq]; omega) (fun b hb => ?_) fun out ho eo => ?_))
  · obtain ⟨b, _, rfl⟩ := List.mem_map.mp hd
    obtain ⟨b', _, rfl⟩ := List.mem_map.mp hd'
    exact alike_texts b.2 b'.2
  · obtain ⟨b, m, rfl⟩ := List.mem_map.mp hd
    have z := ne b (p1.mem_iff.mp m)
    unfold encT
    cases e : b.2 with
    | nil => exact absurd e z
    | cons x r => exact ⟨_, _, rfl⟩
  · have dep : ∀ k : List Str, PyData.depth (.tuple (k.map PyData.str)) ≤ 8 := fun k => by
      have z : ∀ k : List Str, PyData.depthAll (k.map PyData.str) ≤ 1 := fun k => by
        induction k with
        | nil => simp [PyData.depthAll]
        | cons x k ih => simp [PyData.depthAll, PyData.depth]; exact ih
      have := z k
      simp [PyData.depth]; omega
    have := dep b.2
    show A.units + 1 + 1 + PyData.depth (.tuple (b.2.map PyData.str)) < cLine
    omega
  · obtain ⟨c, hc⟩ := sortedHeap_at (vs := L1.map fun q => Value.ref q.1) (out := out.toArray) atL
    have ps : (L1.mergeSort (PySem.W.dataLe false encT)).Perm L1 := List.mergeSort_perm _ _
    have srt : ((L1.mergeSort (PySem.W.dataLe false encT)).map fun q => txs q.2).Pairwise fun x y => leK x y = true := by
      rw [List.pairwise_map]
      refine (PySem.W.sort_pairwise (PySem.W.sortLe_total _ _ _) L1).imp fun {x y} q => ?_
      have q : (!PySem.W.dataLt (encT y) (encT x)) = true := q
      unfold encT at q
      rw [lt_texts] at q
      exact q
    rw [refs_back eo] at hc
    refine wpAny_pure ⟨_, rfl, fin _ s1.heap.objs.size c _ (fun b u e => ?_) g1 o1 hz (by rw [refs_back eo]; exact hc) (ps.trans p1) srt⟩
    have q := k1 b u e
    have lt := Heap.lt_size q
    show (sortedHeap (s1.heap.push (seqObj "list" (L1.map fun q => Value.ref q.1).toArray 0)) s1.heap.objs.size (L1.map fun q => Value.ref q.1) out.toArray).get? b = some u
    rw [sortedHeap_old (Nat.ne_of_lt lt) (by rw [size_push']; exact Nat.lt_succ_of_lt lt)]
    exact Heap.get?_push_of_some _ q
end
end MW
set_option Elab.async false
set_option linter.all false
set_option maxRecDepth 100000
set_option maxHeartbeats 4000000
set_option autoImplicit false
/-! sorted(set(..)) as a construct: of texts, of tuples of texts. -/
namespace MW
open PySem PySem.Spec PyProof.Rows L2
def TSO (P : Program) (w : World) (a : Addr) (L : List (Addr × List Str)) : HO := .ext fun h => ∃ (es : Array (Int × Value)) (ep : Nat) (t : SetTable), (∃ o, h.get? a = some o ∧ o.ExactSet ∧ o.data = .set es ep t) ∧ es.toList = entT P w L ∧
  TabOk t (L.map fun p => hsT P w p.2) ∧ (L.map (·.2)).Nodup ∧ (w.params.followText "set-order" = true ∨ t.led = true) ∧ L.length * 5 < t.mask * 3 ∧ L.length < 64
theorem tso_new {P : Program} {w : World} {H : Hp} {h : Heap} {a : Addr} {L : List (Addr × List Str)} {es : Array (Int × Value)} {ep : Nat} {t : SetTable} (R : TpSet P w h a L es ep t) : ObjOk P w H h a (TSO P w a L) := by
  obtain ⟨o, at_, ex, dt⟩ := R.obj
  exact ⟨⟨es, ep, t, ⟨o, at_, ex, dt⟩, R.ent, R.tab, R.one, R.led, R.room, R.few⟩, ⟨o, at_⟩, fun _ _ ⟨es, ep, t, ⟨o, z, r⟩, q⟩ k => ⟨es, ep, t, ⟨o, k o z, r⟩, q⟩⟩
section
variable {X : Cx} {C : Ct} {a : Expr} {ma : E} {pos p p2 pos2 : Pos}
theorem texts_of_vals {P : Program} {w : World} : ∀ {k : List Str} {us : List Value}, Vals (k.map V.str) us → ItemsAre (strKind P w) k us
  | [], _, h => by cases h; exact .nil
  | x :: k, _, h => by
    cases h with
    | cons r t =>
      obtain ⟨tk, rfl⟩ := r
      exact .cons (strKind_is _ _ _ _) (texts_of_vals t)
theorem Inv.tpAt {pins : List (Addr × Obj)} {σ : L2.St} {H : Hp} {s : Shared} {b : Addr} {k : List Str} (I : Inv X pins σ H s) (h : SqT X.K H b (k.map V.str)) : TpAt X.prog X.w s.heap k b := by
  obtain ⟨its, r, ⟨o, ho, hc, n, hd⟩, _⟩ := I.tuple h
  exact ⟨o, its.toArray, n, ho, hc, hd, by simpa using texts_of_vals r⟩
theorem refs_of_vals4 : ∀ {ks : List (Addr × List Str)} {us : List Value}, Vals (ks.map fun p => V.ref p.1) us → us = ks.map fun p => Value.ref p.1
  | [], _, h => by cases h; rfl
  | q :: ks, _, h => by
    cases h with
    | cons r t => rw [refs_of_vals4 t]; cases r; rfl
theorem vals_refs4 : ∀ (ks : List (Addr × List Str)), Vals (ks.map fun p => V.ref p.1) (ks.map fun p => Value.ref p.1)
  | [] => .nil
  | q :: ks => .cons rfl (vals_refs4 ks)
def rSetTp (K : PySem.W.Frag) (P : Program) (w : World) : List V → Hp → VK → Prop := fun xs H Q => ∃ (l : Addr) (ks : List (Addr × List Str)), xs = [V.ref l] ∧ H l = some (.lst (ks.map fun p => V.ref p.1)) ∧ (∀ p ∈ ks, SqT K H p.1 (p.2.map V.str)) ∧ ks.length < 64 ∧
  ∀ q L, H q = none → Kept ks ks.length L → (L.map (·.2)).Nodup → Q (.ref q) (upd H q (TSO P w q L))
theorem cr_setTp {kr : Nat} (hr : Room kr X.A) (hc : X.calm = true) : CallR X (.type "set") (rSetTp X.K X.prog X.w) := by
  intro pins s σ H xs us Q I r h
  obtain ⟨l, ks, rfl, hl, tp, few, q⟩ := h
  obtain ⟨its, rv, il, _⟩ := I.list (SqL.of (K := X.K) hl)
  rw [Vals.ref1 r]
  refine tp_call (P := X.prog) (w := X.w) (ks := ks) (I.ok.hd hc) il.isList (by simpa using refs_of_vals4 rv) few (by have := hr.units; omega) (fun p m => Inv.tpAt I (tp p m)) fun h' tk hT hk => ?_
  obtain ⟨L, es, ep, t, R, g⟩ := hT
  have J := I.laid (h' := h') (t' := tk) (a := s.heap.objs.size) hk (Nat.le_refl _) (tso_new R)
  exact ⟨.ref _, _, J, rfl, q _ L (I.hok.fresh (Nat.le_refl _)) g R.one⟩
def rSortTp (K : PySem.W.Frag) (P : Program) (w : World) : List V → Hp → VK → Prop := fun xs H Q => ∃ (l : Addr) (L : List (Addr × List Str)), xs = [V.ref l] ∧ H l = some (TSO P w l L) ∧ (∀ p ∈ L, SqT K H p.1 (p.2.map V.str)) ∧ (∀ p ∈ L, p.2 ≠ []) ∧
  ∀ (L' : List (Addr × List Str)) (q : Addr), L'.Perm L → (L'.map fun q => txs q.2).Pairwise (fun x y => leK x y = true) → H q = none → Q (.ref q) (upd H q (.lst (L'.map fun p => V.ref p.1)))
theorem cr_sortTp {kr : Nat} (hr : Room kr X.A) (hc : X.calm = true) : CallR X (.builtin "sorted") (rSortTp X.K X.prog X.w) := by
  intro pins s σ H xs us Q I r h
  obtain ⟨l, L, rfl, hl, tp, ne, q⟩ := h
  rw [Vals.ref1 r]
  obtain ⟨es, ep, t, ob, ent, tab, one, led, room, few⟩ := (I.hok l _ hl).1
  have R : TpSet X.prog X.w s.heap l L es ep t := ⟨ob, ent, tab, one, fun p m => Inv.tpAt I (tp p m), led, room, few⟩
  refine tp_sorted R (I.ok.hd hc) hr.units ne fun s' pp c L' k1 g1 o1 hz hc' hp hs => ?_
  have zl : (L'.map fun p => V.ref p.1).length ≤ sizeLine := by rw [List.length_map, hp.length_eq, sizeLine_eq]; omega
  have hpn : H pp = none := I.hok.fresh hz
  have J : Inv X pins σ (upd H pp (.lst (L'.map fun p => V.ref p.1))) { s with heap := s'.heap, gens := s'.gens, drawn := s'.drawn, toks := s'.toks } :=
    I.call (ch := []) (Un.laid k1 hz hpn) (I.hok.laid k1 hz ⟨zl, _, c, vals_refs4 L', hc'⟩) (by rw [g1]; exact I.bare) (fun _ z => nomatch z)
  have e : s' = { s with heap := s'.heap, gens := s'.gens, drawn := s'.drawn, toks := s'.toks } := by
    cases s'; cases s; cases o1; rfl
  rw [e]
  exact ⟨.ref pp, _, J, rfl, q L' pp hp hs hpn⟩
theorem cr_or {c : Value} {r1 r2 : List V → Hp → VK → Prop} (h1 : CallR X c r1) (h2 : CallR X c r2) : CallR X c (fun xs H Q => r1 xs H Q ∨ r2 xs H Q) := by
  intro pins s σ H xs us Q I r h
  rcases h with h | h
  · exact h1 pins s σ H xs us Q I r h
  · exact h2 pins s σ H xs us Q I r h
/-- the tuples that lie in a list -/
theorem tups_lie {K : PySem.W.Frag} {g : Gh} : ∀ {vs : List V} {ds : List D} {zs : List (List (List Nat))}, RpAll K g vs ds → tupsT ds = some zs →
    ∃ ks : List (Addr × List Str), vs = ks.map (fun p => V.ref p.1) ∧ (ks.map fun p => txs p.2) = zs ∧ ∀ p ∈ ks, SqT K g.G p.1 (p.2.map V.str) ∧ Rp K g (V.ref p.1) (dT (txs p.2))
  | _, [], zs, r, h => by
    cases r; cases h
    exact ⟨[], rfl, rfl, fun p z => nomatch z⟩
  | _, d :: ds, zs, r, h => by
    cases r with
    | cons r1 rr =>
      unfold tupsT at h
      split at h
      · rename_i e; cases e
      · rename_i xs rest e
        cases e
        obtain ⟨z, h1, h⟩ := bindS h
        obtain ⟨zs', h2, h⟩ := mapS h
        subst h
        obtain ⟨ks, e1, e2, al⟩ := tups_lie rr h2
        have r1' := r1
        cases r1 with
        | tup sq ra =>
          rename_i a us
          have ez := strsD_ok h1
          subst ez
          have eu := ra.strs
          subst eu
          refine ⟨(a, z.map fun x => ⟨x.toArray⟩) :: ks, by rw [e1]; rfl, ?_, fun p m => ?_⟩
          · rw [List.map_cons, e2]
            congr 1
            show (z.map fun x => (⟨x.toArray⟩ : Str)).map (fun x => x.cps.toList) = z
            rw [List.map_map]
            exact (List.map_congr_left fun x _ => rfl).trans (List.map_id z)
          · rcases List.mem_cons.mp m with rfl | m
            · refine ⟨by rw [List.map_map]; exact sq, ?_⟩
              have e3 : txs (z.map fun x => (⟨x.toArray⟩ : Str)) = z := by
                show (z.map fun x => (⟨x.toArray⟩ : Str)).map (fun x => x.cps.toList) = z
                rw [List.map_map]
                exact (List.map_congr_left fun x _ => rfl).trans (List.map_id z)
              show Rp K g (V.ref a) (dT (txs (z.map fun x => (⟨x.toArray⟩ : Str))))
              rw [e3]
              exact r1'
            · exact al p m
      · cases h
theorem rp_refs {K : PySem.W.Frag} {g : Gh} : ∀ {L : List (Addr × List Str)}, (∀ p ∈ L, Rp K g (V.ref p.1) (dT (txs p.2))) → RpAll K g (L.map fun p => V.ref p.1) (L.map fun p => dT (txs p.2))
  | [], _ => .nil
  | q :: L, h => .cons (h q List.mem_cons_self) (rp_refs fun p m => h p (List.mem_cons_of_mem _ m))
theorem txs_inj {x y : List Str} (h : txs x = txs y) : x = y := by
  induction x generalizing y with
  | nil =>
    cases y with
    | nil => rfl
    | cons _ _ => cases h
  | cons a x ih =>
    cases y with
    | nil => cases h
    | cons b y =>
      obtain ⟨e1, e2⟩ := List.cons.inj h
      rw [TL.ext_tl e1, ih e2]
theorem se_ss {kr : Nat} (hK : X.K = C.K) (hr : Room kr X.A) (hc : X.calm = true) (hg : Gl X "sorted") (hm : X.mg "sorted" = none) (hg2 : Gl X "set") (hm2 : X.mg "set" = none) (ha : PE X a (tE C ma))
    (hs : starEach [a] X.env = (false, eval a X.env) :: starEach [] X.env) : PE X (.Call (.Name "sorted" p) [.Call (.Name "set" p2) [a] [] pos2] [] pos) (tE C (.ss ma)) :=
  (pe_callB (cr_or (cr_sortTx hr hc) (cr_sortTp hr hc)) hg hm boot_sorted' (pa_cons (pe_callTy (cr_or (cr_setTx hc) (cr_setTp hr hc)) hg2 hm2 boot_set (pa1 ha hs) (by decide) (by decide) hs (by rfl)) pa_nil (by rfl)) (by decide) (by decide) (by rfl) (by rfl)).imp fun σ H Q h => by
    obtain ⟨g, env, st, rs, st', S, e, k⟩ := h
    rw [evE] at e
    obtain ⟨x, e1, e⟩ := bindS e
    obtain ⟨r, e2, e⟩ := mapS e
    cases e
    refine tE_one S (fstE e1) fun v g1 H1 E1 S1 R1 => ?_
    have w := R1.wk S1.sy
    generalize x.1.d = d at e2 w
    cases d with
    | lst ds =>
      have e2 : (match strsD ds with
        | some zs => if decide (zs.length + 1 < 4096) then some (Rs.fr (.lst ((sortT (onceT zs)).map .str))) else none
        | none => (tupsT ds).bind fun zs => if decide (zs.length < 64) && zs.all (fun z => !z.isEmpty) then some (.fr (.lst ((sortK (onceK zs)).map dT))) else none) = some rs := e2
      cases e3 : strsD ds with
      | some zs =>
        simp only [e3] at e2
        left
        obtain ⟨hz, e2⟩ := iteS e2
        obtain ⟨l, vs, rfl, hl, rp⟩ := w
        rw [strsD_ok e3] at rp
        have ev := rp.strs
        subst ev
        refine ⟨l, zs, rfl, hl, of_decide_eq_true hz, fun q hq => ?_⟩
        left
        refine ⟨q, _, _, rfl, upd_same, fun ks q2 hs hd hm hq2 => ?_⟩
        have S2 := S1.sy.alloc (o := TxSO X.w q (memT (zs.map stS') (zs.map stS').length) (cntT (zs.map stS') (zs.map stS').length)) hq
        have f2 := S2.fresh hq2
        have ek : (ks.map fun k => k.cps.toList) = sortT (onceT zs) := by
          refine sortT_one hs ?_ fun x => ?_
          · refine List.pairwise_map.mpr (hd.imp fun {a b} ne e => ne ?_)
            cases a; cases b
            congr 1
            exact Array.toList_inj.mp e
          · constructor
            · intro hx
              obtain ⟨k, hk, rfl⟩ := List.mem_map.mp hx
              exact memT_all.mp ((hm k).mp hk)
            · intro hx
              exact List.mem_map.mpr ⟨stS' x, (hm _).mpr (memT_all.mpr hx), rfl⟩
        have rk : RpAll C.K g1 (ks.map V.str) ((sortT (onceT zs)).map D.str) := by
          rw [← ek]
          have := RpAll.of_strs (K := C.K) (g := g1) (ks.map fun k => k.cps.toList)
          rw [List.map_map] at this
          exact this
        have hq1 : H1 q2 = none := by
          by_cases z : q2 = q
          · rw [z]; exact hq
          · rw [upd_ne z] at hq2; exact hq2
        subst e2
        exact k _ g1 _ (E1.trans ((Ext.alloc hq).trans (Ext.alloc hq2))) (S2.alloc hq2) ⟨q2, rfl, ⟨_, upd_same, rk⟩, f2.1, f2.2, E1.live _ hq1⟩

      | none =>
        simp only [e3] at e2
        right
        obtain ⟨zs, e4, e2⟩ := bindS e2
        obtain ⟨hz, e2⟩ := iteS e2
        simp only [Bool.and_eq_true, decide_eq_true_eq] at hz
        obtain ⟨few, nn⟩ := hz
        obtain ⟨l, vs, rfl, hl, rp⟩ := w
        obtain ⟨ks, e5, e6, al⟩ := tups_lie rp e4
        subst e5
        have kl : ks.length = zs.length := by rw [← e6, List.length_map]
        have sub : ∀ {H2 : Hp} {p : Addr × List Str}, p ∈ ks → (∀ b o, H1 b = some o → H2 b = some o) → SqT X.K H2 p.1 (p.2.map V.str) := fun {H2 p} m le => by
          have z := sqT_mono S1.sy.sub (al p m).1
          rw [hK]
          exact sqT_mono le z
        have ne : ∀ p ∈ ks, p.2 ≠ [] := fun p m z => by
          have := List.all_eq_true.mp nn (txs p.2) (by rw [← e6]; exact List.mem_map.mpr ⟨p, m, rfl⟩)
          rw [z] at this
          cases this
        refine ⟨l, ks, rfl, hl, fun p m => sub m (fun _ _ z => z), by omega, fun q L hq g0 one => ?_⟩
        have up1 : ∀ b o, H1 b = some o → upd H1 q (TSO X.prog X.w q L) b = some o := fun b o z => by rw [upd_ne (fun y => by rw [y, hq] at z; cases z)]; exact z
        have low : ∀ p ∈ L, p ∈ ks := fun p m => List.mem_of_mem_take (g0.low p m)
        right
        refine ⟨q, L, rfl, upd_same, fun p m => sub (low p m) up1, fun p m => ne p (low p m), fun L' q2 pm hs hq2 => ?_⟩
        have S2 := S1.sy.alloc (o := TSO X.prog X.w q L) hq
        have f2 := S2.fresh hq2
        have one' : (L'.map fun p => txs p.2).Nodup := by
          have z := (pm.map (·.2)).nodup_iff.mpr one
          rw [show (L'.map fun p => txs p.2) = (L'.map (·.2)).map txs by rw [List.map_map]; rfl]
          exact List.pairwise_map.mpr (z.imp fun {a b} h e => h (txs_inj e))
        have ek : (L'.map fun p => txs p.2) = sortK (onceK zs) := by
          refine sortK_one hs one' fun x => ?_
          rw [← e6]
          constructor
          · intro hx
            obtain ⟨p, m, rfl⟩ := List.mem_map.mp hx
            exact List.mem_map.mpr ⟨p, low p (pm.mem_iff.mp m), rfl⟩
          · intro hx
            obtain ⟨p, m, rfl⟩ := List.mem_map.mp hx
            have z := g0.all p (by rw [List.take_length]; exact m)
            rw [← (pm.map (·.2)).mem_iff] at z
            obtain ⟨p', m', e'⟩ := List.mem_map.mp z
            exact List.mem_map.mpr ⟨p', m', congrArg txs e'⟩
        have rk : RpAll C.K g1 (L'.map fun p => V.ref p.1) ((sortK (onceK zs)).map dT) := by
          rw [← ek, List.map_map]
          exact rp_refs fun p m => (al p (low p (pm.mem_iff.mp m))).2
        have hq1 : H1 q2 = none := by
          by_cases z : q2 = q
          · rw [z]; exact hq
          · rw [upd_ne z] at hq2; exact hq2
        subst e2
        exact k _ g1 _ (E1.trans ((Ext.alloc hq).trans (Ext.alloc hq2))) (S2.alloc hq2) ⟨q2, rfl, ⟨_, upd_same, rk⟩, f2.1, f2.2, E1.live _ hq1⟩
    | _ => cases e2
/-- len(a set of tuples of texts) -/
def rLenTp (P : Program) (w : World) : List V → Hp → VK → Prop := fun xs H Q => ∃ (l : Addr) (L : List (Addr × List Str)), xs = [V.ref l] ∧ H l = some (TSO P w l L) ∧ Q (.int (L.length : Nat)) H
theorem cr_lenTp : CallR X (.builtin "len") (rLenTp X.prog X.w) := by
  intro pins s σ H xs us Q I r h
  obtain ⟨l, L, rfl, hl, q⟩ := h
  rw [Vals.ref1 r]
  obtain ⟨es, ep, t, ⟨o, at_, ex, dt⟩, ent, tab, one, led, room, few⟩ := (I.hok l _ hl).1
  have n := entT_len ent
  refine PySem.call_len_set at_ ex dt (tab_fits tab n (by omega)) (by omega) ⟨.int (L.length : Nat), H, I.tok _, ⟨_, by rw [n]⟩, q⟩
theorem boot_len' : bootBuiltins "len" = some (.builtin "len") := by decide +kernel
theorem se_lens {kr : Nat} (hK : X.K = C.K) (hr : Room kr X.A) (hc : X.calm = true) (hg : Gl X "len") (hm : X.mg "len" = none) (hg2 : Gl X "set") (hm2 : X.mg "set" = none) (ha : PE X a (tE C ma))
    (hs : starEach [a] X.env = (false, eval a X.env) :: starEach [] X.env) : PE X (.Call (.Name "len" p) [.Call (.Name "set" p2) [a] [] pos2] [] pos) (tE C (.lens ma)) :=
  (pe_callB cr_lenTp hg hm boot_len' (pa_cons (pe_callTy (cr_setTp hr hc) hg2 hm2 boot_set (pa1 ha hs) (by decide) (by decide) hs (by rfl)) pa_nil (by rfl)) (by decide) (by decide) (by rfl) (by rfl)).imp fun σ H Q h => by
    obtain ⟨g, env, st, rs, st', S, e, k⟩ := h
    rw [evE] at e
    obtain ⟨x, e1, e⟩ := bindS e
    refine tE_one S (fstE e1) fun v g1 H1 E1 S1 R1 => ?_
    have w := R1.wk S1.sy
    generalize x.1.d = d at e w
    cases d with
    | lst ds =>
      obtain ⟨zs, e4, e⟩ := bindS (show ((tupsT ds).bind fun zs => if decide (zs.length < 64) = true then some (Rs.sh (.int ((onceK zs).length : Nat)), x.2) else none) = some (rs, st') from e)
      obtain ⟨few, e⟩ := iteS e
      have few := of_decide_eq_true few
      cases e
      obtain ⟨l, vs, rfl, hl, rp⟩ := w
      obtain ⟨ks, e5, e6, al⟩ := tups_lie rp e4
      subst e5
      have kl : ks.length = zs.length := by rw [← e6, List.length_map]
      refine ⟨l, ks, rfl, hl, fun p m => by
        have z := sqT_mono S1.sy.sub (al p m).1
        rw [hK]
        exact z, by omega, fun q L hq g0 one => ?_⟩
      refine ⟨q, L, rfl, upd_same, ?_⟩
      have len : L.length = (onceK zs).length := by
        have one' : (L.map fun p => txs p.2).Nodup := by
          rw [show (L.map fun p => txs p.2) = (L.map (·.2)).map txs by rw [List.map_map]; rfl]
          exact List.pairwise_map.mpr (one.imp fun {a b} h e => h (txs_inj e))
        have pm : (L.map fun p => txs p.2).Perm (onceK zs) := (List.perm_ext_iff_of_nodup one' (onceK_nodup zs)).mpr fun x => by
          rw [onceK_mem, ← e6]
          constructor
          · intro hx
            obtain ⟨p, m, rfl⟩ := List.mem_map.mp hx
            exact List.mem_map.mpr ⟨p, List.mem_of_mem_take (g0.low p m), rfl⟩
          · intro hx
            obtain ⟨p, m, rfl⟩ := List.mem_map.mp hx
            obtain ⟨p', m', e'⟩ := List.mem_map.mp (g0.all p (by rw [List.take_length]; exact m))
            exact List.mem_map.mpr ⟨p', m', congrArg txs e'⟩
        have z := pm.length_eq
        rwa [List.length_map] at z
      rw [len]
      have S2 := S1.sy.alloc (o := TSO X.prog X.w q L) hq
      exact k _ g1 _ (E1.trans (Ext.alloc hq)) S2 (Rp.int _ : Rp C.K g1 (.int _) (.int _))
    | _ => cases e
end
end MW
set_option Elab.async false
set_option linter.all false
set_option maxRecDepth 100000
set_option maxHeartbeats 2000000
set_option autoImplicit false
/-! enumerate of lists, tuples, texts; zip. -/
namespace MW
open PySem PySem.Spec PyProof.Rows L2

theorem meets_enum1 {v : Value} {o : Obj} {H : Heap → Prop} (B : Begins v o H) :
    Meets (Builtin.«enumerate.__new__» ⟨[.type "enumerate", v], []⟩) (fun _ R s => H s.heap ∧
      R (.ok (.ret (.ref (s.heap.push o).objs.size))) { s with heap := (s.heap.push o).push { cls := .type "enumerate", data := .fields #[.none, .bool false, .ref s.heap.objs.size, rawInt 0, .none, .none] } }) :=
  .of_wp fun prog w A R s h => by
    obtain ⟨hp, g, d, tk, os⟩ := s; obtain ⟨h1, h⟩ := h
    have hsub := sub_enumerate
    have q1 : ∀ {A' : Around} {E : Value → Shared → Prop} {Q : Value → Shared → Prop}, Q (.ref hp.objs.size) ⟨hp.push o, g, d, tk, os⟩ → wpAny (model prog w) A' (pyIter v) Q E ⟨hp, g, d, tk, os⟩ :=
      fun q => B.iter prog w _ _ ⟨hp, g, d, tk, os⟩ _ h1 q
    wp_walk using q1
    refine wpAny_stack_any fun st => wpAny_pure ?_
    split
    · rename_i c _ _ _ _ _
      cases (c == Value.type "enumerate")
      · wp_walk using q1
        exact ⟨_, rfl, h⟩
      · wp_walk using q1
        exact ⟨_, rfl, h⟩
    · wp_walk using q1
      exact ⟨_, rfl, h⟩
theorem call_enum1 {prog : Program} {w : World} {A : Around} {E : Value → Shared → Prop} {s : Shared} {v : Value} {o : Obj} {H : Heap → Prop} {Q : Value → Shared → Prop} (B : Begins v o H) (h1 : H s.heap)
    (h : ∀ h', IsEnum h' (s.heap.objs.size + 1) s.heap.objs.size 0 .none → h'.get? s.heap.objs.size = some o → h'.objs.size = s.heap.objs.size + 2 →
      (∀ b o, s.heap.get? b = some o → h'.get? b = some o) → Q (.ref (s.heap.objs.size + 1)) { s with heap := h' }) :
    wpAny (model prog w) A (call (.type "enumerate") [v]) Q E s := by
  refine callType_new F.called_enumerate (by decide) (F.typeCall_enumerate_1 _) (F.newCall_enumerate_1 _) (fun obj => F.args_object_init_2 obj _) F.entry_enumerate_new
    (meets_enum1 B) ⟨h1, ?_⟩
  have hz : (s.heap.push o).objs.size = s.heap.objs.size + 1 := Heap.size_push ..
  show _ ∧ _
  rw [hz]
  have he : IsEnum ((s.heap.push o).push { cls := .type "enumerate", data := .fields #[.none, .bool false, .ref s.heap.objs.size, rawInt 0, .none, .none] }) (s.heap.objs.size + 1) s.heap.objs.size 0 .none := by
    have := Heap.get?_push_size (s.heap.push o) (o := { cls := .type "enumerate", data := .fields #[.none, .bool false, .ref s.heap.objs.size, rawInt 0, .none, .none] }) rfl
    rw [hz] at this; exact this
  refine ⟨⟨_, he, rfl⟩, h _ he (Heap.get?_push_of_some _ (Heap.get?_push_size _ B.free)) (by rw [Heap.size_push, hz]) fun b o x => Heap.get?_push_of_some _ (Heap.get?_push_of_some _ x)⟩

/-- pairs (i, the i-th of f), n of them -/
def ItN (f : Nat → Option V) (n : Nat) (Gd : Hp → Prop) : It := ⟨fun i H => i < n ∧ Gd H, fun i H v H' => ∃ T x, v = .ref T ∧ H T = none ∧ H' = upd H T (.tup [.int (i : Nat), x]) ∧ f i = some x, fun i H => i = n ∧ Gd H⟩
structure Src (P : Program) (w : World) (K : PySem.W.Frag) (it : Addr) (n : Nat) (f : Nat → Option V) (Gd : Hp → Prop) (tnS : Nat → Heap → Prop) : Prop where
  obj : ∀ i h, tnS i h → ∃ o, h.get? it = some o ∧ ∀ v, o.data ≠ .cell v
  keep : ∀ i h h', tnS i h → (∀ o, h.get? it = some o → h'.get? it = some o) → tnS i h'
  dr : ∀ (X : Cx), X.prog = P → X.w = w → X.K = K → X.calm = true → ∀ (pins : List (Addr × Obj)) (s : Shared) (σ : L2.St) (H : Hp), Inv X pins σ H s → Gd H → ∀ (i : Nat) (e : Addr) (oe : Obj), tnS i s.heap → s.heap.get? e = some oe → oe.cls = .type "enumerate" → e ≠ it →
    ∃ fp Pt St, Draws P w X.A.in1 it fp n Pt St ∧ St i s.heap ∧ e ∉ fp ∧ (∀ i h', St i h' → tnS i h') ∧ ∀ i v, Pt i v → ∃ x, f i = some x ∧ RelV x v
theorem turn_enumD {P : Program} {w : World} {K : PySem.W.Frag} {elts : List Expr} {kk : Nat} {tpos : Pos} {e it : Addr} {n : Nat} {f : Nat → Option V} {Gd : Hp → Prop} {tnS : Nat → Heap → Prop} (S : Src P w K it n f Gd tnS) (hne : e ≠ it) :
    Turn P w K (.Tuple elts kk tpos) (ItN f n Gd) [e, it] e (fun i h => (∃ old, IsEnum h e it ((i : Nat) : Int) old) ∧ tnS i h) where
  mem := by simp
  obj := fun i h st b hb => by
    obtain ⟨⟨old, he⟩, hs⟩ := st
    have e' : b = e ∨ b = it := by simpa using hb
    rcases e' with z | z
    · rw [z]; exact ⟨_, he, fun v q => nomatch q⟩
    · rw [z]; exact S.obj i h hs
  keep := fun i h h' st k => let ⟨⟨old, he⟩, hi⟩ := st; ⟨⟨old, k e (by simp) _ he⟩, S.keep _ _ _ hi fun o q => k it (by simp) o q⟩
  item := by
    intro X hP hw hK hc i pins s σ H E I hf st hg
    subst hP hw hK
    obtain ⟨⟨old, he⟩, hit⟩ := st
    obtain ⟨hi, gd⟩ := hg
    obtain ⟨fp, Pt, St, D, hst, hef, h1, h2⟩ := S.dr X rfl rfl rfl hc pins s σ H I gd i e _ hit he rfl hne
    have hel : e < s.heap.objs.size := Heap.lt_size he
    have hil : it < s.heap.objs.size := by obtain ⟨_, q, _⟩ := S.obj _ _ hit; exact Heap.lt_size q
    refine wpAny_pyNext_enum_itemD D he hst hi hne hef fun u h' tk hP ho hs' hT hsz hk => ?_
    obtain ⟨x, hx, ru⟩ := h2 i u hP
    have hit' := h1 _ _ hs'
    refine ⟨_, rfl, wpAny_letOwnedTupleGo_enum (s := { s with heap := h', toks := tk + 1 }) ho fun h'' he' sb => ?_⟩
    have hT2 : h''.get? s.heap.objs.size = some { cls := .type "tuple", data := .seq #[.int i tk, u] } := (sb.2 _ (Nat.ne_of_gt hel)).trans hT
    have new : ObjOk X.prog X.w (upd H s.heap.objs.size (.tup [.int (i : Nat), x])) h'' s.heap.objs.size (.tup [.int (i : Nat), x]) :=
      ⟨by show 2 ≤ sizeLine; decide, [.int i tk, u], .cons ⟨_, rfl⟩ (.cons ru .nil), ⟨_, hT2, rfl, _, rfl⟩⟩
    have I1 : Inv X pins σ (upd H s.heap.objs.size (.tup [.int (i : Nat), x])) { s with heap := h'', toks := tk + 1 } :=
      I.turnedNew (ch := [e, it]) (fun b ob hb q => (sb.2 b (fun z => hb (by simp [z]))).trans (hk b ob (fun z => hb (by simp [z])) (fun z => hb (by simp [z])) q)) hf (Nat.le_refl _) new
    refine ⟨.ref s.heap.objs.size, _, I1, rfl, ⟨_, x, rfl, I.hok.fresh (Nat.le_refl _), rfl, hx⟩, ⟨⟨u, ?_⟩, S.keep _ _ _ hit' fun o q => (sb.2 it (Ne.symm hne)).trans q⟩, fun b hb => ?_⟩
    · have e1 : ((i + 1 : Nat) : Int) = (i : Int) + 1 := by omega
      rw [e1]; exact he'
    · have hb' : b < s.heap.objs.size := by
        have e' : b = e ∨ b = it := by simpa using hb
        rcases e' with z | z
        · rw [z]; exact hel
        · rw [z]; exact hil
      rw [upd_ne (Nat.ne_of_lt hb')]
      exact (hf b hb).1
  done := by
    intro X hP hw hK hc i pins s σ H E I hf st hg
    subst hP hw hK
    obtain ⟨⟨old, he⟩, hit⟩ := st
    obtain ⟨hi, gd⟩ := hg
    subst hi
    obtain ⟨fp, Pt, St, D, hst, hef, h1, h2⟩ := S.dr X rfl rfl rfl hc pins s σ H I gd i e _ hit he rfl hne
    obtain ⟨f0, f1, f2, f3, f4, f5⟩ := hf it (by simp)
    exact wpAny_pyNext_enum_endD D he hst fun h' eb => ⟨rfl, I.turned (t' := s.toks) (fun b o hb q => eb b o hb q) f0 f1 f3 f4 f5⟩
  self := fun A i s Q E st h => let ⟨⟨_, he⟩, _⟩ := st; wpAny_pyIter_enum he h

theorem src_tup {P : Program} {w : World} {K : PySem.W.Frag} {a it : Addr} {xs : List V} : Src P w K it xs.length (fun i => xs[i]?) (fun H => SqT K H a xs) (fun i h => h.IsTupleIter it a i) where
  obj := fun i h st => by
    obtain ⟨o, ho, hc, hd⟩ := st
    exact ⟨o, ho, fun v q => by rw [hd] at q; cases q⟩
  keep := fun i h h' st k => by
    obtain ⟨o, ho, hc, hd⟩ := st
    exact ⟨o, k o ho, hc, hd⟩
  dr := fun X hP hw hK hc pins s σ H I gd i e oe hit he hcl hne => by
    subst hP hw hK
    obtain ⟨its, rv, p, hz⟩ := I.tuple gd
    have ha : a ≠ it := by
      rintro rfl
      obtain ⟨o, ho, h1, _⟩ := hit
      obtain ⟨o', ho', h2, _⟩ := p
      rw [ho] at ho'; cases ho'
      rw [h1] at h2; exact absurd h2 (by decide)
    have hae : a ≠ e := by
      rintro rfl
      obtain ⟨o', ho', h2, _⟩ := p
      rw [he] at ho'; cases ho'
      rw [hcl] at h2; exact absurd h2 (by decide)
    have hsz : its.toArray.size = xs.length := by rw [List.size_toArray]; exact rv.length.symm
    have D := Draws.tuple (prog := X.prog) (w := X.w) (A := X.A.in1) (I.ok.hd hc) it a ha its.toArray
    rw [hsz] at D
    refine ⟨_, _, _, D, ⟨hit, p⟩, ?_, fun i h' st => st.1, fun i v hv => ?_⟩
    · simp only [List.mem_cons, List.not_mem_nil, or_false, not_or]
      exact ⟨hne, Ne.symm hae⟩
    · have hv' : its[i]? = some v := by simpa using hv
      have hl : i < xs.length := by rw [rv.length]; exact (List.getElem?_eq_some_iff.mp hv').1
      obtain ⟨u, h1, h2⟩ := rv.get (i := i) (x := xs[i]) (by simp [hl])
      rw [hv'] at h1; cases h1
      exact ⟨xs[i], by simp [hl], h2⟩
theorem src_str {P : Program} {w : World} {K : PySem.W.Frag} {it : Addr} {x : Str} {t : Tok} : Src P w K it x.cps.size (fun i => (x.cps[i]?).map fun c => V.str ⟨#[c]⟩) (fun _ => True) (fun i h => h.IsStrIter it (strIterType x) x t i) where
  obj := fun i h st => by
    obtain ⟨o, ho, hc, hd⟩ := st
    exact ⟨o, ho, fun v q => by rw [hd] at q; cases q⟩
  keep := fun i h h' st k => by
    obtain ⟨o, ho, hc, hd⟩ := st
    exact ⟨o, k o ho, hc, hd⟩
  dr := fun X hP hw hK hc pins s σ H I gd i e oe hit he hcl hne => by
    subst hP hw hK
    have fin : ∀ (i : Nat) (v : Value), (∃ (c : Nat) (u : Tok), x.cps[i]? = some c ∧ v = Value.str ⟨#[c]⟩ u) → ∃ y, ((x.cps[i]?).map fun c => V.str ⟨#[c]⟩) = some y ∧ RelV y v := by
      rintro i v ⟨c, u, h1, rfl⟩
      exact ⟨.str ⟨#[c]⟩, by rw [h1]; rfl, ⟨u, rfl⟩⟩
    have ne : e ∉ [it] := by simpa using hne
    unfold strIterType at hit ⊢
    cases hk : x.cps.all (· < 128) with
    | true =>
      rw [hk] at hit
      exact ⟨_, _, _, Draws.strAscii (prog := X.prog) (w := X.w) (A := X.A.in1) (I.ok.hd hc) it x t, hit, ne, fun i h' st => st, fin⟩
    | false =>
      rw [hk] at hit
      exact ⟨_, _, _, Draws.strWide (prog := X.prog) (w := X.w) (A := X.A.in1) (I.ok.hd hc) it x t, hit, ne, fun i h' st => st, fin⟩
section
variable {X : Cx}
def iEnumT (K : PySem.W.Frag) (ta : TA) : TI := fun σ H R => ta σ H fun vs H1 => (∃ a xs, vs = [.ref a] ∧ SqT K H1 a xs ∧ R (ItN (fun i => xs[i]?) xs.length fun H => SqT K H a xs) H1) ∨
  ∃ x : Str, vs = [.str x] ∧ R (ItN (fun i => (x.cps[i]?).map fun c => V.str ⟨#[c]⟩) x.cps.size fun _ => True) H1
theorem pi_enumT {e : Expr} {ta : TA} {p pos tpos : Pos} {elts : List Expr} {kk : Nat} (hg : Gl X "enumerate") (hm : X.mg "enumerate" = none) (ha : PA X [e] ta) (hs : starEach [e] X.env = [(false, eval e X.env)]) :
    PI X (.Tuple elts kk tpos) (.Call (.Name "enumerate" p) [e] [] pos) (iEnumT X.K ta) := by
  refine ⟨fun pins s σ H R I h => ?_⟩
  refine Call_ (ld_blt I hg hm boot_enumerate (PyProof.Rows.callWith_type1 (thn (ha.run pos pins s σ H _ I h) fun us s1 ⟨vs, H1, I1, r1, q1⟩ => ?_) hs rfl))
  have fresh : ∀ b ∈ [s1.heap.objs.size + 1, s1.heap.objs.size], FpOk X pins H1 b := fun b hb => by
    have e' : b = s1.heap.objs.size + 1 ∨ b = s1.heap.objs.size := by simpa using hb
    have hle : s1.heap.objs.size ≤ b := by
      rcases e' with z | z
      · rw [z]; exact Nat.le_add_right _ _
      · rw [z]; exact Nat.le_refl _
    exact I1.fpOk hle (I1.hok.fresh hle)
  rcases q1 with ⟨a, xs, ex, hq, q⟩ | ⟨x, ex, q⟩
  · subst ex
    cases r1 with
    | cons r rr =>
      cases rr
      cases r
      obtain ⟨its, rv, p', hz⟩ := I1.tuple hq
      refine call_enum1 (begins_tuple a its.toArray) p' fun h' he hit hsz hk => wpAny_pyIter_enum he ?_
      exact ⟨s1.heap.objs.size + 1, [s1.heap.objs.size + 1, s1.heap.objs.size], _, _, H1, rfl, I1.kept (t' := s1.toks) hk, turn_enumD src_tup (Nat.succ_ne_self _), ⟨⟨.none, he⟩, ⟨_, hit, rfl, rfl⟩⟩, fresh, q⟩
  · subst ex
    cases r1 with
    | cons r rr =>
      cases rr
      obtain ⟨t, rfl⟩ := r
      refine call_enum1 (begins_text x t) trivial fun h' he hit hsz hk => wpAny_pyIter_enum he ?_
      exact ⟨s1.heap.objs.size + 1, [s1.heap.objs.size + 1, s1.heap.objs.size], _, _, H1, rfl, I1.kept (t' := s1.toks) hk, turn_enumD (src_str (t := t)) (Nat.succ_ne_self _), ⟨⟨.none, he⟩, ⟨_, hit, rfl, rfl⟩⟩, fresh, q⟩
theorem walk_N {f : Nat → Option V} {n : Nat} {Gd : Hp → Prop} : L2.Walk (ItN f n Gd) n Gd (YPair (fun i => some (.int (i : Nat))) f) :=
  ⟨fun i H hi q => ⟨hi, q⟩, fun H q => ⟨rfl, q⟩, fun i H v H' _ q y => by
    obtain ⟨T, x, h1, h2, h3, h4⟩ := y
    exact ⟨T, .int (i : Nat), x, h1, h2, h3, rfl, h4⟩⟩
theorem walk_zipT {K : PySem.W.Frag} {a b : Addr} {xs ys : List V} {n : Nat} (hn : n = min xs.length ys.length) : L2.Walk (RZ.ItzT K a b) n (fun H => SqT K H a xs ∧ SqT K H b ys) (YPair (fun i => xs[i]?) (fun i => ys[i]?)) := by
  subst hn
  refine ⟨fun i _ hi q => ?_, fun _ q => ⟨xs, ys, q.1, q.2, by omega⟩, fun i H v H' _ q y => ?_⟩
  · have h1 : i < xs.length := by omega
    have h2 : i < ys.length := by omega
    exact ⟨xs, ys, xs[i], ys[i], q.1, q.2, by simp [h1], by simp [h2]⟩
  · obtain ⟨T, x, z, h1, h2, h3, h4, h5⟩ := y
    exact ⟨T, x, z, h1, h2, h3, h4 xs q.1, h5 ys q.2⟩
theorem enumD_get : ∀ (k : Nat) (xs : List D) (i : Nat), (enumD k xs)[i]? = (xs[i]?).map fun x => D.tup [.int ((k + i : Nat) : Int), x]
  | _, [], i => by simp [enumD]
  | k, x :: xs, 0 => by simp [enumD]
  | k, x :: xs, i + 1 => by
    show (enumD (k + 1) xs)[i]? = _
    rw [enumD_get (k + 1) xs i]
    have : k + 1 + i = k + (i + 1) := by omega
    rw [this]; rfl
theorem enumD_length : ∀ (k : Nat) (xs : List D), (enumD k xs).length = xs.length
  | _, [] => rfl
  | k, x :: xs => by show (enumD (k + 1) xs).length + 1 = _; rw [enumD_length]; rfl
theorem zipD_get : ∀ (xs ys : List D) (i : Nat) (x y : D), xs[i]? = some x → ys[i]? = some y → (zipD xs ys)[i]? = some (D.tup [x, y])
  | [], _, _, _, _, h, _ => by simp at h
  | _ :: _, [], _, _, _, _, h => by simp at h
  | a :: xs, b :: ys, 0, x, y, h1, h2 => by simp at h1 h2; subst h1 h2; rfl
  | a :: xs, b :: ys, i + 1, x, y, h1, h2 => zipD_get xs ys i x y (by simpa using h1) (by simpa using h2)
theorem zipD_length : ∀ (xs ys : List D), (zipD xs ys).length = min xs.length ys.length
  | [], _ => by simp [zipD]
  | _ :: _, [] => by simp [zipD]
  | a :: xs, b :: ys => by show (zipD xs ys).length + 1 = _; rw [zipD_length]; simp
theorem wk_pair {K : PySem.W.Frag} {g : Gh} {J : It} {n : Nat} {Gd : Hp → Prop} {fa fb : Nat → Option V} {zs : List D} (w : L2.Walk J n Gd (YPair fa fb)) (hn : zs.length = n)
    (h : ∀ i x y, i < n → fa i = some x → fb i = some y → ∃ d e, zs[i]? = some (.tup [d, e]) ∧ Rp K g x d ∧ Rp K g y e) : WkD J Gd K g zs := by
  refine ⟨YPair fa fb, by rw [hn]; exact w, fun i H v H' g1 st hi y S hg => ?_⟩
  obtain ⟨T, x, z, rfl, h2, rfl, h4, h5⟩ := y
  obtain ⟨d, e, h6, h7, h8⟩ := h i x z (by omega) h4 h5
  obtain ⟨a, b, c⟩ := tup_new S (.cons (h7.mono hg) (.cons (h8.mono hg) .nil)) T h2
  exact ⟨_, a, b, _, h6, c⟩
variable {C : Ct} {a b : Expr} {ma mb : E}
theorem si_enum {elts : List Expr} {kk : Nat} {tpos p pos : Pos} (hK : X.K = C.K) (hg : Gl X "enumerate") (hm : X.mg "enumerate" = none) (ha : PE X a (tE C ma)) (hs : starEach [a] X.env = [(false, eval a X.env)]) :
    PI X (.Tuple elts kk tpos) (.Call (.Name "enumerate" p) [a] [] pos) (tI C (.enum ma)) := ((pi_enum hg hm (pa1 ha hs) hs).or (pi_enumT hg hm (pa1 ha hs) hs)).imp fun σ H R h => by
  obtain ⟨g, env, st, xs, b, st', S, e, k⟩ := h
  rw [evI] at e
  obtain ⟨x, e1, e⟩ := bindS e
  obtain ⟨ys, e2, e⟩ := mapS e
  cases e
  cases hd : x.1.d with
  | lst zs =>
    rw [hd] at e2
    cases e2
    refine .inl (tE_one S (fstE e1) fun v g1 H1 E1 S1 R1 => ?_)
    obtain ⟨a, g2, vs, rfl, h1, r, E2, Y2, hA, hB⟩ := lst_of S1.sy R1 hd E1
    rw [hK]
    refine ⟨a, vs, rfl, h1, k _ g2 H1 E2 Y2 ⟨_, wk_pair walk_enum (by rw [enumD_length, r.length]) fun i x y hi h1 h2 => ?_, hA, hB⟩⟩
    cases h1
    obtain ⟨d, h3, h4⟩ := r.get' h2
    exact ⟨.int (i : Nat), d, by rw [enumD_get, h3]; simp, .int _, h4⟩
  | tup zs =>
    rw [hd] at e2
    cases e2
    refine .inr (tE_one S (fstE e1) fun v g1 H1 E1 S1 R1 => .inl ?_)
    obtain ⟨a, vs, rfl, q, r, hv⟩ := rs_tup S1.sy R1 hd
    rw [hK]
    refine ⟨a, vs, rfl, sqT_mono S1.sy.sub q, k _ g1 H1 E1 S1.sy ⟨_, wk_pair walk_N (by rw [enumD_length, r.length]) fun i x y hi h1 h2 => ?_, fun _ H' h => sqT_mono h q, fun g' H' E' h => sqT_mono h (sqT_mono E'.le.G q)⟩⟩
    cases h1
    obtain ⟨d, h3, h4⟩ := r.get' h2
    exact ⟨.int (i : Nat), d, by rw [enumD_get, h3]; simp, .int _, h4⟩
  | str z =>
    rw [hd] at e2
    cases e2
    refine .inr (tE_one S (fstE e1) fun v g1 H1 E1 S1 R1 => .inr ?_)
    obtain ⟨rfl, hv⟩ := rs_str R1 hd
    refine ⟨_, rfl, k _ g1 H1 E1 S1.sy ⟨_, wk_pair walk_N (by rw [enumD_length]; unfold signsD; simp) fun i x y hi h1 h2 => ?_, fun _ _ _ => trivial, fun _ _ _ _ => trivial⟩⟩
    cases h1
    obtain ⟨c, h3, rfl⟩ := mapS h2
    have h3' : z[i]? = some c := by simpa using h3
    exact ⟨.int (i : Nat), .str [c], by rw [enumD_get]; unfold signsD; rw [List.getElem?_map, h3']; simp, .int _, .str [c]⟩
  | _ => rw [hd] at e2; cases e2
theorem si_zip {elts : List Expr} {kk : Nat} {tpos p pos : Pos} (hK : X.K = C.K) (hg : Gl X "zip") (hm : X.mg "zip" = none) (ha : PE X a (tE C ma)) (hb : PE X b (tE C mb)) (hs : starEach [a, b] X.env = (false, eval a X.env) :: starEach [b] X.env) (hs2 : starEach [b] X.env = (false, eval b X.env) :: starEach [] X.env) :
    PI X (.Tuple elts kk tpos) (.Call (.Name "zip" p) [a, b] [] pos) (tI C (.zip ma mb)) := (RZ.pi_zipA hg hm (pa_cons ha (pa1 hb hs2) hs) hs (by rw [hs2]; rfl)).imp fun σ H R h => by
  obtain ⟨g, env, st, xs, b, st', S, e, k⟩ := h
  rw [evI] at e
  obtain ⟨x, e1, e⟩ := bindS e
  obtain ⟨y, e2, e⟩ := bindS e
  obtain ⟨zs, e3, e⟩ := mapS e
  cases e
  refine tE_one S (fstE e1) fun v g1 H1 E1 S1 R1 => ?_
  refine tE_one S1 (fstE e2) fun w g2 H2 E2 S2 R2 => ?_
  have R1' := R1.ext E2
  rw [hK]
  unfold zipOk at e3
  split at e3
  · rename_i us ws h1 h2
    cases e3
    obtain ⟨a, vs, rfl, q1, r1, k1⟩ := lst_keep S2.sy R1' h1
    obtain ⟨b, ws', rfl, q2, r2, k2⟩ := lst_keep S2.sy R2 h2
    refine ⟨a, b, vs, ws', rfl, .inl ⟨q1, q2, k _ g2 H2 (E1.trans E2) S2.sy ⟨_, wk_pair (walk_zip (n := min vs.length ws'.length) rfl) (by rw [zipD_length, r1.length, r2.length]) fun i x y hi h1 h2 => ?_, (fun e => Bool.noConfusion e), fun g' H' E' h => ⟨k1 _ _ E' h, k2 _ _ E' h⟩⟩⟩⟩
    obtain ⟨d, h3, h4⟩ := r1.get' h1
    obtain ⟨e, h5, h6⟩ := r2.get' h2
    exact ⟨d, e, zipD_get _ _ _ _ _ h3 h5, h4, h6⟩
  · rename_i us ws h1 h2
    cases e3
    obtain ⟨a, vs, rfl, q1, r1, _⟩ := rs_tup S2.sy R1' h1
    obtain ⟨b, ws', rfl, q2, r2, _⟩ := rs_tup S2.sy R2 h2
    refine ⟨a, b, vs, ws', rfl, .inr ⟨sqT_mono S2.sy.sub q1, sqT_mono S2.sy.sub q2, k _ g2 H2 (E1.trans E2) S2.sy ⟨_, wk_pair (walk_zipT (n := min vs.length ws'.length) rfl) (by rw [zipD_length, r1.length, r2.length]) fun i x y hi h1 h2 => ?_, (fun e => Bool.noConfusion e), fun g' H' E' h => ⟨sqT_mono h (sqT_mono E'.le.G q1), sqT_mono h (sqT_mono E'.le.G q2)⟩⟩⟩⟩
    obtain ⟨d, h3, h4⟩ := r1.get' h1
    obtain ⟨e, h5, h6⟩ := r2.get' h2
    exact ⟨d, e, zipD_get _ _ _ _ _ h3 h5, h4, h6⟩
  · cases e3
end
end MW
set_option Elab.async false
set_option linter.all false
set_option maxRecDepth 100000
set_option maxHeartbeats 2000000
set_option autoImplicit false
/-! Comprehensions and statements. -/
namespace MW
open PySem PySem.Spec PyProof.Rows L2

/-- a comprehension's test -/
def tCn (C : Ct) (m : Eo) : TT := fun σ H Q => ∃ g env st b st', Ste C σ g H env st ∧ evC C.W m env st = some (b, st') ∧ ∀ g' H', Ext g H g' H' → Sy C.K g' H' st' → Q b H'
theorem _root_.L2.PTs.imp {X : Cx} {e : List Expr} {t t' : TT} (h : PTs X e t) (i : ∀ σ H Q, t' σ H Q → t σ H Q) : PTs X e t' := ⟨fun pins s σ H Q I q => h.run pins s σ H Q I (i σ H Q q)⟩
theorem tCn_one {C : Ct} {m : Eo} {σ : L2.St} {g : Gh} {H : Hp} {env : En} {st st' : Store} {b : Bool} {Q : Bool → Hp → Prop} (S : Ste C σ g H env st) (e : evC C.W m env st = some (b, st'))
    (h : ∀ g' H', Ext g H g' H' → Ste C σ g' H' env st' → Q b H') : tCn C m σ H Q := ⟨g, env, st, b, st', S, e, fun g' H' E y => h g' H' E (S.of E y)⟩
section
variable {X : Cx} {C : Ct} {a b : Expr} {ma mb : E}
theorem sc_no : PTs X [] (tCn C .no) := pts_nil.imp fun σ H Q h => by
  obtain ⟨g, env, st, b, st', S, e, k⟩ := h
  rw [evC] at e
  cases e
  exact k g H (.refl g H) S.sy
theorem sc_so (ha : PT X a (tT C ma)) : PTs X [a] (tCn C (.so ma)) := (pts_one ha).imp fun σ H Q h => by
  obtain ⟨g, env, st, b, st', S, e, k⟩ := h
  rw [evC] at e
  obtain ⟨x, e1, e⟩ := bindS e
  obtain ⟨i, e2, e⟩ := mapS e
  cases e
  have e1' := fstE e1
  rw [boolOf_ok e2] at e1'
  exact tT_one S e1' fun g1 H1 E1 S1 => k g1 H1 E1 S1.sy
theorem Ste.wipe {σ : L2.St} {g : Gh} {H : Hp} {env : En} {st : Store} (S : Ste C σ g H env st) (ws : List Nat) : Ste C (L2.wipe σ ws) g H (wipeE env ws) st := ⟨S.sy, S.en.wipe ws, S.ext⟩
theorem drop_cons {α : Type} {xs : List α} {i : Nat} {x : α} (h : xs[i]? = some x) : xs.drop i = x :: xs.drop (i + 1) := by
  obtain ⟨h1, rfl⟩ := List.getElem?_eq_some_iff.mp h
  exact List.drop_eq_getElem_cons h1
def lcIn (g : TG) (tt : TT) (te : TE) (vs : List Nat) (σ : L2.St) (Q : VK) : It → Hp → Prop := fun J H1 => ∀ D, H1 D = none → ∃ W : Nat → Nat → Hp → Prop, (∃ m, W 0 m (upd H1 D (.lst []))) ∧ ∀ i m H, W i m H →
  (J.stop i H ∧ Q (.ref D) H) ∨ (J.go i H ∧ ∃ Nx : Hp → Prop, (∀ H', Nx H' → ∃ m', m' < m ∧ W (i + 1) m' H') ∧ ∀ x H', J.yld i H x H' → g x (L2.wipe σ vs) H' fun σ2 H2 => L2.wipe σ2 vs = L2.wipe σ vs ∧ tt σ2 H2 fun b H3 =>
    if b = true then te σ2 H3 fun y H4 => ∃ acc, H4 D = some (.lst acc) ∧ acc.length < sizeLine ∧ Nx (upd H4 D (.lst (acc ++ [y]))) else Nx H3)
/-- a comprehension's turns, whatever is walked -/
theorem comp_core {ws : List Nat} {me : E} {mt : Tg} {mc : Eo} {σ : L2.St} {g g1 : Gh} {H H1 : Hp} {env : En} {st st1 st2 : Store} {J : It} {xs zs : List D} {vb : Bool} {Q : VK} (S : Ste C σ g H env st) (E1 : Ext g H g1 H1) (Y1 : Sy C.K g1 H1 st1) (W : WkE J C.K g1 H1 vb xs)
    (e2 : compGo (bindT mt) (evC C.W mc) (evE C.W me) (wipeE env ws) xs st1 = some (zs, st2)) (hz : big zs.length = true) (hin : tgIn ws mt = true) (k : ∀ v g' H', Ext g H g' H' → Sy C.K g' H' st2 → RsR C.K g' H' H v (.fr (.lst zs)) → Q v H') :
    lcIn (tG C mt) (tCn C mc) (tE C me) ws σ Q J H1 := by
  intro Dn hD
  obtain ⟨Gd, ⟨Y, wk, yl⟩, _, hB⟩ := W
  refine lc_it wk (fun i H' => ∃ g2 s2 done vs rest, Ext g1 H1 g2 H' ∧ Sy C.K g2 H' s2 ∧ H' Dn = some (.lst vs) ∧ g2.G Dn = none ∧ Dn ∉ g2.cm ∧ RpAll C.K g2 vs done ∧ compGo (bindT mt) (evC C.W mc) (evE C.W me) (wipeE env ws) (xs.drop i) s2 = some (rest, st2) ∧ done ++ rest = zs) ?_ ?_ ?_ ?_
  · exact ⟨g1, st1, [], [], zs, Ext.alloc hD, Y1.alloc hD, upd_same, (Y1.fresh hD).1, (Y1.fresh hD).2, .nil, e2, rfl⟩
  · rintro i H' hi ⟨g2, s2, done, vs, rest, E2, Y2, _⟩
    exact hB _ _ E2 Y2.sub
  · rintro i x H' H'' hi ⟨g2, s2, done, vs, rest, E2, Y2, hDn, hG, hM, R2, e3, ed⟩ y
    obtain ⟨g3, E3, Y3, d, hd, rd⟩ := yl i H' x H'' g2 s2 hi y Y2 E2.le
    rw [drop_cons hd, compGo] at e3
    obtain ⟨en1, e4, e3⟩ := bindS e3
    obtain ⟨⟨cb, s3⟩, e5, e3⟩ := bindS e3
    have S3 : Ste C σ g3 H'' env s2 := S.of (E1.trans (E2.trans E3)) Y3
    refine ⟨g3, wipeE env ws, s2, d, en1, S3.wipe ws, rd, e4, fun σ' S4 w4 => ⟨?_, ?_⟩⟩
    · rw [w4 ws hin, wipe_wipe]
    refine tCn_one S4 e5 fun g5 H5 E5 S5 => ?_
    have D3 : H'' Dn = some (.lst vs) := E3.keep _ _ hM hDn
    have D5 : H5 Dn = some (.lst vs) := E5.keep _ _ (own_ext E3 (by rw [hDn]; exact fun q => nomatch q) hG hM).2 D3
    have f3 := own_ext E3 (by rw [hDn]; exact fun q => nomatch q) hG hM
    have f5 := own_ext E5 (by rw [D3]; exact fun q => nomatch q) f3.1 f3.2
    have R5 : RpAll C.K g5 vs done := (R2.mono E3.le).mono E5.le
    cases cb with
    | false =>
      rw [if_neg Bool.false_ne_true] at e3 ⊢
      exact ⟨g5, s3, done, vs, rest, E2.trans (E3.trans E5), S5.sy, D5, f5.1, f5.2, R5, e3, ed⟩
    | true =>
      rw [if_pos rfl] at e3 ⊢
      obtain ⟨⟨rr, s4⟩, e6, e3⟩ := bindS e3
      obtain ⟨d', e7, e3⟩ := bindS e3
      obtain ⟨⟨rest', s5⟩, e8, e3⟩ := bindS e3
      have e9 : d' :: rest' = rest ∧ s5 = st2 := by simpa using e3
      obtain ⟨rfl, rfl⟩ := e9
      obtain ⟨hd', nv⟩ := own_ok e7
      refine tE_one S5 e6 fun v g6 H6 E6 S6 R6 => ?_
      have D6 : H6 Dn = some (.lst vs) := E6.keep _ _ f5.2 D5
      have f6 := own_ext E6 (by rw [D5]; exact fun q => nomatch q) f5.1 f5.2
      obtain ⟨g7, Y7, E7, le7, rp, hch, hcm⟩ := R6.share S6.sy nv E6
      have G7 : g7.G Dn = none := by
        by_cases q : g7.G Dn = g6.G Dn
        · rw [q]; exact f6.1
        · have := (hch Dn q).2
          rw [D5] at this; cases this
      have M7 : Dn ∉ g7.cm := by rw [hcm]; exact f6.2
      have hlen : done.length + 1 ≤ zs.length := by rw [← ed]; simp
      refine ⟨vs, D6, ?_, g7, s4, done ++ [d'], vs ++ [v], rest', ?_, Y7.upd_own G7 M7, upd_same, G7, M7, ?_, e8, by rw [← ed]; simp⟩
      · rw [R2.length]; exact Nat.lt_of_lt_of_le hlen (bigS hz)
      · exact (E2.trans (E3.trans (E5.trans E7))).upd_new hD
      · rw [← hd']
        exact ((R5.mono E6.le).mono le7).append (.cons rp .nil)
  · rintro H' ⟨g2, s2, done, vs, rest, E2, Y2, hDn, hG, hM, R2, e3, ed⟩
    rw [List.drop_length, compGo] at e3
    have e4 : [] = rest ∧ s2 = st2 := by simpa using e3
    obtain ⟨rfl, rfl⟩ := e4
    rw [List.append_nil] at ed
    subst ed
    exact k _ g2 H' (E1.trans E2) Y2 ⟨Dn, rfl, ⟨vs, hDn, R2⟩, hG, hM, E1.live _ hD⟩
theorem se_comp {elt tg iter : Expr} {ifs : List Expr} {scope : Scope} {own : List (Str × Nat)} {pos : Pos} {me : E} {mt : Tg} {mi : Itb} {mc : Eo} (hc : X.calm = true) (hN : X.N.Nodup) (hi : PI X tg iter (tI C mi)) (ok : BlkOk X.N X.env.scope scope own)
    (hg : ∀ (s : Shared) (H : Hp) (Cc : Addr) (cl : List (Str × Addr)) (fp : List Addr), PG (X.blk s H scope (compEnvC scope cl Cc X.env) fp) tg (tG C mt)) (ht : ∀ (s : Shared) (H : Hp) (Cc : Addr) (cl : List (Str × Addr)) (fp : List Addr), PTs (X.blk s H scope (compEnvC scope cl Cc X.env) fp) ifs (tCn C mc))
    (he : ∀ (s : Shared) (H : Hp) (Cc : Addr) (cl : List (Str × Addr)) (fp : List Addr), PE (X.blk s H scope (compEnvC scope cl Cc X.env) fp) elt (tE C me)) (hs : ∀ x, foldedSetIterable iter X.env x = pure x) (hin : tgIn (own.map (·.2)) mt = true) :
    PE X (.ListComp elt [⟨tg, iter, ifs, 0⟩] scope pos) (tE C (.comp (own.map (·.2)) me mt mi mc)) ∧
    ∀ (i : Nat) (y : Str) (py spos : Pos) (hy : X.N[i]? = some y) (hyl : X.env.scope.names.lookup y = some .local) (hsw : swapsWith (.ListComp elt [⟨tg, iter, ifs, 0⟩] scope pos) (some (.Name y py)) spos.line X.env = pure true),
      PS X (.Assign [.Name y py] (.ListComp elt [⟨tg, iter, ifs, 0⟩] scope pos) spos) (tAsg (tE C (.comp (own.map (·.2)) me mt mi mc)) (gName i)) := by
  have core : ∀ σ H Q, tE C (.comp (own.map (·.2)) me mt mi mc) σ H Q → tLc (tI C mi) (tG C mt) (tCn C mc) (tE C me) (own.map (·.2)) σ H Q := by
    intro σ H Q h
    generalize hws : own.map (·.2) = ws at h hin ⊢
    obtain ⟨g, env, st, rs, st', S, e, k⟩ := h
    rw [evE] at e
    obtain ⟨⟨xs, vb, st1⟩, e1, e⟩ := bindS e
    obtain ⟨⟨zs, st2⟩, e2, e⟩ := bindS e
    obtain ⟨hz, e⟩ := iteS e
    cases e
    refine ⟨g, env, st, xs, vb, st1, S, e1, fun J g1 H1 E1 Y1 W => ?_⟩
    exact comp_core S E1 Y1 W e2 hz hin k
  exact ⟨(pe_lc hc hN hi ok hg ht he hs).imp core, fun i y py spos hy hyl hsw => (ps_setLc hc hN hy hyl hsw hi ok hg ht he hs).imp fun D σ H h => core σ H _ h⟩

/-! ### statements -/
def kS (C : Ct) (g : Gh) (o : Out) (D : Ends) : Prop := match o.1 with
  | .nx => ∀ σ' g' H', Ste C σ' g' H' o.2.1 o.2.2 → g.le g' → D.nx σ' H'
  | .brk => ∀ σ' g' H', Ste C σ' g' H' o.2.1 o.2.2 → g.le g' → D.bk σ' H'
  | .cont => ∀ σ' g' H', Ste C σ' g' H' o.2.1 o.2.2 → g.le g' → D.ct σ' H'
  | .ret r => ∀ v g' H', Sy C.K g' H' o.2.2 → Ext C.g0 C.Hb g' H' → RsR C.K g' H' C.Hb v r → D.rt v H'
def tS (C : Ct) (m : S) : TS := fun D σ H => ∃ g env st o, Ste C σ g H env st ∧ evS C.W m env st = some o ∧ kS C g o D
def tSs (C : Ct) (m : Ss) : TS := fun D σ H => ∃ g env st o, Ste C σ g H env st ∧ evSs C.W m env st = some o ∧ kS C g o D
theorem kS.le {g g' : Gh} {o : Out} {D : Ends} (k : kS C g o D) (h : g.le g') : kS C g' o D := by
  unfold kS at k ⊢
  split at k
  · exact fun σ' g1 H1 S l => k σ' g1 H1 S (h.trans l)
  · exact fun σ' g1 H1 S l => k σ' g1 H1 S (h.trans l)
  · exact fun σ' g1 H1 S l => k σ' g1 H1 S (h.trans l)
  · exact k
theorem Ste.live {σ : L2.St} {g : Gh} {H : Hp} {env : En} {st : Store} (S : Ste C σ g H env st) {a : Addr} (h : H a = none) : C.Hb a = none := S.ext.live a h
theorem ss_nil : PSs X [] (tSs C .nil) := pss_nil.imp fun D σ H h => by
  obtain ⟨g, env, st, o, S, e, k⟩ := h
  rw [evSs] at e
  cases e
  exact k σ g H S (.refl g)
theorem ss_cons {s : Stmt} {r : List Stmt} {m : MW.S} {ms : Ss} (h1 : PS X s (tS C m)) (h2 : PSs X r (tSs C ms)) : PSs X (s :: r) (tSs C (.cons m ms)) := (pss_cons h1 h2).imp fun D σ H h => by
  obtain ⟨g, env, st, o, S, e, k⟩ := h
  rw [evSs] at e
  obtain ⟨⟨f, en1, st1⟩, e1, e⟩ := bindS e
  refine ⟨g, env, st, _, S, e1, ?_⟩
  cases f with
  | nx => exact fun σ' g' H' S' l => ⟨g', en1, st1, o, S', e, k.le l⟩
  | brk => cases e; exact k
  | cont => cases e; exact k
  | ret r => cases e; exact k
theorem ss_brk {pos : Pos} : PS X (.Break pos) (tS C .brk) := ps_break.imp fun D σ H h => by
  obtain ⟨g, env, st, o, S, e, k⟩ := h
  rw [evS] at e; cases e
  exact k σ g H S (.refl g)
theorem ss_cont {pos : Pos} : PS X (.Continue pos) (tS C .cont) := ps_continue.imp fun D σ H h => by
  obtain ⟨g, env, st, o, S, e, k⟩ := h
  rw [evS] at e; cases e
  exact k σ g H S (.refl g)
theorem ss_pass {pos : Pos} : PS X (.Pass pos) (tS C .pass) := ps_pass.imp fun D σ H h => by
  obtain ⟨g, env, st, o, S, e, k⟩ := h
  rw [evS] at e; cases e
  exact k σ g H S (.refl g)
theorem ss_retN {pos : Pos} : PS X (.Return none pos) (tS C .retN) := ps_retN.imp fun D σ H h => by
  obtain ⟨g, env, st, o, S, e, k⟩ := h
  rw [evS] at e; cases e
  exact k .non g H S.sy S.ext .non
theorem ss_ret {pos : Pos} (ha : PE X a (tE C ma)) : PS X (.Return (some a) pos) (tS C (.ret ma)) := (ps_ret ha).imp fun D σ H h => by
  obtain ⟨g, env, st, o, S, e, k⟩ := h
  rw [evS] at e
  obtain ⟨x, e1, e⟩ := bindS e
  obtain ⟨d, e2, e⟩ := mapS e
  cases e
  exact tE_one S (fstE e1) fun v g1 H1 E1 S1 R1 => k v g1 H1 S1.sy S1.ext (R1.older fun a h => S.live h)
theorem ss_reto {pos : Pos} {i : Nat} (ha : PE X a (tVar i)) (hi : i ∈ C.O) : PS X (.Return (some a) pos) (tS C (.reto i)) := (ps_ret ha).imp fun D σ H h => by
  obtain ⟨g, env, st, o, S, e, k⟩ := h
  rw [evS] at e
  obtain ⟨d, e1, e⟩ := mapS e
  cases e
  obtain ⟨v, h3, _, h4⟩ := S.en.get i d e1
  obtain ⟨p, h5, h6, h7, h8, h9⟩ := h4 hi
  exact ⟨v, h3, k v g H S.sy S.ext ⟨p, h5, h6, h7, h8, h9⟩⟩
theorem ss_drop {pos : Pos} (ha : PE X a (tE C ma)) (hs : swapsWith a none pos.line X.env = pure false) : PS X (.Expr a pos) (tS C (.drop ma)) := (ps_expr ha hs).imp fun D σ H h => by
  obtain ⟨g, env, st, o, S, e, k⟩ := h
  rw [evS] at e
  obtain ⟨x, e1, e⟩ := mapS e
  cases e
  exact tE_one S (fstE e1) fun v g1 H1 E1 S1 R1 => k σ g1 H1 S1 E1.le
theorem ss_ite {c : Expr} {mc : E} {A B : List Stmt} {mA mB : Ss} {pos : Pos} (hc : PT X c (tT C mc)) (hA : PSs X A (tSs C mA)) (hB : PSs X B (tSs C mB)) : PS X (.If c A B pos) (tS C (.ite mc mA mB)) := (ps_if hc hA hB).imp fun D σ H h => by
  obtain ⟨g, env, st, o, S, e, k⟩ := h
  rw [evS] at e
  obtain ⟨x, e1, e⟩ := bindS e
  obtain ⟨i, e2, e⟩ := bindS e
  have e1' := fstE e1
  rw [boolOf_ok e2] at e1'
  refine tT_one S e1' fun g1 H1 E1 S1 => ?_
  cases i with
  | true =>
    rw [if_pos rfl] at e ⊢
    exact ⟨g1, env, x.2, o, S1, e, k.le E1.le⟩
  | false =>
    rw [if_neg Bool.false_ne_true] at e ⊢
    exact ⟨g1, env, x.2, o, S1, e, k.le E1.le⟩
/-- a name is set: what the store leaves -/
theorem set_core {i : Nat} {σ : L2.St} {g g1 : Gh} {H H1 : Hp} {env : En} {st st1 : Store} {v : V} {r : Rs} (S : Ste C σ g H env st) (S1 : Ste C σ g1 H1 env st1) (E1 : Ext g H g1 H1) (R1 : RsR C.K g1 H1 H v r) (hi : i ∉ C.O) (nv : ∀ d, r ≠ .vw d) :
    ∃ g2, Ste C (σ.set i (some v)) g2 H1 (env.set i (some r.d)) st1 ∧ g.le g2 := by
  obtain ⟨g2, Y2, E2, le, rp, _, _⟩ := R1.share S1.sy nv E1
  have S2 : Ste C σ g2 H1 env st1 := S.of E2 Y2
  exact ⟨g2, ⟨Y2, S2.en.set hi rp, S2.ext⟩, E2.le⟩
theorem seto_core {i : Nat} {σ : L2.St} {g g1 : Gh} {H H1 : Hp} {env : En} {st st1 : Store} {v : V} {d : D} (S : Ste C σ g H env st) (S1 : Ste C σ g1 H1 env st1) (R1 : RsR C.K g1 H1 H v (.fr d)) (hi : i ∈ C.O) :
    Ste C (σ.set i (some v)) g1 H1 (env.set i (some d)) st1 := by
  obtain ⟨p, rfl, c, hg, hc, h0⟩ := R1
  refine ⟨S1.sy, S1.en.seto hi c hg hc (S.live h0) fun j q e hj hne he hq => ?_, S1.ext⟩
  obtain ⟨w, h3, _, h4⟩ := S.en.get j e he
  obtain ⟨p', h5, h6, _⟩ := h4 hj
  rw [hq] at h3
  cases h3
  cases h5
  intro z
  subst z
  exact h6.some h0
theorem ss_set_of {i : Nat} {s : Stmt} (h : PS X s (tAsg (tE C ma) (gName i))) (hi : i ∉ C.O) : PS X s (tS C (.set i ma)) := h.imp fun D σ H h => by
  obtain ⟨g, env, st, o, S, e, k⟩ := h
  rw [evS] at e
  obtain ⟨x, e1, e⟩ := bindS e
  obtain ⟨d, e2, e⟩ := mapS e
  cases e
  obtain ⟨rfl, nv⟩ := own_ok e2
  refine tE_one S (fstE e1) fun v g1 H1 E1 S1 R1 => ?_
  obtain ⟨g2, S2, le⟩ := set_core S S1 E1 R1 hi nv
  exact k _ g2 H1 S2 le
theorem ss_seto_of {i : Nat} {s : Stmt} (h : PS X s (tAsg (tE C ma) (gName i))) (hi : i ∈ C.O) : PS X s (tS C (.seto i ma)) := h.imp fun D σ H h => by
  obtain ⟨g, env, st, o, S, e, k⟩ := h
  rw [evS] at e
  obtain ⟨⟨x, st1⟩, e1, e⟩ := bindS e
  cases x with
  | fr d =>
    cases e
    refine tE_one S e1 fun v g1 H1 E1 S1 R1 => ?_
    exact k _ g1 H1 (seto_core S S1 R1 hi) E1.le
  | sh d => cases e
  | vw d => cases e
theorem ss_unp {tg : Expr} {mt : Tg} {pos : Pos} (ha : PE X a (tE C ma)) (hg : PG X tg (tG C mt)) (hs : swapsWithSole [tg] a pos.line X.env = pure false) (hw : swappedStores [tg] a X.env = pure none) (h1 : (assignEach [tg] X.env).map (·.2) = [assign tg X.env]) :
    PS X (.Assign [tg] a pos) (tS C (.unp mt ma)) := (ps_asg ha hg hs hw h1).imp fun D σ H h => by
  obtain ⟨g, env, st, o, S, e, k⟩ := h
  rw [evS] at e
  obtain ⟨⟨x, st1⟩, e1, e⟩ := bindS e
  cases x with
  | sh d =>
    obtain ⟨en1, e2, e⟩ := mapS e
    cases e
    refine tE_one S e1 fun v g1 H1 E1 S1 R1 => ?_
    exact ⟨g1, env, st1, d, en1, S1, R1, e2, fun σ' S' _ => k σ' g1 H1 S' E1.le⟩
  | fr d => cases e
  | vw d => cases e

/-! ### loops -/
theorem kS_nx {g : Gh} {en : En} {st : Store} {D : Ends} {N : L2.St → Hp → Prop} {rt : VK} {bk : L2.St → Hp → Prop} (h : ∀ σ' g' H', Ste C σ' g' H' en st → g.le g' → N σ' H') : kS C g (.nx, en, st) { nx := N, rt := rt, bk := bk, ct := N } := h
theorem ss_for {tg iter : Expr} {body : List Stmt} {mt : Tg} {mi : Itb} {mb : Ss} {pos : Pos} (hp : PassesOwn (model X.prog X.w) X.A X.env X.xe) (hc : X.calm = true) (hi : PI X tg iter (tI C mi)) (hg : PG X tg (tG C mt)) (hb : PSs X body (tSs C mb))
    (hs : ∀ x, foldedSetIterable iter X.env x = pure x) : PS X (.For tg iter body [] pos) (tS C (.for_ mt mi mb)) := (ps_for hp hc hi hg hb hs).imp fun D σ H h => by
  obtain ⟨g, env, st, o, S, e, k⟩ := h
  rw [evS] at e
  obtain ⟨⟨xs, vb, st1⟩, e1, e⟩ := bindS e
  cases vb with
  | true => cases e
  | false =>
  rw [if_neg Bool.false_ne_true] at e
  refine ⟨g, env, st, xs, false, st1, S, e1, fun J g1 H1 E1 Y1 W => ?_⟩
  obtain ⟨Gd, ⟨Y, wk, yl⟩, hA, _⟩ := W
  refine for_it wk (fun i σ' H' => ∃ g2 en2 s2, Ste C σ' g2 H' en2 s2 ∧ g1.le g2 ∧ forGo (bindT mt) (evSs C.W mb) (xs.drop i) en2 s2 = some o) ?_ ?_ ?_ ?_
  · exact ⟨g1, env, st1, S.of E1 Y1, .refl _, e⟩
  · rintro i σ' H' hi ⟨g2, en2, s2, S2, le, _⟩
    exact hA rfl H' fun a o h => S2.sy.sub a o (le.G a o h)
  · rintro i x σ' H' H'' hi ⟨g2, en2, s2, S2, le, e2⟩ y
    obtain ⟨g3, E3, Y3, d, hd, rd⟩ := yl i H' x H'' g2 s2 hi y S2.sy le
    rw [drop_cons hd, forGo] at e2
    obtain ⟨en1, e4, e2⟩ := bindS e2
    obtain ⟨⟨f, en5, st5⟩, e5, e2⟩ := bindS e2
    refine ⟨g3, en2, s2, d, en1, S2.of E3 Y3, rd, e4, fun σ4 S4 _ => ⟨g3, en1, s2, _, S4, e5, ?_⟩⟩
    have le3 : g1.le g3 := le.trans E3.le
    cases f with
    | nx => exact fun σ5 g5 H5 S5 l => ⟨g5, en5, st5, S5, le3.trans l, e2⟩
    | cont => exact fun σ5 g5 H5 S5 l => ⟨g5, en5, st5, S5, le3.trans l, e2⟩
    | brk => cases e2; exact fun σ5 g5 H5 S5 l => k σ5 g5 H5 S5 (E1.le.trans (le3.trans l))
    | ret r => cases e2; exact k
  · rintro σ' H' ⟨g2, en2, s2, S2, le, e2⟩
    rw [List.drop_length, forGo] at e2
    cases e2
    exact k σ' g2 H' S2 (E1.le.trans le)
theorem ss_whl {c : Expr} {body : List Stmt} {mc : E} {mb : Ss} {pos : Pos} (hp : PassesOwn (model X.prog X.w) X.A X.env X.xe) (hc : PT X c (tT C mc)) (hb : PSs X body (tSs C mb)) : PS X (.While c body [] pos) (tS C (.whl mc mb)) := (ps_while hp hc hb).imp fun D σ H h => by
  obtain ⟨g, env, st, o, S, e, k⟩ := h
  rw [evS] at e
  generalize hcn : (fun (env : En) (st : Store) => (evE C.W mc env st).bind fun x => (boolOf x.1).map fun b => (b, x.2)) = cnd at e
  refine ⟨fun n σ' H' => ∃ g2 en2 s2, Ste C σ' g2 H' en2 s2 ∧ g.le g2 ∧ whlGo cnd (evSs C.W mb) n en2 s2 = some o, ⟨C.W.wf, g, env, st, S, .refl _, e⟩, ?_⟩
  rintro n σ' H' ⟨g2, en2, s2, S2, le, e2⟩
  cases n with
  | zero => cases e2
  | succ n =>
    rw [whlGo] at e2
    obtain ⟨⟨cb, s3⟩, e3, e2⟩ := bindS e2
    rw [← hcn] at e3
    obtain ⟨x, e4, e3⟩ := bindS e3
    obtain ⟨b, e5, e3⟩ := mapS e3
    cases e3
    have e4' := fstE e4
    rw [boolOf_ok e5] at e4'
    refine tT_one S2 e4' fun g3 H3 E3 S3 => ?_
    have le3 : g.le g3 := le.trans E3.le
    cases cb with
    | false =>
      rw [if_neg Bool.false_ne_true] at e2 ⊢
      cases e2
      exact k σ' g3 H3 S3 le3
    | true =>
      rw [if_pos rfl] at e2 ⊢
      obtain ⟨⟨f, en5, st5⟩, e6, e2⟩ := bindS e2
      refine ⟨fun σ5 H5 => ∃ g5 en6 s6, Ste C σ5 g5 H5 en6 s6 ∧ g.le g5 ∧ whlGo cnd (evSs C.W mb) n en6 s6 = some o, fun σ5 H5 h5 => ⟨n, Nat.lt_succ_self n, h5⟩, g3, en2, x.2, _, S3, e6, ?_⟩
      cases f with
      | nx => exact fun σ5 g5 H5 S5 l => ⟨g5, en5, st5, S5, le3.trans l, e2⟩
      | cont => exact fun σ5 g5 H5 S5 l => ⟨g5, en5, st5, S5, le3.trans l, e2⟩
      | brk => cases e2; exact fun σ5 g5 H5 S5 l => k σ5 g5 H5 S5 (le3.trans l)
      | ret r => cases e2; exact k
end
end MW
set_option Elab.async false
set_option linter.all false
set_option maxRecDepth 100000
set_option maxHeartbeats 2000000
set_option autoImplicit false
/-! Statements: lists' items, cells, append, several names at once. -/
namespace MW
open PySem PySem.Spec PyProof.Rows L2

section
variable {K : PySem.W.Frag} {g : Gh} {H Hb : Hp} {O : List Nat} {σ : L2.St} {env : En} {st : Store}
/-- an own list is rewritten in place -/
theorem EnR.upd_own (R : EnR K g H Hb O σ env) {y : Nat} {p : Addr} {d0 d : D} {o : HO} (hy : y ∈ O) (e0 : env.at y = some d0) (hp : σ[y]? = some (some (.ref p))) (c : Cn K g (upd H p o) p d) : EnR K g (upd H p o) Hb O σ (env.set y (some d)) where
  get := fun j e h => by
    rw [En.at_set] at h
    by_cases hij : y = j
    · subst hij
      rw [if_pos rfl] at h
      have hl := En.at_some e0
      rw [if_pos hl] at h; cases h
      obtain ⟨v, h1, _, h3⟩ := R.get y d0 e0
      obtain ⟨q, e1, _, hg, hc, hb⟩ := h3 hy
      subst e1
      rw [hp] at h1
      cases h1
      exact ⟨_, hp, fun n => absurd hy n, fun _ => ⟨p, rfl, c, hg, hc, hb⟩⟩
    · rw [if_neg hij] at h
      obtain ⟨w, a, b, c2⟩ := R.get j e h
      refine ⟨w, a, b, fun m => ?_⟩
      obtain ⟨q, e1, c3, hg, hc, hb⟩ := c2 m
      refine ⟨q, e1, ?_, hg, hc, hb⟩
      have hne : q ≠ p := fun z => by
        subst z; subst e1
        exact hij (R.inj y j q hy m (by rw [e0]; exact fun z => nomatch z) (by rw [h]; exact fun z => nomatch z) hp a)
      cases e with
      | lst ds => obtain ⟨vs, h1, r1⟩ := c3; exact ⟨vs, by rw [upd_ne hne]; exact h1, r1⟩
      | dic ds => obtain ⟨vs, h1, r1⟩ := c3; exact ⟨vs, by rw [upd_ne hne]; exact h1, r1⟩
      | _ => exact c3.elim
  inj := fun j k q hj hk ej ek e1 e2 => by
    have f : ∀ {m : Nat}, En.at (env.set y (some d)) m ≠ none → env.at m ≠ none := fun {m} h => by
      by_cases hm : y = m
      · subst hm; rw [e0]; exact fun z => nomatch z
      · rw [En.at_set, if_neg hm] at h; exact h
    exact R.inj j k q hj hk (f ej) (f ek) e1 e2
  len := by rw [List.length_set]; exact R.len
end
section
variable {X : Cx} {C : Ct} {a b c : Expr} {ma mb mc : E}
theorem own_at {σ : L2.St} {g : Gh} {H : Hp} {env : En} {st : Store} {y : Nat} {d : D} (S : Ste C σ g H env st) (hy : y ∈ C.O) (e : env.at y = some d) :
    ∃ p, σ[y]? = some (some (.ref p)) ∧ Cn C.K g H p d ∧ g.G p = none ∧ p ∉ g.cm ∧ C.Hb p = none := by
  obtain ⟨v, h3, _, h4⟩ := S.en.get y d e
  obtain ⟨p, h5, h6⟩ := h4 hy
  subst h5
  exact ⟨p, h3, h6⟩
theorem Ste.upd_own {σ : L2.St} {g : Gh} {H : Hp} {env : En} {st : Store} {y : Nat} {d0 : D} {p : Addr} {vs : List V} {ds : List D} (S : Ste C σ g H env st) (hy : y ∈ C.O) (e : env.at y = some d0) (hp : σ[y]? = some (some (.ref p))) (r : RpAll C.K g vs ds) :
    Ste C σ g (upd H p (.lst vs)) (env.set y (some (.lst ds))) st := by
  obtain ⟨q, e1, h6, h7, h8, h9⟩ := own_at S hy e
  rw [hp] at e1
  cases e1
  exact ⟨S.sy.upd_own h7 h8, S.en.upd_own hy e hp ⟨vs, upd_same, r⟩, S.ext.upd_new h9⟩
theorem Ste.upd_ownD {σ : L2.St} {g : Gh} {H : Hp} {env : En} {st : Store} {y : Nat} {d0 : D} {p : Addr} {kv : List (Key × V)} {kd : List (DKey × D)} (S : Ste C σ g H env st) (hy : y ∈ C.O) (e : env.at y = some d0) (hp : σ[y]? = some (some (.ref p))) (r : RpKv C.K g kv kd) :
    Ste C σ g (upd H p (.dK kv)) (env.set y (some (.dic kd))) st := by
  obtain ⟨q, e1, h6, h7, h8, h9⟩ := own_at S hy e
  rw [hp] at e1
  cases e1
  exact ⟨S.sy.upd_own h7 h8, S.en.upd_own hy e hp ⟨kv, upd_same, r⟩, S.ext.upd_new h9⟩
theorem pset_or {t t' : TSet} (h : PSet X t) (h' : PSet X t') : PSet X (fun o i v H Q => t o i v H Q ∨ t' o i v H Q) := by
  intro pins s σ H o i v ov iv u Q I ro ri rv q
  rcases q with q | q
  · exact h pins s σ H o i v ov iv u Q I ro ri rv q
  · exact h' pins s σ H o i v ov iv u Q I ro ri rv q
theorem ss_seti {y : Nat} {oe ie : Expr} {mi : E} {pos tpos : Pos} (hu : X.A.units + 1 < cLine) (ho : PE X oe (tVar y)) (hi : PE X ie (tE C mi)) (hy : y ∈ C.O) (ha : PE X a (tE C ma))
    (hsub : ∀ v, assign (.Subscript oe ie tpos) X.env v = (do
      let ov ← holding [v] (eval oe X.env)
      let iv ← holding [v, ov] (eval ie X.env)
      standAt tpos
      holding [v, ov, iv] (setItem ov iv v)
      release [v, ov, iv] [])) (hs : swapsWithSole [.Subscript oe ie tpos] a pos.line X.env = pure false) (hw : swappedStores [.Subscript oe ie tpos] a X.env = pure none) :
    PS X (.Assign [.Subscript oe ie tpos] a pos) (tS C (.seti y mi ma)) := (ps_asg ha (pg_sub ho hi (pset_or set_list (set_dict hu)) hsub) hs hw (by rfl)).imp fun D σ H h => by
  obtain ⟨g, env, st, o, S, e, k⟩ := h
  rw [evS] at e
  obtain ⟨x, e1, e⟩ := bindS e
  obtain ⟨d, e2, e⟩ := bindS e
  obtain ⟨ki, e3, e⟩ := bindS e
  obtain ⟨ov, e4, e⟩ := bindS e
  obtain ⟨z, e5, e⟩ := mapS e
  cases e
  obtain ⟨rfl, nv⟩ := own_ok e2
  refine tE_one S (fstE e1) fun v g1 H1 E1 S1 R1 => ?_
  obtain ⟨g2, Y2, E2, le, rp, _, _⟩ := R1.share S1.sy nv E1
  have S2 : Ste C σ g2 H1 env x.2 := S.of E2 Y2
  obtain ⟨p, hp, _⟩ := own_at S2 hy e4
  refine ⟨_, hp, tE_one S2 (fstE e3) fun w g3 H3 E3 S3 R3 => ?_⟩
  obtain ⟨p', hp', h6, h7, h8, h9⟩ := own_at S3 hy e4
  rw [hp] at hp'
  cases hp'
  cases ov with
  | lst xs =>
    obtain ⟨vs, hv, r⟩ := h6
    generalize hkd : ki.1.d = kd at e5
    cases kd with
    | int i =>
      obtain ⟨j, h10, h11⟩ := mapS e5
      cases h11
      have wi : w = .int i := by have := R3.wk S3.sy; rw [hkd] at this; cases this; rfl
      refine .inl ⟨p, vs, i, j, rfl, wi, hv, by rw [r.length]; exact h10, ?_⟩
      exact k σ g3 _ (S3.upd_own hy e4 hp (r.set (rp.mono E3.le) j)) (E2.le.trans E3.le)
    | _ => cases e5
  | dic kd =>
    obtain ⟨kv, hv, r⟩ := h6
    obtain ⟨k', hk, e5⟩ := bindS e5
    obtain ⟨hz, e5⟩ := iteS e5
    subst e5
    have wi := key_ok (R3.wk S3.sy) hk
    subst wi
    refine .inr ⟨p, _, rfl, DPut.k hv (by rw [r.length]; exact of_decide_eq_true hz), ?_⟩
    exact k σ g3 _ (S3.upd_ownD hy e4 hp (r.put k' (rp.mono E3.le))) (E2.le.trans E3.le)
  | _ => cases e5
theorem ss_setc {oe ie : Expr} {mo mi : E} {pos tpos : Pos} (ho : PE X oe (tE C mo)) (hi : PE X ie (tE C mi)) (ha : PE X a (tE C ma))
    (hsub : ∀ v, assign (.Subscript oe ie tpos) X.env v = (do
      let ov ← holding [v] (eval oe X.env)
      let iv ← holding [v, ov] (eval ie X.env)
      standAt tpos
      holding [v, ov, iv] (setItem ov iv v)
      release [v, ov, iv] [])) (hs : swapsWithSole [.Subscript oe ie tpos] a pos.line X.env = pure false) (hw : swappedStores [.Subscript oe ie tpos] a X.env = pure none) :
    PS X (.Assign [.Subscript oe ie tpos] a pos) (tS C (.setc mo mi ma)) := (ps_asg ha (pg_sub ho hi set_list hsub) hs hw (by rfl)).imp fun D σ H h => by
  obtain ⟨g, env, st, o, S, e, k⟩ := h
  rw [evS] at e
  obtain ⟨x, e1, e⟩ := bindS e
  obtain ⟨d, e2, e⟩ := bindS e
  obtain ⟨⟨ov, s2⟩, e3, e⟩ := bindS e
  obtain ⟨⟨kv, s3⟩, e4, e⟩ := bindS e
  obtain ⟨rfl, nv⟩ := own_ok e2
  generalize hod : ov.d = od at e
  generalize hkd : kv.d = kd at e
  cases od with
  | cell n =>
    cases kd with
    | int i =>
      obtain ⟨xs, e5, e⟩ := bindS e
      obtain ⟨j, e6, e⟩ := mapS e
      cases e
      refine tE_one S (fstE e1) fun v g1 H1 E1 S1 R1 => ?_
      obtain ⟨g2, Y2, E2, le, rp, _, _⟩ := R1.share S1.sy nv E1
      have S2 : Ste C σ g2 H1 env x.2 := S.of E2 Y2
      refine tE_one S2 e3 fun w g3 H3 E3 S3 R3 => ?_
      refine tE_one S3 e4 fun u g4 H4 E4 S4 R4 => ?_
      have w3 := (R3.ext E4).wk S4.sy
      rw [hod] at w3
      have w4 := R4.wk S4.sy
      rw [hkd] at w4
      cases w4
      cases w3 with
      | @cell n a hcm =>
      obtain ⟨vs, ds, h1, h2, h3⟩ := S4.sy.cl n a hcm
      rw [h1] at e5
      cases e5
      refine ⟨a, vs, i, j, rfl, rfl, h2, by rw [h3.length]; exact e6, ?_⟩
      have ma : a ∈ g4.cm := List.mem_of_getElem? hcm
      have ga := S4.sy.nm a ma
      have E5 : Ext g4 H4 g4 (upd H4 a (.lst (vs.set j v))) := ⟨.refl _, fun _ _ h => .inl h, fun _ h => .inl h, fun b o hb h => by
        have : b ≠ a := fun z => hb (z ▸ ma)
        rw [upd_ne this]; exact h, fun b h => by
        by_cases z : b = a
        · subst z; rw [upd_same] at h; cases h
        · rw [upd_ne z] at h; exact h⟩
      have r5 := h3.set ((rp.mono E3.le).mono E4.le) j
      have Y5 : Sy C.K g4 (upd H4 a (.lst (vs.set j v))) (s3.set n (xs.set j x.1.d)) := ⟨fun b o h => by
        have : b ≠ a := fun z => by rw [z, ga] at h; cases h
        rw [upd_ne this]; exact S4.sy.sub b o h, S4.sy.nm, fun m b hm => by
        by_cases z : n = m
        · subst z
          rw [hcm] at hm
          cases hm
          exact ⟨_, _, by rw [List.getElem?_set_self (List.getElem?_eq_some_iff.mp h1).1], upd_same, r5⟩
        · obtain ⟨ws, es, q1, q2, q3⟩ := S4.sy.cl m b hm
          have : b ≠ a := fun w => by
            subst w
            have i1 := (List.getElem?_eq_some_iff.mp hcm)
            have i2 := (List.getElem?_eq_some_iff.mp hm)
            obtain ⟨l1, x1⟩ := i1
            obtain ⟨l2, x2⟩ := i2
            have nd := List.pairwise_iff_getElem.mp S4.sy.nd
            rcases Nat.lt_trichotomy n m with q | q | q
            · exact nd n m l1 l2 q (x1.trans x2.symm)
            · exact z q
            · exact nd m n l2 l1 q (x2.trans x1.symm)
          exact ⟨ws, es, by rw [List.getElem?_set_ne z]; exact q1, by rw [upd_ne this]; exact q2, q3⟩, by rw [List.length_set]; exact S4.sy.ln, S4.sy.nd⟩
      exact k σ g4 _ (S4.of E5 Y5) (E2.le.trans (E3.le.trans E4.le))
    | _ => cases e
  | _ => cases e
theorem ss_app {y : Nat} {oe : Expr} {pos cpos apos : Pos} (ho : PE X oe (tVar y)) (hy : y ∈ C.O) (ha : PE X a (tE C ma)) (hst : starEach [a] X.env = (false, eval a X.env) :: starEach [] X.env)
    (slot : Slot "list" "append" "list.append") (pa : PlainAttrs "list") (ty : typeOf (.builtin "list.append") = pure (.type "method_descriptor"))
    (hbase : attributeBase oe "append" X.env (eval oe X.env) = eval oe X.env) (hline : (apos.endLine == cpos.line) = true) (hs : swapsWith (.Call (.Attribute oe "append" apos) [a] [] cpos) none pos.line X.env = pure false) :
    PS X (.Expr (.Call (.Attribute oe "append" apos) [a] [] cpos) pos) (tS C (.app y ma)) := (ps_expr (pe_bm pa slot ty mt_append ho (pa1 ha hst) hbase (by rw [hst]; rfl) hline hst (by rfl)) hs).imp fun D σ H h => by
  obtain ⟨g, env, st, o, S, e, k⟩ := h
  rw [evS] at e
  obtain ⟨x, e1, e⟩ := bindS e
  obtain ⟨d, e2, e⟩ := bindS e
  obtain ⟨ov, e4, e⟩ := bindS e
  obtain ⟨rfl, nv⟩ := own_ok e2
  cases ov with
  | lst xs =>
      obtain ⟨hz, e⟩ := iteS e
      subst e
      obtain ⟨p, hp, h6, _⟩ := own_at S hy e4
      obtain ⟨vs0, hv0, _⟩ := h6
      refine ⟨_, hp, ?_, tE_one S (fstE e1) fun v g1 H1 E1 S1 R1 => ?_⟩
      · exact .inl ⟨rfl, _, SqL.of hv0⟩
      obtain ⟨g2, Y2, E2, le, rp, _, _⟩ := R1.share S1.sy nv E1
      have S2 : Ste C σ g2 H1 env x.2 := S.of E2 Y2
      obtain ⟨p', hp', h6, h7, h8, h9⟩ := own_at S2 hy e4
      rw [hp] at hp'
      cases hp'
      obtain ⟨vs, hv, r⟩ := h6
      refine ⟨p, vs, v, rfl, rfl, hv, by rw [r.length]; exact of_decide_eq_true hz, ?_⟩
      exact k σ g2 _ (S2.upd_own hy e4 hp (r.append (.cons rp .nil))) E2.le
  | _ => cases e
end
end MW
set_option Elab.async false
set_option linter.all false
set_option maxRecDepth 100000
set_option maxHeartbeats 2000000
set_option autoImplicit false
/-! a, b = x, y. -/
namespace MW
open PySem PySem.Spec PyProof.Rows L2

/-- values side by side; fresh ones are different -/
inductive RsAll (K : PySem.W.Frag) (g : Gh) (H H0 : Hp) : List V → List Rs → Prop
  | nil : RsAll K g H H0 [] []
  | cons {v : V} {vs : List V} {r : Rs} {rs : List Rs} : RsR K g H H0 v r → (∀ d, r ≠ .vw d) → (∀ p d, v = .ref p → r = .fr d → ∀ (i : Nat) (e : D), rs[i]? = some (Rs.fr e) → vs[i]? ≠ some (V.ref p)) → RsAll K g H H0 vs rs → RsAll K g H H0 (v :: vs) (r :: rs)
def tRs (C : Ct) (m : Es) : TA := fun σ H Q => ∃ g env st rs st', Ste C σ g H env st ∧ evRs C.W m env st = some (rs, st') ∧ ∀ vs g' H', Ext g H g' H' → Sy C.K g' H' st' → RsAll C.K g' H' H vs rs → Q vs H'
section
variable {K : PySem.W.Frag} {g g' : Gh} {H H' H0 H1 : Hp} {st : Store}
theorem RsAll.length : ∀ {vs : List V} {rs : List Rs}, RsAll K g H H0 vs rs → vs.length = rs.length
  | _, _, .nil => rfl
  | _, _, .cons _ _ _ r => by simp [RsAll.length r]
theorem RsAll.older : ∀ {vs : List V} {rs : List Rs}, RsAll K g H H1 vs rs → (∀ a, H1 a = none → H0 a = none) → RsAll K g H H0 vs rs
  | _, _, .nil, _ => .nil
  | _, _, .cons a b c d, h => .cons (a.older h) b c (RsAll.older d h)
theorem RsAll.fr_new : ∀ {vs : List V} {rs : List Rs} {i : Nat} {e : D} {p : Addr}, RsAll K g H H0 vs rs → rs[i]? = some (.fr e) → vs[i]? = some (.ref p) → H0 p = none
  | _, _, i, _, _, .nil, h, _ => by simp at h
  | _, _, 0, _, _, .cons a _ _ _, h, h2 => by
    simp at h h2; subst h; subst h2
    obtain ⟨p, e1, _, _, _, h0⟩ := a
    cases e1; exact h0
  | _, _, i + 1, _, _, .cons _ _ _ d, h, h2 => RsAll.fr_new (i := i) d (by simpa using h) (by simpa using h2)
end
section
variable {X : Cx} {C : Ct} {a : Expr} {ma : E}
theorem sr_nil : PA X [] (tRs C .nil) := pa_nil.imp fun σ H Q h => by
  obtain ⟨g, env, st, ds, st', S, e, k⟩ := h
  rw [evRs] at e
  cases e
  exact k [] g H (.refl g H) S.sy .nil
theorem sr_cons {es : List Expr} {ms : Es} (ha : PE X a (tE C ma)) (hr : PA X es (tRs C ms)) (hs : starEach (a :: es) X.env = (false, eval a X.env) :: starEach es X.env) : PA X (a :: es) (tRs C (.cons ma ms)) := (pa_cons ha hr hs).imp fun σ H Q h => by
  obtain ⟨g, env, st, ds, st', S, e, k⟩ := h
  rw [evRs] at e
  obtain ⟨x, e1, e⟩ := bindS e
  obtain ⟨d, e2, e⟩ := bindS e
  obtain ⟨z, e3, e⟩ := mapS e
  cases e
  obtain ⟨rfl, nv⟩ := own_ok e2
  refine tE_one S (fstE e1) fun v g1 H1 E1 S1 R1 => ?_
  refine ⟨g1, env, x.2, z.1, z.2, S1, fstE e3, fun vs g2 H2 E2 Y2 R2 => k _ g2 H2 (E1.trans E2) Y2 (.cons (R1.ext E2) nv (fun p d ev er i e hi hv => ?_) (R2.older fun a h => E1.live a h))⟩
  have n := R2.fr_new hi hv
  rw [er] at R1
  obtain ⟨q, e4, c, _⟩ := R1
  rw [ev] at e4
  cases e4
  exact c.some n
end

/-! ### sharing what goes into shared names -/
def parSh : List (Bool × Nat) → List Rs → List Rs
  | (true, _) :: ts, r :: rs => r :: parSh ts rs
  | (false, _) :: ts, r :: rs => .sh r.d :: parSh ts rs
  | _, rs => rs
theorem parSet_sh : ∀ (ts : List (Bool × Nat)) (rs : List Rs) (env env' : En), parSet ts rs env = some env' → parSet ts (parSh ts rs) env = some env'
  | [], [], _, _, h => h
  | (true, i) :: ts, .fr d :: rs, env, env', h => by
    rw [parSet] at h
    rw [parSh, parSet]
    exact parSet_sh ts rs _ _ h
  | (false, i) :: ts, r :: rs, env, env', h => by
    rw [parSet] at h
    obtain ⟨d, e1, h⟩ := bindS h
    obtain ⟨rfl, _⟩ := own_ok e1
    rw [parSh, parSet]
    exact parSet_sh ts rs _ _ h
  | [], _ :: _, _, _, h => by cases h
  | (true, i) :: ts, [], _, _, h => by cases h
  | (false, i) :: ts, [], _, _, h => by cases h
  | (true, i) :: ts, .sh _ :: _, _, _, h => by cases h
  | (true, i) :: ts, .vw _ :: _, _, _, h => by cases h
section
variable {K : PySem.W.Frag} {g0 g g' : Gh} {H H' H0 : Hp} {st : Store}
/-- the unchanging part has grown only at p -/
theorem RsR.grown {v : V} {r : Rs} (R : RsR K g H H0 v r) (le : g.le g') (hcm : g'.cm = g.cm) (hd : ∀ a, g'.G a ≠ g.G a → ∀ d, r = .fr d → v ≠ .ref a) (nv : ∀ d, r ≠ .vw d) : RsR K g' H H0 v r := by
  cases r with
  | sh d => exact Rp.mono le R
  | vw d => exact absurd rfl (nv d)
  | fr d =>
    obtain ⟨p, e, c, hg, hc, h0⟩ := R
    refine ⟨p, e, ?_, ?_, by rw [hcm]; exact hc, h0⟩
    · cases d with
      | lst ds => obtain ⟨vs, h1, r1⟩ := c; exact ⟨vs, h1, r1.mono le⟩
      | dic ds => obtain ⟨vs, h1, r1⟩ := c; exact ⟨vs, h1, r1.mono le⟩
      | _ => exact c.elim
    · by_cases q : g'.G p = g.G p
      · rw [q]; exact hg
      · exact absurd e (hd p q d rfl)
theorem RsAll.grown : ∀ {vs : List V} {rs : List Rs}, RsAll K g H H0 vs rs → g.le g' → g'.cm = g.cm → (∀ a, g'.G a ≠ g.G a → ∀ (i : Nat) (e : D), rs[i]? = some (Rs.fr e) → vs[i]? ≠ some (V.ref a)) → RsAll K g' H H0 vs rs
  | _, _, .nil, _, _, _ => .nil
  | _, _, .cons a nv b c, le, hcm, hd => .cons (a.grown le hcm (fun x hx d er ev => hd x hx 0 d (by simp [er]) (by simp [ev])) nv) nv b (RsAll.grown c le hcm fun x hx i e h1 h2 => hd x hx (i + 1) e (by simpa using h1) (by simpa using h2))
theorem RsAll.sub {vs : List V} {rs : List Rs} {ts : List (Bool × Nat)} {i : Nat} {e : D} (h : (parSh ts rs)[i]? = some (.fr e)) : rs[i]? = some (.fr e) := by
  induction ts generalizing rs i with
  | nil => rw [parSh] at h <;> first | exact h | simp
  | cons t ts ih =>
    obtain ⟨b, j⟩ := t
    cases rs with
    | nil => cases b <;> simp [parSh] at h
    | cons r rs =>
      cases b with
      | true =>
        rw [parSh] at h
        cases i with
        | zero => simpa using h
        | succ i => simp at h ⊢; exact ih h
      | false =>
        rw [parSh] at h
        cases i with
        | zero => simp at h
        | succ i => simp at h ⊢; exact ih h
theorem share_all : ∀ (ts : List (Bool × Nat)) {vs : List V} {rs : List Rs} {g : Gh}, Sy K g H st → Ext g0 H0 g H → RsAll K g H H0 vs rs →
    ∃ g', Sy K g' H st ∧ Ext g0 H0 g' H ∧ g.le g' ∧ g'.cm = g.cm ∧ RsAll K g' H H0 vs (parSh ts rs) ∧ (∀ a, g'.G a ≠ g.G a → ∃ (i : Nat) (e : D), rs[i]? = some (Rs.fr e) ∧ vs[i]? = some (V.ref a))
  | [], vs, rs, g, S, E, R => ⟨g, S, E, .refl g, rfl, by cases rs <;> (rw [parSh] <;> first | exact R | simp), fun a h => absurd rfl h⟩
  | (b, j) :: ts, _, _, g, S, E, .nil => ⟨g, S, E, .refl g, rfl, by cases b <;> (rw [parSh] <;> first | exact .nil | simp), fun a h => absurd rfl h⟩
  | (true, j) :: ts, _, _, g, S, E, .cons a nv b c => by
    obtain ⟨g1, S1, E1, le, hcm, R1, hd⟩ := share_all ts S E c
    refine ⟨g1, S1, E1, le, hcm, ?_, fun x hx => ?_⟩
    · rw [parSh]
      refine .cons (a.grown le hcm (fun x hx d er ev => ?_) nv) nv (fun p d ev er i e h1 h2 => b p d ev er i e (RsAll.sub (vs := []) h1) h2) R1
      obtain ⟨i, e, h1, h2⟩ := hd x hx
      exact b x d ev er i e h1 h2
    · obtain ⟨i, e, h1, h2⟩ := hd x hx
      exact ⟨i + 1, e, by simpa using h1, by simpa using h2⟩
  | (false, j) :: ts, _, _, g, S, E, @RsAll.cons _ _ _ _ v vs (.sh d) rs a nv b c => by
    obtain ⟨g1, S1, E1, le, hcm, R1, hd⟩ := share_all ts S E c
    refine ⟨g1, S1, E1, le, hcm, ?_, fun x hx => ?_⟩
    · rw [parSh]
      exact .cons (Rp.mono le a) (fun _ q => nomatch q) (fun p d ev er => nomatch er) R1
    · obtain ⟨i, e, h1, h2⟩ := hd x hx
      exact ⟨i + 1, e, by simpa using h1, by simpa using h2⟩
  | (false, j) :: ts, _, _, g, S, E, @RsAll.cons _ _ _ _ v vs (.vw d) rs a nv b c => absurd rfl (nv d)
  | (false, j) :: ts, _, _, g, S, E, @RsAll.cons _ _ _ _ v vs (.fr d) rs a nv b c => by
    obtain ⟨g1, S1, E1, le1, rp, hch, hcm1⟩ := a.share S nv E
    have c1 : RsAll K g1 H H0 vs rs := c.grown le1 hcm1 fun x hx i e h1 h2 => b x d (hch x hx).1 rfl i e h1 h2
    obtain ⟨g2, S2, E2, le, hcm, R1, hd⟩ := share_all ts S1 E1 c1
    refine ⟨g2, S2, E2, le1.trans le, by rw [hcm, hcm1], ?_, fun x hx => ?_⟩
    · rw [parSh]
      exact .cons (Rp.mono le rp) (fun _ q => nomatch q) (fun p d ev er => nomatch er) R1
    · by_cases q : g2.G x = g1.G x
      · rw [q] at hx
        exact ⟨0, d, by simp, by simp [(hch x hx).1]⟩
      · obtain ⟨i, e, h1, h2⟩ := hd x q
        exact ⟨i + 1, e, by simpa using h1, by simpa using h2⟩
end

/-! ### the stores -/
def setAll (σ : L2.St) : List (Bool × Nat) → List V → L2.St
  | (_, i) :: ts, v :: vs => setAll (σ.set i (some v)) ts vs
  | _, _ => σ
def parOk (O : List Nat) (ts : List (Bool × Nat)) : Bool := ts.all fun t => t.1 == O.contains t.2
theorem store_all {C : Ct} {g : Gh} {H H0 : Hp} {st : Store} : ∀ (ts : List (Bool × Nat)) {vs : List V} {rs : List Rs} {σ : L2.St} {env env' : En}, Ste C σ g H env st → RsAll C.K g H H0 vs (parSh ts rs) → (∀ a, H0 a = none → C.Hb a = none) → parOk C.O ts = true →
    parSet ts (parSh ts rs) env = some env' → (∀ (j : Nat) (q : Addr), j ∈ C.O → env.at j ≠ none → σ[j]? = some (some (V.ref q)) → ∀ (i : Nat) (e : D), (parSh ts rs)[i]? = some (Rs.fr e) → vs[i]? ≠ some (V.ref q)) → Ste C (setAll σ ts vs) g H env' st
  | [], vs, [], σ, env, env', S, R, hb, ok, e, hn => by
    rw [parSh] at e <;> first | (rw [parSet] at e; cases e; rw [setAll] <;> first | exact S | simp) | simp
  | [], vs, _ :: _, σ, env, env', S, R, hb, ok, e, hn => by rw [parSh] at e <;> first | cases e | simp
  | (b, i) :: ts, vs, [], σ, env, env', S, R, hb, ok, e, hn => by cases b <;> (rw [parSh] at e <;> first | cases e | simp)
  | (false, i) :: ts, _, r :: rs, σ, env, env', S, R, hb, ok, e, hn => by
    rw [parSh] at e R hn
    cases R with
    | @cons v vs _ _ a nv b c =>
    rw [parSet] at e
    obtain ⟨d, e1, e⟩ := bindS e
    cases e1
    have hi : i ∉ C.O := by
      unfold parOk at ok
      simp only [List.all_cons, Bool.and_eq_true] at ok
      intro m
      have := ok.1
      simp [m] at this
    have S' : Ste C (σ.set i (some v)) g H (env.set i (some r.d)) st := ⟨S.sy, S.en.set hi a, S.ext⟩
    refine store_all ts S' c hb (by unfold parOk at ok ⊢; simp only [List.all_cons, Bool.and_eq_true] at ok; exact ok.2) e fun j q hj ej hq k e' h1 h2 => ?_
    have hij : i ≠ j := fun z => hi (z ▸ hj)
    rw [En.at_set, if_neg hij] at ej
    rw [List.getElem?_set_ne hij] at hq
    exact hn j q hj ej hq (k + 1) e' (by simpa using h1) (by simpa using h2)
  | (true, i) :: ts, _, .fr d :: rs, σ, env, env', S, R, hb, ok, e, hn => by
    rw [parSh] at e R hn
    cases R with
    | @cons v vs _ _ a nv b c =>
    rw [parSet] at e
    have hi : i ∈ C.O := by
      unfold parOk at ok
      simp only [List.all_cons, Bool.and_eq_true] at ok
      have := ok.1
      simpa using this
    obtain ⟨p, rfl, cn, hg, hc, h0⟩ := a
    have S' : Ste C (σ.set i (some (.ref p))) g H (env.set i (some d)) st := ⟨S.sy, S.en.seto hi cn hg hc (hb p h0) fun j q e' hj hne he hq z => by
      subst z
      exact hn j q hj (by rw [he]; exact fun z => nomatch z) hq 0 d (by simp) (by simp), S.ext⟩
    refine store_all ts S' c hb (by unfold parOk at ok ⊢; simp only [List.all_cons, Bool.and_eq_true] at ok; exact ok.2) e fun j q hj ej hq k e' h1 h2 => ?_
    by_cases hij : i = j
    · subst hij
      rw [List.getElem?_set] at hq
      simp only [if_true] at hq
      split at hq
      · cases hq
        exact b p d rfl rfl k e' h1 h2
      · cases hq
    · rw [En.at_set, if_neg hij] at ej
      rw [List.getElem?_set_ne hij] at hq
      exact hn j q hj ej hq (k + 1) e' (by simpa using h1) (by simpa using h2)
  | (true, i) :: ts, _, .sh d :: rs, σ, env, env', S, R, hb, ok, e, hn => by rw [parSh] at e; cases e
  | (true, i) :: ts, _, .vw d :: rs, σ, env, env', S, R, hb, ok, e, hn => by rw [parSh] at e; cases e

/-- several names at once: the pair's object may be laid -/
def tParG (ts : List (Bool × Nat)) (ta : TA) : TS := fun D σ H => ta σ H fun vs H1 => vs.length = ts.length ∧ D.nx (setAll σ ts vs) H1 ∧ ∀ p, H1 p = none → D.nx (setAll σ ts vs) (upd H1 p (.tup vs))
theorem parSet_len : ∀ (ts : List (Bool × Nat)) (rs : List Rs) (env env' : En), parSet ts rs env = some env' → rs.length = ts.length
  | [], [], _, _, h => rfl
  | (true, i) :: ts, .fr d :: rs, env, env', h => by
    rw [parSet] at h
    simp [parSet_len ts rs _ _ h]
  | (false, i) :: ts, r :: rs, env, env', h => by
    rw [parSet] at h
    obtain ⟨d, e1, h⟩ := bindS h
    simp [parSet_len ts rs _ _ h]
  | [], _ :: _, _, _, h => by cases h
  | (true, i) :: ts, [], _, _, h => by cases h
  | (false, i) :: ts, [], _, _, h => by cases h
  | (true, i) :: ts, .sh _ :: _, _, _, h => by cases h
  | (true, i) :: ts, .vw _ :: _, _, _, h => by cases h
theorem ss_par_of {X : Cx} {C : Ct} {ts : List (Bool × Nat)} {ms : Es} {s : Stmt} (h : PS X s (tParG ts (tRs C ms))) (ok : parOk C.O ts = true) : PS X s (tS C (.par ts ms)) := h.imp fun D σ H h => by
  obtain ⟨g, env, st, o, S, e, k⟩ := h
  rw [evS] at e
  obtain ⟨x, e1, e⟩ := bindS e
  obtain ⟨en1, e2, e⟩ := mapS e
  cases e
  refine ⟨g, env, st, x.1, x.2, S, fstE e1, fun vs g1 H1 E1 Y1 R1 => ?_⟩
  obtain ⟨g2, Y2, E2, le, hcm, R2, hd⟩ := share_all ts Y1 E1 R1
  have S2 : Ste C σ g2 H1 env x.2 := S.of E2 Y2
  have S3 : Ste C (setAll σ ts vs) g2 H1 en1 x.2 := store_all ts S2 R2 (fun a h => S.live h) ok (parSet_sh ts _ _ _ e2) fun j q hj ej hq i e' h1 h2 => by
    cases ee : env.at j with
    | none => exact ej ee
    | some d0 =>
      obtain ⟨p, hp, c, _⟩ := own_at S hj ee
      rw [hq] at hp
      cases hp
      exact c.some (R2.fr_new h1 h2)
  refine ⟨by rw [R1.length]; exact parSet_len _ _ _ _ e2, k _ g2 H1 S3 E2.le, fun p hp => k _ g2 _ (S3.of (Ext.alloc hp) (S3.sy.alloc hp)) E2.le⟩

/-! ### at a return every own slot is shared -/
theorem share_slots {C : Ct} {σ : L2.St} {H : Hp} {env : En} {st : Store} : ∀ (O : List Nat) (g : Gh), Ste { C with O := O } σ g H env st → ∃ g', Ste { C with O := [] } σ g' H env st
  | [], g, S => ⟨g, S⟩
  | i :: O, g, S => by
    by_cases hi : i ∈ O
    · refine share_slots O g ⟨S.sy, ⟨fun j d h => ?_, fun j k p hj hk => S.en.inj j k p (List.mem_cons_of_mem _ hj) (List.mem_cons_of_mem _ hk), S.en.len⟩, S.ext⟩
      obtain ⟨v, h1, h2, h3⟩ := S.en.get j d h
      refine ⟨v, h1, fun n => h2 fun m => ?_, fun m => h3 (List.mem_cons_of_mem _ m)⟩
      rcases List.mem_cons.mp m with e | m
      · exact n (e ▸ hi)
      · exact n m
    · cases e : env.at i with
      | none =>
        refine share_slots O g ⟨S.sy, ⟨fun j d h => ?_, fun j k p hj hk => S.en.inj j k p (List.mem_cons_of_mem _ hj) (List.mem_cons_of_mem _ hk), S.en.len⟩, S.ext⟩
        obtain ⟨v, h1, h2, h3⟩ := S.en.get j d h
        refine ⟨v, h1, fun n => h2 fun m => ?_, fun m => h3 (List.mem_cons_of_mem _ m)⟩
        rcases List.mem_cons.mp m with z | m
        · rw [z, e] at h; cases h
        · exact n m
      | some d0 =>
        obtain ⟨v, h1, _, h3⟩ := S.en.get i d0 e
        obtain ⟨p, rfl, c, hg, hc, hb⟩ := h3 List.mem_cons_self
        have fin : ∀ o, H p = some o → Rp C.K (g.frz p o) (.ref p) d0 → ∃ g', Ste { C with O := [] } σ g' H env st := by
          intro o ho hr
          have le := Gh.frz_le (g := g) (p := p) (o := o) hg
          refine share_slots O (g.frz p o) ⟨S.sy.frz hg hc ho, ⟨fun j d h => ?_, fun j k p hj hk => S.en.inj j k p (List.mem_cons_of_mem _ hj) (List.mem_cons_of_mem _ hk), S.en.len⟩, S.ext.frz hg hb⟩
          obtain ⟨w, q1, q2, q3⟩ := S.en.get j d h
          refine ⟨w, q1, fun n => ?_, fun m => ?_⟩
          · by_cases z : j = i
            · subst z
              rw [e] at h; cases h
              rw [h1] at q1; cases q1
              exact hr
            · exact (q2 fun m => (List.mem_cons.mp m).elim z n).mono le
          · obtain ⟨p', e1, c', hg', hc', hb'⟩ := q3 (List.mem_cons_of_mem _ m)
            have hne : p' ≠ p := fun z => by
              subst z; subst e1
              have := S.en.inj i j p' List.mem_cons_self (List.mem_cons_of_mem _ m) (by rw [e]; exact fun z => nomatch z) (by rw [h]; exact fun z => nomatch z) h1 q1
              exact hi (this ▸ m)
            refine ⟨p', e1, ?_, ?_, hc', hb'⟩
            · cases d with
              | lst ds => obtain ⟨vs, a1, a2⟩ := c'; exact ⟨vs, a1, a2.mono le⟩
              | dic ds => obtain ⟨vs, a1, a2⟩ := c'; exact ⟨vs, a1, a2.mono le⟩
              | _ => exact c'.elim
            · show upd g.G p o p' = none
              rw [upd_ne hne]; exact hg'
        cases d0 with
        | lst ds =>
          obtain ⟨vs, a1, a2⟩ := c
          exact fin _ a1 (.lst Gh.frz_at (a2.mono (Gh.frz_le hg)))
        | dic ds =>
          obtain ⟨vs, a1, a2⟩ := c
          exact fin _ a1 (.dic Gh.frz_at (a2.mono (Gh.frz_le hg)))
        | _ => exact c.elim
theorem ss_retF {X : Cx} {C : Ct} {a : Expr} {ma : E} {pos : Pos} (ha : PE X a (tE { C with O := [] } ma)) : PS X (.Return (some a) pos) (tS C (.ret ma)) := (ps_ret ha).imp fun D σ H h => by
  obtain ⟨g, env, st, o, S, e, k⟩ := h
  rw [evS] at e
  obtain ⟨x, e1, e⟩ := bindS e
  obtain ⟨d, e2, e⟩ := mapS e
  cases e
  obtain ⟨g0, S0⟩ := share_slots (C := C) C.O g S
  exact tE_one S0 (fstE e1) fun v g1 H1 E1 S1 R1 => k v g1 H1 S1.sy S1.ext (R1.older fun a h => S.live h)
end MW
set_option Elab.async false
set_option linter.all false
set_option maxRecDepth 100000
set_option maxHeartbeats 2000000
set_option autoImplicit false
/-! Dicts: new ones, of pairs, a comprehension over the items of an own one. -/
namespace MW
open PySem PySem.Spec PyProof.Rows L2

section
variable {X : Cx} {C : Ct} {a b : Expr} {ma mb : E} {pos p : Pos} {kr : Nat}
theorem iteN' {α : Type} {c : Bool} {a : Option α} {b : α} (h : (if c = true then a else none) = some b) : c = true ∧ a = some b := by
  cases c with
  | false => cases h
  | true => exact ⟨rfl, by simpa using h⟩
theorem se_dic0 : PE X (.Dict [] [] pos) (tE C .dic0) := pe_dnewK.imp fun σ H Q h => by
  obtain ⟨g, env, st, rs, st', S, e, k⟩ := h
  rw [evE] at e
  cases e
  intro p hp
  have f := S.sy.fresh hp
  exact k _ g _ (Ext.alloc hp) (S.sy.alloc hp) ⟨p, rfl, ⟨[], upd_same, .nil⟩, f.1, f.2, hp⟩
theorem se_dic1 (ha : PE X a (tE C ma)) (hb : PE X b (tE C mb)) : PE X (.Dict [some a] [b] pos) (tE C (.dic1 ma mb)) := (pe_disp (pps_cons ha hb pps_nil) (by rfl) (by rfl) (fun z => by cases z) (show 1 ≤ 15 from by decide)).imp fun σ H Q h => by
  obtain ⟨g, env, st, rs, st', S, e, k⟩ := h
  rw [evE] at e
  obtain ⟨x, e1, e⟩ := bindS e
  obtain ⟨kd, e2, e⟩ := bindS e
  obtain ⟨y, e3, e⟩ := bindS e
  obtain ⟨d, e4, e⟩ := bindS e
  obtain ⟨k', e5, e⟩ := mapS e
  cases e
  obtain ⟨rfl, nv⟩ := own_ok e2
  obtain ⟨rfl, nv'⟩ := own_ok e4
  intro p hp
  have f := S.sy.fresh hp
  have S0 : Ste C σ g (upd H p (.dK [])) env st := S.of (Ext.alloc hp) (S.sy.alloc hp)
  refine tE_one S0 (fstE e1) fun v g1 H1 E1 S1 R1 => ?_
  have ek := key_ok (R1.wk S1.sy) e5
  subst ek
  have hp1 : H1 p = some (.dK []) := E1.keep _ _ f.2 upd_same
  have f1 := own_ext E1 (by rw [upd_same]; exact fun z => nomatch z) f.1 f.2
  refine tE_one S1 (fstE e3) fun w g2 H2 E2 S2 R2 => ?_
  have hp2 : H2 p = some (.dK []) := E2.keep _ _ f1.2 hp1
  have f2 := own_ext E2 (by rw [hp1]; exact fun z => nomatch z) f1.1 f1.2
  obtain ⟨g3, Y3, E3, le3, rp, hch, hcm⟩ := R2.share S2.sy nv' E2
  have G3 : g3.G p = none := by
    by_cases q : g3.G p = g2.G p
    · rw [q]; exact f2.1
    · have := (hch p q).2
      rw [hp1] at this; cases this
  have M3 : p ∉ g3.cm := by rw [hcm]; exact f2.2
  refine ⟨hp2, [(keyOf k', w)], rfl, show 1 ≤ 15 from by decide, ?_⟩
  have em : mergeK [] [(keyOf k', w)] = [(keyOf k', w)] := rfl
  rw [em]
  exact k _ g3 _ (((Ext.alloc hp).trans (E1.trans E3)).upd_new hp) (Y3.upd_own G3 M3) ⟨p, rfl, ⟨_, upd_same, .cons rfl rp .nil⟩, G3, M3, hp⟩
theorem pairs_ok {K : PySem.W.Frag} {g : Gh} {H : Hp} {st : Store} (S : Sy K g H st) : ∀ {ds : List D} {vs : List V} {kd : List (DKey × D)}, pairsD ds = some kd → RpAll K g vs ds →
    ∃ (ps : List Addr) (kvs : List (Key × V)), vs = ps.map V.ref ∧ Paired (fun p kv => SqT K H p [kV kv.1, kv.2]) ps kvs ∧ RpKv K g kvs kd
  | [], vs, kd, h, r => by
    cases h; cases r
    exact ⟨[], [], rfl, .nil, .nil⟩
  | .tup [k, d] :: ds, vs, kd, h, r => by
    rw [pairsD] at h
    obtain ⟨k', h1, h⟩ := bindS h
    obtain ⟨kd', h2, h⟩ := mapS h
    cases h
    cases r with
    | cons q r =>
      obtain ⟨ps, kvs, e1, e2, e3⟩ := pairs_ok S h2 r
      cases q with
      | tup qa ra =>
        cases ra with
        | cons rk ra =>
          cases ra with
          | cons rd ra =>
            cases ra
            have ek := key_ok (Rp.wk S rk) h1
            subst ek
            exact ⟨_ :: ps, (keyOf k', _) :: kvs, by rw [e1]; rfl, .cons (sqT_mono S.sub qa) e2, .cons rfl rd e3⟩
  | .tup [] :: _, _, _, h, _ => by cases h
  | .tup [_] :: _, _, _, h, _ => by cases h
  | .tup (_ :: _ :: _ :: _) :: _, _, _, h, _ => by cases h
  | .non :: _, _, _, h, _ => by cases h
  | .bl _ :: _, _, _, h, _ => by cases h
  | .int _ :: _, _, _, h, _ => by cases h
  | .str _ :: _, _, _, h, _ => by cases h
  | .lst _ :: _, _, _, h, _ => by cases h
  | .dic _ :: _, _, _, h, _ => by cases h
  | .scr _ :: _, _, _, h, _ => by cases h
  | .cell _ :: _, _, _, h, _ => by cases h
theorem merge_ok {K : PySem.W.Frag} {g : Gh} : ∀ (kvs : List (Key × V)) (kd : List (DKey × D)) {acc : List (Key × V)} {ac : List (DKey × D)}, RpKv K g kvs kd → RpKv K g acc ac → RpKv K g (mergeK acc kvs) (mergeKD ac kd)
  | [], kd, acc, ac, h, r => by cases h; exact r
  | p :: kvs, kd, acc, ac, h, s => by
    cases h with
    | @cons k0 v0 kv0 k' d' kd' e q r =>
      subst e
      have z := merge_ok kvs kd' r (s.put k' q)
      exact z
theorem boot_dict' : bootBuiltins "dict" = some (.type "dict") := by decide +kernel
theorem se_dicL (hc : X.calm = true) (hg : Gl X "dict") (hm : X.mg "dict" = none) (ha : PE X a (tE C ma)) (hs : starEach [a] X.env = (false, eval a X.env) :: starEach [] X.env) (hK : X.K = C.K) :
    PE X (.Call (.Name "dict" p) [a] [] pos) (tE C (.dicL ma)) :=
  (pe_callTy (call_dictP hc) hg hm boot_dict' (pa1 ha hs) (by decide) (by decide) hs (by rfl)).imp fun σ H Q h => by
    obtain ⟨g, env, st, rs, st', S, e, k⟩ := h
    rw [evE] at e
    obtain ⟨x, e1, e⟩ := bindS e
    refine tE_one S (fstE e1) fun v g1 H1 E1 S1 R1 => ?_
    have w := R1.wk S1.sy
    generalize x.1.d = d at e w
    cases d with
    | lst ds =>
      obtain ⟨kd, e2, e⟩ := mapS (show ((pairsD ds).map fun kd => (Rs.fr (.dic (mergeKD [] kd)), x.2)) = some (rs, st') from e)
      cases e
      obtain ⟨l, vs, rfl, hl, rp⟩ := w
      obtain ⟨ps, kvs, rfl, pr, rk⟩ := pairs_ok S1.sy e2 rp
      rw [hK]
      refine ⟨l, ps, kvs, rfl, SqL.of hl, pr, fun q hq => ?_⟩
      have f := S1.sy.fresh hq
      exact k _ g1 _ (E1.trans (Ext.alloc hq)) (S1.sy.alloc hq) ⟨q, rfl, ⟨_, upd_same, merge_ok _ _ rk .nil⟩, f.1, f.2, E1.live _ hq⟩
    | _ => cases e
theorem items_get : ∀ (kd : List (DKey × D)) (i : Nat), (itemsKD kd)[i]? = (kd[i]?).map fun p => D.tup [datK p.1, p.2] := fun kd i => by unfold itemsKD; rw [List.getElem?_map]
theorem RpKv.at {K : PySem.W.Frag} {g : Gh} : ∀ {kv : List (Key × V)} {kd : List (DKey × D)} {i : Nat} {p : Key × V}, RpKv K g kv kd → kv[i]? = some p → ∃ k d, kd[i]? = some (k, d) ∧ p.1 = keyOf k ∧ Rp K g p.2 d
  | _, _, i, _, .nil, h => by simp at h
  | _, _, 0, _, .cons e q _, h => by simp at h; subst h; exact ⟨_, _, rfl, e, q⟩
  | _, _, i + 1, _, .cons _ _ r, h => by
    obtain ⟨k, d, h1, h2⟩ := RpKv.at (i := i) r (by simpa using h)
    exact ⟨k, d, by simpa using h1, h2⟩
theorem wk_items {K : PySem.W.Frag} {g : Gh} {H : Hp} {p : Addr} {od : Obj} {kv : List (Key × V)} {kd : List (DKey × D)} (hK : RpKv K g kv kd) (hc : p ∉ g.cm) (hp : H p = some (.frz od (.dK kv))) : WkE (Iti p od kv) K g H true (itemsKD kd) := by
  refine ⟨fun H => H p = some (.frz od (.dK kv)), ⟨_, by
    have : (itemsKD kd).length = kv.length := by unfold itemsKD; rw [List.length_map, hK.length]
    rw [this]; exact walk_items, fun i H v H' g1 st hi y S hg => ?_⟩, ⟨fun z => (by cases z), fun g' H' E _ => E.keep _ _ hc hp⟩⟩
  obtain ⟨T, x, y, rfl, hT, rfl, e1, e2⟩ := y
  obtain ⟨⟨k, v⟩, e3, e4⟩ := Option.map_eq_some_iff.mp e1
  have e2 : (kv[i]?).map Prod.snd = some y := e2
  rw [e3] at e2
  cases e2
  cases e4
  obtain ⟨k', d, e5, e6, e7⟩ := hK.at e3
  have f := S.fresh hT
  have S2 : Sy K (g1.frz T (.tup [kV k, v])) (upd H T (.tup [kV k, v])) st := (S.alloc hT).frz f.1 f.2 upd_same
  refine ⟨g1.frz T (.tup [kV k, v]), (Ext.alloc hT).frz f.1 hT, S2, .tup [datK k', d], ?_, ?_⟩
  · rw [items_get, e5]; rfl
  · have e6 : k = keyOf k' := e6
    subst e6
    exact .tup (SqT.of Gh.frz_at) (.cons (rp_key k') (.cons ((e7.mono hg).mono (Gh.frz_le f.1)) .nil))
theorem EnR.hide {K : PySem.W.Frag} {g : Gh} {H Hb : Hp} {O : List Nat} {σ : L2.St} {env : En} (R : EnR K g H Hb O σ env) (y : Nat) : EnR K g H Hb O σ (env.set y none) where
  get := fun i d h => by
    rw [En.at_wipe] at h
    split at h
    · cases h
    · exact R.get i d h
  inj := fun i j p hi hj ei ej e1 e2 => by
    rw [En.at_wipe] at ei ej
    split at ei
    · exact absurd rfl ei
    · split at ej
      · exact absurd rfl ej
      · exact R.inj i j p hi hj ei ej e1 e2
  len := by rw [List.length_set]; exact R.len
/-- while an own dict is locked -/
theorem Ste.locked {σ : L2.St} {g : Gh} {H : Hp} {env : En} {st : Store} {y : Nat} {kd : List (DKey × D)} {p : Addr} {od : Obj} {kv : List (Key × V)} (S : Ste C σ g H env st) (hy : y ∈ C.O) (e : env.at y = some (.dic kd)) (hp : σ[y]? = some (some (.ref p))) (hk : H p = some (.dK kv)) (hg : g.G p = none) (hc : p ∉ g.cm) (h0 : C.Hb p = none) :
    Ste C σ g (upd H p (.frz od (.dK kv))) (env.set y none) st where
  sy := S.sy.upd_own hg hc
  en := by
    have R := S.en
    refine ⟨fun i d h => ?_, (R.hide y).inj, (R.hide y).len⟩
    rw [En.at_wipe] at h
    split at h
    · cases h
    · rename_i hne
      obtain ⟨v, h1, h2, h3⟩ := R.get i d h
      refine ⟨v, h1, h2, fun m => ?_⟩
      obtain ⟨q, e1, c, g1, g2, g3⟩ := h3 m
      refine ⟨q, e1, ?_, g1, g2, g3⟩
      have nq : q ≠ p := fun z => by
        subst z; subst e1
        exact hne (R.inj y i q hy m (by rw [e]; exact fun z => nomatch z) (by rw [h]; exact fun z => nomatch z) hp h1)
      cases d with
      | lst ds => obtain ⟨vs, h4, r⟩ := c; exact ⟨vs, by rw [upd_ne nq]; exact h4, r⟩
      | dic ds => obtain ⟨vs, h4, r⟩ := c; exact ⟨vs, by rw [upd_ne nq]; exact h4, r⟩
      | _ => exact c.elim
  ext := S.ext.upd_new h0
theorem ext_unlock {g g' : Gh} {H H' : Hp} {p : Addr} {od : Obj} {u : HO} (E : Ext g (upd H p (.frz od u)) g' H') (hp : H p = some u) (hc : p ∉ g.cm) : Ext g H g' (upd H' p u) where
  le := E.le
  new := fun a o h => by
    rcases E.new a o h with q | q
    · exact .inl q
    · by_cases z : a = p
      · subst z; rw [upd_same] at q; cases q
      · rw [upd_ne z] at q; exact .inr q
  newc := fun a h => by
    rcases E.newc a h with q | q
    · exact .inl q
    · by_cases z : a = p
      · subst z; rw [upd_same] at q; cases q
      · rw [upd_ne z] at q; exact .inr q
  keep := fun a o ha h => by
    by_cases z : a = p
    · subst z; rw [hp] at h; cases h; exact upd_same
    · rw [upd_ne z]; exact E.keep a o ha (by rw [upd_ne z]; exact h)
  live := fun a h => by
    by_cases z : a = p
    · subst z; rw [upd_same] at h; cases h
    · rw [upd_ne z] at h
      have := E.live a h
      rw [upd_ne z] at this; exact this
theorem se_compI {elt o : Expr} {elts ifs : List Expr} {kk y : Nat} {tpos apos cpos : Pos} {scope : Scope} {own : List (Str × Nat)} {me : E} {mt : Tg} {mc : Eo} (hc : X.calm = true) (hN : X.N.Nodup) (ho : PE X o (tVar y)) (hy : y ∈ C.O)
    (hbase : attributeBase o "items" X.env (eval o X.env) = eval o X.env) (hline : (apos.endLine == cpos.line) = true) (ok : BlkOk X.N X.env.scope scope own)
    (hg : ∀ (s : Shared) (H : Hp) (Cc : Addr) (cl : List (Str × Addr)) (fp : List Addr), PG (X.blk s H scope (compEnvC scope cl Cc X.env) fp) (.Tuple elts kk tpos) (tG C mt)) (ht : ∀ (s : Shared) (H : Hp) (Cc : Addr) (cl : List (Str × Addr)) (fp : List Addr), PTs (X.blk s H scope (compEnvC scope cl Cc X.env) fp) ifs (tCn C mc))
    (he : ∀ (s : Shared) (H : Hp) (Cc : Addr) (cl : List (Str × Addr)) (fp : List Addr), PE (X.blk s H scope (compEnvC scope cl Cc X.env) fp) elt (tE C me)) (hin : tgIn (own.map (·.2)) mt = true) :
    PE X (.ListComp elt [⟨.Tuple elts kk tpos, .Call (.Attribute o "items" apos) [] [] cpos, ifs, 0⟩] scope pos) (tE C (.compI y (own.map (·.2)) me mt mc)) ∧
    ∀ (i : Nat) (x : Str) (py spos : Pos) (hx : X.N[i]? = some x) (hxl : X.env.scope.names.lookup x = some .local) (hsw : swapsWith (.ListComp elt [⟨.Tuple elts kk tpos, .Call (.Attribute o "items" apos) [] [] cpos, ifs, 0⟩] scope pos) (some (.Name x py)) spos.line X.env = pure true),
      PS X (.Assign [.Name x py] (.ListComp elt [⟨.Tuple elts kk tpos, .Call (.Attribute o "items" apos) [] [] cpos, ifs, 0⟩] scope pos) spos) (tAsg (tE C (.compI y (own.map (·.2)) me mt mc)) (gName i)) := by
  have core : ∀ σ H Q, tE C (.compI y (own.map (·.2)) me mt mc) σ H Q → tLockE (tLc (iItems (tVar y)) (tG C mt) (tCn C mc) (tE C me) (own.map (·.2))) σ H Q := by
    intro σ H Q h
    generalize hws : own.map (·.2) = ws at h hin ⊢
    obtain ⟨g, env, st, rs, st', S, e, k⟩ := h
    rw [evE] at e
    obtain ⟨o, e1, e⟩ := bindS e
    cases o with
    | dic kd =>
      obtain ⟨⟨zs, st2⟩, e2, e⟩ := bindS e
      obtain ⟨hz, e⟩ := iteS e
      cases e
      obtain ⟨p, hp, ⟨kv, hk, rk⟩, hg', hc', h0⟩ := own_at S hy e1
      refine ⟨p, .dK kv, hk, trivial, fun od => ?_⟩
      have S1 := S.locked (od := od) hy e1 hp hk hg' hc' h0
      refine ⟨_, hp, p, od, kv, rfl, upd_same, ?_⟩
      refine comp_core (C := C) (Q := fun v H' => H' p = some (.frz od (.dK kv)) ∧ Q v (upd H' p (.dK kv))) (vb := true) S1 (.refl _ _) S1.sy (wk_items rk hc' upd_same) e2 hz hin fun v g2 H2 E2 Y2 R2 => ?_
      have hp2 : H2 p = some (.frz od (.dK kv)) := E2.keep _ _ hc' upd_same
      refine ⟨hp2, ?_⟩
      have f2 := own_ext E2 (by rw [upd_same]; exact fun z => nomatch z) hg' hc'
      refine k v g2 _ (ext_unlock E2 hk hc') (Y2.upd_own f2.1 f2.2) ?_
      obtain ⟨q, rfl, ⟨vs, h4, r⟩, h5, h6, h7⟩ := R2
      have nq : q ≠ p := fun z => by subst z; rw [upd_same] at h7; cases h7
      refine ⟨q, rfl, ⟨vs, by rw [upd_ne nq]; exact h4, r⟩, h5, h6, ?_⟩
      rw [upd_ne nq] at h7; exact h7
    | _ => cases e
  exact ⟨(pe_lock (pe_lc hc hN (pi_items ho hbase hline) ok hg ht he (fun x => rfl))).imp core, fun i x py spos hx hxl hsw => (ps_lock (ps_setLc hc hN hx hxl hsw (pi_items ho hbase hline) ok hg ht he (fun x => rfl))).imp fun D σ H h => by
    obtain ⟨p, u, hp, mu, q⟩ := core σ H _ h
    exact ⟨p, u, hp, mu, q⟩⟩
theorem rg_ok {K : PySem.W.Frag} {g : Gh} (n : Nat) : RpAll K g (rgV 0 (n : Int)) (rngI 0 n) := by
  unfold rgV rngI
  rw [show ((n : Int) - 0).toNat = n by omega]
  generalize List.range n = l
  induction l with
  | nil => exact .nil
  | cons a l ih => exact .cons (.int _) ih
theorem se_lrng {p2 pos2 : Pos} (hc : X.calm = true) (hg : Gl X "list") (hm : X.mg "list" = none) (hg2 : Gl X "range") (hm2 : X.mg "range" = none) (ha : PE X a (tE C ma)) (hs : starEach [a] X.env = (false, eval a X.env) :: starEach [] X.env) :
    PE X (.Call (.Name "list" p) [.Call (.Name "range" p2) [a] [] pos2] [] pos) (tE C (.lrng ma)) :=
  (pe_listRg hc hg hm (prg_1 hg2 hm2 ha hs) (by rfl)).imp fun σ H Q h => by
    obtain ⟨g, env, st, rs, st', S, e, k⟩ := h
    rw [evE] at e
    obtain ⟨x, e1, e⟩ := bindS e
    obtain ⟨i, e2, e⟩ := bindS e
    obtain ⟨hz, e⟩ := iteS e
    cases e
    simp only [Bool.and_eq_true, decide_eq_true_eq] at hz
    refine tE_one S (fstE e1) fun v g1 H1 E1 S1 R1 => ?_
    rw [intOf_ok e2] at R1
    have ev := rs_int R1
    subst ev
    refine ⟨i, rfl, RgOk.of_le (by omega) hz.2 (by omega) hz.1, fun q hq => ?_⟩
    have f := S1.sy.fresh hq
    have r := rg_ok (K := C.K) (g := g1) i.toNat
    rw [show ((i.toNat : Nat) : Int) = i by omega] at r
    exact k _ g1 _ (E1.trans (Ext.alloc hq)) (S1.sy.alloc hq) ⟨q, rfl, ⟨_, upd_same, r⟩, f.1, f.2, E1.live _ hq⟩
theorem se_lix {apos : Pos} (hK : X.K = C.K) (hu : X.A.units + 65 < cLine) (ha : PE X a (tE C ma)) (hb : PE X b (tE C mb)) (hs : starEach [b] X.env = (false, eval b X.env) :: starEach [] X.env) (hbase : attributeBase a "index" X.env (eval a X.env) = eval a X.env) (hline : (apos.endLine == pos.line) = true) :
    PE X (.Call (.Attribute a "index" apos) [b] [] pos) (tE C (.lix ma mb)) :=
  (pe_bm PySem.F.plainAttrs_list PySem.F.slot_list_index PySem.F.type_list_index (mt_indexD hu) ha (pa1 hb hs) hbase (by rw [hs]; rfl) hline hs (by rfl)).imp fun σ H Q h => by
    obtain ⟨g, env, st, rs, st', S, e, k⟩ := h
    rw [evE] at e
    obtain ⟨x, e1, e⟩ := bindS e
    obtain ⟨y, e2, e⟩ := bindS e
    generalize hxd : x.1.d = dx at e
    cases dx with
    | lst xs =>
      dsimp only at e
      obtain ⟨hz, e⟩ := iteN' e
      obtain ⟨j, e3, e⟩ := mapS e
      cases e
      simp only [Bool.and_eq_true] at hz
      refine tE_one S (fstE e1) fun v g1 H1 E1 S1 R1 => ?_
      have w1 := R1.wk S1.sy
      rw [hxd] at w1
      obtain ⟨l, vs, rfl, hl, rp⟩ := w1
      refine ⟨.inl ⟨rfl, _, SqL.of hl⟩, tE_one S1 (fstE e2) fun w g2 H2 E2 S2 R2 => ?_⟩
      have w2 := (R1.ext E2).wk S2.sy
      rw [hxd] at w2
      have d1 := (w2.dp S2.sy hz.1).1
      have d2 := ((R2.wk S2.sy).dp S2.sy hz.2).1
      obtain ⟨hj, p1, p2⟩ := List.findIdx?_eq_some_iff_getElem.mp e3
      rw [D.py] at d1
      have sl := hz.1
      unfold D.pl at sl
      rw [D.py] at sl
      rw [hK]
      refine ⟨l, w, y.1.d.py, pyAll xs, j, xs[j].py, rfl, rfl, d1, d2, sl, hz.2, by rw [pyAll_map, List.getElem?_map, List.getElem?_eq_getElem hj]; rfl, p1, fun m z hm ez => ?_, k _ g2 H2 (E1.trans E2) S2.sy (.int _)⟩
      rw [pyAll_map, List.getElem?_map, List.getElem?_eq_getElem (by omega)] at ez
      cases ez
      have := p2 m hm
      simpa using this
    | _ => cases e
end
end MW
set_option Elab.async false
set_option linter.all false
set_option maxRecDepth 100000
set_option maxHeartbeats 2000000
set_option autoImplicit false
/-! text.replace(c, d) of two written signs: it wants a token that is out. -/
namespace MW
open PySem PySem.Spec PyProof.Rows L2

theorem replL_one (c d : Nat) : ∀ x : List Nat, StrLaws.replL [c] [d] x = x.map fun k => if k = c then d else k
  | [] => rfl
  | k :: r => by
    have ih := replL_one c d r
    unfold StrLaws.replL at ih ⊢
    rw [StrLaws.replS, List.map_cons]
    by_cases h : k = c
    · subst h
      rw [if_pos (by simp), if_pos rfl, show [k].length - 1 = 0 from rfl, ih]; rfl
    · rw [if_neg (by simpa using h), if_neg h, ih]
theorem rep_one (c d : Nat) (x : List Nat) : Txt.replace ⟨x.toArray⟩ ⟨#[c]⟩ ⟨#[d]⟩ = ⟨(x.map fun k => if k = c then d else k).toArray⟩ := by
  refine TL.ext_tl ?_
  show (Txt.replace ⟨x.toArray⟩ ⟨#[c]⟩ ⟨#[d]⟩).cps.toList = _
  rw [StrLaws.replace_list (show 1 ≤ Str.length ⟨#[c]⟩ from Nat.le_refl 1)]
  exact replL_one c d x

section
variable {X : Cx} {C : Ct}
def PEk (X : Cx) (e : Expr) (t : TE) : Prop :=
  ∀ (pins : List (Addr × Obj)) (s : Shared) (σ : L2.St) (H : Hp) (Q : VK), Inv X pins σ H s → t σ H Q → wpAny (model X.prog X.w) X.A (eval e X.env) (fun v s1 => 1 ≤ s1.toks ∧ EP X pins σ Q v s1) X.xe s
def PSk (X : Cx) (st : Stmt) (t : TS) : Prop :=
  ∀ (pins : List (Addr × Obj)) (s : Shared) (σ : L2.St) (H : Hp) (D : Ends), Inv X pins σ H s → t D σ H → wpAny (model X.prog X.w) X.A (exec st X.env) (fun f s1 => 1 ≤ s1.toks ∧ SP X pins D f s1) X.xe s
theorem psk_cons {st : Stmt} {rest : List Stmt} {t u : TS} (h1 : PSk X st t) (h2 : PSsT X rest u) : PSs X (st :: rest) (tSeq t u) := by
  refine ⟨fun pins s σ H D I h => ?_⟩
  refine wpAny_execs_cons (wpAny_mono (h1 pins s σ H { D with nx := u D } I h) (fun f s1 q => ?_) fun _ _ x => x)
  obtain ⟨hk, q⟩ := q
  cases f with
  | next =>
    obtain ⟨σ', H', I', q⟩ := q
    exact h2 pins s1 σ' H' D hk I' q
  | ret v => exact q
  | brk => exact q
  | cont => exact q
theorem psk_set {i : Nat} {x : Str} {e : Expr} {te : TE} {pos pos' : Pos} (hN : X.N.Nodup) (hi : X.N[i]? = some x) (hx : Loc X.env.scope x) (he : PEk X e te) (hs : swapsWith e (some (.Name x pos')) pos.line X.env = pure false) (hf : X.fn x = true ∨ X.env.scope.names.lookup x = some .local) :
    PSk X (.Assign [.Name x pos'] e pos) (tAsg te (gName i)) := by
  intro pins s σ H D I h
  refine wpAny_Assign_Name (thn (he pins s σ H _ I h) fun v s1 q => ?_) hs
  obtain ⟨hk, y, H1, I1, r1, q1⟩ := q
  refine wpAny_mono (PySem.wpAny_toks (store_ok (Q := fun _ s2 => SP X pins D .next s2) I1 hN hi hx r1 (fun s2 I2 => ⟨_, H1, I2, q1⟩) hf)) (fun _ s2 q => ⟨Nat.le_trans hk q.1, q.2⟩) fun _ _ z => z.2
theorem pst_set {i : Nat} {x : Str} {e : Expr} {te : TE} {pos pos' : Pos} (hN : X.N.Nodup) (hi : X.N[i]? = some x) (hx : Loc X.env.scope x) (he : PET X e te) (hs : swapsWith e (some (.Name x pos')) pos.line X.env = pure false) (hf : X.fn x = true ∨ X.env.scope.names.lookup x = some .local) :
    PST X (.Assign [.Name x pos'] e pos) (tAsg te (gName i)) := by
  intro pins s σ H D h0 I h
  refine wpAny_Assign_Name (thn (he pins s σ H _ h0 I h) fun v s1 q => ?_) hs
  obtain ⟨y, H1, I1, r1, q1⟩ := q
  exact store_ok I1 hN hi hx r1 (fun s2 I2 => ⟨_, H1, I2, q1⟩) hf
/-- "..".join(..): behind it a token is out -/
theorem pek_join {b : Expr} {mb : E} {y : Str} {j : Nat} {cp apos pos : Pos} (hK : X.K = C.K) (hb : PE X b (tE C mb))
    (hs : starEach [b] X.env = [(false, eval b X.env)]) (hline : (apos.endLine == pos.line) = true) :
    PEk X (.Call (.Attribute (.Constant (.str y) j cp) "join" apos) [b] [] pos) (tE C (.m1 .join (.c (.str y.cps.toList)) mb)) := by
  intro pins s σ H Q I h
  obtain ⟨g, env, st, rs, st', S, e, k⟩ := h
  rw [evE] at e
  obtain ⟨x, e1, e⟩ := bindS e
  obtain ⟨z, e2, e⟩ := bindS e
  obtain ⟨r, e3, e⟩ := mapS e
  cases e
  rw [evE] at e1
  cases e1
  refine PySem.Call_method1 (by rfl) hs hline (Calls.Constant_str ?_)
  refine ⟨"str", _, F.plainAttrs_str, F.slot_str_join, F.type_str_join, typeIs_str _ _ _, (fun _ e => nomatch e), Calls.callWith_builtin rfl (Calls.evalArgs_plain (Calls.spliced_cons ?_))⟩
  have key := tE_one (Q := fun w H2 => rM1 X.K .join (.str y) [w] H2 Q) S (fstE e2) fun w g2 H2 E2 S2 R2 => by
    rw [hK]
    exact ⟨w, g2, z.2, .str y.cps.toList, z.1.d, rs, rfl, S2.sy, (Rp.str y.cps.toList : Rp C.K g2 (.str y) (.str y.cps.toList)), R2.wk S2.sy, e3, fun v g3 H3 E3 Y3 R3 => k v g3 H3 (E2.trans E3) Y3 (R3.older fun a h => E2.live a h)⟩
  refine wpAny_mono (PySem.wpAny_toks (hb.run pins _ σ H _ (I.tok (s.toks + 1)) key)) (fun u s2 q => ?_) fun _ _ z => z.2
  obtain ⟨hk, w, H2, I2, r2, q2⟩ := q
  have hk : s.toks + 1 ≤ s2.toks := hk
  refine Calls.spliced_nil (wpAny_mono (PySem.wpAny_toks (joinM_ok pins s2 σ H2 (.str y) [w] (.str y s.toks) [u] Q I2 ⟨_, rfl⟩ (.cons r2 .nil) q2)) (fun v s3 q => ⟨by have := q.1; omega, q.2⟩) fun _ _ z => z.2)
/-- r.replace(c, d) -/
theorem repC_ok {ma : E} {c d : Nat} {σ : L2.St} {H : Hp} {Q : VK} (h : tE C (.rep ma c d) σ H Q) : CwR.tReplC (tE C ma) ⟨#[c]⟩ ⟨#[d]⟩ σ H Q ∧ (c = d → False) := by
  obtain ⟨g, env, st, rs, st', S, e, k⟩ := h
  rw [evE] at e
  obtain ⟨x, e1, e⟩ := bindS e
  split at e
  · rename_i t ht
    obtain ⟨hc, e⟩ := iteN' e
    cases e
    simp only [Bool.and_eq_true, decide_eq_true_eq] at hc
    refine ⟨tE_one S (fstE e1) fun v g1 H1 E1 S1 R1 => ?_, hc.2⟩
    have w := R1.wk S1.sy
    rw [ht] at w
    cases w
    refine ⟨_, rfl, ?_, ?_⟩
    · rw [show Str.length ⟨#[d]⟩ = 1 from rfl, str_len]; omega
    · rw [rep_one]
      exact k _ g1 H1 E1 S1.sy (Rp.str _ : Rp C.K g1 _ (.str _))
  · cases e
theorem pet_rep0 {o : Expr} {ma : E} {c d : Nat} {y z : Str} {j k : Nat} {c0 c1 apos pos : Pos} (hy : y = ⟨#[c]⟩) (hz : z = ⟨#[d]⟩) (hcd : c ≠ d) (ho : PE X o (tE C ma))
    (hbase : attributeBase o "replace" X.env (eval o X.env) = eval o X.env) (hline : (apos.endLine == pos.line) = true) :
    PET X (.Call (.Attribute o "replace" apos) [.Constant (.str y) j c0, .Constant (.str z) k c1] [] pos) (tE C (.rep ma c d)) := by
  intro pins s σ H Q h0 I h
  subst hy hz
  exact CwR.pet_replC ho (by simpa using hcd) rfl hbase hline pins s σ H Q h0 I (repC_ok h).1
theorem pet_repT {o : Expr} {ma : E} {c d : Nat} {y z : Str} {j k : Nat} {c0 c1 apos pos : Pos} (hy : y = ⟨#[c]⟩) (hz : z = ⟨#[d]⟩) (hcd : c ≠ d) (ho : PET X o (tE C ma))
    (hbase : attributeBase o "replace" X.env (eval o X.env) = eval o X.env) (hline : (apos.endLine == pos.line) = true) :
    PET X (.Call (.Attribute o "replace" apos) [.Constant (.str y) j c0, .Constant (.str z) k c1] [] pos) (tE C (.rep ma c d)) := by
  intro pins s σ H Q h0 I h
  subst hy hz
  exact CwR.pet_replT ho (by simpa using hcd) rfl hbase hline pins s σ H Q h0 I (repC_ok h).1
/-! the list of statements -/
theorem seq_in {m : MW.S} {ms : Ss} {D : Ends} {σ : L2.St} {H : Hp} (h : tSs C (.cons m ms) D σ H) : tSeq (tS C m) (tSs C ms) D σ H := by
  obtain ⟨g, env, st, o, S, e, k⟩ := h
  rw [evSs] at e
  obtain ⟨⟨f, en1, st1⟩, e1, e⟩ := bindS e
  refine ⟨g, env, st, _, S, e1, ?_⟩
  cases f with
  | nx => exact fun σ' g' H' S' l => ⟨g', en1, st1, o, S', e, k.le l⟩
  | brk => cases e; exact k
  | cont => cases e; exact k
  | ret r => cases e; exact k
theorem set_in {i : Nat} {ma : E} (hi : i ∉ C.O) {D : Ends} {σ : L2.St} {H : Hp} (h : tS C (.set i ma) D σ H) : tAsg (tE C ma) (gName i) D σ H := by
  obtain ⟨g, env, st, o, S, e, k⟩ := h
  rw [evS] at e
  obtain ⟨x, e1, e⟩ := bindS e
  obtain ⟨d, e2, e⟩ := mapS e
  cases e
  obtain ⟨rfl, nv⟩ := own_ok e2
  refine tE_one S (fstE e1) fun v g1 H1 E1 S1 R1 => ?_
  obtain ⟨g2, S2, le⟩ := set_core S S1 E1 R1 hi nv
  exact k _ g2 H1 S2 le
theorem ss_tok {s t : Stmt} {rest : List Stmt} {m m' : MW.S} {ms : Ss} (h1 : PSk X s (tS C m)) (h2 : PST X t (tS C m')) (h3 : PSs X rest (tSs C ms)) : PSs X (s :: t :: rest) (tSs C (.cons m (.cons m' ms))) :=
  (psk_cons h1 (u := tSs C (.cons m' ms)) fun pins s σ H D h0 I h => psst_cons h2 (PSsT.of h3) pins s σ H D h0 I (seq_in h)).imp fun D σ H h => seq_in h
end
end MW
set_option Elab.async false
set_option linter.all false
set_option maxRecDepth 100000
set_option maxHeartbeats 4000000
set_option autoImplicit false
/-! From the program's text to the small language: expressions. -/
namespace MW
open PySem PySem.Spec PyProof.Rows L2

theorem iteN {α : Type} {c : Bool} {a : Option α} {b : α} (h : (if c = true then a else none) = some b) : c = true ∧ a = some b := by
  cases c with
  | false => cases h
  | true => exact ⟨rfl, by simpa using h⟩
theorem and2 {a b : Bool} (h : (a && b) = true) : a = true ∧ b = true := by rwa [Bool.and_eq_true] at h

/-- what the translation knows: the slots' names, the scope, the block's own cells, the own slots, the defs, constants, built-ins -/
structure Tc where
  N : List Str
  sc : Scope
  fn : Str → Bool
  O : List Nat
  cel : Bool
  df : Str → Option Nat
  con : Str → Option D
  blt : Str → Bool
structure TcOk (X : Cx) (C : Ct) (T : Tc) : Prop where
  K : X.K = C.K
  N : X.N = T.N
  nd : X.N.Nodup
  sc : X.env.scope = T.sc
  fn : ∀ x, T.fn x = true → X.fn x = true
  calm : X.calm = true
  O : C.O = T.O
  room : ∃ k, Room k X.A
  df : ∀ x f, T.df x = some f → ∃ ad fd ps k, FnOk X.prog X.w X.K X.mg X.base CX0 k ad fd ps (spF X.K C.W f) ∧ Room k X.A ∧ X.mg x = some (.ref ad) ∧ PySem.W.keepIn X.K (.ref ad) = true ∧ Binds X.K fd ps []
  con : ∀ x d, T.con x = some d → ∃ v u, X.mg x = some u ∧ RelV v u ∧ ∀ g, Rp C.K g v d
  blt : ∀ x, T.blt x = true → X.mg x = none

def ixOf (x : Str) : List Str → Nat → Option Nat
  | [], _ => none
  | y :: r, i => if decide (x = y) = true then some i else ixOf x r (i + 1)
def plainN (x : Str) : Bool := !(x == ("__debug__" : Str)) && !(x == ("__classdict__" : Str)) && decide (x ≠ ("__name__" : Str))
def visB (sc : Scope) (x : Str) : Bool := match sc.names.lookup x with
  | some .local => true
  | some .cell => true
  | some .free => true
  | _ => false
def glB (sc : Scope) (x : Str) : Bool := match sc.names.lookup x with
  | some .globalImplicit => true
  | _ => false
def locB (sc : Scope) (x : Str) : Bool := match sc.names.lookup x with
  | some .local => true
  | _ => false
def celB (sc : Scope) (x : Str) : Bool := match sc.names.lookup x with
  | some .cell => true
  | _ => false
def slotOf (T : Tc) (x : Str) : Option Nat := (ixOf x T.N 0).bind fun i => if (decide (T.N[i]? = some x) && visB T.sc x && plainN x) = true then some i else none
def notStar : Expr → Bool
  | .Starred _ _ => false
  | _ => true
def notSet : Expr → Bool
  | .Set _ _ _ => false
  | _ => true
def notCall : Expr → Bool
  | .Call _ _ _ _ => false
  | _ => true
def notSlice : Expr → Bool
  | .Slice _ _ none _ => false
  | _ => true
def trC : Const → Option D
  | .none => some .non
  | .bool b => some (.bl b)
  | .int i => some (.int i)
  | .str x => some (.str x.cps.toList)
  | _ => none
def bopOf : Operator → Option BOp
  | .Add => some .add | .Sub => some .sub | .Mult => some .mul | .FloorDiv => some .fdiv | .Mod => some .mod | .Pow => some .pow
  | _ => none
def copOf : CmpOp → Option COp
  | .Eq => some .eq | .NotEq => some .ne | .Lt => some .lt | .LtE => some .le | .Gt => some .gt | .GtE => some .ge | .Is => some .isn | .IsNot => some .notn | .In => some .inn | .NotIn => some .nin
theorem bopOf_ok {o : Operator} {b : BOp} (h : bopOf o = some b) : o = bopT b := by
  cases o <;> first | (cases h; rfl) | cases h
theorem copOf_ok {o : CmpOp} {b : COp} (h : copOf o = some b) : o = copT b := by
  cases o <;> first | (cases h; rfl) | cases h
def b1Of (x : Str) : Option B1 :=
  if x = ("len" : Str) then some .len else if x = ("all" : Str) then some .all else if x = ("any" : Str) then some .any else if x = ("list" : Str) then some .list else if x = ("tuple" : Str) then some .tuple
  else if x = ("sorted" : Str) then some .sorted else if x = ("int" : Str) then some .int else if x = ("abs" : Str) then some .abs else if x = ("min" : Str) then some .min else if x = ("max" : Str) then some .max else none
def b2Of (x : Str) : Option B2 := if x = ("min" : Str) then some .min else if x = ("max" : Str) then some .max else none
def tyOf1 (x : Str) : Option Ty :=
  if x = ("int" : Str) then some .int else if x = ("bool" : Str) then some .bool else if x = ("str" : Str) then some .str else if x = ("tuple" : Str) then some .tuple else if x = ("list" : Str) then some .list else none
def m0Of (x : Str) : Option M0 := if x = ("lower" : Str) then some .lower else if x = ("upper" : Str) then some .upper else none
def m1Of (x : Str) : Option M1 := if x = ("endswith" : Str) then some .endswith else if x = ("startswith" : Str) then some .startswith else if x = ("join" : Str) then some .join else if x = ("split" : Str) then some .split else none
def relS (sc scope : Scope) : Scope := { scope with names := scope.names.map fun (n, k) => if (k == .free && sc.kind == .function && sc.names.lookup n == some .cell) then (n, .cell) else (n, k) }
def ownOf (N : List Str) (scope : Scope) : List (Str × Nat) := scope.names.filterMap fun (x, k) => match k with
  | .local => (ixOf x N 0).map fun i => (x, i)
  | .cell => (ixOf x N 0).map fun i => (x, i)
  | _ => none
def Tc.blk (T : Tc) (scope : Scope) : Tc := { T with sc := relS T.sc scope, fn := fun x => scope.names.lookup x == some .cell }
/-- a name that may be set -/
def setB (T : Tc) (x : Str) : Bool := locB T.sc x || (celB T.sc x && T.fn x)
section
variable (r : Expr → Option E) (T : Tc)
def trEs : List Expr → Option Es
  | [] => some .nil
  | e :: es => if notStar e = true then (r e).bind fun m => (trEs es).map fun ms => .cons m ms else none
def trEo : Option Expr → Option Eo
  | none => some .no
  | some e => (r e).map .so
mutual
def trG : Expr → Option Tg
  | .Name x _ => (slotOf T x).bind fun i => if (setB T x && !T.O.contains i) = true then some (.nm i) else none
  | .Tuple es _ _ => (trGs es).map .tup
  | _ => none
def trGs : List Expr → Option Tgs
  | [] => some .nil
  | e :: es => if notStar e = true then (trG e).bind fun m => (trGs es).map fun ms => .cons m ms else none
end
def trRng (x : Str) (args : List Expr) : Option Itb := if (T.blt x && glB T.sc x) = true then (match args with
  | [a] => (trEs r [a]).map .rng
  | [a, b] => (trEs r [a, b]).map .rng
  | [a, b, c] => (trEs r [a, b, c]).map .rng
  | _ => none) else none
def trEnum (tg : Expr) (x : Str) (args : List Expr) : Option Itb := if (T.blt x && glB T.sc x) = true then (match tg, args with
  | .Tuple _ _ _, [a] => if notStar a = true then (r a).map .enum else none
  | _, _ => none) else none
def trZip (tg : Expr) (x : Str) (args : List Expr) : Option Itb := if (T.blt x && glB T.sc x) = true then (match tg, args with
  | .Tuple _ _ _, [a, b] => if (notStar a && notStar b) = true then (r a).bind fun ma => (r b).map fun mb => .zip ma mb else none
  | _, _ => none) else none
def trIt (tg iter : Expr) : Option Itb := match iter with
  | .Call (.Name x p) args [] pos => if x = ("range" : Str) then trRng r T x args else if x = ("enumerate" : Str) then trEnum r T tg x args else if x = ("zip" : Str) then trZip r T tg x args else (r (.Call (.Name x p) args [] pos)).map .e
  | e => (r e).map .e
def trDict (args : List Expr) : Option E := match args with
  | [a] => if notStar a = true then (r a).map .dicL else none
  | _ => none
/-- a call of a name -/
def trCall (x : Str) (args : List Expr) : Option E := if (glB T.sc x && plainN x) = true then (match T.df x with
  | some f => (trEs r args).map fun ms => .call f ms
  | none => if T.blt x = true then (if x = ("dict" : Str) then trDict r args else match args with
    | [.Call (.Name y yp) [e] [] ypos] => if (decide (x = ("sorted" : Str)) && decide (y = ("set" : Str)) && T.blt y && glB T.sc y && notStar e) = true then (r e).map .ss else if (decide (x = ("len" : Str)) && decide (y = ("set" : Str)) && T.blt y && glB T.sc y && notStar e) = true then (r e).map .lens else if (decide (x = ("list" : Str)) && decide (y = ("range" : Str)) && T.blt y && glB T.sc y && notStar e) = true then (r e).map .lrng else (b1Of x).bind fun f => (r (.Call (.Name y yp) [e] [] ypos)).map fun m => .b1 f m
    | [a] => if notStar a = true then (b1Of x).bind fun f => (r a).map fun m => .b1 f m else none
    | [a, .Name y py] => if notStar a = true then (if x = ("isinstance" : Str) then (tyOf1 y).bind fun t => if (T.blt y && glB T.sc y && plainN y) = true then (r a).map fun m => .isi t m else none
        else (b2Of x).bind fun f => (r a).bind fun m => (r (.Name y py)).map fun k => .b2 f m k) else none
    | [a, b] => if (notStar a && notStar b) = true then (b2Of x).bind fun f => (r a).bind fun m => (r b).map fun k => .b2 f m k else none
    | _ => none) else none) else none
def trMeth (o : Expr) (x : Str) (apos pos : Pos) (args : List Expr) : Option E := if (notCall o && (apos.endLine == pos.line)) = true then (match args with
  | [] => (m0Of x).bind fun f => (r o).map fun m => .m0 f m
  | [a] => if notStar a = true then (if x = ("index" : Str) then (r o).bind fun m => (r a).map fun k => .lix m k else (m1Of x).bind fun f => (r o).bind fun m => (r a).map fun k => .m1 f m k) else none
  | _ => none) else none
def trSub (a b : Expr) : Option E := match b with
  | .Slice lo hi none _ => (r a).bind fun m => (trEo r lo).bind fun l => (trEo r hi).map fun h => .sl m l h
  | .Slice none none (some (.UnaryOp .USub (.Constant (.int 1) _ _) _)) _ => (r a).map .rev
  | b => (r a).bind fun m => (r b).map fun k => .idx m k
end
def trIfs (r : Expr → Option E) : List Expr → Option Eo
  | [] => some .no
  | [a] => (r a).map .so
  | _ => none
def itemsIt (T : Tc) : Expr → Expr → Option Nat
  | .Tuple _ _ _, .Call (.Attribute (.Name x _) at_ apos) [] [] cpos => (slotOf T x).bind fun y => if (decide (at_ = ("items" : Str)) && T.O.contains y && (apos.endLine == cpos.line)) = true then some y else none
  | _, _ => none
def trComp (r : Tc → Expr → Option E) (T : Tc) (elt : Expr) (gens : List Comprehension) (scope : Scope) : Option E := match gens with
  | [⟨tg, iter, ifs, 0⟩] => if (blkC T.N T.sc scope (ownOf T.N scope) && notSet iter) = true then
      (match itemsIt T tg iter with
      | some y => (trG (T.blk scope) tg).bind fun mt => if tgIn ((ownOf T.N scope).map (·.2)) mt = true then (trIfs (r (T.blk scope)) ifs).bind fun mc => (r (T.blk scope) elt).map fun me => .compI y ((ownOf T.N scope).map (·.2)) me mt mc else none
      | none => (trIt (r T) T tg iter).bind fun mi => (trG (T.blk scope) tg).bind fun mt => if tgIn ((ownOf T.N scope).map (·.2)) mt = true then (trIfs (r (T.blk scope)) ifs).bind fun mc => (r (T.blk scope) elt).map fun me => .comp ((ownOf T.N scope).map (·.2)) me mt mi mc else none)
    else none
  | _ => none
def notLine (es : List Expr) : Bool := decide (es.length ≤ sizeLine)
def stE (r : Tc → Expr → Option E) (T : Tc) : Expr → Option E
  | .Constant c _ _ => (trC c).map .c
  | .Name x _ => match slotOf T x with
    | some i => some (if T.O.contains i = true then .vo i else .v i)
    | none => if (glB T.sc x && plainN x) = true then (T.con x).map .c else none
  | .BinOp a op b _ => (bopOf op).bind fun o => (r T a).bind fun m => (r T b).map fun k => .bin o m k
  | .UnaryOp .USub a _ => (r T a).map .neg
  | .UnaryOp .Not a _ => (r T a).map .not
  | .BoolOp _ [a] _ => r T a
  | .BoolOp .And (a :: b :: es) p => (r T a).bind fun m => (r T (.BoolOp .And (b :: es) p)).map fun k => .and m k
  | .BoolOp .Or (a :: b :: es) p => (r T a).bind fun m => (r T (.BoolOp .Or (b :: es) p)).map fun k => .or m k
  | .Compare a [op] [b] _ => (copOf op).bind fun o => if (!behindInMarks op b) = true then (r T a).bind fun m => (r T b).map fun k => .cmp o m k else none
  | .Compare a [op, op'] [b, c] _ => (copOf op).bind fun o => (copOf op').bind fun o' => if (!lastMarks [op, op'] [b, c]) = true then (r T a).bind fun m => (r T b).bind fun k => (r T c).map fun l => .chain o o' m k l else none
  | .IfExp c a b _ => (r T c).bind fun l => (r T a).bind fun m => (r T b).map fun k => .ite l m k
  | .Call (.Name x _) args [] _ => trCall (r T) T x args
  | .Call (.Attribute o x apos) args [] pos => trMeth (r T) o x apos pos args
  | .Subscript a b _ => trSub (r T) a b
  | .Tuple es _ _ => if notLine es = true then (trEs (r T) es).map .tup else none
  | .List es _ => if notLine es = true then (trEs (r T) es).map fun ms => if T.cel = true then .cel ms else .lst ms else none
  | .ListComp elt gens scope _ => trComp r T elt gens scope
  | .Dict [] [] _ => some .dic0
  | .Dict [some a] [b] _ => (r T a).bind fun m => (r T b).map fun k => .dic1 m k
  | _ => none
def trE : Nat → Tc → Expr → Option E
  | 0, _, _ => none
  | n + 1, T, e => stE (trE n) T e
end MW
set_option Elab.async false
set_option linter.all false
set_option maxRecDepth 100000
set_option maxHeartbeats 4000000
set_option autoImplicit false
/-! The translation is sound: expressions. -/
namespace MW
open PySem PySem.Spec PyProof.Rows L2

section
variable {X : Cx} {C : Ct} {a b c : Expr} {ma mb mc : E} {pos p : Pos} {x : Str} {T : Tc}
theorem st_ite (hc : PT X c (tT C mc)) (ha : PT X a (tT C ma)) (hb : PT X b (tT C mb)) : PT X (.IfExp c a b pos) (tT C (.ite mc ma mb)) := ⟨fun pins s σ H Q I h => by
  obtain ⟨g, env, st, b', st', S, e, k⟩ := h
  rw [evE] at e
  obtain ⟨x, e1, e⟩ := bindS e
  obtain ⟨i, e2, e⟩ := bindS e
  have e1' := fstE e1
  rw [boolOf_ok e2] at e1'
  rw [PySem.arm_isTrue_IfExp]
  refine wpAny_bind (thn (hc.run pins s σ H (fun d H1 => d = i ∧ ∃ g1, Ext g H g1 H1 ∧ Ste C σ g1 H1 env x.2) I (tT_one S e1' fun g1 H1 E1 S1 => ⟨rfl, g1, E1, S1⟩)) fun d s1 ⟨H1, I1, hd, g1, E1, S1⟩ => ?_)
  subst hd
  cases d with
  | true =>
    rw [if_pos rfl] at e ⊢
    exact ha.run pins s1 σ H1 Q I1 (tT_one S1 e fun g2 H2 E2 S2 => k g2 H2 (E1.trans E2) S2.sy)
  | false =>
    rw [if_neg Bool.false_ne_true] at e ⊢
    exact hb.run pins s1 σ H1 Q I1 (tT_one S1 e fun g2 H2 E2 S2 => k g2 H2 (E1.trans E2) S2.sy)⟩
theorem star_ok {es : List Expr} {env : Env} (h : notStar a = true) : starEach (a :: es) env = (false, eval a env) :: starEach es env := by
  cases a <;> first | rfl | cases h
theorem gl_ok (ok : TcOk X C T) (h : glB T.sc x = true) : Gl X x := by
  unfold glB at h
  show X.env.scope.names.lookup x = _
  rw [ok.sc]
  split at h
  · assumption
  · cases h
theorem plain_ok (h : plainN x = true) : (x == ("__debug__" : Str)) = false ∧ (x == ("__classdict__" : Str)) = false ∧ x ≠ "__name__" := by
  unfold plainN at h
  obtain ⟨h, h3⟩ := and2 h
  obtain ⟨h1, h2⟩ := and2 h
  exact ⟨by simpa using h1, by simpa using h2, of_decide_eq_true h3⟩
theorem slot_ok (ok : TcOk X C T) {i : Nat} (h : slotOf T x = some i) : X.N[i]? = some x ∧ Vis X.env.scope x ∧ (x == ("__debug__" : Str)) = false ∧ (x == ("__classdict__" : Str)) = false := by
  unfold slotOf at h
  obtain ⟨j, _, h⟩ := bindS h
  obtain ⟨h, h2⟩ := iteN h
  cases h2
  obtain ⟨h, h3⟩ := and2 h
  obtain ⟨h1, h2⟩ := and2 h
  obtain ⟨p1, p2, _⟩ := plain_ok h3
  refine ⟨by rw [ok.N]; exact of_decide_eq_true h1, ?_, p1, p2⟩
  rw [ok.sc]
  unfold visB at h2
  split at h2
  · exact .inl (by assumption)
  · exact .inr (.inl (by assumption))
  · exact .inr (.inr (by assumption))
  · cases h2
theorem name_ok (ok : TcOk X C T) {i : Nat} (h : slotOf T x = some i) : PE X (.Name x pos) (tVar i) := by
  obtain ⟨h1, h2, h3, h4⟩ := slot_ok ok h
  exact pe_var h1 h2 h3 h4
def esLen : Es → Nat
  | .nil => 0
  | .cons _ es => esLen es + 1
theorem evEs_len {W : Wd} : ∀ (ms : Es) (env : En) (st : Store) (ds : List D) (st' : Store), evEs W ms env st = some (ds, st') → ds.length = esLen ms
  | .nil, env, st, ds, st', h => by rw [evEs] at h; cases h; rfl
  | .cons e es, env, st, ds, st', h => by
    rw [evEs] at h
    obtain ⟨x, h1, h⟩ := bindS h
    obtain ⟨d, h2, h⟩ := bindS h
    obtain ⟨z, h3, h⟩ := mapS h
    cases h
    simp [esLen, evEs_len es _ _ _ _ (fstE h3)]
section
variable {r : Expr → Option E} (hr : ∀ e m, r e = some m → PE X e (tE C m))
include hr
theorem trEs_ok : ∀ {es : List Expr} {ms : Es}, trEs r es = some ms → PA X es (tA C ms) ∧ esLen ms = es.length ∧ (starEach es X.env).any (·.1) = false
  | [], ms, h => by cases h; exact ⟨sa_nil, rfl, rfl⟩
  | e :: es, ms, h => by
    rw [trEs] at h
    obtain ⟨hs, h⟩ := iteN h
    obtain ⟨m, h1, h⟩ := bindS h
    obtain ⟨ns, h2, h⟩ := mapS h
    cases h
    obtain ⟨q1, q2, q3⟩ := trEs_ok h2
    exact ⟨sa_cons (hr _ _ h1) q1 (star_ok hs), by simp [esLen, q2], by rw [star_ok hs]; simp [q3]⟩
theorem trEs_rs : ∀ {es : List Expr} {ms : Es}, trEs r es = some ms → PA X es (tRs C ms)
  | [], ms, h => by cases h; exact sr_nil
  | e :: es, ms, h => by
    rw [trEs] at h
    obtain ⟨hs, h⟩ := iteN h
    obtain ⟨m, h1, h⟩ := bindS h
    obtain ⟨ns, h2, h⟩ := mapS h
    cases h
    exact sr_cons (hr _ _ h1) (trEs_rs h2) (star_ok hs)
theorem trEo_ok {o : Option Expr} {m : Eo} (h : trEo r o = some m) : PO X o (tP C m) := by
  cases o with
  | none => cases h; exact so_no
  | some e =>
    obtain ⟨m, h1, h⟩ := mapS (show (r e).map Eo.so = _ from h)
    cases h
    exact so_so (hr _ _ h1)
end
theorem any_back (l : List (Bool × Sem Value)) : (backTo pos l).any (·.1) = l.any (·.1) := by
  cases l with
  | nil => rfl
  | cons y l =>
    show (List.any (y :: _) (·.1)) = _
    simp only [List.any_cons, List.any_map]
    rfl
end
end MW
set_option Elab.async false
set_option linter.all false
set_option maxRecDepth 100000
set_option maxHeartbeats 4000000
set_option autoImplicit false
/-! The translation is sound: expressions, one step. -/
namespace MW
open PySem PySem.Spec PyProof.Rows L2

theorem lens_ok {W : Wd} {ms : Es} {n : Nat} (h : esLen ms = n) : ∀ env st ds st', evEs W ms env st = some (ds, st') → ds.length = n := fun env st ds st' e => by rw [evEs_len _ _ _ _ _ e, h]
theorem boot_all : bootBuiltins "all" = some (.builtin "all") := by decide +kernel
theorem boot_any : bootBuiltins "any" = some (.builtin "any") := by decide +kernel
theorem boot_sorted : bootBuiltins "sorted" = some (.builtin "sorted") := by decide +kernel
theorem boot_abs : bootBuiltins "abs" = some (.builtin "abs") := by decide +kernel
theorem boot_min : bootBuiltins "min" = some (.builtin "min") := by decide +kernel
theorem boot_max : bootBuiltins "max" = some (.builtin "max") := by decide +kernel
theorem boot_isinstance : bootBuiltins "isinstance" = some (.builtin "isinstance") := by decide +kernel
theorem b1Of_ok {x : Str} {f : B1} (h : b1Of x = some f) : (∃ id, b1v f = .builtin id ∧ bootBuiltins x = some (.builtin id)) ∨ (∃ id, b1v f = .type id ∧ bootBuiltins x = some (.type id)) := by
  unfold b1Of at h
  repeat (split at h; (subst x; cases h; first
    | exact .inl ⟨_, rfl, boot_len⟩ | exact .inl ⟨_, rfl, boot_all⟩ | exact .inl ⟨_, rfl, boot_any⟩ | exact .inr ⟨_, rfl, boot_list⟩ | exact .inr ⟨_, rfl, boot_tuple⟩ | exact .inl ⟨_, rfl, boot_sorted⟩ | exact .inr ⟨_, rfl, boot_int⟩ | exact .inl ⟨_, rfl, boot_abs⟩ | exact .inl ⟨_, rfl, boot_min⟩ | exact .inl ⟨_, rfl, boot_max⟩))
  cases h
theorem b2Of_ok {x : Str} {f : B2} (h : b2Of x = some f) : ∃ id, b2v f = .builtin id ∧ bootBuiltins x = some (.builtin id) := by
  unfold b2Of at h
  repeat (split at h; (subst x; cases h; first | exact ⟨_, rfl, boot_min⟩ | exact ⟨_, rfl, boot_max⟩))
  cases h
theorem tyOf1_ok {x : Str} {t : Ty} (h : tyOf1 x = some t) : bootBuiltins x = some (.type (tyN t)) := by
  unfold tyOf1 at h
  repeat (split at h; (subst x; cases h; first | exact boot_int | exact boot_bool | exact boot_str | exact boot_tuple | exact boot_list))
  cases h
section
variable {X : Cx} {C : Ct} {a b c : Expr} {ma mb mc : E} {pos p : Pos} {x : Str} {T : Tc}
section
variable {r : Expr → Option E} (ok : TcOk X C T) (hr : ∀ e m, r e = some m → PE X e (tE C m))
include ok hr
theorem trIt_ok {tg iter : Expr} {mi : Itb} (h : trIt r T tg iter = some mi) : PI X tg iter (tI C mi) := by
  unfold trIt at h
  split at h
  · rename_i x p args pos
    split at h
    · rename_i hx; subst hx
      unfold trRng at h
      obtain ⟨hb, h⟩ := iteN h
      obtain ⟨h1, h2⟩ := and2 hb
      have hg := gl_ok ok h2
      have hm := ok.blt _ h1
      split at h
      · obtain ⟨ms, e1, h⟩ := mapS h
        cases h
        obtain ⟨q1, q2, _⟩ := trEs_ok hr e1
        rw [trEs] at e1
        obtain ⟨s1, _⟩ := iteN e1
        exact si_rng1 hg hm q1 (star_ok s1) (lens_ok q2)
      · obtain ⟨ms, e1, h⟩ := mapS h
        cases h
        obtain ⟨q1, q2, _⟩ := trEs_ok hr e1
        rw [trEs] at e1
        obtain ⟨s1, e2⟩ := iteN e1
        obtain ⟨_, _, e2⟩ := bindS e2
        obtain ⟨_, e2, _⟩ := mapS e2
        rw [trEs] at e2
        obtain ⟨s2, _⟩ := iteN e2
        exact si_rng2 hg hm q1 (by rw [star_ok s1, star_ok s2]; rfl) (star_ok s2) (lens_ok q2)
      · obtain ⟨ms, e1, h⟩ := mapS h
        cases h
        obtain ⟨q1, q2, _⟩ := trEs_ok hr e1
        rw [trEs] at e1
        obtain ⟨s1, e2⟩ := iteN e1
        obtain ⟨_, _, e2⟩ := bindS e2
        obtain ⟨_, e2, _⟩ := mapS e2
        exact si_rng3 hg hm q1 (star_ok s1) (by rw [any_back]; exact (trEs_ok hr e2).2.2) (lens_ok q2)
      · cases h
    · split at h
      · rename_i hx; subst hx
        unfold trEnum at h
        obtain ⟨hb, h⟩ := iteN h
        obtain ⟨h1, h2⟩ := and2 hb
        have hg := gl_ok ok h2
        have hm := ok.blt _ h1
        split at h
        · obtain ⟨s1, h⟩ := iteN h
          obtain ⟨m, e1, h⟩ := mapS h
          cases h
          exact si_enum ok.K hg hm (hr _ _ e1) (star_ok s1)
        · cases h
      · split at h
        · rename_i hx; subst hx
          unfold trZip at h
          obtain ⟨hb, h⟩ := iteN h
          obtain ⟨h1, h2⟩ := and2 hb
          have hg := gl_ok ok h2
          have hm := ok.blt _ h1
          split at h
          · obtain ⟨s, h⟩ := iteN h
            obtain ⟨s1, s2⟩ := and2 s
            obtain ⟨m, e1, h⟩ := bindS h
            obtain ⟨m', e2, h⟩ := mapS h
            cases h
            exact si_zip ok.K hg hm (hr _ _ e1) (hr _ _ e2) (star_ok s1) (star_ok s2)
          · cases h
        · obtain ⟨m, e1, h⟩ := mapS h
          cases h
          exact si_e ok.K (hr _ _ e1)
  · obtain ⟨m, e1, h⟩ := mapS h
    cases h
    exact si_e ok.K (hr _ _ e1)
theorem trCall_ok {args : List Expr} {m : E} (h : trCall r T x args = some m) : PE X (.Call (.Name x p) args [] pos) (tE C m) := by
  unfold trCall at h
  obtain ⟨hb, h6⟩ := iteN h
  clear h
  have h := h6
  clear h6
  obtain ⟨h1, h2⟩ := and2 hb
  have hg := gl_ok ok h1
  obtain ⟨p1, p2, p3⟩ := plain_ok h2
  split at h
  · rename_i f hf
    obtain ⟨ms, e1, h⟩ := mapS h
    cases h
    obtain ⟨ad, fd, ps, k, F, rm, hm, hk, hb⟩ := ok.df _ _ hf
    obtain ⟨q1, q2, q3⟩ := trEs_ok hr e1
    cases args with
    | nil => cases e1; exact se_call0 ok.K F rm hg hm hk hb p1
    | cons a es =>
      rw [trEs] at e1
      obtain ⟨s1, e1⟩ := iteN e1
      obtain ⟨_, _, e1⟩ := bindS e1
      obtain ⟨_, e2, _⟩ := mapS e1
      exact se_call ok.K F rm hg hm hk hb q1 p1 (star_ok s1) (by rw [any_back]; exact (trEs_ok hr e2).2.2)
  · obtain ⟨hbl, h6⟩ := iteN h
    clear h
    have h := h6
    clear h6
    have hm := ok.blt _ hbl
    obtain ⟨kr, rm⟩ := ok.room
    split at h
    · rename_i hx; subst hx
      unfold trDict at h
      split at h
      · obtain ⟨s1, h⟩ := iteN h
        obtain ⟨m, e1, h⟩ := mapS h
        cases h
        exact se_dicL ok.calm hg hm (hr _ _ e1) (star_ok s1) ok.K
      · cases h
    rename_i hnd
    split at h
    · split at h
      · rename_i hb
        obtain ⟨hb, s1⟩ := and2 hb
        obtain ⟨hb, g2⟩ := and2 hb
        obtain ⟨hb, b2⟩ := and2 hb
        obtain ⟨x1, x2⟩ := and2 hb
        have x1 := of_decide_eq_true x1
        have x2 := of_decide_eq_true x2
        obtain ⟨m9, e9, h9⟩ := mapS h
        clear h
        subst x1; subst x2; subst h9
        exact se_ss ok.K rm ok.calm hg hm (gl_ok ok g2) (ok.blt _ b2) (hr _ _ e9) (star_ok s1)
      split at h
      · rename_i hb
        obtain ⟨hb, s1⟩ := and2 hb
        obtain ⟨hb, g2⟩ := and2 hb
        obtain ⟨hb, b2⟩ := and2 hb
        obtain ⟨x1, x2⟩ := and2 hb
        have x1 := of_decide_eq_true x1
        have x2 := of_decide_eq_true x2
        obtain ⟨m9, e9, h9⟩ := mapS h
        clear h
        subst x1; subst x2; subst h9
        exact se_lens ok.K rm ok.calm hg hm (gl_ok ok g2) (ok.blt _ b2) (hr _ _ e9) (star_ok s1)
      split at h
      · rename_i hb
        obtain ⟨hb, s1⟩ := and2 hb
        obtain ⟨hb, g2⟩ := and2 hb
        obtain ⟨hb, b2⟩ := and2 hb
        obtain ⟨x1, x2⟩ := and2 hb
        have x1 := of_decide_eq_true x1
        have x2 := of_decide_eq_true x2
        obtain ⟨m9, e9, h9⟩ := mapS h
        clear h
        subst x1; subst x2; subst h9
        exact se_lrng ok.calm hg hm (gl_ok ok g2) (ok.blt _ b2) (hr _ _ e9) (star_ok s1)
      · obtain ⟨f, e1, h⟩ := bindS h
        obtain ⟨m, e2, h⟩ := mapS h
        cases h
        rcases b1Of_ok e1 with ⟨id, hv, hx⟩ | ⟨id, hv, hx⟩
        · exact se_b1 ok.K rm ok.calm hv hx hg hm (hr _ _ e2) p3 p1 (by rfl)
        · exact se_b1T ok.K rm ok.calm hv hx hg hm (hr _ _ e2) p3 p1 (by rfl)
    · obtain ⟨s1, h⟩ := iteN h
      obtain ⟨f, e1, h⟩ := bindS h
      obtain ⟨m, e2, h⟩ := mapS h
      cases h
      rcases b1Of_ok e1 with ⟨id, hv, hx⟩ | ⟨id, hv, hx⟩
      · exact se_b1 ok.K rm ok.calm hv hx hg hm (hr _ _ e2) p3 p1 (star_ok s1)
      · exact se_b1T ok.K rm ok.calm hv hx hg hm (hr _ _ e2) p3 p1 (star_ok s1)
    · obtain ⟨s1, h9⟩ := iteN h
      clear h
      split at h9
      · rename_i hx; subst hx
        obtain ⟨t, e1, h⟩ := bindS h9
        obtain ⟨hy, h⟩ := iteN h
        obtain ⟨hy, y3⟩ := and2 hy
        obtain ⟨y1, y2⟩ := and2 hy
        obtain ⟨z1, z2, z3⟩ := plain_ok y3
        obtain ⟨m, e2, h⟩ := mapS h
        cases h
        exact se_isi ok.K boot_isinstance hg hm p3 p1 (tyOf1_ok e1) (gl_ok ok y2) (ok.blt _ y1) z3 z1 (hr _ _ e2) (star_ok s1)
      · obtain ⟨f, e1, h⟩ := bindS h9
        obtain ⟨m, e2, h⟩ := bindS h
        obtain ⟨k, e3, h⟩ := mapS h
        cases h
        obtain ⟨id, hv, hx⟩ := b2Of_ok e1
        exact se_b2 ok.K ok.calm hv hx hg hm (hr _ _ e2) (hr _ _ e3) p3 p1 (star_ok s1) (by rfl)
    · obtain ⟨s, h⟩ := iteN h
      obtain ⟨s1, s2⟩ := and2 s
      obtain ⟨f, e1, h⟩ := bindS h
      obtain ⟨m, e2, h⟩ := bindS h
      obtain ⟨k, e3, h⟩ := mapS h
      cases h
      obtain ⟨id, hv, hx⟩ := b2Of_ok e1
      exact se_b2 ok.K ok.calm hv hx hg hm (hr _ _ e2) (hr _ _ e3) p3 p1 (star_ok s1) (star_ok s2)
    · cases h
theorem base_ok {o : Expr} {w : Sem Value} {env : Env} (h : notCall o = true) : attributeBase o x env w = w := by
  cases o <;> first | rfl | cases h
theorem trMeth_ok {o : Expr} {apos : Pos} {args : List Expr} {m : E} (h : trMeth r o x apos pos args = some m) : PE X (.Call (.Attribute o x apos) args [] pos) (tE C m) := by
  unfold trMeth at h
  obtain ⟨hb, h6⟩ := iteN h
  clear h
  have h := h6
  clear h6
  obtain ⟨h1, h2⟩ := and2 hb
  split at h
  · obtain ⟨f, e1, h⟩ := bindS h
    obtain ⟨m, e2, h⟩ := mapS h
    cases h
    unfold m0Of at e1
    split at e1
    · rename_i hx; subst hx; cases e1
      exact se_m0 ok.K F.slot_str_lower F.type_str_lower lower_ok (hr _ _ e2) (base_ok ok hr h1) h2
    · split at e1
      · rename_i hx; subst hx; cases e1
        exact se_m0 ok.K F.slot_str_upper F.type_str_upper upper_ok (hr _ _ e2) (base_ok ok hr h1) h2
      · cases e1
  · obtain ⟨s1, h6⟩ := iteN h
    clear h
    have h := h6
    clear h6
    split at h
    · rename_i hx; subst hx
      obtain ⟨m, e2, h⟩ := bindS h
      obtain ⟨k, e3, h⟩ := mapS h
      cases h
      obtain ⟨kr, rm⟩ := ok.room
      exact se_lix ok.K (by have := rm.un; omega) (hr _ _ e2) (hr _ _ e3) (star_ok s1) (base_ok ok hr h1) h2
    obtain ⟨f, e1, h⟩ := bindS h
    obtain ⟨m, e2, h⟩ := bindS h
    obtain ⟨k, e3, h⟩ := mapS h
    cases h
    unfold m1Of at e1
    split at e1
    · rename_i hx; subst hx; cases e1
      exact se_m1 ok.K F.slot_str_endswith F.type_str_endswith ends_ok (hr _ _ e2) (hr _ _ e3) (star_ok s1) (base_ok ok hr h1) h2
    · split at e1
      · rename_i hx; subst hx; cases e1
        exact se_m1 ok.K F.slot_str_startswith F.type_str_startswith starts_ok (hr _ _ e2) (hr _ _ e3) (star_ok s1) (base_ok ok hr h1) h2
      · split at e1
        · rename_i hx; subst hx; cases e1
          exact se_m1 ok.K F.slot_str_join F.type_str_join joinM_ok (hr _ _ e2) (hr _ _ e3) (star_ok s1) (base_ok ok hr h1) h2
        · split at e1
          · rename_i hx; subst hx; cases e1
            exact se_m1 ok.K F.slot_str_split F.type_str_split splitM_ok (hr _ _ e2) (hr _ _ e3) (star_ok s1) (base_ok ok hr h1) h2
          · cases e1
  · cases h
theorem trSub_ok (hsl : ∀ lo hi st q m, r (.Slice lo hi st q) ≠ some m) {m : E} (h : trSub r a b = some m) : PE X (.Subscript a b pos) (tE C m) := by
  unfold trSub at h
  split at h
  · obtain ⟨m, e1, h⟩ := bindS h
    obtain ⟨l, e2, h⟩ := bindS h
    obtain ⟨u, e3, h⟩ := mapS h
    cases h
    exact se_sl ok.K (hr _ _ e1) (trEo_ok hr e2) (trEo_ok hr e3)
  · obtain ⟨m, e1, h⟩ := mapS h
    cases h
    exact se_rev ok.K (hr _ _ e1)
  · obtain ⟨m, e1, h⟩ := bindS h
    obtain ⟨k, e2, h⟩ := mapS h
    cases h
    obtain ⟨kr, rm⟩ := ok.room
    exact se_idx ok.K (by have := rm.un; omega) (hr _ _ e1) (hr _ _ e2) (by
      intro o i
      cases b <;> first | rfl | exact absurd e2 (hsl _ _ _ _ _))
end
end
end MW
set_option Elab.async false
set_option linter.all false
set_option maxRecDepth 100000
set_option maxHeartbeats 4000000
set_option autoImplicit false
/-! The translation is sound: targets, comprehensions, all expressions. -/
namespace MW
open PySem PySem.Spec PyProof.Rows L2

def tgsLen : Tgs → Nat
  | .nil => 0
  | .cons _ ts => tgsLen ts + 1
theorem bindTs_len : ∀ (ts : Tgs) (ds : List D) (env env' : En), bindTs ts ds env = some env' → ds.length = tgsLen ts
  | .nil, [], _, _, h => rfl
  | .nil, _ :: _, _, _, h => by rw [bindTs] at h <;> first | cases h | (intro h; cases h)
  | .cons t ts, [], _, _, h => by rw [bindTs] at h <;> first | cases h | (intro _ _ h; cases h)
  | .cons t ts, d :: ds, env, env', h => by
    rw [bindTs] at h
    obtain ⟨e1, h1, h⟩ := bindS h
    simp [tgsLen, bindTs_len ts ds _ _ h]
section
variable {X : Cx} {C : Ct} {T : Tc} (ok : TcOk X C T)
include ok
theorem setB_ok {x : Str} (h : setB T x = true) : Loc X.env.scope x ∧ (X.fn x = true ∨ X.env.scope.names.lookup x = some .local) := by
  unfold setB at h
  rw [ok.sc]
  rcases Bool.or_eq_true_iff.mp h with h | h
  · unfold locB at h
    split at h
    · rename_i e; exact ⟨.inl e, .inr e⟩
    · cases h
  · obtain ⟨h1, h2⟩ := and2 h
    unfold celB at h1
    split at h1
    · rename_i e; exact ⟨.inr e, .inl (ok.fn _ h2)⟩
    · cases h1
theorem nm_ok {x : Str} {i : Nat} {pos : Pos} (h1 : slotOf T x = some i) (h2 : setB T x = true) : PG X (.Name x pos) (gName i) := by
  obtain ⟨a, b⟩ := setB_ok ok h2
  exact pg_name ok.nd (slot_ok ok h1).1 a b
theorem assign_cons {e : Expr} {es : List Expr} (h : notStar e = true) : assignEach (e :: es) X.env = (false, assign e X.env) :: assignEach es X.env := by
  cases e <;> first | rfl | cases h
mutual
theorem trG_ok : ∀ (e : Expr) (m : Tg), trG T e = some m → PG X e (tG C m)
  | .Name x _, m, h => by
    rw [trG] at h
    obtain ⟨i, h1, h⟩ := bindS h
    obtain ⟨h2, h⟩ := iteN h
    cases h
    obtain ⟨h2, h3⟩ := and2 h2
    exact (nm_ok ok h1 h2).imp (tG_nm (by rw [ok.O]; intro m; simp [m] at h3))
  | .Tuple es _ _, m, h => by
    rw [trG] at h
    obtain ⟨ms, h1, h⟩ := mapS h
    cases h
    obtain ⟨q1, q2, q3⟩ := trGs_ok es ms h1
    exact (pg_tup ok.calm q1 rfl q3).imp (tG_tup ok.K fun ds env env' e => by rw [bindTs_len _ _ _ _ e, ← q2])
  | .BoolOp .., m, h => by rw [trG] at h <;> first | cases h | (intros; first | (rename_i q; cases q) | rfl)
  | .NamedExpr .., m, h => by rw [trG] at h <;> first | cases h | (intros; rename_i q; cases q)
  | .BinOp .., m, h => by rw [trG] at h <;> first | cases h | (intros; rename_i q; cases q)
  | .UnaryOp .., m, h => by rw [trG] at h <;> first | cases h | (intros; rename_i q; cases q)
  | .Lambda .., m, h => by rw [trG] at h <;> first | cases h | (intros; rename_i q; cases q)
  | .IfExp .., m, h => by rw [trG] at h <;> first | cases h | (intros; rename_i q; cases q)
  | .Dict .., m, h => by rw [trG] at h <;> first | cases h | (intros; rename_i q; cases q)
  | .Set .., m, h => by rw [trG] at h <;> first | cases h | (intros; rename_i q; cases q)
  | .ListComp .., m, h => by rw [trG] at h <;> first | cases h | (intros; rename_i q; cases q)
  | .SetComp .., m, h => by rw [trG] at h <;> first | cases h | (intros; rename_i q; cases q)
  | .DictComp .., m, h => by rw [trG] at h <;> first | cases h | (intros; rename_i q; cases q)
  | .GeneratorExp .., m, h => by rw [trG] at h <;> first | cases h | (intros; rename_i q; cases q)
  | .Await .., m, h => by rw [trG] at h <;> first | cases h | (intros; rename_i q; cases q)
  | .Yield .., m, h => by rw [trG] at h <;> first | cases h | (intros; rename_i q; cases q)
  | .YieldFrom .., m, h => by rw [trG] at h <;> first | cases h | (intros; rename_i q; cases q)
  | .Compare .., m, h => by rw [trG] at h <;> first | cases h | (intros; rename_i q; cases q)
  | .Call .., m, h => by rw [trG] at h <;> first | cases h | (intros; rename_i q; cases q)
  | .FormattedValue .., m, h => by rw [trG] at h <;> first | cases h | (intros; rename_i q; cases q)
  | .JoinedStr .., m, h => by rw [trG] at h <;> first | cases h | (intros; rename_i q; cases q)
  | .Constant .., m, h => by rw [trG] at h <;> first | cases h | (intros; rename_i q; cases q)
  | .Attribute .., m, h => by rw [trG] at h <;> first | cases h | (intros; rename_i q; cases q)
  | .Subscript .., m, h => by rw [trG] at h <;> first | cases h | (intros; rename_i q; cases q)
  | .Starred .., m, h => by rw [trG] at h <;> first | cases h | (intros; rename_i q; cases q)
  | .List .., m, h => by rw [trG] at h <;> first | cases h | (intros; rename_i q; cases q)
  | .Slice .., m, h => by rw [trG] at h <;> first | cases h | (intros; rename_i q; cases q)
theorem trGs_ok : ∀ (es : List Expr) (ms : Tgs), trGs T es = some ms → PGs X es (tGs C ms) ∧ (assignEach es X.env).length = tgsLen ms ∧ (assignEach es X.env).findIdx? (·.1) = none
  | [], ms, h => by rw [trGs] at h; cases h; exact ⟨pgs_nil.imp tGs_nil, rfl, rfl⟩
  | e :: es, ms, h => by
    rw [trGs] at h
    obtain ⟨hs, h⟩ := iteN h
    obtain ⟨m, h1, h⟩ := bindS h
    obtain ⟨ns, h2, h⟩ := mapS h
    cases h
    obtain ⟨q1, q2, q3⟩ := trGs_ok es ns h2
    refine ⟨(pgs_cons (trG_ok e m h1) q1 (by rw [assign_cons ok hs]; rfl)).imp tGs_cons, by rw [assign_cons ok hs]; simp [tgsLen, q2], ?_⟩
    rw [assign_cons ok hs, List.findIdx?_cons]
    simp [q3]
end
theorem blk_ok {s : Shared} {H : Hp} {scope : Scope} {cl : List (Str × Addr)} {Cc : Addr} {fp : List Addr} : TcOk (X.blk s H scope (compEnvC scope cl Cc X.env) fp) C (T.blk scope) where
  K := ok.K
  N := ok.N
  nd := ok.nd
  sc := by
    show relabel scope X.env = relS T.sc scope
    rw [← ok.sc]; rfl
  fn := fun x h => h
  calm := ok.calm
  O := ok.O
  room := ok.room
  df := ok.df
  con := ok.con
  blt := ok.blt
end
/-- the translation's promise -/
def SdC (r : Tc → Expr → Option E) : Prop := ∀ (C : Ct) (X : Cx) (T : Tc) (elt : Expr) (gens : List Comprehension) (scope : Scope) (pos : Pos) (m : E), TcOk X C T → r T (.ListComp elt gens scope pos) = some m →
    ∀ (i : Nat) (y : Str) (py spos : Pos) (hy : X.N[i]? = some y) (hyl : X.env.scope.names.lookup y = some .local) (hsw : swapsWith (.ListComp elt gens scope pos) (some (.Name y py)) spos.line X.env = pure true),
      PS X (.Assign [.Name y py] (.ListComp elt gens scope pos) spos) (tAsg (tE C m) (gName i))
def Sd (r : Tc → Expr → Option E) : Prop := (∀ (C : Ct) (X : Cx) (T : Tc) (e : Expr) (m : E), TcOk X C T → r T e = some m → PE X e (tE C m) ∧ PT X e (tT C m) ∧ (∀ op es p, e = .BoolOp op es p → PW X e (tT C m))) ∧ ∀ T lo hi st q m, r T (.Slice lo hi st q) ≠ some m
theorem trIfs_ok {X : Cx} {C : Ct} {r : Expr → Option E} (hr : ∀ e m, r e = some m → PT X e (tT C m)) {ifs : List Expr} {m : Eo} (h : trIfs r ifs = some m) : PTs X ifs (tCn C m) := by
  unfold trIfs at h
  split at h
  · cases h; exact sc_no
  · obtain ⟨k, e1, h⟩ := mapS h
    cases h
    exact sc_so (hr _ _ e1)
  · cases h
theorem set_fold {iter : Expr} {env : Env} (h : notSet iter = true) : ∀ x, foldedSetIterable iter env x = pure x := by
  intro x
  cases iter <;> first | rfl | cases h
section
variable {X : Cx} {C : Ct} {T : Tc} {r : Tc → Expr → Option E}
theorem trComp_ok (hr : Sd r) (ok : TcOk X C T) {elt : Expr} {gens : List Comprehension} {scope : Scope} {pos : Pos} {m : E} (h : trComp r T elt gens scope = some m) :
    PE X (.ListComp elt gens scope pos) (tE C m) ∧
    ∀ (i : Nat) (y : Str) (py spos : Pos) (hy : X.N[i]? = some y) (hyl : X.env.scope.names.lookup y = some .local) (hsw : swapsWith (.ListComp elt gens scope pos) (some (.Name y py)) spos.line X.env = pure true),
      PS X (.Assign [.Name y py] (.ListComp elt gens scope pos) spos) (tAsg (tE C m) (gName i)) := by
  unfold trComp at h
  split at h
  · rename_i tg iter ifs
    obtain ⟨hb, h⟩ := iteN h
    obtain ⟨hb, hn⟩ := and2 hb
    have hb' : blkC X.N X.env.scope scope (ownOf T.N scope) = true := by rw [ok.N, ok.sc]; exact hb
    split at h
    · rename_i y hy
      obtain ⟨mt, e2, h⟩ := bindS h
      obtain ⟨hin, h⟩ := iteN h
      obtain ⟨mc, e3, h⟩ := bindS h
      obtain ⟨me, e4, h⟩ := mapS h
      cases h
      unfold itemsIt at hy
      split at hy
      · obtain ⟨i, h1, hy⟩ := bindS hy
        obtain ⟨hb, hy⟩ := iteN hy
        cases hy
        obtain ⟨hb, h4⟩ := and2 hb
        obtain ⟨h2, h3⟩ := and2 hb
        have h2 := of_decide_eq_true h2
        subst h2
        exact se_compI ok.calm ok.nd (name_ok ok h1) (by rw [ok.O]; simpa using h3) rfl h4 (blkOk_by hb')
          (fun s H Cc cl fp => trG_ok (blk_ok ok) _ _ e2) (fun s H Cc cl fp => trIfs_ok (fun e m h => (hr.1 C _ _ e m (blk_ok ok) h).2.1) e3)
          (fun s H Cc cl fp => (hr.1 C _ _ _ _ (blk_ok ok) e4).1) hin
      · cases hy
    obtain ⟨mi, e1, h⟩ := bindS h
    obtain ⟨mt, e2, h⟩ := bindS h
    obtain ⟨hin, h⟩ := iteN h
    obtain ⟨mc, e3, h⟩ := bindS h
    obtain ⟨me, e4, h⟩ := mapS h
    cases h
    exact se_comp ok.calm ok.nd (trIt_ok ok (fun e m h => (hr.1 C X T e m ok h).1) e1) (blkOk_by hb')
      (fun s H Cc cl fp => trG_ok (blk_ok ok) _ _ e2) (fun s H Cc cl fp => trIfs_ok (fun e m h => (hr.1 C _ _ e m (blk_ok ok) h).2.1) e3)
      (fun s H Cc cl fp => (hr.1 C _ _ _ _ (blk_ok ok) e4).1) (set_fold hn) hin
  · cases h
theorem val_pt {e : Expr} {m : E} (h : PE X e (tE C m)) (he : ∀ whole, isTrue e X.env whole = (do let v ← whole; standAt e.pos; holding [v] (truthy v))) (hb : ∀ op es p, e ≠ .BoolOp op es p) : PE X e (tE C m) ∧ PT X e (tT C m) ∧ (∀ op es p, e = .BoolOp op es p → PW X e (tT C m)) :=
  ⟨h, st_val h he, fun op es p q => absurd q (hb op es p)⟩
theorem stE_ok (hr : Sd r) (ok : TcOk X C T) {e : Expr} {m : E} (h : stE r T e = some m) : PE X e (tE C m) ∧ PT X e (tT C m) ∧ (∀ op es p, e = .BoolOp op es p → PW X e (tT C m)) := by
  have hE : ∀ e m, r T e = some m → PE X e (tE C m) := fun e m h => (hr.1 C X T e m ok h).1
  have hT : ∀ e m, r T e = some m → PT X e (tT C m) := fun e m h => (hr.1 C X T e m ok h).2.1
  unfold stE at h
  split at h
  · obtain ⟨d, e1, h⟩ := mapS h
    cases h
    rename_i c k pos
    refine val_pt ?_ (fun _ => rfl) (fun _ _ _ q => nomatch q)
    unfold trC at e1
    split at e1
    · cases e1; exact se_c pe_non fun g => .non
    · cases e1; exact se_c pe_bl fun g => .bl _
    · cases e1; exact se_c pe_int fun g => .int _
    · cases e1; exact se_c pe_str fun g => .str _
    · cases e1
  · refine val_pt ?_ (fun _ => rfl) (fun _ _ _ q => nomatch q)
    split at h
    · rename_i i hi
      cases h
      split
      · rename_i ho; exact se_vo (name_ok ok hi) (by rw [ok.O]; simpa using ho)
      · rename_i ho; exact se_v (name_ok ok hi) (by rw [ok.O]; simpa using ho)
    · obtain ⟨hb, h⟩ := iteN h
      obtain ⟨h1, h2⟩ := and2 hb
      obtain ⟨d, e1, h⟩ := mapS h
      cases h
      obtain ⟨v, u, hm, hv, hd⟩ := ok.con _ _ e1
      exact se_c (pe_glob (gl_ok ok h1) hm hv (plain_ok h2).1) hd
  · obtain ⟨o, e0, h⟩ := bindS h
    obtain ⟨m, e1, h⟩ := bindS h
    obtain ⟨k, e2, h⟩ := mapS h
    cases h
    rw [bopOf_ok e0]
    exact val_pt (se_bin ok.K (hE _ _ e1) (hE _ _ e2)) (fun _ => rfl) (fun _ _ _ q => nomatch q)
  · obtain ⟨m, e1, h⟩ := mapS h
    cases h
    exact val_pt (se_neg (hE _ _ e1)) (fun _ => rfl) (fun _ _ _ q => nomatch q)
  · obtain ⟨m, e1, h⟩ := mapS h
    cases h
    exact ⟨se_not (hE _ _ e1), st_not (hT _ _ e1), fun _ _ _ q => nomatch q⟩
  · rename_i op a p
    have w : PW X (.BoolOp op [a] p) (tT C m) := by
      cases op
      · exact st_and1 (hT _ _ h)
      · exact st_or1 (hT _ _ h)
    exact ⟨pe_one (hE _ _ h), w.pt, fun _ _ _ q => by cases q; exact w⟩
  · obtain ⟨m, e1, h⟩ := bindS h
    obtain ⟨k, e2, h⟩ := mapS h
    cases h
    have w := (hr.1 C X T _ _ ok e2).2.2 _ _ _ rfl
    exact ⟨se_and (hE _ _ e1) (hE _ _ e2), (st_and (hT _ _ e1) w).pt, fun _ _ _ q => by cases q; exact st_and (hT _ _ e1) w⟩
  · obtain ⟨m, e1, h⟩ := bindS h
    obtain ⟨k, e2, h⟩ := mapS h
    cases h
    have w := (hr.1 C X T _ _ ok e2).2.2 _ _ _ rfl
    exact ⟨se_or (hE _ _ e1) (hE _ _ e2), (st_or (hT _ _ e1) w).pt, fun _ _ _ q => by cases q; exact st_or (hT _ _ e1) w⟩
  · obtain ⟨o, e0, h⟩ := bindS h
    obtain ⟨hb, h⟩ := iteN h
    obtain ⟨m, e1, h⟩ := bindS h
    obtain ⟨k, e2, h⟩ := mapS h
    cases h
    obtain ⟨kr, rm⟩ := ok.room
    have := copOf_ok e0
    subst this
    have hb' := Bool.not_eq_true' _ ▸ hb
    exact ⟨se_cmp ok.K rm (hE _ _ e1) (hE _ _ e2) hb', st_cmp ok.K rm (hE _ _ e1) (hE _ _ e2) hb', fun _ _ _ q => nomatch q⟩
  · obtain ⟨o, e0, h⟩ := bindS h
    obtain ⟨o', e0', h⟩ := bindS h
    obtain ⟨hb, h⟩ := iteN h
    obtain ⟨m, e1, h⟩ := bindS h
    obtain ⟨k, e2, h⟩ := bindS h
    obtain ⟨l, e3, h⟩ := mapS h
    cases h
    obtain ⟨kr, rm⟩ := ok.room
    have := copOf_ok e0
    subst this
    have := copOf_ok e0'
    subst this
    have hb' := Bool.not_eq_true' _ ▸ hb
    exact ⟨se_chain ok.K rm (hE _ _ e1) (hE _ _ e2) (hE _ _ e3) hb', st_chain ok.K rm (hE _ _ e1) (hE _ _ e2) (hE _ _ e3) hb', fun _ _ _ q => nomatch q⟩
  · obtain ⟨l, e1, h⟩ := bindS h
    obtain ⟨m, e2, h⟩ := bindS h
    obtain ⟨k, e3, h⟩ := mapS h
    cases h
    exact ⟨se_ite (hT _ _ e1) (hE _ _ e2) (hE _ _ e3), st_ite (hT _ _ e1) (hT _ _ e2) (hT _ _ e3), fun _ _ _ q => nomatch q⟩
  · exact val_pt (trCall_ok ok hE h) (fun _ => rfl) (fun _ _ _ q => nomatch q)
  · exact val_pt (trMeth_ok ok hE h) (fun _ => rfl) (fun _ _ _ q => nomatch q)
  · exact val_pt (trSub_ok ok hE (hr.2 T) h) (fun _ => rfl) (fun _ _ _ q => nomatch q)
  · obtain ⟨hl, h⟩ := iteN h
    obtain ⟨ms, e1, h⟩ := mapS h
    cases h
    obtain ⟨q1, q2, _⟩ := trEs_ok hE e1
    exact val_pt (se_tup q1 fun env st ds st' e => by rw [evEs_len _ _ _ _ _ e, q2]; exact of_decide_eq_true hl) (fun _ => rfl) (fun _ _ _ q => nomatch q)
  · obtain ⟨hl, h⟩ := iteN h
    obtain ⟨ms, e1, h⟩ := mapS h
    obtain ⟨q1, q2, _⟩ := trEs_ok hE e1
    have ln : ∀ env st ds st', evEs C.W ms env st = some (ds, st') → ds.length ≤ sizeLine := fun env st ds st' e => by rw [evEs_len _ _ _ _ _ e, q2]; exact of_decide_eq_true hl
    subst h
    split
    · exact val_pt (se_cel q1 ln) (fun _ => rfl) (fun _ _ _ q => nomatch q)
    · exact val_pt (se_lst q1 ln) (fun _ => rfl) (fun _ _ _ q => nomatch q)
  · exact val_pt (trComp_ok hr ok h).1 (fun _ => rfl) (fun _ _ _ q => nomatch q)
  · cases h
    exact val_pt se_dic0 (fun _ => rfl) (fun _ _ _ q => nomatch q)
  · obtain ⟨m, e1, h⟩ := bindS h
    obtain ⟨k, e2, h⟩ := mapS h
    cases h
    exact val_pt (se_dic1 (hE _ _ e1) (hE _ _ e2)) (fun _ => rfl) (fun _ _ _ q => nomatch q)
  · cases h
end
theorem trE_ok : ∀ n, Sd (trE n)
  | 0 => ⟨(fun C X T e m ok h => by cases h), fun T lo hi st q m h => by cases h⟩
  | n + 1 => ⟨fun C X T e m ok h => stE_ok (trE_ok n) ok h, fun T lo hi st q m h => by cases h⟩
theorem trE_okC : ∀ n, SdC (trE n)
  | 0 => fun C X T elt gens scope pos m ok h => by cases h
  | n + 1 => fun C X T elt gens scope pos m ok h => (trComp_ok (trE_ok n) ok h).2
end MW
set_option Elab.async false
set_option linter.all false
set_option maxRecDepth 100000
set_option maxHeartbeats 4000000
set_option autoImplicit false
/-! From the program's text to the small language: statements. -/
namespace MW
open PySem PySem.Spec PyProof.Rows L2

def notComp : Expr → Bool
  | .ListComp .. => false
  | .SetComp .. => false
  | .DictComp .. => false
  | _ => true
def notSD : Expr → Bool
  | .SetComp .. => false
  | .DictComp .. => false
  | _ => true
def notTup : Expr → Bool
  | .Tuple .. => false
  | _ => true
def parTs (T : Tc) : List Expr → Option (List (Bool × Nat))
  | [] => some []
  | .Name x _ :: es => (slotOf T x).bind fun i => if setB T x = true then (parTs T es).map fun l => (T.O.contains i, i) :: l else none
  | _ => none
def swP (sc : Scope) (ts vs : List Expr) : Option (Option (List Str)) :=
  if !(ts.length == 2 || ts.length == 3) || vs.length != ts.length || false then some none
  else if vs.any (fun | .Starred .. => true | _ => false) then some none
  else
    let line := (ts.head?.map (·.pos.line)).getD 0
    let names := ts.filterMap fun
      | .Name id pos => if sc.names.lookup id == some .local && pos.line == line then some id else none
      | _ => none
    if names.length != ts.length || names.eraseDups.length != names.length then some none
    else if vs.all (foldedForSure 8) then some none
    else if vs.all (constantsAlone 8) then none
    else some (some names)
/-- a, b = x, y -/
def trPar (r : Expr → Option E) (T : Tc) (ts es : List Expr) : Option S := (parTs T ts).bind fun l => if (notLine es && decide (l.length = es.length)) = true then (trEs r es).bind fun ms => (swP T.sc ts es).bind fun o => match o with
  | none => some (.par l ms)
  | some ns => match ts, l with
    | [.Name x _, .Name y _], [(_, i), (_, j)] => if (locB T.sc x && locB T.sc y && decide (i ≠ j) && decide (ns = [x, y])) = true then some (.par l ms) else none
    | [.Name x _, .Name y _, .Name z _], [(_, i), (_, j), (_, k)] => if (locB T.sc x && locB T.sc y && locB T.sc z && decide (i ≠ j) && decide (i ≠ k) && decide (j ≠ k) && decide (ns = [x, y, z])) = true then some (.par l ms) else none
    | _, _ => none
  else none
def trAsg (r : Expr → Option E) (T : Tc) (tg e : Expr) : Option S := match tg with
  | .Name x _ => (slotOf T x).bind fun i => if (setB T x && notSD e) = true then (r e).map fun m => if T.O.contains i = true then .seto i m else .set i m else none
  | .Tuple ts _ _ => match e with
    | .Tuple es _ _ => trPar r T ts es
    | e => (trG T tg).bind fun mt => (r e).map fun m => .unp mt m
  | .Subscript o i _ => if notSlice i = true then (r i).bind fun mi => (r e).bind fun m => match o with
    | .Name x _ => match slotOf T x with
      | some y => if T.O.contains y = true then some (.seti y mi m) else some (.setc (.v y) mi m)
      | none => none
    | _ => none else none
  | _ => none
def trExp (r : Expr → Option E) (T : Tc) (e : Expr) : Option S := match e with
  | .Call (.Attribute (.Name x _) at_ apos) [a] [] cpos => match slotOf T x with
    | some y => if (decide (at_ = ("append" : Str)) && T.O.contains y) = true then (if (notStar a && (apos.endLine == cpos.line)) = true then (r a).map fun m => .app y m else none) else (r e).map .drop
    | none => (r e).map .drop
  | e => if notComp e = true then (r e).map .drop else none
def trRet (rF : Expr → Option E) (T : Tc) (e : Expr) : Option S := match e with
  | .Name x p => match slotOf T x with
    | some y => if T.O.contains y = true then some (.reto y) else (rF (.Name x p)).map .ret
    | none => (rF (.Name x p)).map .ret
  | e => (rF e).map .ret
def signsRep (y z : Str) : Option (Nat × Nat) := match y.cps.toList, z.cps.toList with
  | [c], [d] => if decide (c ≠ d) = true then some (c, d) else none
  | _, _ => none
def baseB : Expr → Bool
  | .Call (.Name _ _) (_ :: _) [] _ => true
  | .Call (.Attribute _ _ _) _ _ _ => true
  | _ => false
def rep1 (r : Expr → Option E) : Expr → Option E
  | .Call (.Attribute o x apos) [.Constant (.str y) _ _, .Constant (.str z) _ _] [] pos => if (decide (x = ("replace" : Str)) && (apos.endLine == pos.line) && baseB o) = true then (signsRep y z).bind fun q => (r o).map fun m => .rep m q.1 q.2 else none
  | _ => none
def rep2 (r : Expr → Option E) : Expr → Option E
  | .Call (.Attribute o x apos) [.Constant (.str y) _ _, .Constant (.str z) _ _] [] pos => if (decide (x = ("replace" : Str)) && (apos.endLine == pos.line) && baseB o) = true then (signsRep y z).bind fun q => (rep1 r o).map fun m => .rep m q.1 q.2 else none
  | _ => none
/-- x = "..".join(..), then y = e.replace(..).replace(..) -/
def trTok (r : Expr → Option E) (T : Tc) : Stmt → Stmt → Option (S × S)
  | .Assign [.Name x _] (.Call (.Attribute (.Constant (.str y) _ _) jn apos) [b] [] cpos) _, .Assign [.Name u _] e _ =>
    (rep2 r e).bind fun me => (slotOf T x).bind fun i => (slotOf T u).bind fun j => if ((setB T x && !(T.O.contains i)) && (setB T u && !(T.O.contains j)) && (decide (jn = ("join" : Str)) && (apos.endLine == cpos.line) && notStar b && notComp e)) = true then
      (r b).map fun mb => (.set i (.m1 .join (.c (.str y.cps.toList)) mb), .set j me) else none
  | _, _ => none
def trSs (f : Stmt → Option S) (fT : Stmt → Stmt → Option (S × S)) : List Stmt → Option Ss
  | [] => some .nil
  | [s] => (f s).map fun m => .cons m .nil
  | s :: t :: ss => match fT s t with
    | some q => (trSs f fT ss).map fun ms => .cons q.1 (.cons q.2 ms)
    | none => (f s).bind fun m => (trSs f fT (t :: ss)).map fun ms => .cons m ms
def stS (r rF : Expr → Option E) (f : Stmt → Option S) (T : Tc) : Stmt → Option S
  | .Assign [tg] e _ => trAsg r T tg e
  | .Expr e _ => trExp r T e
  | .Return none _ => some .retN
  | .Return (some e) _ => trRet rF T e
  | .If c a b _ => (r c).bind fun m => (trSs f (trTok r T) a).bind fun x => (trSs f (trTok r T) b).map fun y => .ite m x y
  | .For tg it body [] _ => if notSet it = true then (trG T tg).bind fun mt => (trIt r T tg it).bind fun mi => (trSs f (trTok r T) body).map fun x => .for_ mt mi x else none
  | .While c body [] _ => (r c).bind fun m => (trSs f (trTok r T) body).map fun x => .whl m x
  | .Pass _ => some .pass
  | .Break _ => some .brk
  | .Continue _ => some .cont
  | .Raise .. => some .fail
  | _ => none
def Tc.noO (T : Tc) : Tc := { T with O := [] }
def trS (k : Nat) (T : Tc) : Nat → Stmt → Option S
  | 0, _ => none
  | n + 1, s => stS (trE k T) (trE k T.noO) (trS k T n) T s

/-! ### sound -/
theorem ss_fail {X : Cx} {C : Ct} {s : Stmt} : PS X s (tS C .fail) := (ps_never (X := X) (st := s)).imp fun D σ H h => by
  obtain ⟨g, env, st, o, S, e, k⟩ := h
  rw [evS] at e
  cases e
section
variable {X : Cx} {C : Ct} {T : Tc} (ok : TcOk X C T) (hk : X.env.scope.kind = .function)
include ok
theorem swapsN {e tg : Expr} {n : Nat} {env : Env} (h : notComp e = true) : swapsWith e (some tg) n env = pure false := by
  cases e <;> first | rfl | cases h
def gNames (ts : List (Bool × Nat)) : TGs := fun vs σ H Q => vs.length = ts.length ∧ Q (setAll σ ts vs) H
omit ok in
theorem lenZ {vs : List V} {Q : Prop} {l : List (Bool × Nat)} (h : vs.length = l.length) : vs.length = l.length := h
theorem parTs_ok : ∀ {ts : List Expr} {l : List (Bool × Nat)}, parTs T ts = some l → PGs X ts (gNames l) ∧ (assignEach ts X.env).length = l.length ∧ (assignEach ts X.env).findIdx? (·.1) = none ∧ parOk C.O l = true
  | [], l, h => by
    cases h
    refine ⟨pgs_nil.imp fun vs σ H Q q => ?_, rfl, rfl, rfl⟩
    obtain ⟨h1, h2⟩ := q
    have : vs = [] := List.length_eq_zero_iff.mp h1
    subst this
    exact ⟨rfl, h2⟩
  | e :: es, l, h => by
    cases e with
    | Name x p =>
      rw [parTs] at h
      obtain ⟨i, h1, h⟩ := bindS h
      obtain ⟨h2, h⟩ := iteN h
      obtain ⟨l', h3, h⟩ := mapS h
      cases h
      obtain ⟨q1, q2, q3, q4⟩ := parTs_ok h3
      refine ⟨(pgs_cons (nm_ok ok h1 h2) q1 rfl).imp fun vs σ H Q q => ?_, ?_, ?_, ?_⟩
      · obtain ⟨h1, h2⟩ := q
        cases vs with
        | nil => cases h1
        | cons v vs => exact ⟨v, vs, rfl, by simpa using h1, h2⟩
      · show (assignEach es X.env).length + 1 = _
        rw [q2]; rfl
      · show List.findIdx? _ ((false, _) :: assignEach es X.env) = none
        rw [List.findIdx?_cons]
        simp [q3]
      · unfold parOk at q4 ⊢
        simp only [List.all_cons, Bool.and_eq_true]
        exact ⟨by rw [ok.O]; simp, q4⟩
    | _ => cases h
theorem par_plain {ts es : List Expr} {l : List (Bool × Nat)} {kt k2 : Nat} {pt pt2 pos : Pos} {ms : Es} (h : parTs T ts = some l) (ha : PA X es (tRs C ms)) (hl : l.length = es.length) (hz : notLine es = true)
    (hw : swappedStores [.Tuple ts kt pt] (.Tuple es k2 pt2) X.env = pure none) : PS X (.Assign [.Tuple ts kt pt] (.Tuple es k2 pt2) pos) (tS C (.par l ms)) := by
  obtain ⟨q1, q2, q3, q4⟩ := parTs_ok ok h
  refine ss_par_of ((ps_asg (pe_tup ha) (pg_tup ok.calm q1 q2 q3) rfl hw rfl).imp fun D σ H h => ?_) q4
  obtain ⟨g, env, st, rs, st', S, e, k⟩ := h
  refine ⟨g, env, st, rs, st', S, e, fun vs g1 H1 E1 Y1 R1 => ?_⟩
  obtain ⟨h1, _, h3⟩ := k vs g1 H1 E1 Y1 R1
  refine ⟨by rw [h1, hl]; exact of_decide_eq_true hz, fun p hp => ?_⟩
  exact ⟨p, vs, rfl, .inl (.inl upd_same), h1, h1, h3 p hp⟩
theorem loc_ok {x : Str} (h : locB T.sc x = true) : X.env.scope.names.lookup x = some .local := by
  unfold locB at h
  rw [ok.sc]
  split at h
  · assumption
  · cases h
end
end MW
set_option Elab.async false
set_option linter.all false
set_option maxRecDepth 100000
set_option maxHeartbeats 4000000
set_option autoImplicit false
/-! The translation of statements is sound. -/
namespace MW
open PySem PySem.Spec PyProof.Rows L2
section
variable {X : Cx} {C : Ct} {T : Tc} (ok : TcOk X C T) (hk : X.env.scope.kind = .function)
include ok hk
theorem blockK : X.env.blockKind = .function := by
  unfold Env.blockKind
  rw [hk]; rfl
theorem swP_ok {ts vs : List Expr} {k k2 : Nat} {p p2 : Pos} {o : Option (List Str)} (h : swP T.sc ts vs = some o) : swappedStores [.Tuple ts k p] (.Tuple vs k2 p2) X.env = pure o := by
  unfold swP at h
  unfold swappedStores
  simp only [blockK ok hk]
  simp only [Env.kindOf, ok.sc]
  split at h
  · cases h
    rename_i c
    rw [if_pos (by simpa using c)]
  · rename_i c
    rw [if_neg (by simpa using c)]
    split at h
    · cases h
      rename_i c
      exact if_pos c
    · rename_i c
      refine (if_neg c).trans ?_
      simp only at h ⊢
      split at h
      · cases h
        rename_i c
        exact if_pos c
      · rename_i c
        refine (if_neg c).trans ?_
        split at h
        · cases h
          rename_i c
          exact if_pos c
        · rename_i c
          refine (if_neg c).trans ?_
          split at h
          · cases h
          · rename_i c
            cases h
            exact if_neg c
end
end MW
set_option Elab.async false
set_option linter.all false
set_option maxRecDepth 100000
set_option maxHeartbeats 4000000
set_option autoImplicit false
/-! The translation of statements is sound: the steps. -/
namespace MW
open PySem PySem.Spec PyProof.Rows L2
section
variable {X : Cx} {C : Ct} {T : Tc} {r : Expr → Option E} (ok : TcOk X C T) (hk : X.env.scope.kind = .function) (hr : ∀ e m, r e = some m → PE X e (tE C m)) (hT : ∀ e m, r e = some m → PT X e (tT C m))
  (hC : ∀ (elt : Expr) (gens : List Comprehension) (scope : Scope) (pos : Pos) (m : E), r (.ListComp elt gens scope pos) = some m →
    ∀ (i : Nat) (y : Str) (py spos : Pos) (hy : X.N[i]? = some y) (hyl : X.env.scope.names.lookup y = some .local) (hsw : swapsWith (.ListComp elt gens scope pos) (some (.Name y py)) spos.line X.env = pure true),
      PS X (.Assign [.Name y py] (.ListComp elt gens scope pos) spos) (tAsg (tE C m) (gName i)))
include ok hk hr
theorem trPar_ok {ts es : List Expr} {kt k2 : Nat} {pt pt2 pos : Pos} {m : S} (h : trPar r T ts es = some m) : PS X (.Assign [.Tuple ts kt pt] (.Tuple es k2 pt2) pos) (tS C m) := by
  unfold trPar at h
  obtain ⟨l, h1, h⟩ := bindS h
  obtain ⟨hb, h⟩ := iteN h
  obtain ⟨h2, h3⟩ := and2 hb
  have h3 := of_decide_eq_true h3
  obtain ⟨ms, h4, h⟩ := bindS h
  obtain ⟨o, h5, h⟩ := bindS h
  have hw := swP_ok (k := kt) (k2 := k2) (p := pt) (p2 := pt2) ok hk h5
  have ha := trEs_rs hr h4
  obtain ⟨_, _, _, q4⟩ := parTs_ok ok h1
  cases o with
  | none =>
    cases h
    exact par_plain ok h1 ha h3 h2 hw
  | some ns =>
    simp only at h
    split at h
    · rename_i x px y py b i b' j
      obtain ⟨hb, h⟩ := iteN h
      cases h
      obtain ⟨hb, z4⟩ := and2 hb
      obtain ⟨hb, z3⟩ := and2 hb
      obtain ⟨z1, z2⟩ := and2 hb
      have z4 := of_decide_eq_true z4
      subst z4
      rw [parTs] at h1
      obtain ⟨i', g1, h1⟩ := bindS h1
      obtain ⟨_, h1⟩ := iteN h1
      obtain ⟨l1, g2, h1⟩ := mapS h1
      rw [parTs] at g2
      obtain ⟨j', g3, g2⟩ := bindS g2
      obtain ⟨_, g2⟩ := iteN g2
      obtain ⟨l2, g4, g2⟩ := mapS g2
      cases g4
      subst g2
      cases h1
      cases es with
      | nil => cases h3
      | cons e1 es =>
      cases es with
      | nil => cases h3
      | cons e2 es =>
      cases es with
      | cons _ _ => cases h3
      | nil =>
      refine ss_par_of ((ps_par ok.calm ok.nd (slot_ok ok g1).1 (slot_ok ok g3).1 (of_decide_eq_true z3) (loc_ok ok z1) (loc_ok ok z2) ha hw rfl).imp fun D σ H h => ?_) q4
      obtain ⟨g, env, st, rs, st', S, e, k⟩ := h
      refine ⟨g, env, st, rs, st', S, e, fun vs g1 H1 E1 Y1 R1 => ?_⟩
      obtain ⟨h1, h2, _⟩ := k vs g1 H1 E1 Y1 R1
      match vs, h1, h2 with
      | [v, w], _, h2 => exact ⟨v, w, rfl, h2⟩
    · rename_i x px y py z pz b i b' j b'' kk
      obtain ⟨hb, h⟩ := iteN h
      cases h
      obtain ⟨hb, z7⟩ := and2 hb
      obtain ⟨hb, z6⟩ := and2 hb
      obtain ⟨hb, z5⟩ := and2 hb
      obtain ⟨hb, z4⟩ := and2 hb
      obtain ⟨hb, z3⟩ := and2 hb
      obtain ⟨z1, z2⟩ := and2 hb
      have z7 := of_decide_eq_true z7
      subst z7
      rw [parTs] at h1
      obtain ⟨i', g1, h1⟩ := bindS h1
      obtain ⟨_, h1⟩ := iteN h1
      obtain ⟨l1, g2, h1⟩ := mapS h1
      rw [parTs] at g2
      obtain ⟨j', g3, g2⟩ := bindS g2
      obtain ⟨_, g2⟩ := iteN g2
      obtain ⟨l2, g4, g2⟩ := mapS g2
      rw [parTs] at g4
      obtain ⟨j', g5, g4⟩ := bindS g4
      obtain ⟨_, g4⟩ := iteN g4
      obtain ⟨l3, g6, g4⟩ := mapS g4
      cases g6
      subst g4
      subst g2
      cases h1
      cases es with
      | nil => cases h3
      | cons e1 es =>
      cases es with
      | nil => cases h3
      | cons e2 es =>
      cases es with
      | nil => cases h3
      | cons e3 es =>
      cases es with
      | cons _ _ => cases h3
      | nil =>
      refine ss_par_of ((ps_par3 ok.calm ok.nd (slot_ok ok g1).1 (slot_ok ok g3).1 (slot_ok ok g5).1 (of_decide_eq_true z4) (of_decide_eq_true z5) (of_decide_eq_true z6) (loc_ok ok z1) (loc_ok ok z2) (loc_ok ok z3) ha hw rfl).imp fun D σ H h => ?_) q4
      obtain ⟨g, env, st, rs, st', S, e, k⟩ := h
      refine ⟨g, env, st, rs, st', S, e, fun vs g1 H1 E1 Y1 R1 => ?_⟩
      obtain ⟨h1, h2, _⟩ := k vs g1 H1 E1 Y1 R1
      match vs, h1, h2 with
      | [v, w, u], _, h2 => exact ⟨v, w, u, rfl, h2⟩
    · cases h
include hC in
theorem trAsg_ok {tg e : Expr} {pos : Pos} {m : S} (h : trAsg r T tg e = some m) : PS X (.Assign [tg] e pos) (tS C m) := by
  unfold trAsg at h
  split at h
  · rename_i x py
    obtain ⟨i, h1, h⟩ := bindS h
    obtain ⟨hb, h⟩ := iteN h
    obtain ⟨h2, h3⟩ := and2 hb
    obtain ⟨m, h4, h⟩ := mapS h
    obtain ⟨a, b⟩ := setB_ok ok h2
    have core : PS X (.Assign [.Name x py] e pos) (tAsg (tE C m) (gName i)) := by
      by_cases hn : notComp e = true
      · exact ps_set ok.nd (slot_ok ok h1).1 a (hr _ _ h4) (swapsN ok hn) b
      · cases e with
        | ListComp elt gens scope cpos =>
          generalize hB : (X.env.blockKind == .function && X.env.kindOf x == some .local && py.line == cpos.line && !(scope.names.any fun (n, k) => n == x && (k == .local || k == .cell))) = B
          have hs : swapsWith (.ListComp elt gens scope cpos) (some (.Name x py)) pos.line X.env = pure B := by rw [← hB]; rfl
          cases B with
          | true =>
            simp only [Bool.and_eq_true] at hB
            exact hC _ _ _ _ _ h4 i x py pos (slot_ok ok h1).1 (by simpa [Env.kindOf] using hB.1.1.2) hs
          | false => exact ps_set ok.nd (slot_ok ok h1).1 a (hr _ _ h4) hs b
        | SetComp _ _ _ _ => cases h3
        | DictComp _ _ _ _ _ => cases h3
        | _ => exact absurd rfl hn
    subst h
    split
    · rename_i ho; exact ss_seto_of core (by rw [ok.O]; simpa using ho)
    · rename_i ho; exact ss_set_of core (by rw [ok.O]; simpa using ho)
  · split at h
    · exact trPar_ok ok hk hr h
    · rename_i ts kt pt _ hne
      obtain ⟨mt, h1, h⟩ := bindS h
      obtain ⟨m, h2, h⟩ := mapS h
      cases h
      exact ss_unp (hr _ _ h2) (trG_ok ok _ _ h1) (by cases e <;> rfl) (by cases e <;> first | rfl | exact absurd rfl (hne _ _ _)) rfl
  · rename_i o i tpos
    obtain ⟨hs, h⟩ := iteN h
    obtain ⟨mi, h1, h⟩ := bindS h
    obtain ⟨m, h2, h⟩ := bindS h
    have hsub : ∀ v, assign (.Subscript o i tpos) X.env v = (do
      let ov ← holding [v] (eval o X.env)
      let iv ← holding [v, ov] (eval i X.env)
      standAt tpos
      holding [v, ov, iv] (setItem ov iv v)
      release [v, ov, iv] []) := by
      intro v
      cases i with
      | Slice a b c d => cases c <;> first | rfl | cases hs
      | _ => rfl
    split at h
    · split at h
      · rename_i x px y hy
        split at h
        · rename_i ho
          cases h
          obtain ⟨kr, rm⟩ := ok.room
          exact ss_seti (by have := rm.un; omega) (name_ok ok hy) (hr _ _ h1) (by rw [ok.O]; simpa using ho) (hr _ _ h2) hsub (by cases e <;> rfl) (by cases e <;> rfl)
        · rename_i ho
          cases h
          exact ss_setc (se_v (name_ok ok hy) (by rw [ok.O]; simpa using ho)) (hr _ _ h1) (hr _ _ h2) hsub (by cases e <;> rfl) (by cases e <;> rfl)
      · cases h
    · cases h
  · cases h
theorem trExp_ok {e : Expr} {pos : Pos} {m : S} (h : trExp r T e = some m) : PS X (.Expr e pos) (tS C m) := by
  unfold trExp at h
  split at h
  · rename_i x px at_ apos a cpos
    split at h
    · rename_i y hy
      split at h
      · rename_i hb
        obtain ⟨hat, ho⟩ := and2 hb
        have hat := of_decide_eq_true hat
        subst hat
        obtain ⟨hb, h⟩ := iteN h
        obtain ⟨s1, s2⟩ := and2 hb
        obtain ⟨m, h1, h⟩ := mapS h
        cases h
        exact ss_app (name_ok ok hy) (by rw [ok.O]; simpa using ho) (hr _ _ h1) (star_ok s1) F.slot_list_append F.plainAttrs_list F.type_list_append rfl s2 rfl
      · obtain ⟨m, h1, h⟩ := mapS h
        cases h
        exact ss_drop (hr _ _ h1) rfl
    · obtain ⟨m, h1, h⟩ := mapS h
      cases h
      exact ss_drop (hr _ _ h1) rfl
  · obtain ⟨hn, h⟩ := iteN h
    obtain ⟨m, h1, h⟩ := mapS h
    cases h
    exact ss_drop (hr _ _ h1) (by cases e <;> first | rfl | cases hn)
omit hr in
theorem trRet_ok {rF : Expr → Option E} (hF : ∀ e m, rF e = some m → PE X e (tE { C with O := [] } m)) {e : Expr} {pos : Pos} {m : S} (h : trRet rF T e = some m) : PS X (.Return (some e) pos) (tS C m) := by
  unfold trRet at h
  split at h
  · split at h
    · rename_i y hy
      split at h
      · rename_i ho
        cases h
        exact ss_reto (name_ok ok hy) (by rw [ok.O]; simpa using ho)
      · obtain ⟨m, h1, h⟩ := mapS h
        cases h
        exact ss_retF (hF _ _ h1)
    · obtain ⟨m, h1, h⟩ := mapS h
      cases h
      exact ss_retF (hF _ _ h1)
  · obtain ⟨m, h1, h⟩ := mapS h
    cases h
    exact ss_retF (hF _ _ h1)
omit ok hk hr in
theorem signsRep_ok {y z : Str} {q : Nat × Nat} (h : signsRep y z = some q) : y = ⟨#[q.1]⟩ ∧ z = ⟨#[q.2]⟩ ∧ q.1 ≠ q.2 := by
  unfold signsRep at h
  split at h
  · rename_i c d h1 h2
    obtain ⟨h3, h'⟩ := iteN h
    cases h'
    exact ⟨TL.ext_tl h1, TL.ext_tl h2, of_decide_eq_true h3⟩
  · cases h
omit ok hk hr in
theorem baseB_ok {o : Expr} {x : Str} {w : Sem Value} {env : Env} (h : baseB o = true) : attributeBase o x env w = w := by
  unfold baseB at h
  split at h
  · rfl
  · rfl
  · cases h
omit ok hk in
theorem rep1_ok {e : Expr} {m : E} (h : rep1 r e = some m) : PET X e (tE C m) := by
  unfold rep1 at h
  split at h
  · obtain ⟨hb, h'⟩ := iteN h
    clear h
    obtain ⟨hb, h3⟩ := and2 hb
    obtain ⟨h1, h2⟩ := and2 hb
    have h1 := of_decide_eq_true h1
    subst h1
    obtain ⟨q, h4, h'⟩ := bindS h'
    obtain ⟨m', h5, h'⟩ := mapS h'
    subst h'
    obtain ⟨e1, e2, e3⟩ := signsRep_ok h4
    exact pet_rep0 e1 e2 e3 (hr _ _ h5) (baseB_ok h3) h2
  · cases h
omit ok hk in
theorem rep2_ok {e : Expr} {m : E} (h : rep2 r e = some m) : PET X e (tE C m) := by
  unfold rep2 at h
  split at h
  · obtain ⟨hb, h'⟩ := iteN h
    clear h
    obtain ⟨hb, h3⟩ := and2 hb
    obtain ⟨h1, h2⟩ := and2 hb
    have h1 := of_decide_eq_true h1
    subst h1
    obtain ⟨q, h4, h'⟩ := bindS h'
    obtain ⟨m', h5, h'⟩ := mapS h'
    subst h'
    obtain ⟨e1, e2, e3⟩ := signsRep_ok h4
    exact pet_repT e1 e2 e3 (rep1_ok hr h5) (baseB_ok h3) h2
  · cases h
theorem trTok_ok {s t : Stmt} {q : S × S} (h : trTok r T s t = some q) : PSk X s (tS C q.1) ∧ PST X t (tS C q.2) := by
  unfold trTok at h
  split at h
  · obtain ⟨me, h1, h⟩ := bindS h
    obtain ⟨i, h2, h⟩ := bindS h
    obtain ⟨j, h3, h⟩ := bindS h
    obtain ⟨hb, h9⟩ := iteN h
    obtain ⟨mb, h4, h8⟩ := mapS h9
    clear h h9
    obtain ⟨hb, hc⟩ := and2 hb
    obtain ⟨hx, hu⟩ := and2 hb
    obtain ⟨hx, hi⟩ := and2 hx
    obtain ⟨hu, hj⟩ := and2 hu
    obtain ⟨hc, hn⟩ := and2 hc
    obtain ⟨hc, hs⟩ := and2 hc
    obtain ⟨hjn, hl⟩ := and2 hc
    have hjn := of_decide_eq_true hjn
    subst hjn
    subst h8
    obtain ⟨a1, b1⟩ := setB_ok ok hx
    obtain ⟨a2, b2⟩ := setB_ok ok hu
    refine ⟨fun pins s σ H D I h => ?_, fun pins s σ H D h0 I h => ?_⟩
    · exact psk_set ok.nd (slot_ok ok h2).1 a1 (pek_join ok.K (hr _ _ h4) (star_ok hs) hl) (by rfl) b1 pins s σ H D I (set_in (by rw [ok.O]; simpa using hi) h)
    · exact pst_set ok.nd (slot_ok ok h3).1 a2 (rep2_ok hr h1) (swapsN ok hn) b2 pins s σ H D h0 I (set_in (by rw [ok.O]; simpa using hj) h)
  · cases h
omit ok hk hr in
theorem trSs_ok {f : Stmt → Option S} {fT : Stmt → Stmt → Option (S × S)} (hf : ∀ s m, f s = some m → PS X s (tS C m)) (hfT : ∀ s t q, fT s t = some q → PSk X s (tS C q.1) ∧ PST X t (tS C q.2)) : ∀ {ss : List Stmt} {ms : Ss}, trSs f fT ss = some ms → PSs X ss (tSs C ms)
  | [], ms, h => by cases h; exact ss_nil
  | [s], ms, h => by
    rw [trSs] at h
    obtain ⟨m, h1, h⟩ := mapS h
    cases h
    exact ss_cons (hf _ _ h1) ss_nil
  | s :: t :: ss, ms, h => by
    rw [trSs] at h
    split at h
    · rename_i q hq
      obtain ⟨ns, h2, h⟩ := mapS h
      cases h
      exact ss_tok (hfT _ _ _ hq).1 (hfT _ _ _ hq).2 (trSs_ok hf hfT h2)
    · obtain ⟨m, h1, h⟩ := bindS h
      obtain ⟨ns, h2, h⟩ := mapS h
      cases h
      exact ss_cons (hf _ _ h1) (trSs_ok hf hfT h2)
include hT hC in
theorem stS_ok {rF : Expr → Option E} (hF : ∀ e m, rF e = some m → PE X e (tE { C with O := [] } m)) (hp : PassesOwn (model X.prog X.w) X.A X.env X.xe) {f : Stmt → Option S} (hf : ∀ s m, f s = some m → PS X s (tS C m)) {s : Stmt} {m : S} (h : stS r rF f T s = some m) : PS X s (tS C m) := by
  unfold stS at h
  split at h
  · exact trAsg_ok ok hk hr hC h
  · exact trExp_ok ok hk hr h
  · cases h; exact ss_retN
  · exact trRet_ok ok hk hF h
  · obtain ⟨c, h1, h⟩ := bindS h
    obtain ⟨a, h2, h⟩ := bindS h
    obtain ⟨b, h3, h⟩ := mapS h
    cases h
    exact ss_ite (hT _ _ h1) (trSs_ok hf (fun _ _ _ z => trTok_ok ok hk hr z) h2) (trSs_ok hf (fun _ _ _ z => trTok_ok ok hk hr z) h3)
  · obtain ⟨hn, h⟩ := iteN h
    obtain ⟨mt, h1, h⟩ := bindS h
    obtain ⟨mi, h2, h⟩ := bindS h
    obtain ⟨b, h3, h⟩ := mapS h
    cases h
    exact ss_for hp ok.calm (trIt_ok ok hr h2) (trG_ok ok _ _ h1) (trSs_ok hf (fun _ _ _ z => trTok_ok ok hk hr z) h3) (set_fold hn)
  · obtain ⟨c, h1, h⟩ := bindS h
    obtain ⟨b, h3, h⟩ := mapS h
    cases h
    exact ss_whl hp (hT _ _ h1) (trSs_ok hf (fun _ _ _ z => trTok_ok ok hk hr z) h3)
  · cases h; exact ss_pass
  · cases h; exact ss_brk
  · cases h; exact ss_cont
  · cases h; exact ss_fail
  · cases h
end
theorem TcOk.noO {X : Cx} {C : Ct} {T : Tc} (ok : TcOk X C T) : TcOk X { C with O := [] } T.noO :=
  { K := ok.K, N := ok.N, nd := ok.nd, sc := ok.sc, fn := ok.fn, calm := ok.calm, O := rfl, room := ok.room, df := ok.df, con := ok.con, blt := ok.blt }
theorem trS_ok {X : Cx} {C : Ct} {T : Tc} (ok : TcOk X C T) (hk : X.env.scope.kind = .function) (hp : PassesOwn (model X.prog X.w) X.A X.env X.xe) (k : Nat) : ∀ (n : Nat) (s : Stmt) (m : S), trS k T n s = some m → PS X s (tS C m)
  | 0, s, m, h => by cases h
  | n + 1, s, m, h => stS_ok ok hk (fun e m h => ((trE_ok k).1 C X T e m ok h).1) (fun e m h => ((trE_ok k).1 C X T e m ok h).2.1) (fun elt gens scope pos m h => trE_okC k C X T elt gens scope pos m ok h) (fun e m h => ((trE_ok k).1 _ X _ e m ok.noO h).1) hp (trS_ok ok hk hp k n) h
theorem trBody_ok {X : Cx} {C : Ct} {T : Tc} (ok : TcOk X C T) (hk : X.env.scope.kind = .function) (hp : PassesOwn (model X.prog X.w) X.A X.env X.xe) (k : Nat) {ss : List Stmt} {ms : Ss} (h : trSs (trS k T k) (trTok (trE k T) T) ss = some ms) : PSs X ss (tSs C ms) :=
  trSs_ok (fun s m h => trS_ok ok hk hp k k s m h) (fun s t q z => trTok_ok ok hk (fun e m h => ((trE_ok k).1 C X T e m ok h).1) z) h
end MW
set_option Elab.async false
set_option linter.all false
set_option maxRecDepth 100000
set_option maxHeartbeats 4000000
set_option autoImplicit false
/-! All defs keep their promise: what the evaluator's call gives. -/
namespace MW
open PySem PySem.Spec PyProof.Rows L2

/-- a def's text and its translation -/
structure Dx where
  id : Nat
  x : Str
  st : Stmt
  ps : List Str
  N : List Str
  O : List Nat
  cel : Bool
  df : Df
/-- the module -/
structure Md where
  ds : List Dx
  con : Str → Option D
  blt : Str → Bool
def dfIx (x : Str) : List Dx → Option Nat
  | [] => none
  | d :: r => if decide (x = d.x) = true then some d.id else dfIx x r
theorem dfIx_ok {x : Str} : ∀ {l : List Dx} {j : Nat}, dfIx x l = some j → ∃ d, d ∈ l ∧ d.id = j ∧ d.x = x
  | [], _, h => by cases h
  | d :: r, j, h => by
    rw [dfIx] at h
    split at h
    · rename_i e
      cases h
      exact ⟨d, List.mem_cons_self, rfl, (of_decide_eq_true e).symm⟩
    · obtain ⟨d', h1, h2, h3⟩ := dfIx_ok h
      exact ⟨d', List.mem_cons_of_mem _ h1, h2, h3⟩
def Md.T (M : Md) (d : Dx) : Tc := ⟨d.N, defScope d.st, fun _ => true, d.O, d.cel, fun x => dfIx x M.ds, M.con, M.blt⟩
def ssEq (M : Md) (d : Dx) (k : Nat) : Prop := trSs (trS k (M.T d) k) (trTok (trE k (M.T d)) (M.T d)) (defBody d.st) = some d.df.body
/-- what is checked of each def -/
structure DxOk (M : Md) (d : Dx) : Prop where
  tr : ∃ k, trSs (trS k (M.T d) k) (trTok (trE k (M.T d)) (M.T d)) (defBody d.st) = some d.df.body
  sc : FnScope d.N d.ps (defScope d.st)
  np : d.df.np = d.ps.length
  n : d.df.n = d.N.length
  own : ∀ i ∈ d.O, d.df.np ≤ i
section
variable {P : Program} {w : World} {K : PySem.W.Frag} {mg : Str → Option Value} {base : Heap}
theorem startE_at {n : Nat} {ds : List D} {i : Nat} {d : D} (h : (startE n ds).at i = some d) : ds[i]? = some d := by
  unfold startE En.at at h
  by_cases hi : i < ds.length
  · rw [List.getElem?_append_left (by simpa using hi), List.getElem?_map] at h
    cases e : ds[i]? with
    | none => rw [e] at h; cases h
    | some a => rw [e] at h; exact h
  · rw [List.getElem?_append_right (by simpa using hi), List.getElem?_replicate] at h
    split at h
    · rename_i a b e
      split at e
      · cases e
      · cases e
    · cases h
theorem start_en {g : Gh} {H : Hp} {O : List Nat} {N : List Str} {vs : List V} {ds : List D} {n np : Nat} (r : RpAll K g vs ds) (hn : n = N.length) (hnp : np = ds.length) (hle : ds.length ≤ N.length) (hO : ∀ i ∈ O, np ≤ i) : EnR K g H H O (L2.start N vs) (startE n ds) where
  get := fun i d h => by
    have e := startE_at h
    have hi := (List.getElem?_eq_some_iff.mp e).1
    obtain ⟨v, h1, h2⟩ := r.get e
    have hi' : i < vs.length := by rw [r.length]; exact hi
    refine ⟨v, ?_, fun _ => h2, fun m => ?_⟩
    · unfold L2.start
      rw [List.getElem?_append_left (by simpa using hi'), List.getElem?_map, h1]; rfl
    · have := hO i m; omega
  inj := fun i j p hi hj ei _ _ _ => by
    cases e : (startE n ds).at i with
    | none => exact absurd e ei
    | some d =>
      have := (List.getElem?_eq_some_iff.mp (startE_at e)).1
      have := hO i hi
      omega
  len := by
    unfold startE L2.start
    simp only [List.length_append, List.length_map, List.length_replicate, r.length]
    omega
/-- the defs as they stand in the module -/
structure MdOk (defs : Nat → Option Df) (K : PySem.W.Frag) (mg : Str → Option Value) (M : Md) : Prop where
  df : ∀ d ∈ M.ds, defs d.id = some d.df
  dx : ∀ d ∈ M.ds, DxOk M d
  at_ : ∀ d ∈ M.ds, ∃ f fd, FunD K d.x d.x (defArgs d.st) (defBody d.st) (defScope d.st) [] [] f fd ∧ mg d.x = some (.ref f) ∧ Binds K fd d.ps []
  con : ∀ x d, M.con x = some d → ∃ v u, mg x = some u ∧ RelV v u ∧ ∀ g, Rp K g v d
  blt : ∀ x, M.blt x = true → mg x = none
theorem fn_all {defs : Nat → Option Df} {M : Md} (ok : MdOk defs K mg M) (wf : Nat) : ∀ (k : Nat) (d : Dx) (f : Addr) (fd : FuncData), d ∈ M.ds → FunD K d.x d.x (defArgs d.st) (defBody d.st) (defScope d.st) [] [] f fd →
    FnOk P w K mg base CX0 k f fd d.ps (spF K ⟨callF defs wf k, wf⟩ d.id)
  | 0, d, f, fd, hd, F => ⟨(fun vs H Q E h => by obtain ⟨g, st, ds, rs, st', _, _, h, _⟩ := h; cases h), fun A outer s H args us vs Q E _ _ _ _ h => by obtain ⟨g, st, ds, rs, st', _, _, h, _⟩ := h; cases h⟩
  | k + 1, d, f, fd, hd, F => by
    have q := ok.dx d hd
    have hdf := ok.df d hd
    refine F.ok q.sc (fun vs H Q E h => ?_) (fun cdv A outer s H vs Q E hr h => ?_)
    · obtain ⟨g, st, ds, rs, st', _, r, h, _⟩ := h
      have h : callF defs wf (k + 1) d.id ds st = some (rs, st') := h
      rw [callF, hdf] at h
      have h : (if d.df.np = ds.length then (evSs ⟨callF defs wf k, wf⟩ d.df.body (startE d.df.n ds) st).bind outOf else none) = _ := h
      split at h
      · rename_i e; rw [r.length, ← e, q.np]
      · cases h
    · obtain ⟨g, st, ds, rs, st', Y, r, h, kk⟩ := h
      have h : callF defs wf (k + 1) d.id ds st = some (rs, st') := h
      rw [callF, hdf] at h
      have h : (if d.df.np = ds.length then (evSs ⟨callF defs wf k, wf⟩ d.df.body (startE d.df.n ds) st).bind outOf else none) = _ := h
      split at h
      · rename_i e
        obtain ⟨o, h1, h2⟩ := bindS h
        have hpl : d.ps.length ≤ d.N.length := by have := congrArg List.length q.sc.pre; rw [List.length_take] at this; omega
        obtain ⟨kf, htr⟩ := q.tr
        refine ⟨tSs ⟨K, ⟨callF defs wf k, wf⟩, d.O, g, H⟩ d.df.body, PSs.nox (trBody_ok (T := M.T d) ?_ q.sc.kind PassesOwn.never kf htr), ?_⟩
        · exact { K := rfl, N := rfl, nd := q.sc.nd, sc := rfl, fn := fun _ _ => rfl, calm := rfl, O := rfl, room := ⟨k, hr⟩, con := ok.con, blt := ok.blt,
                  df := fun x j hx => by
                    obtain ⟨d', e2, e1, e3⟩ := dfIx_ok hx
                    subst e1
                    obtain ⟨f', fd', F', hmg, hb⟩ := ok.at_ d' e2
                    exact ⟨f', fd', d'.ps, k, fn_all ok wf k d' f' fd' e2 F', hr, by rw [← e3]; exact hmg, F'.kp, hb⟩ }
        · refine ⟨g, startE d.df.n ds, st, o, ⟨Y, start_en r q.n e (by rw [← e, q.np]; exact hpl) q.own, .refl _ _⟩, h1, ?_⟩
          obtain ⟨fl, en, st2⟩ := o
          cases fl with
          | nx =>
            cases h2
            exact fun σ' g' H' S' l => kk _ g' H' S'.ext S'.sy .non
          | ret rr =>
            cases h2
            exact fun v g' H' Y' E' R' => kk v g' H' E' Y' R'
          | brk => cases h2
          | cont => cases h2
      · cases h
end
end MW
set_option Elab.async false
set_option linter.all false
set_option maxRecDepth 100000
set_option maxHeartbeats 4000000
set_option autoImplicit false
/-! From a module's facts to the law's promise. -/
namespace MW
open PySem PySem.Spec PyProof.Rows L2

/-- a module: its defs, the built-ins that are read, the constants -/
structure Ml where
  ds : List Dx
  bl : List Str
  ci : List (Str × Int)
  cs : List (Str × Str)
def Ml.con (m : Ml) (x : Str) : Option D := match m.ci.lookup x with
  | some i => some (.int i)
  | none => (m.cs.lookup x).map fun z => .str z.cps.toList
def Ml.md (m : Ml) : Md := ⟨m.ds, m.con, fun x => m.bl.contains x⟩
def Dx.he (d : Dx) : He.DefD := ⟨(d.x, none), d.x, d.x, defArgs d.st, defBody d.st, defScope d.st, [], []⟩
def Ml.fn (m : Ml) : List He.DefD := m.ds.map Dx.he
def Ml.fa (m : Ml) : List He.Fa := m.ds.map (fun d => .glo d.x) ++ (m.bl.map .free ++ (m.ci.map (fun p => .int p.1 p.2) ++ m.cs.map fun p => .str p.1 p.2))
/-- the arguments are bound by place -/
def BdOk (d : Dx) : Prop := ∀ (kV doc pm : Value) (an : Option Addr) (cdv ct : Value) (us : List Value), us.length = d.ps.length → bindArgs (PySem.W.fnOf d.x d.x (defArgs d.st) (defBody d.st) (defScope d.st) .none kV doc pm an cdv ct) ⟨us, []⟩ = pure (d.ps.zip us)
structure MlOk (defs : Nat → Option Df) (m : Ml) : Prop where
  dx : ∀ d ∈ m.ds, defs d.id = some d.df ∧ DxOk m.md d ∧ BdOk d
section
variable {P : Program} {w : World} {K : PySem.W.Frag} {h : Heap} {mg : Str → Option Value} {m : Ml} {defs : Nat → Option Df}
theorem says_fact (c : He.SaysD m.fa m.fn K) {f : He.Fa} (hf : f ∈ m.fa) : f.ok K = true := by
  obtain ⟨i, hi⟩ := List.mem_iff_getElem?.mp hf
  exact c.fact i hi
theorem says_def (c : He.SaysD m.fa m.fn K) {d : Dx} (hd : d ∈ m.ds) : ∃ fd, FunD K d.x d.x (defArgs d.st) (defBody d.st) (defScope d.st) [] [] (He.ga K d.x) fd := by
  have : d.he ∈ m.fn := List.mem_map_of_mem hd
  obtain ⟨i, hi⟩ := List.mem_iff_getElem?.mp this
  exact c.def_ i hi
theorem md_ok (c : He.SaysD m.fa m.fn K) (X : K.In h) (G : h.Ns mainGlobals mg) (ok : MlOk defs m) : MdOk defs K mg m.md where
  df := fun d hd => (ok.dx d hd).1
  dx := fun d hd => (ok.dx d hd).2.1
  at_ := fun d hd => by
    obtain ⟨fd, F⟩ := says_def c hd
    refine ⟨_, fd, F, He.glo_ok X G (says_fact c (List.mem_append_left _ (List.mem_map_of_mem (f := fun d => He.Fa.glo d.x) hd))), F.bindsN fun kV doc pm an cdv ct us hl => (ok.dx d hd).2.2 kV doc pm an cdv ct us hl⟩
  con := fun x d hx => by
    have hx : m.con x = some d := hx
    unfold Ml.con at hx
    split at hx
    · rename_i i e
      cases hx
      have := PySem.mem_of_lookup e
      obtain ⟨t, ht⟩ := He.int_ok X G (says_fact c (List.mem_append_right _ (List.mem_append_right _ (List.mem_append_left _ (List.mem_map_of_mem (f := fun p : Str × Int => He.Fa.int p.1 p.2) this)))))
      exact ⟨.int i, _, ht, ⟨_, rfl⟩, fun g => .int i⟩
    · obtain ⟨z, e, hz⟩ := mapS hx
      cases hz
      have := PySem.mem_of_lookup e
      obtain ⟨t, ht⟩ := He.str_ok X G (says_fact c (List.mem_append_right _ (List.mem_append_right _ (List.mem_append_right _ (List.mem_map_of_mem (f := fun p : Str × Str => He.Fa.str p.1 p.2) this)))))
      exact ⟨.str z, _, ht, ⟨_, rfl⟩, fun g => .str _⟩
  blt := fun x hx => He.free_ok X G (says_fact c (List.mem_append_right _ (List.mem_append_left _ (List.mem_map_of_mem (by simpa [Ml.md] using hx)))))
/-- the law's promise: for each script some length of the loops -/
def spLaw (K : PySem.W.Frag) (defs : Nat → Option Df) (k i : Nat) : Sp := fun vs H Q E => ∃ wf, spF K ⟨callF defs wf k, wf⟩ i vs H Q E
theorem law_fn {base : Heap} (ok : MdOk defs K mg m.md) {k : Nat} {d : Dx} {f : Addr} {fd : FuncData} (hd : d ∈ m.ds) (F : FunD K d.x d.x (defArgs d.st) (defBody d.st) (defScope d.st) [] [] f fd) : FnOk P w K mg base CX0 k f fd d.ps (spLaw K defs k d.id) where
  len := fun vs H Q E ⟨wf, h⟩ => (fn_all (P := P) (w := w) (base := base) ok wf k d f fd hd F).len vs H Q E h
  run := fun A outer s H args us vs Q E hr he hb hv ⟨wf, h⟩ => (fn_all ok wf k d f fd hd F).run A outer s H args us vs Q E hr he hb hv h
theorem law_sp {k i : Nat} {H : Hp} {a : Addr} {ns : List Int} (hS : SqL K H a (ns.map V.int)) (h : ∃ wf st', callF defs wf k i [.scr ns] [] = some (.sh (.bl true), st')) : spLaw K defs k i [.ref a] H (fun v _ => v = .bl true) fun _ _ _ => False := by
  obtain ⟨wf, st', h⟩ := h
  refine ⟨wf, ⟨H, []⟩, [], [.scr ns], _, st', ⟨fun _ _ h => h, (fun _ h => by cases h), (fun n a h => by simp at h), rfl, List.nodup_nil⟩, .cons (.scr hS) .nil, h, fun v g' H' E Y R => ?_⟩
  exact rs_bl R
/-- what walk_ofE asks -/
theorem law_facts {k : Nat} {d : Dx} {f : Addr} (X : K.In h) (G : h.Ns mainGlobals mg) (c : He.SaysD m.fa m.fn K) (ok : MlOk defs m) (hd : d ∈ m.ds) (hps : d.ps = [("script" : Str)]) (hf : mg d.x = some (.ref f))
    (hl : ∀ ns : List Int, ns.length ≤ 63 → ∃ wf st', callF defs wf k d.id [.scr ns] [] = some (.sh (.bl true), st')) :
    ∃ (fd : FuncData) (sp : Sp), (∀ (s : Shared) (u : Value), BindsTo s fd ⟨[u], []⟩ [("script", u)]) ∧
        (∀ (H : Hp) (a : Addr) (ns : List Int), ns.length ≤ 63 → Only H → SqL K H a (ns.map V.int) → sp [.ref a] H (fun v _ => v = .bl true) fun _ _ _ => False) ∧
        ∀ base : Heap, K.In base → base.Ns mainGlobals mg → FnOk P w K mg base CX0 k f fd ["script"] sp := by
  have mo := md_ok c X G ok
  obtain ⟨fd, F⟩ := says_def c hd
  have e := hf.symm.trans (He.glo_ok X G (says_fact c (List.mem_append_left _ (List.mem_map_of_mem (f := fun d => He.Fa.glo d.x) hd))))
  cases e
  have b := FunD.bindsA F fun kV doc pm an cdv ct us hl => (ok.dx d hd).2.2 kV doc pm an cdv ct us hl
  refine ⟨fd, spLaw K defs k d.id, fun s u => ?_, fun H a ns hn _ hS => law_sp hS (hl ns hn), fun base _ _ => ?_⟩
  · have := b s [u] (by rw [hps]; rfl)
    rw [hps] at this
    exact this
  · rw [← hps]; exact law_fn mo hd F
end
end MW
set_option Elab.async false
set_option linter.all false
set_option maxRecDepth 100000
set_option maxHeartbeats 4000000
set_option autoImplicit false
/-! Plain: running the small language by rules. -/
namespace MW
open PySem PySem.Spec PyProof.Rows L2

/-- a value and a store come out, with Q -/
def Ev {α : Type} (o : Option (α × Store)) (Q : α → Store → Prop) : Prop := ∃ a st, o = some (a, st) ∧ Q a st
def EvS (o : Option Out) (Q : Fl → En → Store → Prop) : Prop := ∃ f en st, o = some (f, en, st) ∧ Q f en st
/-- an operator's value -/
def Op {α : Type} (o : Option α) (Q : α → Prop) : Prop := ∃ r, o = some r ∧ Q r

section
variable {α β : Type} {Q : α → Store → Prop} {st : Store}
theorem Ev.mono {o : Option (α × Store)} {P : α → Store → Prop} (h : Ev o P) (i : ∀ a st, P a st → Q a st) : Ev o Q := by
  obtain ⟨a, st, e, p⟩ := h; exact ⟨a, st, e, i a st p⟩
theorem EvS.mono {o : Option Out} {P Q : Fl → En → Store → Prop} (h : EvS o P) (i : ∀ f en st, P f en st → Q f en st) : EvS o Q := by
  obtain ⟨f, en, st, e, p⟩ := h; exact ⟨f, en, st, e, i _ _ _ p⟩
theorem Op.mono {o : Option α} {P Q : α → Prop} (h : Op o P) (i : ∀ a, P a → Q a) : Op o Q := by
  obtain ⟨a, e, p⟩ := h; exact ⟨a, e, i a p⟩
theorem Ev_bind {o : Option (β × Store)} {f : β × Store → Option (α × Store)} : Ev (o.bind f) Q ↔ Ev o fun b st => Ev (f (b, st)) Q := by
  constructor
  · rintro ⟨a, st, e, q⟩
    obtain ⟨⟨b, s⟩, e1, e2⟩ := bindS e
    exact ⟨b, s, e1, a, st, e2, q⟩
  · rintro ⟨b, s, e1, a, st, e2, q⟩
    exact ⟨a, st, by rw [e1]; exact e2, q⟩
theorem Ev_map {o : Option (β × Store)} {f : β × Store → α × Store} : Ev (o.map f) Q ↔ Ev o fun b st => Q (f (b, st)).1 (f (b, st)).2 := by
  constructor
  · rintro ⟨a, st, e, q⟩
    obtain ⟨⟨b, s⟩, e1, e2⟩ := mapS e
    exact ⟨b, s, e1, by simp only [e2]; exact q⟩
  · rintro ⟨b, s, e1, q⟩
    exact ⟨_, _, by rw [e1]; rfl, q⟩
theorem Ev_some {p : α × Store} : Ev (some p) Q ↔ Q p.1 p.2 := by
  constructor
  · rintro ⟨a, st, e, q⟩; cases e; exact q
  · intro q; exact ⟨_, _, rfl, q⟩
theorem Ev_none : Ev (none : Option (α × Store)) Q ↔ False := ⟨(fun ⟨_, _, e, _⟩ => nomatch e), False.elim⟩
theorem Ev_ite {c : Prop} [Decidable c] {a b : Option (α × Store)} : Ev (if c then a else b) Q ↔ if c then Ev a Q else Ev b Q := by split <;> rfl
theorem Ev_opb {o : Option β} {f : β → Option (α × Store)} : Ev (o.bind f) Q ↔ Op o fun r => Ev (f r) Q := by
  constructor
  · rintro ⟨a, st, e, q⟩
    obtain ⟨b, e1, e2⟩ := bindS e
    exact ⟨b, e1, a, st, e2, q⟩
  · rintro ⟨b, e1, a, st, e2, q⟩
    exact ⟨a, st, by rw [e1]; exact e2, q⟩
theorem Ev_opm {o : Option β} {f : β → α × Store} : Ev (o.map f) Q ↔ Op o fun r => Q (f r).1 (f r).2 := by
  constructor
  · rintro ⟨a, st, e, q⟩
    obtain ⟨b, e1, e2⟩ := mapS e
    exact ⟨b, e1, by simp only [e2]; exact q⟩
  · rintro ⟨b, e1, q⟩
    exact ⟨_, _, by rw [e1]; rfl, q⟩
end
section
variable {β : Type} {Q : Fl → En → Store → Prop}
theorem EvS_bind {o : Option (β × Store)} {f : β × Store → Option Out} : EvS (o.bind f) Q ↔ Ev o fun b st => EvS (f (b, st)) Q := by
  constructor
  · rintro ⟨a, en, st, e, q⟩
    obtain ⟨⟨b, s⟩, e1, e2⟩ := bindS e
    exact ⟨b, s, e1, a, en, st, e2, q⟩
  · rintro ⟨b, s, e1, a, en, st, e2, q⟩
    exact ⟨a, en, st, by rw [e1]; exact e2, q⟩
theorem EvS_map {o : Option (β × Store)} {f : β × Store → Out} : EvS (o.map f) Q ↔ Ev o fun b st => Q (f (b, st)).1 (f (b, st)).2.1 (f (b, st)).2.2 := by
  constructor
  · rintro ⟨a, en, st, e, q⟩
    obtain ⟨⟨b, s⟩, e1, e2⟩ := mapS e
    exact ⟨b, s, e1, by simp only [e2]; exact q⟩
  · rintro ⟨b, s, e1, q⟩
    exact ⟨_, _, _, by rw [e1]; rfl, q⟩
theorem EvS_seq {o : Option Out} {f : Out → Option Out} : EvS (o.bind f) Q ↔ EvS o fun fl en st => EvS (f (fl, en, st)) Q := by
  constructor
  · rintro ⟨a, en, st, e, q⟩
    obtain ⟨⟨b, c, s⟩, e1, e2⟩ := bindS e
    exact ⟨b, c, s, e1, a, en, st, e2, q⟩
  · rintro ⟨b, c, s, e1, a, en, st, e2, q⟩
    exact ⟨a, en, st, by rw [e1]; exact e2, q⟩
theorem EvS_some {p : Out} : EvS (some p) Q ↔ Q p.1 p.2.1 p.2.2 := by
  constructor
  · rintro ⟨a, en, st, e, q⟩; cases e; exact q
  · intro q; exact ⟨_, _, _, rfl, q⟩
theorem EvS_none : EvS none Q ↔ False := ⟨(fun ⟨_, _, _, e, _⟩ => nomatch e), False.elim⟩
theorem EvS_ite {c : Prop} [Decidable c] {a b : Option Out} : EvS (if c then a else b) Q ↔ if c then EvS a Q else EvS b Q := by split <;> rfl
theorem EvS_opb {o : Option β} {f : β → Option Out} : EvS (o.bind f) Q ↔ Op o fun r => EvS (f r) Q := by
  constructor
  · rintro ⟨a, en, st, e, q⟩
    obtain ⟨b, e1, e2⟩ := bindS e
    exact ⟨b, e1, a, en, st, e2, q⟩
  · rintro ⟨b, e1, a, en, st, e2, q⟩
    exact ⟨a, en, st, by rw [e1]; exact e2, q⟩
theorem EvS_opm {o : Option β} {f : β → Out} : EvS (o.map f) Q ↔ Op o fun r => Q (f r).1 (f r).2.1 (f r).2.2 := by
  constructor
  · rintro ⟨a, en, st, e, q⟩
    obtain ⟨b, e1, e2⟩ := mapS e
    exact ⟨b, e1, by simp only [e2]; exact q⟩
  · rintro ⟨b, e1, q⟩
    exact ⟨_, _, _, by rw [e1]; rfl, q⟩
end
section
variable {α β : Type} {Q : α → Prop}
theorem Op_some {a : α} : Op (some a) Q ↔ Q a := by
  constructor
  · rintro ⟨a, e, q⟩; cases e; exact q
  · intro q; exact ⟨_, rfl, q⟩
theorem Op_none : Op (none : Option α) Q ↔ False := ⟨(fun ⟨_, e, _⟩ => nomatch e), False.elim⟩
theorem Op_ite {c : Prop} [Decidable c] {a b : Option α} : Op (if c then a else b) Q ↔ if c then Op a Q else Op b Q := by split <;> rfl
theorem Op_guard {c : Prop} [Decidable c] {a : Option α} : Op (if c then a else none) Q ↔ c ∧ Op a Q := by
  split
  · rename_i h; simp [h]
  · rename_i h; simp [h, Op_none]
theorem Op_map {o : Option β} {f : β → α} : Op (o.map f) Q ↔ Op o fun b => Q (f b) := by
  constructor
  · rintro ⟨a, e, q⟩
    obtain ⟨b, e1, e2⟩ := mapS e
    exact ⟨b, e1, by simp only [e2]; exact q⟩
  · rintro ⟨b, e1, q⟩
    exact ⟨_, by rw [e1]; rfl, q⟩
theorem Op_bind {o : Option β} {f : β → Option α} : Op (o.bind f) Q ↔ Op o fun b => Op (f b) Q := by
  constructor
  · rintro ⟨a, e, q⟩
    obtain ⟨b, e1, e2⟩ := bindS e
    exact ⟨b, e1, a, e2, q⟩
  · rintro ⟨b, e1, a, e2, q⟩
    exact ⟨a, by rw [e1]; exact e2, q⟩
end

/-! ### environments as lists -/
theorem at_zero (x : Option D) (l : En) : En.at (x :: l) 0 = x := by cases x <;> rfl
theorem at_succ (x : Option D) (l : En) (n : Nat) : En.at (x :: l) (n + 1) = En.at l n := by unfold En.at; rfl
theorem set_zero {α : Type} (x y : α) (l : List α) : List.set (x :: l) 0 y = y :: l := rfl
theorem set_succ {α : Type} (x y : α) (l : List α) (n : Nat) : List.set (x :: l) (n + 1) y = x :: List.set l n y := rfl
theorem startE_zero (n : Nat) : startE n [] = List.replicate n none := by unfold startE; simp
theorem startE_cons (n : Nat) (d : D) (ds : List D) : startE (n + 1) (d :: ds) = some d :: startE n ds := by
  unfold startE; simp

/-! ### loops, comprehensions -/
theorem for_inv {bind : D → En → Option En} {body : En → Store → Option Out} {Q : Fl → En → Store → Prop} (I : Nat → En → Store → Prop) :
    ∀ (items : List D) (k : Nat) (env : En) (st : Store), I k env st →
    (∀ (i : Nat) (x : D) (env : En) (st : Store), items[i]? = some x → I (k + i) env st → Op (bind x env) fun e1 => EvS (body e1 st) fun fl e2 s2 => match fl with
      | .nx => I (k + i + 1) e2 s2
      | .cont => I (k + i + 1) e2 s2
      | .brk => Q .nx e2 s2
      | .ret r => Q (.ret r) e2 s2) →
    (∀ env st, I (k + items.length) env st → Q .nx env st) → EvS (forGo bind body items env st) Q
  | [], k, env, st, h0, _, he => by rw [forGo, EvS_some]; exact he env st h0
  | x :: xs, k, env, st, h0, hs, he => by
    rw [forGo]
    obtain ⟨e1, hb, fl, e2, s2, hr, hq⟩ := hs 0 x env st rfl h0
    rw [hb]
    show EvS ((body e1 st).bind _) Q
    rw [hr]
    have nxt : I (k + 1) e2 s2 → EvS (forGo bind body xs e2 s2) Q := fun h => for_inv I xs (k + 1) e2 s2 h (fun i y env st hy hi => by
      have := hs (i + 1) y env st (by simpa using hy) (by rw [show k + (i + 1) = k + 1 + i by omega]; exact hi)
      rw [show k + (i + 1) = k + 1 + i by omega] at this
      exact this) fun env st h => he env st (by rw [List.length_cons, show k + (xs.length + 1) = k + 1 + xs.length by omega]; exact h)
    cases fl with
    | nx => exact nxt hq
    | cont => exact nxt hq
    | brk => exact EvS_some.mpr hq
    | ret r => exact EvS_some.mpr hq
/-- over a list of typed items -/
theorem for_list {τ : Type} {f : τ → D} {bind : D → En → Option En} {body : En → Store → Option Out} {Q : Fl → En → Store → Prop} (I : List τ → En → Store → Prop) :
    ∀ (items : List τ) (env : En) (st : Store), I items env st →
    (∀ (x : τ) (xs : List τ) (env : En) (st : Store), I (x :: xs) env st → Op (bind (f x) env) fun e1 => EvS (body e1 st) fun fl e2 s2 => match fl with
      | .nx => I xs e2 s2
      | .cont => I xs e2 s2
      | .brk => Q .nx e2 s2
      | .ret r => Q (.ret r) e2 s2) →
    (∀ env st, I [] env st → Q .nx env st) → EvS (forGo bind body (items.map f) env st) Q
  | [], env, st, h0, _, he => by rw [List.map_nil, forGo, EvS_some]; exact he env st h0
  | x :: xs, env, st, h0, hs, he => by
    rw [List.map_cons, forGo]
    obtain ⟨e1, hb, fl, e2, s2, hr, hq⟩ := hs x xs env st h0
    rw [hb]
    show EvS ((body e1 st).bind _) Q
    rw [hr]
    cases fl with
    | nx => exact for_list I xs e2 s2 hq hs he
    | cont => exact for_list I xs e2 s2 hq hs he
    | brk => exact EvS_some.mpr hq
    | ret r => exact EvS_some.mpr hq
/-- a comprehension that maps -/
theorem comp_map {τ : Type} {f : τ → D} (g : τ → D) {bind : D → En → Option En} {cnd : En → Store → Option (Bool × Store)} {elt : En → Store → Option (Rs × Store)} {env : En} {st : Store} {Q : List D → Store → Prop} :
    ∀ (xs : List τ), (∀ x ∈ xs, Op (bind (f x) env) fun e1 => Ev (cnd e1 st) fun b s => b = true ∧ s = st ∧ Ev (elt e1 st) fun r s => s = st ∧ Op r.own? fun d => d = g x) → (Ev (compGo bind cnd elt env (xs.map f) st) Q ↔ Q (xs.map g) st) := by
  have key : ∀ (xs : List τ), (∀ x ∈ xs, Op (bind (f x) env) fun e1 => Ev (cnd e1 st) fun b s => b = true ∧ s = st ∧ Ev (elt e1 st) fun r s => s = st ∧ Op r.own? fun d => d = g x) → compGo bind cnd elt env (xs.map f) st = some (xs.map g, st) := by
    intro xs
    induction xs with
    | nil => intro _; rfl
    | cons x xs ih =>
      intro h
      obtain ⟨e1, hb, b, s0, hc, rfl, rfl, r, s, he, rfl, d, ho, rfl⟩ := h x List.mem_cons_self
      rw [List.map_cons, compGo, hb]
      simp only [Option.bind_some, hc, if_true, he, ho, ih fun y hy => h y (List.mem_cons_of_mem _ hy), List.map_cons]
  intro xs h
  rw [key xs h, Ev_some]
/-- one that filters -/
theorem comp_fil {τ : Type} {f : τ → D} (g : τ → D) (p : τ → Bool) {bind : D → En → Option En} {cnd : En → Store → Option (Bool × Store)} {elt : En → Store → Option (Rs × Store)} {env : En} {st : Store} {Q : List D → Store → Prop} :
    ∀ (xs : List τ), (∀ x ∈ xs, Op (bind (f x) env) fun e1 => Ev (cnd e1 st) fun b s => b = p x ∧ s = st ∧ (p x = true → Ev (elt e1 st) fun r s => s = st ∧ Op r.own? fun d => d = g x)) → (Ev (compGo bind cnd elt env (xs.map f) st) Q ↔ Q ((xs.filter p).map g) st) := by
  have key : ∀ (xs : List τ), (∀ x ∈ xs, Op (bind (f x) env) fun e1 => Ev (cnd e1 st) fun b s => b = p x ∧ s = st ∧ (p x = true → Ev (elt e1 st) fun r s => s = st ∧ Op r.own? fun d => d = g x)) → compGo bind cnd elt env (xs.map f) st = some ((xs.filter p).map g, st) := by
    intro xs
    induction xs with
    | nil => intro _; rfl
    | cons x xs ih =>
      intro h
      obtain ⟨e1, hb, b, s0, hc, rfl, rfl, he⟩ := h x List.mem_cons_self
      rw [List.map_cons, compGo, hb]
      have ih := ih fun y hy => h y (List.mem_cons_of_mem _ hy)
      cases hp : p x with
      | false => simp only [Option.bind_some, hc, hp, Bool.false_eq_true, if_false, ih, List.filter_cons]
      | true =>
        obtain ⟨r, s, he, rfl, d, ho, rfl⟩ := he hp
        simp only [Option.bind_some, hc, hp, if_true, he, ho, ih, List.filter_cons, List.map_cons]
  intro xs h
  rw [key xs h, Ev_some]
/-- one whose items change the store -/
theorem comp_inv {bind : D → En → Option En} {elt : En → Store → Option (Rs × Store)} {cnd : En → Store → Option (Bool × Store)} {env : En} (P : D → Prop) (I : Store → Prop) :
    ∀ (xs : List D) (st : Store), I st → (∀ x ∈ xs, ∀ st, I st → Op (bind x env) fun e1 => Ev (cnd e1 st) fun b s => b = true ∧ s = st ∧ Ev (elt e1 st) fun r s => I s ∧ Op r.own? P) →
    Ev (compGo bind cnd elt env xs st) fun zs s => I s ∧ zs.length = xs.length ∧ ∀ z ∈ zs, P z
  | [], st, hi, _ => by rw [compGo, Ev_some]; exact ⟨hi, rfl, fun _ h => nomatch h⟩
  | x :: xs, st, hi, h => by
    obtain ⟨e1, hb, b, s0, hc, rfl, rfl, r, s, he, hs, d, ho, hp⟩ := h x List.mem_cons_self st hi
    obtain ⟨zs, s2, e2, hi2, hl, hz⟩ := comp_inv P I xs s hs fun y hy => h y (List.mem_cons_of_mem _ hy)
    rw [compGo, hb]
    simp only [Option.bind_some, hc, if_true, he, ho, e2, Ev_some]
    refine ⟨hi2, by simp [hl], fun z m => ?_⟩
    rcases List.mem_cons.mp m with rfl | m
    · exact hp
    · exact hz z m
end MW
namespace MW
theorem for_enum {τ : Type} {f : τ → D} {bind : D → En → Option En} {body : En → Store → Option Out} {Q : Fl → En → Store → Prop} (I : Nat → List τ → En → Store → Prop) :
    ∀ (items : List τ) (i : Nat) (env : En) (st : Store), I i items env st →
    (∀ (i : Nat) (x : τ) (xs : List τ) (env : En) (st : Store), I i (x :: xs) env st → Op (bind (.tup [.int (i : Nat), f x]) env) fun e1 => EvS (body e1 st) fun fl e2 s2 => match fl with
      | .nx => I (i + 1) xs e2 s2
      | .cont => I (i + 1) xs e2 s2
      | .brk => Q .nx e2 s2
      | .ret r => Q (.ret r) e2 s2) →
    (∀ i env st, I i [] env st → Q .nx env st) → EvS (forGo bind body (enumD i (items.map f)) env st) Q
  | [], i, env, st, h0, _, he => by rw [List.map_nil, enumD, forGo, EvS_some]; exact he i env st h0
  | x :: xs, i, env, st, h0, hs, he => by
    rw [List.map_cons, enumD, forGo]
    obtain ⟨e1, hb, fl, e2, s2, hr, hq⟩ := hs i x xs env st h0
    rw [hb]
    show EvS ((body e1 st).bind _) Q
    rw [hr]
    cases fl with
    | nx => exact for_enum I xs (i + 1) e2 s2 hq hs he
    | cont => exact for_enum I xs (i + 1) e2 s2 hq hs he
    | brk => exact EvS_some.mpr hq
    | ret r => exact EvS_some.mpr hq
end MW
namespace MWL
open PySem PySem.Spec PyProof.Rows L2 MW
/-- is_between -/
def b52 : Ss := (.cons (.ret (.and (.isi .int (.v 0)) (.and (.not (.isi .bool (.v 0))) (.chain .le .le (.v 1) (.v 0) (.v 2)))))
  .nil)
def d52 : Df := ⟨3, 3, b52⟩
/-- is_letters -/
def b0 : Ss := (.cons (.ret (.and (.isi .str (.v 0)) (.and (.chain .le .le (.c (.int 1)) (.b1 .len (.v 0)) (.v 1)) (.b1 .all (.comp [2] (.cmp .inn (.v 2) (.c (.str [97, 98, 99, 100, 101]))) (.nm 2) (.e (.v 0)) .no)))))
  .nil)
def d0 : Df := ⟨2, 3, b0⟩
/-- is_entry -/
def b1 : Ss := (.cons (.ite (.or (.not (.isi .tuple (.v 0))) (.or (.cmp .ne (.b1 .len (.v 0)) (.c (.int 3))) (.not (.isi .str (.idx (.v 0) (.c (.int 0))))))) (.cons (.ret (.c (.bl false)))
  .nil) .nil)
  (.cons (.unp (.tup (.cons (.nm 1) (.cons (.nm 2) (.cons (.nm 3) .nil)))) (.v 0))
  (.cons (.ite (.or (.cmp .nin (.v 1) (.tup (.cons (.c (.str [119, 111, 114, 100])) (.cons (.c (.str [101, 110, 100])) .nil)))) (.not (.call 0 (.cons (.v 3) (.cons (.c (.int 4)) .nil))))) (.cons (.ret (.c (.bl false)))
  .nil) .nil)
  (.cons (.ret (.and (.call 0 (.cons (.v 2) (.cons (.ite (.cmp .eq (.v 1) (.c (.str [119, 111, 114, 100]))) (.c (.int 4)) (.c (.int 3))) .nil))) (.cmp .ne (.v 2) (.v 3))))
  .nil))))
def d1 : Df := ⟨1, 4, b1⟩
/-- is_list -/
def b2 : Ss := (.cons (.ite (.or (.not (.isi .tuple (.v 0))) (.or (.cmp .gt (.b1 .len (.v 0)) (.c (.int 6))) (.not (.b1 .all (.comp [3] (.call 1 (.cons (.v 3) .nil)) (.nm 3) (.e (.v 0)) .no))))) (.cons (.ret (.c (.bl false)))
  .nil) .nil)
  (.cons (.ret (.b1 .all (.comp [1, 2] (.and (.cmp .lt (.v 1) (.v 2)) (.cmp .ne (.sl (.v 1) .no (.so (.c (.int 2)))) (.sl (.v 2) .no (.so (.c (.int 2)))))) (.tup (.cons (.nm 1) (.cons (.nm 2) .nil))) (.zip (.v 0) (.sl (.v 0) (.so (.c (.int 1))) .no)) .no)))
  .nil))
def d2 : Df := ⟨1, 4, b2⟩
/-- need_list -/
def b15 : Ss := (.cons (.ite (.not (.call 2 (.cons (.v 0) .nil))) (.cons .fail
  .nil) .nil)
  .nil)
def d15 : Df := ⟨1, 1, b15⟩
/-- need_word -/
def b16 : Ss := (.cons (.ite (.not (.call 0 (.cons (.v 0) (.cons (.c (.int 12)) .nil)))) (.cons .fail
  .nil) .nil)
  .nil)
def d16 : Df := ⟨1, 1, b16⟩
/-- acting -/
def b18 : Ss := (.cons (.set 2 (.c .non))
  (.cons (.for_ (.tup (.cons (.nm 3) (.cons (.tup (.cons (.nm 4) (.cons (.nm 5) (.cons (.nm 6) .nil)))) .nil))) (.enum (.v 0)) (.cons (.ite (.and (.cmp .eq (.v 4) (.c (.str [119, 111, 114, 100]))) (.cmp .eq (.v 5) (.v 1))) (.cons (.ret (.v 3))
  .nil) .nil)
  (.cons (.ite (.and (.cmp .eq (.v 4) (.c (.str [101, 110, 100]))) (.and (.m1 .endswith (.v 1) (.v 5)) (.or (.cmp .isn (.v 2) (.c .non)) (.cmp .gt (.b1 .len (.v 5)) (.b1 .len (.idx (.idx (.v 0) (.v 2)) (.c (.int 1)))))))) (.cons (.set 2 (.v 3))
  .nil) .nil)
  .nil)))
  (.cons (.ret (.v 2))
  .nil)))
def d18 : Df := ⟨2, 7, b18⟩
/-- mended -/
def b19 : Ss := (.cons (.set 2 (.call 18 (.cons (.v 0) (.cons (.v 1) .nil))))
  (.cons (.ite (.cmp .isn (.v 2) (.c .non)) (.cons (.ret (.v 1))
  .nil) .nil)
  (.cons (.unp (.tup (.cons (.nm 3) (.cons (.nm 4) (.cons (.nm 5) .nil)))) (.idx (.v 0) (.v 2)))
  (.cons (.ret (.bin .add (.sl (.v 1) .no (.so (.bin .sub (.b1 .len (.v 1)) (.b1 .len (.v 4))))) (.v 5)))
  .nil))))
def d19 : Df := ⟨2, 6, b19⟩
/-- course_of -/
def b150 : Ss := (.cons (.par [(true, 2), (true, 3)] (.cons (.lst (.cons (.v 1) .nil)) (.cons (.dic1 (.v 1) (.c (.int 0))) .nil)))
  (.cons (.whl (.c (.bl true)) (.cons (.set 1 (.call 19 (.cons (.v 0) (.cons (.idx (.vo 2) (.neg (.c (.int 1)))) .nil))))
  (.cons (.ite (.cmp .inn (.v 1) (.vo 3)) (.cons (.ret (.tup (.cons (.v 2) (.cons (.idx (.v 3) (.v 1)) (.cons (.c (.int 0)) .nil)))))
  .nil) .nil)
  (.cons (.app 2 (.v 1))
  (.cons (.seti 3 (.v 1) (.bin .sub (.b1 .len (.vo 2)) (.c (.int 1))))
  (.cons (.set 4 (.b1 .len (.v 1)))
  (.cons (.for_ (.nm 5) (.rng (.cons (.bin .sub (.b1 .len (.vo 2)) (.c (.int 2))) (.cons (.neg (.c (.int 1))) (.cons (.neg (.c (.int 1))) .nil)))) (.cons (.set 6 (.b1 .len (.idx (.vo 2) (.v 5))))
  (.cons (.ite (.cmp .le (.v 6) (.c (.int 4))) (.cons .brk
  .nil) .nil)
  (.cons (.ite (.and (.cmp .le (.v 6) (.v 4)) (.cmp .eq (.sl (.idx (.vo 2) (.v 5)) (.so (.neg (.c (.int 3)))) .no) (.sl (.v 1) (.so (.neg (.c (.int 3)))) .no))) (.cons (.ret (.tup (.cons (.v 2) (.cons (.v 5) (.cons (.bin .sub (.b1 .len (.v 1)) (.v 6)) .nil)))))
  .nil) .nil)
  (.cons (.set 4 (.b2 .min (.v 4) (.v 6)))
  .nil)))))
  .nil)))))))
  .nil))
def d150 : Df := ⟨2, 7, b150⟩
/-- need_both -/
def b151 : Ss := (.cons (.drop (.call 15 (.cons (.v 0) .nil)))
  (.cons (.drop (.call 16 (.cons (.v 1) .nil)))
  .nil))
def d151 : Df := ⟨2, 2, b151⟩
/-- length_after -/
def b152 : Ss := (.cons (.drop (.call 151 (.cons (.v 0) (.cons (.v 1) .nil))))
  (.cons (.ite (.not (.call 52 (.cons (.v 2) (.cons (.c (.int 0)) (.cons (.c (.int 1000000000000000000)) .nil))))) (.cons .fail
  .nil) .nil)
  (.cons (.unp (.tup (.cons (.nm 4) (.cons (.nm 5) (.cons (.nm 6) .nil)))) (.call 150 (.cons (.v 0) (.cons (.v 1) .nil))))
  (.cons (.ite (.cmp .lt (.v 2) (.b1 .len (.v 4))) (.cons (.ret (.b1 .len (.idx (.v 4) (.v 2))))
  .nil) .nil)
  (.cons (.ite (.cmp .eq (.v 6) (.c (.int 0))) (.cons (.ret (.b1 .len (.idx (.v 4) (.bin .add (.v 5) (.bin .mod (.bin .sub (.v 2) (.v 5)) (.bin .sub (.b1 .len (.v 4)) (.v 5)))))))
  .nil) .nil)
  (.cons (.set 3 (.bin .sub (.bin .sub (.b1 .len (.v 4)) (.c (.int 1))) (.v 5)))
  (.cons (.par [(false, 7), (false, 8)] (.cons (.bin .fdiv (.bin .sub (.v 2) (.v 5)) (.v 3)) (.cons (.bin .mod (.bin .sub (.v 2) (.v 5)) (.v 3)) .nil)))
  (.cons (.ret (.bin .add (.b1 .len (.idx (.v 4) (.bin .add (.v 5) (.v 8)))) (.bin .mul (.v 7) (.v 6))))
  .nil))))))))
def d152 : Df := ⟨3, 9, b152⟩
/-- passes_until -/
def b155 : Ss := (.cons (.drop (.call 151 (.cons (.v 0) (.cons (.v 1) .nil))))
  (.cons (.ite (.not (.call 52 (.cons (.v 2) (.cons (.c (.int 1)) (.cons (.c (.int 1000000000000000000)) .nil))))) (.cons .fail
  .nil) .nil)
  (.cons (.unp (.tup (.cons (.nm 4) (.cons (.nm 5) (.cons (.nm 6) .nil)))) (.call 150 (.cons (.v 0) (.cons (.v 1) .nil))))
  (.cons (.for_ (.tup (.cons (.nm 7) (.cons (.nm 8) .nil))) (.enum (.v 4)) (.cons (.ite (.cmp .ge (.b1 .len (.v 8)) (.v 2)) (.cons (.ret (.v 7))
  .nil) .nil)
  .nil))
  (.cons (.ite (.cmp .eq (.v 6) (.c (.int 0))) (.cons (.ret (.c .non))
  .nil) .nil)
  (.cons (.par [(false, 9), (true, 10)] (.cons (.bin .sub (.bin .sub (.b1 .len (.v 4)) (.c (.int 1))) (.v 5)) (.cons (.lst .nil) .nil)))
  (.cons (.for_ (.nm 3) (.rng (.cons (.v 5) (.cons (.bin .add (.v 5) (.v 9)) .nil))) (.cons (.set 11 (.bin .fdiv (.bin .sub (.bin .add (.bin .sub (.v 2) (.b1 .len (.idx (.v 4) (.v 3)))) (.v 6)) (.c (.int 1))) (.v 6)))
  (.cons (.app 10 (.bin .add (.v 3) (.bin .mul (.v 11) (.v 9))))
  .nil)))
  (.cons (.ret (.b1 .min (.v 10)))
  .nil))))))))
def d155 : Df := ⟨3, 12, b155⟩
/-- comes_again -/
def b156 : Ss := (.cons (.drop (.call 151 (.cons (.v 0) (.cons (.v 1) .nil))))
  (.cons (.unp (.tup (.cons (.nm 2) (.cons (.nm 3) (.cons (.nm 4) .nil)))) (.call 150 (.cons (.v 0) (.cons (.v 1) .nil))))
  (.cons (.ret (.ite (.cmp .eq (.v 4) (.c (.int 0))) (.tup (.cons (.v 3) (.cons (.bin .sub (.b1 .len (.v 2)) (.v 3)) .nil))) (.c .non)))
  .nil)))
def d156 : Df := ⟨2, 5, b156⟩
/-- rest_of -/
def b61 : Ss := (.cons (.par [(false, 2), (true, 3), (true, 4)] (.cons (.c (.int 0)) (.cons .dic0 (.cons .dic0 .nil))))
  (.cons (.whl (.c (.bl true)) (.cons (.set 5 (.call 19 (.cons (.v 0) (.cons (.v 1) .nil))))
  (.cons (.ite (.cmp .eq (.v 5) (.v 1)) (.cons (.ret (.tup (.cons (.v 2) (.cons (.v 1) .nil))))
  .nil) .nil)
  (.cons (.seto 4 (.dicL (.compI 4 [6, 7] (.tup (.cons (.v 6) (.cons (.v 7) .nil))) (.tup (.cons (.nm 6) (.cons (.nm 7) .nil))) (.so (.cmp .le (.v 7) (.b1 .len (.v 1)))))))
  (.cons (.ite (.cmp .gt (.b1 .len (.v 1)) (.c (.int 4))) (.cons (.ite (.cmp .inn (.sl (.v 1) (.so (.neg (.c (.int 3)))) .no) (.vo 4)) (.cons (.ret (.c .non))
  .nil) .nil)
  (.cons (.seti 4 (.sl (.v 1) (.so (.neg (.c (.int 3)))) .no) (.b1 .len (.v 1)))
  .nil)) (.cons (.ite (.cmp .inn (.v 1) (.vo 3)) (.cons (.ret (.c .non))
  .nil) .nil)
  (.cons (.seti 3 (.v 1) (.c (.bl true)))
  .nil)))
  (.cons (.par [(false, 2), (false, 1)] (.cons (.bin .add (.v 2) (.c (.int 1))) (.cons (.v 5) .nil)))
  .nil))))))
  .nil))
def d61 : Df := ⟨2, 8, b61⟩
/-- rest -/
def b62 : Ss := (.cons (.drop (.call 15 (.cons (.v 0) .nil)))
  (.cons (.drop (.call 16 (.cons (.v 1) .nil)))
  (.cons (.ret (.call 61 (.cons (.v 0) (.cons (.v 1) .nil))))
  .nil)))
def d62 : Df := ⟨2, 2, b62⟩
/-- _law_source -/
def b4 : Ss := (.cons (.set 2 (.c (.int 0)))
  (.cons (.ite (.cmp .lt (.v 1) (.b1 .len (.v 0))) (.cons (.set 2 (.b1 .abs (.idx (.v 0) (.v 1))))
  .nil) .nil)
  (.cons (.ite (.cmp .lt (.v 2) (.bin .pow (.c (.int 10)) (.c (.int 18)))) (.cons (.ret (.cel (.cons (.c (.int 0)) (.cons (.bin .add (.c (.int 1)) (.bin .mod (.b1 .int (.bin .add (.bin .mul (.v 2) (.c (.int 7919))) (.bin .mul (.c (.int 104729)) (.v 1)))) (.c (.int 2147483646)))) .nil))))
  .nil) .nil)
  (.cons (.ret (.cel (.cons (.v 2) (.cons (.bin .add (.c (.int 1)) (.bin .mod (.b1 .int (.bin .add (.v 2) (.v 1))) (.c (.int 2147483646)))) .nil))))
  .nil))))
def d4 : Df := ⟨2, 3, b4⟩
/-- _law_draw -/
def b5 : Ss := (.cons (.ite (.cmp .gt (.idx (.v 0) (.c (.int 0))) (.c (.int 0))) (.cons (.set 2 (.bin .mod (.b1 .int (.idx (.v 0) (.c (.int 0)))) (.v 1)))
  (.cons (.setc (.v 0) (.c (.int 0)) (.bin .fdiv (.idx (.v 0) (.c (.int 0))) (.v 1)))
  (.cons (.ret (.v 2))
  .nil))) .nil)
  (.cons (.setc (.v 0) (.c (.int 1)) (.bin .mod (.b1 .int (.bin .mul (.idx (.v 0) (.c (.int 1))) (.c (.int 48271)))) (.c (.int 2147483647))))
  (.cons (.ret (.bin .mod (.b1 .int (.bin .fdiv (.bin .mod (.b1 .int (.bin .mul (.idx (.v 0) (.c (.int 1))) (.idx (.v 0) (.c (.int 1))))) (.c (.int 2147483629))) (.c (.int 64)))) (.v 1)))
  .nil)))
def d5 : Df := ⟨2, 3, b5⟩
/-- _law_choice -/
def b6 : Ss := (.cons (.ret (.idx (.v 1) (.call 5 (.cons (.v 0) (.cons (.b1 .len (.v 1)) .nil)))))
  .nil)
def d6 : Df := ⟨2, 2, b6⟩
/-- _law_letters -/
def b7 : Ss := (.cons (.set 3 (.bin .add (.v 1) (.call 5 (.cons (.v 0) (.cons (.bin .add (.bin .sub (.v 2) (.v 1)) (.c (.int 1))) .nil)))))
  (.cons (.ret (.m1 .join (.c (.str [])) (.comp [4] (.call 6 (.cons (.v 0) (.cons (.lst (.cons (.c (.str [97])) (.cons (.c (.str [97])) (.cons (.c (.str [98])) (.cons (.c (.str [98])) (.cons (.c (.str [99])) (.cons (.c (.str [100])) (.cons (.c (.str [101])) .nil)))))))) .nil))) (.nm 4) (.rng (.cons (.v 3) .nil)) .no)))
  .nil))
def d7 : Df := ⟨3, 5, b7⟩
/-- law -/
def b170 : Ss := (.cons (.for_ (.nm 1) (.rng (.cons (.bin .add (.c (.int 1)) (.b2 .min (.b1 .len (.v 0)) (.c (.int 8)))) .nil)) (.cons (.set 4 (.call 4 (.cons (.v 0) (.cons (.v 1) .nil))))
  (.cons (.for_ (.nm 5) (.rng (.cons (.c (.int 4)) .nil)) (.cons (.par [(false, 8), (true, 9)] (.cons (.call 5 (.cons (.v 4) (.cons (.c (.int 3)) .nil))) (.cons (.lst .nil) .nil)))
  (.cons (.for_ (.nm 6) (.rng (.cons (.bin .add (.c (.int 1)) (.call 5 (.cons (.v 4) (.cons (.c (.int 6)) .nil)))) .nil)) (.cons (.set 10 (.call 7 (.cons (.v 4) (.cons (.c (.int 1)) (.cons (.c (.int 2)) .nil)))))
  (.cons (.set 11 (.call 7 (.cons (.v 4) (.cons (.bin .add (.b1 .len (.v 10)) (.v 8)) (.cons (.bin .add (.b1 .len (.v 10)) (.v 8)) .nil)))))
  (.cons (.ite (.and (.cmp .ne (.v 10) (.v 11)) (.cmp .nin (.v 10) (.comp [2] (.idx (.v 2) (.c (.int 1))) (.nm 2) (.e (.vo 9)) .no))) (.cons (.app 9 (.tup (.cons (.c (.str [101, 110, 100])) (.cons (.v 10) (.cons (.v 11) .nil)))))
  .nil) .nil)
  .nil))))
  (.cons (.par [(false, 12), (false, 13)] (.cons (.b1 .tuple (.b1 .sorted (.vo 9))) (.cons (.call 7 (.cons (.v 4) (.cons (.c (.int 1)) (.cons (.c (.int 9)) .nil)))) .nil)))
  (.cons (.par [(false, 14), (false, 15)] (.cons (.bin .add (.c (.int 1)) (.call 5 (.cons (.v 4) (.cons (.c (.int 40)) .nil)))) (.cons (.call 62 (.cons (.v 12) (.cons (.v 13) .nil))) .nil)))
  (.cons (.set 7 (.call 152 (.cons (.v 12) (.cons (.v 13) (.cons (.v 14) .nil)))))
  (.cons (.ite (.not (.chain .le .le (.b1 .len (.v 13)) (.v 7) (.bin .add (.b1 .len (.v 13)) (.bin .mul (.v 8) (.v 14))))) (.cons (.ret (.c (.bl false)))
  .nil) .nil)
  (.cons (.ite (.and (.cmp .isn (.v 15) (.c .non)) (.cmp .gt (.v 8) (.c (.int 0)))) (.cons (.ite (.or (.cmp .lt (.v 7) (.bin .add (.b1 .len (.v 13)) (.bin .mul (.v 8) (.v 14)))) (.cmp .notn (.call 156 (.cons (.v 12) (.cons (.v 13) .nil))) (.c .non))) (.cons (.ret (.c (.bl false)))
  .nil) .nil)
  (.cons (.ite (.or (.cmp .ne (.call 155 (.cons (.v 12) (.cons (.v 13) (.cons (.v 7) .nil)))) (.v 14)) (.cmp .ne (.call 155 (.cons (.v 12) (.cons (.v 13) (.cons (.bin .sub (.v 7) (.v 8)) .nil)))) (.bin .sub (.v 14) (.c (.int 1))))) (.cons (.ret (.c (.bl false)))
  .nil) .nil)
  (.cons (.ite (.cmp .ne (.call 152 (.cons (.v 12) (.cons (.v 13) (.cons (.bin .pow (.c (.int 10)) (.c (.int 18))) .nil)))) (.bin .add (.b1 .len (.v 13)) (.bin .mul (.v 8) (.bin .pow (.c (.int 10)) (.c (.int 18)))))) (.cons (.ret (.c (.bl false)))
  .nil) .nil)
  .nil))) .nil)
  (.cons (.ite (.cmp .eq (.v 8) (.c (.int 0))) (.cons (.ite (.or (.cmp .isn (.call 156 (.cons (.v 12) (.cons (.v 13) .nil))) (.c .non)) (.cmp .notn (.call 155 (.cons (.v 12) (.cons (.v 13) (.cons (.bin .add (.b1 .len (.v 13)) (.c (.int 1))) .nil)))) (.c .non))) (.cons (.ret (.c (.bl false)))
  .nil) .nil)
  .nil) .nil)
  (.cons (.ite (.and (.cmp .notn (.v 15) (.c .non)) (.cmp .ne (.call 152 (.cons (.v 12) (.cons (.v 13) (.cons (.bin .pow (.c (.int 10)) (.c (.int 18))) .nil)))) (.bin .add (.b1 .len (.v 13)) (.bin .mul (.v 8) (.idx (.v 15) (.c (.int 0))))))) (.cons (.ret (.c (.bl false)))
  .nil) .nil)
  .nil))))))))))
  .nil)))
  (.cons (.set 2 (.tup (.cons (.tup (.cons (.c (.str [101, 110, 100])) (.cons (.c (.str [97])) (.cons (.c (.str [98, 98])) .nil)))) (.cons (.tup (.cons (.c (.str [101, 110, 100])) (.cons (.c (.str [99])) (.cons (.c (.str [100, 100])) .nil)))) .nil))))
  (.cons (.ite (.or (.cmp .ne (.comp [14] (.call 152 (.cons (.v 2) (.cons (.c (.str [101, 101, 97])) (.cons (.v 14) .nil)))) (.nm 14) (.e (.lst (.cons (.c (.int 0)) (.cons (.c (.int 1)) (.cons (.c (.int 2)) (.cons (.c (.int 9)) .nil)))))) .no) (.lst (.cons (.c (.int 3)) (.cons (.c (.int 4)) (.cons (.c (.int 4)) (.cons (.c (.int 4)) .nil)))))) (.cmp .ne (.call 156 (.cons (.v 2) (.cons (.c (.str [101, 99])) .nil))) (.tup (.cons (.c (.int 1)) (.cons (.c (.int 1)) .nil))))) (.cons (.ret (.c (.bl false)))
  .nil) .nil)
  (.cons (.set 3 (.tup (.cons (.tup (.cons (.c (.str [101, 110, 100])) (.cons (.c (.str [97])) (.cons (.c (.str [99, 97])) .nil)))) (.cons (.tup (.cons (.c (.str [101, 110, 100])) (.cons (.c (.str [99, 97])) (.cons (.c (.str [98, 99, 97])) .nil)))) .nil))))
  (.cons (.ite (.cmp .ne (.call 155 (.cons (.tup (.cons (.tup (.cons (.c (.str [101, 110, 100])) (.cons (.c (.str [97])) (.cons (.c (.str [98, 98])) .nil)))) (.cons (.tup (.cons (.c (.str [101, 110, 100])) (.cons (.c (.str [98])) (.cons (.c (.str [99, 97])) .nil)))) .nil))) (.cons (.c (.str [97])) (.cons (.bin .pow (.c (.int 10)) (.c (.int 6))) .nil)))) (.c (.int 999999))) (.cons (.ret (.c (.bl false)))
  .nil) .nil)
  (.cons (.ret (.and (.cmp .eq (.call 155 (.cons (.v 3) (.cons (.c (.str [97])) (.cons (.c (.int 9)) .nil)))) (.c (.int 8))) (.and (.cmp .isn (.call 155 (.cons (.v 2) (.cons (.c (.str [101, 101, 97])) (.cons (.c (.int 5)) .nil)))) (.c .non)) (.cmp .eq (.call 155 (.cons (.v 3) (.cons (.c (.str [101, 101, 101, 97])) (.cons (.c (.int 4)) .nil)))) (.c (.int 0))))))
  .nil))))))
def d170 : Df := ⟨1, 16, b170⟩
def GD : Nat → Option Df
  | 52 => some d52
  | 0 => some d0
  | 1 => some d1
  | 2 => some d2
  | 15 => some d15
  | 16 => some d16
  | 18 => some d18
  | 19 => some d19
  | 150 => some d150
  | 151 => some d151
  | 152 => some d152
  | 155 => some d155
  | 156 => some d156
  | 61 => some d61
  | 62 => some d62
  | 4 => some d4
  | 5 => some d5
  | 6 => some d6
  | 7 => some d7
  | 170 => some d170
  | _ => none
end MWL
set_option Elab.async false
set_option linter.all false
set_option maxRecDepth 100000
set_option maxHeartbeats 4000000
set_option autoImplicit false
/-! Plain: the operators at typed values. -/
namespace MW
open PySem PySem.Spec PyProof.Rows L2

section
variable {Q : Rs → Prop} {R : Bool → Prop} {P : D → Prop}
theorem big_iff {n : Nat} : big n = true ↔ n ≤ 16777216 := by unfold big; rw [decide_eq_true_iff]; rfl
theorem add_int {i j : Int} : Op (opB .add (.int i) (.int j)) Q ↔ Q (.sh (.int (i + j))) := by simp only [opB, Op_some]
theorem add_str {x y : List Nat} : Op (opB .add (.str x) (.str y)) Q ↔ x.length + y.length ≤ 16777216 ∧ Q (.sh (.str (x ++ y))) := by simp only [opB, Op_guard, Op_some, big_iff]
theorem add_tup {x y : List D} : Op (opB .add (.tup x) (.tup y)) Q ↔ x.length + y.length ≤ 16777216 ∧ Q (.sh (.tup (x ++ y))) := by simp only [opB, Op_guard, Op_some, big_iff]
theorem add_lst {x y : List D} : Op (opB .add (.lst x) (.lst y)) Q ↔ x.length + y.length ≤ 16777216 ∧ Q (.fr (.lst (x ++ y))) := by simp only [opB, Op_guard, Op_some, big_iff]
theorem sub_int {i j : Int} : Op (opB .sub (.int i) (.int j)) Q ↔ Q (.sh (.int (i - j))) := by simp only [opB, Op_some]
theorem mul_int {i j : Int} : Op (opB .mul (.int i) (.int j)) Q ↔ ((-(2 ^ 64) < i ∧ i < 2 ^ 64) ∨ (-(2 ^ 64) < j ∧ j < 2 ^ 64)) ∧ Q (.sh (.int (i * j))) := by simp only [opB, Op_guard, Op_some, Bool.or_eq_true, Bool.and_eq_true, decide_eq_true_iff]
theorem mul_str {x : List Nat} {k : Int} : Op (opB .mul (.str x) (.int k)) Q ↔ ((0 ≤ k ∧ k ≤ 1000000) ∧ x.length * k.toNat ≤ 16777216) ∧ Q (.sh (.str (repL x k))) := by simp only [opB, Op_guard, Op_some, Bool.and_eq_true, decide_eq_true_iff, big_iff]
theorem fdiv_int {i j : Int} : Op (opB .fdiv (.int i) (.int j)) Q ↔ (0 < j ∧ j.natAbs < 2 ^ 100) ∧ Q (.sh (.int (i / j))) := by simp only [opB, Op_guard, Op_some, Bool.and_eq_true, decide_eq_true_iff]
theorem mod_int {i j : Int} : Op (opB .mod (.int i) (.int j)) Q ↔ 0 < j ∧ Q (.sh (.int (i % j))) := by simp only [opB, Op_guard, Op_some, decide_eq_true_iff]
theorem eq_str {x y : List Nat} : Op (opC .eq (.str x) (.str y)) R ↔ R (decide (x = y)) := by simp only [opC, eqF, Op_some]
theorem ne_str {x y : List Nat} : Op (opC .ne (.str x) (.str y)) R ↔ R (!decide (x = y)) := by simp only [opC, eqF, Op_some]
theorem eq_int {x y : Int} : Op (opC .eq (.int x) (.int y)) R ↔ R (decide (x = y)) := by simp only [opC, eqF, Op_some]
theorem ne_int {x y : Int} : Op (opC .ne (.int x) (.int y)) R ↔ R (!decide (x = y)) := by simp only [opC, eqF, Op_some]
theorem eq_bl {x y : Bool} : Op (opC .eq (.bl x) (.bl y)) R ↔ R (decide (x = y)) := by simp only [opC, eqF, Op_some]
theorem ne_bl {x y : Bool} : Op (opC .ne (.bl x) (.bl y)) R ↔ R (!decide (x = y)) := by simp only [opC, eqF, Op_some]
theorem eq_sn {x : List Nat} : Op (opC .eq (.str x) .non) R ↔ R false := by simp only [opC, eqF, Op_some]
theorem lt_int {i j : Int} : Op (opC .lt (.int i) (.int j)) R ↔ R (decide (i < j)) := by simp only [opC, Op_some]
theorem le_int {i j : Int} : Op (opC .le (.int i) (.int j)) R ↔ R (decide (i ≤ j)) := by simp only [opC, Op_some]
theorem gt_int {i j : Int} : Op (opC .gt (.int i) (.int j)) R ↔ R (decide (j < i)) := by simp only [opC, Op_some]
theorem ge_int {i j : Int} : Op (opC .ge (.int i) (.int j)) R ↔ R (decide (j ≤ i)) := by simp only [opC, Op_some]
theorem isn_any {x : D} : Op (opC .isn x .non) R ↔ R (isNonD x) := by cases x <;> simp only [opC, Op_some]
theorem notn_any {x : D} : Op (opC .notn x .non) R ↔ R (!isNonD x) := by cases x <;> simp only [opC, Op_some]
theorem isn_bl {x y : Bool} : Op (opC .isn (.bl x) (.bl y)) R ↔ R (decide (x = y)) := by simp only [opC, Op_some]
theorem notn_bl {x y : Bool} : Op (opC .notn (.bl x) (.bl y)) R ↔ R (!decide (x = y)) := by simp only [opC, Op_some]
theorem in_sign {c : Nat} {y : List Nat} : Op (opC .inn (.str [c]) (.str y)) R ↔ R (decide (c ∈ y)) := by simp only [opC, Op_some]
theorem nin_sign {c : Nat} {y : List Nat} : Op (opC .nin (.str [c]) (.str y)) R ↔ R (!decide (c ∈ y)) := by simp only [opC, Op_some]
theorem len_str {x : List Nat} : Op (op1 .len (.str x)) Q ↔ x.length ≤ 16777216 ∧ Q (.sh (.int x.length)) := by simp only [op1, Op_guard, Op_some, big_iff]
theorem len_tup {x : List D} : Op (op1 .len (.tup x)) Q ↔ Q (.sh (.int x.length)) := by simp only [op1, Op_some]
theorem len_lst {x : List D} : Op (op1 .len (.lst x)) Q ↔ Q (.sh (.int x.length)) := by simp only [op1, Op_some]
theorem len_scr {x : List Int} : Op (op1 .len (.scr x)) Q ↔ Q (.sh (.int x.length)) := by simp only [op1, Op_some]
theorem boolsD_map {τ : Type} (f : τ → Bool) : ∀ xs : List τ, boolsD (xs.map fun x => .bl (f x)) = some (xs.map f)
  | [] => rfl
  | x :: xs => by simp only [List.map_cons, boolsD, boolsD_map f xs, Option.map_some]
theorem all_map {τ : Type} {f : τ → Bool} {xs : List τ} : Op (op1 .all (.lst (xs.map fun x => .bl (f x)))) Q ↔ Q (.sh (.bl (xs.all f))) := by
  simp only [op1, boolsD_map, Option.map_some, Op_some, List.all_map]; rfl
theorem any_map {τ : Type} {f : τ → Bool} {xs : List τ} : Op (op1 .any (.lst (xs.map fun x => .bl (f x)))) Q ↔ Q (.sh (.bl (xs.any f))) := by
  simp only [op1, boolsD_map, Option.map_some, Op_some, List.any_map]; rfl
theorem list_tup {x : List D} : Op (op1 .list (.tup x)) Q ↔ Q (.fr (.lst x)) := by simp only [op1, Op_some]
theorem list_lst {x : List D} : Op (op1 .list (.lst x)) Q ↔ Q (.fr (.lst x)) := by simp only [op1, Op_some]
theorem list_str {x : List Nat} : Op (op1 .list (.str x)) Q ↔ x.length ≤ 16777216 ∧ Q (.fr (.lst (signsD x))) := by simp only [op1, Op_guard, Op_some, big_iff]
theorem tuple_lst {x : List D} : Op (op1 .tuple (.lst x)) Q ↔ Q (.sh (.tup x)) := by simp only [op1, Op_some]
theorem tuple_tup {x : List D} : Op (op1 .tuple (.tup x)) Q ↔ Q (.sh (.tup x)) := by simp only [op1, Op_some]
theorem int_int {i : Int} : Op (op1 .int (.int i)) Q ↔ Q (.sh (.int i)) := by simp only [op1, Op_some]
theorem abs_int {i : Int} : Op (op1 .abs (.int i)) Q ↔ Q (.sh (.int (if i < 0 then -i else i))) := by simp only [op1, Op_some]
theorem min_int {i j : Int} : Op (op2 .min (.int i) (.int j)) Q ↔ Q (.sh (.int (if j < i then j else i))) := by simp only [op2, Op_some]
theorem own_sh {d : D} : Op (Rs.own? (.sh d)) P ↔ P d := by simp only [Rs.own?, Op_some]
theorem own_fr {d : D} : Op (Rs.own? (.fr d)) P ↔ P d := by simp only [Rs.own?, Op_some]
theorem bool_sh {b : Bool} : Op (boolOf (.sh (.bl b))) R ↔ R b := by simp only [boolOf, Op_some]
theorem int_sh {i : Int} {R : Int → Prop} : Op (intOf (.sh (.int i))) R ↔ R i := by simp only [intOf, Op_some]
theorem ends_str {x y : List Nat} : Op (opM1 .endswith (.str x) (.str y)) Q ↔ Q (.sh (.bl (y.isSuffixOf x))) := by simp only [opM1, Op_some]
theorem starts_str {x y : List Nat} : Op (opM1 .startswith (.str x) (.str y)) Q ↔ Q (.sh (.bl (y.isPrefixOf x))) := by simp only [opM1, Op_some]
def Asc (x : List Nat) : Prop := ∀ c ∈ x, c < 128
theorem lower_str {x : List Nat} : Op (opM0 .lower (.str x)) Q ↔ (Asc x ∧ x.length ≤ 5592405) ∧ Q (.sh (.str (x.map lo1))) := by simp only [opM0, Op_guard, Op_some, Bool.and_eq_true, List.all_eq_true, decide_eq_true_iff]; exact Iff.rfl
theorem upper_str {x : List Nat} : Op (opM0 .upper (.str x)) Q ↔ (Asc x ∧ x.length ≤ 5592405) ∧ Q (.sh (.str (x.map up1))) := by simp only [opM0, Op_guard, Op_some, Bool.and_eq_true, List.all_eq_true, decide_eq_true_iff]; exact Iff.rfl
theorem sl_lst {x : List D} {lo hi : Option Int} : Op (slD lo hi (.lst x)) Q ↔ Q (.fr (.lst (cutL x lo hi))) := by simp only [slD, Op_some]
theorem sl_tup {x : List D} {lo hi : Option Int} : Op (slD lo hi (.tup x)) Q ↔ Q (.sh (.tup (cutL x lo hi))) := by simp only [slD, Op_some]
theorem sl_str {x : List Nat} {lo hi : Option Int} : Op (slD lo hi (.str x)) Q ↔ x.length ≤ 16777216 ∧ Q (.sh (.str (cutL x lo hi))) := by simp only [slD, Op_guard, Op_some, big_iff]
theorem ix_lst {x : List D} {i : Int} {st : Store} : Op (ixD st (.lst x) (.int i)) P ↔ Op (atI x i) P := by simp only [ixD]
theorem ix_tup {x : List D} {i : Int} {st : Store} : Op (ixD st (.tup x) (.int i)) P ↔ Op (atI x i) P := by simp only [ixD]
theorem ix_scr {x : List Int} {i : Int} {st : Store} : Op (ixD st (.scr x) (.int i)) P ↔ Op (atI x i) fun j => P (.int j) := by simp only [ixD, Op_map]
theorem ix_str {x : List Nat} {i : Int} {st : Store} : Op (ixD st (.str x) (.int i)) P ↔ x.length ≤ 16777216 ∧ Op (atI x i) fun c => P (.str [c]) := by simp only [ixD, Op_guard, Op_map, big_iff]
theorem ix_cell {c : Nat} {i : Int} {st : Store} : Op (ixD st (.cell c) (.int i)) P ↔ Op (st[c]?) fun xs => Op (atI xs i) P := by simp only [ixD, Op_bind]
end
end MW
namespace MW
section
variable {R : Bool → Prop}
theorem isi_str {t : Ty} {x : List Nat} : Op (isiD t (.str x)) R ↔ R (match t with | .str => true | _ => false) := by cases t <;> simp only [isiD, Op_some]
theorem isi_tup {t : Ty} {x : List D} : Op (isiD t (.tup x)) R ↔ R (match t with | .tuple => true | _ => false) := by cases t <;> simp only [isiD, Op_some]
theorem isi_lst {t : Ty} {x : List D} : Op (isiD t (.lst x)) R ↔ R (match t with | .list => true | _ => false) := by cases t <;> simp only [isiD, Op_some]
theorem isi_int {t : Ty} {x : Int} : Op (isiD t (.int x)) R ↔ R (match t with | .int => true | _ => false) := by cases t <;> simp only [isiD, Op_some]
theorem isi_bl {t : Ty} {x : Bool} : Op (isiD t (.bl x)) R ↔ R (match t with | .int => true | .bool => true | _ => false) := by cases t <;> simp only [isiD, Op_some]
theorem isi_non {t : Ty} : Op (isiD t .non) R ↔ R false := by cases t <;> simp only [isiD, Op_some]
end
end MW
namespace MW
open PySem
/-! slices, indices, data's ==, order -/
theorem cut_from {α : Type} (xs : List α) {i : Int} (h : 0 ≤ i) : cutL xs (some i) none = xs.drop i.toNat := by
  unfold cutL HT.sIx
  simp only [if_neg (show ¬ i < 0 by omega)]
  by_cases hl : i.toNat ≤ xs.length
  · rw [Nat.min_eq_left hl, ← List.length_drop, List.take_length]
  · rw [Nat.min_eq_right (by omega), List.drop_length, List.drop_eq_nil_of_le (by omega)]; simp
theorem cut_to {α : Type} (xs : List α) {i : Int} (h : 0 ≤ i) : cutL xs none (some i) = xs.take i.toNat := by
  unfold cutL HT.sIx
  simp only [if_neg (show ¬ i < 0 by omega)]
  by_cases hl : i.toNat ≤ xs.length
  · rw [Nat.min_eq_left hl]; simp
  · rw [Nat.min_eq_right (by omega)]; simp [List.take_of_length_le (show xs.length ≤ i.toNat by omega)]
theorem cut_all {α : Type} (xs : List α) : cutL xs none none = xs := by
  unfold cutL HT.sIx; simp
theorem at_nat {α : Type} {xs : List α} {i : Int} {R : α → Prop} (h : 0 ≤ i) : Op (L2.atI xs i) R ↔ Op (xs[i.toNat]?) R := by
  unfold L2.atI L2.ixN
  rw [if_pos h]
  by_cases hl : i < xs.length
  · rw [if_pos hl]; simp only [Option.bind_some]
  · rw [if_neg hl, List.getElem?_eq_none (by omega)]; rfl
theorem zipD_map {τ σ : Type} (f : τ → D) (g : σ → D) : ∀ (xs : List τ) (ys : List σ), zipD (xs.map f) (ys.map g) = (xs.zip ys).map fun p => .tup [f p.1, g p.2]
  | [], ys => by cases ys <;> rfl
  | x :: xs, [] => rfl
  | x :: xs, y :: ys => by simp only [List.map_cons, zipD, zipD_map f g xs ys, List.zip_cons_cons]
theorem eqv_str {x y : List Nat} : PyData.eqv (D.str x).py (D.str y).py = decide (x = y) := by
  rw [D.py, D.py, PyData.eqv, Bool.eq_iff_iff]
  simp
theorem eqv_tup {x y : List D} : PyData.eqv (D.tup x).py (D.tup y).py = PyData.eqvAll (pyAll x) (pyAll y) := by rw [D.py, D.py, PyData.eqv]
theorem eqv_lst {x y : List D} : PyData.eqv (D.lst x).py (D.lst y).py = PyData.eqvAll (pyAll x) (pyAll y) := by rw [D.py, D.py, PyData.eqv]
theorem eqv_int {x y : Int} : PyData.eqv (D.int x).py (D.int y).py = decide (x = y) := by rw [D.py, D.py, PyData.eqv]; rfl
theorem eqv_bl {x y : Bool} : PyData.eqv (D.bl x).py (D.bl y).py = decide (x = y) := by rw [D.py, D.py, PyData.eqv]; cases x <;> cases y <;> rfl
theorem eqvAll_cons {x y : D} {xs ys : List D} : PyData.eqvAll (pyAll (x :: xs)) (pyAll (y :: ys)) = (PyData.eqv x.py y.py && PyData.eqvAll (pyAll xs) (pyAll ys)) := by rw [pyAll, pyAll, PyData.eqvAll]
theorem eqvAll_nil : PyData.eqvAll (pyAll []) (pyAll []) = true := by rw [pyAll, PyData.eqvAll]
theorem eqvAll_nc {x : D} {xs : List D} : PyData.eqvAll (pyAll []) (pyAll (x :: xs)) = false := by rw [pyAll, pyAll, PyData.eqvAll]
theorem eqvAll_cn {x : D} {xs : List D} : PyData.eqvAll (pyAll (x :: xs)) (pyAll []) = false := by rw [pyAll, pyAll, PyData.eqvAll]
/-! data that may be compared: no dict, no cell, codes of signs, not deep -/
mutual
def plD : Nat → D → Bool
  | _, .non => true
  | _, .bl _ => true
  | _, .int _ => true
  | _, .str x => x.all (· < 0x110000)
  | n + 1, .tup xs => plL n xs
  | n + 1, .lst xs => plL n xs
  | _, _ => false
def plL : Nat → List D → Bool
  | _, [] => true
  | n, x :: xs => plD n x && plL n xs
end
mutual
theorem plD_ok : ∀ (n : Nat) (d : D), plD n d = true → d.py.canLay0 = true ∧ d.py.depth ≤ n
  | n, .non, _ => by rw [D.py]; exact ⟨rfl, Nat.zero_le _⟩
  | n, .bl _, _ => by rw [D.py]; exact ⟨rfl, Nat.zero_le _⟩
  | n, .int _, _ => by rw [D.py]; exact ⟨rfl, Nat.zero_le _⟩
  | n, .str x, h => by
    rw [D.py]
    refine ⟨?_, Nat.zero_le _⟩
    rw [plD] at h
    rw [PyData.canLay0]
    unfold PyData.strOk
    simpa using h
  | 0, .tup _, h => by rw [plD] at h <;> first | cases h | (intros; contradiction)
  | 0, .lst _, h => by rw [plD] at h <;> first | cases h | (intros; contradiction)
  | n + 1, .tup xs, h => by
    rw [plD] at h
    obtain ⟨h1, h2⟩ := plL_ok n xs h
    rw [D.py, PyData.canLay0, PyData.depth]
    exact ⟨h1, Nat.succ_le_succ h2⟩
  | n + 1, .lst xs, h => by
    rw [plD] at h
    obtain ⟨h1, h2⟩ := plL_ok n xs h
    rw [D.py, PyData.canLay0, PyData.depth]
    exact ⟨h1, Nat.succ_le_succ h2⟩
  | 0, .dic _, h => by rw [plD] at h <;> first | cases h | (intros; contradiction)
  | 0, .scr _, h => by rw [plD] at h <;> first | cases h | (intros; contradiction)
  | 0, .cell _, h => by rw [plD] at h <;> first | cases h | (intros; contradiction)
  | n + 1, .dic _, h => by rw [plD] at h <;> first | cases h | (intros; contradiction)
  | n + 1, .scr _, h => by rw [plD] at h <;> first | cases h | (intros; contradiction)
  | n + 1, .cell _, h => by rw [plD] at h <;> first | cases h | (intros; contradiction)
theorem plL_ok : ∀ (n : Nat) (ds : List D), plL n ds = true → PyData.canLayAll0 (pyAll ds) = true ∧ PyData.depthAll (pyAll ds) ≤ n
  | n, [], _ => by rw [pyAll]; exact ⟨rfl, Nat.zero_le _⟩
  | n, d :: ds, h => by
    rw [plL, Bool.and_eq_true] at h
    obtain ⟨h1, h2⟩ := plD_ok n d h.1
    obtain ⟨h3, h4⟩ := plL_ok n ds h.2
    rw [pyAll, PyData.canLayAll0, PyData.depthAll, Bool.and_eq_true]
    exact ⟨⟨h1, h3⟩, Nat.max_le.mpr ⟨h2, h4⟩⟩
end
theorem pl_of {d : D} (h : plD 60 d = true) : d.pl = true := by
  obtain ⟨h1, h2⟩ := plD_ok 60 d h
  unfold D.pl SeqAt.shaped
  rw [h1, Bool.true_and, decide_eq_true_iff]
  omega
theorem plL_map {τ : Type} {n : Nat} {f : τ → D} : ∀ {xs : List τ}, (∀ x ∈ xs, plD n (f x) = true) → plL n (xs.map f) = true
  | [], _ => by rw [List.map_nil, plL]
  | x :: xs, h => by rw [List.map_cons, plL, h x List.mem_cons_self, plL_map fun y hy => h y (List.mem_cons_of_mem _ hy)]; rfl
section
variable {R : Bool → Prop}
theorem eq_tup {x y : List D} : Op (opC .eq (.tup x) (.tup y)) R ↔ ((D.tup x).pl = true ∧ (D.tup y).pl = true) ∧ R (PyData.eqv (D.tup x).py (D.tup y).py) := by simp only [opC, eqF, Op_guard, Op_some, Bool.and_eq_true]
theorem ne_tup {x y : List D} : Op (opC .ne (.tup x) (.tup y)) R ↔ ((D.tup x).pl = true ∧ (D.tup y).pl = true) ∧ R (!PyData.eqv (D.tup x).py (D.tup y).py) := by simp only [opC, eqF, Op_guard, Op_some, Bool.and_eq_true]
theorem eq_lst {x y : List D} : Op (opC .eq (.lst x) (.lst y)) R ↔ ((D.lst x).pl = true ∧ (D.lst y).pl = true) ∧ R (PyData.eqv (D.lst x).py (D.lst y).py) := by simp only [opC, eqF, Op_guard, Op_some, Bool.and_eq_true]
theorem ne_lst {x y : List D} : Op (opC .ne (.lst x) (.lst y)) R ↔ ((D.lst x).pl = true ∧ (D.lst y).pl = true) ∧ R (!PyData.eqv (D.lst x).py (D.lst y).py) := by simp only [opC, eqF, Op_guard, Op_some, Bool.and_eq_true]
theorem lt_tup {x y : List D} : Op (opC .lt (.tup x) (.tup y)) R ↔ (PySem.W.alike (D.tup x).py (D.tup y).py = true ∧ (D.tup x).pl = true ∧ (D.tup y).pl = true) ∧ R (PySem.W.dataLt (D.tup x).py (D.tup y).py) := by simp only [opC, Op_guard, Op_some, Bool.and_eq_true]
theorem in_lst {x : D} {y : List D} : Op (opC .inn x (.lst y)) R ↔ (x.pl = true ∧ (D.lst y).pl = true) ∧ R (y.any fun z => PyData.eqv z.py x.py) := by
  cases x <;> simp only [opC, Op_guard, Op_some, Bool.and_eq_true]
theorem nin_lst {x : D} {y : List D} : Op (opC .nin x (.lst y)) R ↔ (x.pl = true ∧ (D.lst y).pl = true) ∧ R (!y.any fun z => PyData.eqv z.py x.py) := by
  cases x <;> simp only [opC, Op_guard, Op_some, Bool.and_eq_true]
theorem nin_tup {x : D} {y : List D} : Op (opC .nin x (.tup y)) R ↔ (flatD x = true ∧ y.all flatD = true) ∧ R (!y.any fun z => PyData.eqv z.py x.py) := by
  cases x <;> simp only [opC, Op_guard, Op_some, Bool.and_eq_true]
end
end MW
namespace MW
section
variable {α : Type} {R : α → Prop} {a b c d : α} {l : List α}
theorem at_0 : Op (L2.atI (a :: l) 0) R ↔ R a := by rw [at_nat (by decide)]; simp only [Int.toNat_zero, List.getElem?_cons_zero, Op_some]
theorem at_1 : Op (L2.atI (a :: b :: l) 1) R ↔ R b := by rw [at_nat (by decide)]; show Op (some b) R ↔ _; rw [Op_some]
theorem at_2 : Op (L2.atI (a :: b :: c :: l) 2) R ↔ R c := by rw [at_nat (by decide)]; show Op (some c) R ↔ _; rw [Op_some]
theorem at_3 : Op (L2.atI (a :: b :: c :: d :: l) 3) R ↔ R d := by rw [at_nat (by decide)]; show Op (some d) R ↔ _; rw [Op_some]
end
end MW
namespace MW
theorem strsD_maps {τ : Type} (f : τ → List Nat) : ∀ xs : List τ, strsD (xs.map fun x => .str (f x)) = some (xs.map f)
  | [] => rfl
  | x :: xs => by simp only [List.map_cons, strsD, strsD_maps f xs, Option.map_some]
theorem ss_lst {zs : List (List Nat)} {Q : Rs → Prop} : Op (ssD (.lst (zs.map D.str))) Q ↔ zs.length + 1 < 4096 ∧ Q (.fr (.lst ((sortT (onceT zs)).map .str))) := by
  have : strsD (zs.map D.str) = some zs := by
    have := strsD_maps (fun x : List Nat => x) zs
    simpa using this
  simp only [ssD, this, Op_some, Op_guard, decide_eq_true_iff]
theorem tupsT_map : ∀ zs : List (List (List Nat)), tupsT (zs.map dT) = some zs
  | [] => rfl
  | z :: zs => by
    have h1 : strsD (z.map D.str) = some z := by
      have := strsD_maps (fun x : List Nat => x) z
      simpa using this
    rw [List.map_cons]
    show ((strsD (z.map D.str)).bind fun z => (tupsT (zs.map dT)).map (z :: ·)) = _
    rw [h1, tupsT_map zs]; rfl
theorem ss_tups {zs : List (List (List Nat))} {Q : Rs → Prop} (h1 : zs.length < 64) (h2 : ∀ z ∈ zs, z ≠ []) (q : Q (.fr (.lst ((sortK (onceK zs)).map dT)))) : Op (ssD (.lst (zs.map dT))) Q := by
  cases zs with
  | nil =>
    have e1 : sortK (onceK []) = [] := by simp [onceK, sortK]
    have e2 : sortT (onceT []) = [] := by simp [onceT, sortT]
    rw [e1] at q
    refine (ss_lst (zs := [])).mpr ⟨by decide, ?_⟩
    rw [e2]; exact q
  | cons z zs =>
    have e : strsD ((z :: zs).map dT) = none := rfl
    have n : ((z :: zs).all fun z => !z.isEmpty) = true := by
      rw [List.all_eq_true]
      intro x m
      have := h2 x m
      cases x with
      | nil => exact absurd rfl this
      | cons _ _ => rfl
    have n' : (decide ((z :: zs).length < 64) && (z :: zs).all fun z => !z.isEmpty) = true := by rw [n, decide_eq_true h1]; rfl
    have r : ssD (.lst ((z :: zs).map dT)) = some (.fr (.lst ((sortK (onceK (z :: zs))).map dT))) := by
      unfold ssD
      simp only [e]
      rw [tupsT_map]
      exact if_pos n'
    rw [r]
    exact Op_some.mpr q
theorem eqvAll_strs : ∀ (xs ys : List (List Nat)), PySem.PyData.eqvAll (pyAll (xs.map D.str)) (pyAll (ys.map D.str)) = decide (xs = ys)
  | [], [] => by simp [eqvAll_nil]
  | [], y :: ys => by simp [eqvAll_nc]
  | x :: xs, [] => by simp [eqvAll_cn]
  | x :: xs, y :: ys => by
    rw [List.map_cons, List.map_cons, eqvAll_cons, eqv_str, eqvAll_strs xs ys]
    by_cases h1 : x = y <;> by_cases h2 : xs = ys <;> simp [h1, h2]
theorem eqv_strs {xs ys : List (List Nat)} : PySem.PyData.eqv (D.lst (xs.map D.str)).py (D.lst (ys.map D.str)).py = decide (xs = ys) := by rw [eqv_lst, eqvAll_strs]
theorem any_strs {x : List Nat} {ys : List (List Nat)} : ((ys.map D.str).any fun z => PySem.PyData.eqv z.py (D.str x).py) = decide (x ∈ ys) := by
  rw [List.any_map, Bool.eq_iff_iff, List.any_eq_true, decide_eq_true_iff]
  constructor
  · rintro ⟨y, hy, h⟩
    simp only [Function.comp, eqv_str, decide_eq_true_iff] at h
    exact h ▸ hy
  · intro h
    exact ⟨x, h, by simp [eqv_str]⟩
end MW
set_option Elab.async false
set_option linter.all false
set_option maxRecDepth 100000
set_option maxHeartbeats 4000000
set_option autoImplicit false
/-! Plain: the rules by constructs. -/
namespace MW
open PySem PySem.Spec PyProof.Rows L2

def outQ (Q : Rs → Store → Prop) (fl : Fl) (en : En) (st : Store) : Prop := match fl with
  | .nx => Q (.sh .non) st
  | .ret r => Q r st
  | .brk => False
  | .cont => False
def seqQ (W : Wd) (ss : Ss) (Q : Fl → En → Store → Prop) (fl : Fl) (en : En) (st : Store) : Prop := match fl with
  | .nx => EvS (evSs W ss en st) Q
  | .ret r => Q (.ret r) en st
  | .brk => Q .brk en st
  | .cont => Q .cont en st
section
variable {W : Wd} {env : En} {st : Store} {Q : Rs → Store → Prop} {a b c : E} {es : Es}
theorem outQ_nx {en : En} : outQ Q .nx en st = Q (.sh .non) st := rfl
theorem outQ_ret {en : En} {r : Rs} : outQ Q (.ret r) en st = Q r st := rfl
theorem outQ_brk {en : En} : outQ Q .brk en st = False := rfl
theorem outQ_cont {en : En} : outQ Q .cont en st = False := rfl
theorem d_sh {d : D} : (Rs.sh d).d = d := rfl
theorem d_fr {d : D} : (Rs.fr d).d = d := rfl
theorem d_vw {d : D} : (Rs.vw d).d = d := rfl
theorem vw_sh {d : D} : (Rs.sh d).vwB = false := rfl
theorem vw_fr {d : D} : (Rs.fr d).vwB = false := rfl
theorem vw_vw {d : D} : (Rs.vw d).vwB = true := rfl
theorem OpE {F : Rs × Store → Prop} : Op (evE W a env st) F ↔ Ev (evE W a env st) fun x s => F (x, s) := ⟨fun ⟨r, e, h⟩ => ⟨r.1, r.2, e, h⟩, fun ⟨x, s, e, h⟩ => ⟨(x, s), e, h⟩⟩
theorem wE_c {d : D} : Ev (evE W (.c d) env st) Q ↔ Q (.sh d) st := by rw [evE, Ev_some]
theorem wE_v {i : Nat} : Ev (evE W (.v i) env st) Q ↔ Op (env.at i) fun d => Q (.sh d) st := by rw [evE, Ev_opm]
theorem wE_vo {i : Nat} : Ev (evE W (.vo i) env st) Q ↔ Op (env.at i) fun d => Q (.vw d) st := by rw [evE, Ev_opm]
theorem wE_bin {op : BOp} : Ev (evE W (.bin op a b) env st) Q ↔ Ev (evE W a env st) fun x s => Ev (evE W b env s) fun y s => Op (opB op x.d y.d) fun r => Q r s := by
  rw [evE, Ev_bind]; simp only [Ev_bind, Ev_opm]
theorem wE_neg : Ev (evE W (.neg a) env st) Q ↔ Ev (evE W a env st) fun x s => Op (intOf x) fun i => Q (.sh (.int (-i))) s := by rw [evE, Ev_bind]; simp only [Ev_opm]
theorem wE_not : Ev (evE W (.not a) env st) Q ↔ Ev (evE W a env st) fun x s => Op (boolOf x) fun i => Q (.sh (.bl (!i))) s := by rw [evE, Ev_bind]; simp only [Ev_opm]
theorem wE_cmp {op : COp} : Ev (evE W (.cmp op a b) env st) Q ↔ Ev (evE W a env st) fun x s => Ev (evE W b env s) fun y s => Op (opC op x.d y.d) fun r => Q (.sh (.bl r)) s := by
  rw [evE, Ev_bind]; simp only [Ev_bind, Ev_opm]
theorem wE_chain {op op' : COp} : Ev (evE W (.chain op op' a b c) env st) Q ↔ Ev (evE W a env st) fun x s => Ev (evE W b env s) fun y s => Op (opC op x.d y.d) fun r => if r = true then Ev (evE W c env s) fun z s => Op (opC op' y.d z.d) fun r => Q (.sh (.bl r)) s else Q (.sh (.bl false)) s := by
  rw [evE]; simp only [Ev_opb, Ev_ite, Ev_some, Ev_opm, OpE]
theorem wE_and : Ev (evE W (.and a b) env st) Q ↔ Ev (evE W a env st) fun x s => Op (boolOf x) fun r => if r = true then Ev (evE W b env s) Q else Q (.sh (.bl false)) s := by
  rw [evE, Ev_bind]; simp only [Ev_opb, Ev_ite, Ev_some]
theorem wE_or : Ev (evE W (.or a b) env st) Q ↔ Ev (evE W a env st) fun x s => Op (boolOf x) fun r => if r = true then Q (.sh (.bl true)) s else Ev (evE W b env s) Q := by
  rw [evE, Ev_bind]; simp only [Ev_opb, Ev_ite, Ev_some]
theorem wE_ite : Ev (evE W (.ite c a b) env st) Q ↔ Ev (evE W c env st) fun x s => Op (boolOf x) fun r => if r = true then Ev (evE W a env s) Q else Ev (evE W b env s) Q := by
  rw [evE, Ev_bind]; simp only [Ev_opb, Ev_ite]
theorem wE_call {f : Nat} : Ev (evE W (.call f es) env st) Q ↔ Ev (evEs W es env st) fun ds s => Ev (W.call f ds s) Q := by rw [evE, Ev_bind]
theorem wE_b1 {f : B1} : Ev (evE W (.b1 f a) env st) Q ↔ Ev (evE W a env st) fun x s => Op (op1 f x.d) fun r => Q r s := by rw [evE, Ev_bind]; simp only [Ev_opm]
theorem wE_b2 {f : B2} : Ev (evE W (.b2 f a b) env st) Q ↔ Ev (evE W a env st) fun x s => Ev (evE W b env s) fun y s => Op (op2 f x.d y.d) fun r => Q r s := by rw [evE, Ev_bind]; simp only [Ev_bind, Ev_opm]
theorem wE_isi {t : Ty} : Ev (evE W (.isi t a) env st) Q ↔ Ev (evE W a env st) fun x s => Op (isiD t x.d) fun r => Q (.sh (.bl r)) s := by rw [evE, Ev_bind]; simp only [Ev_opm]
theorem wE_m0 {f : M0} : Ev (evE W (.m0 f a) env st) Q ↔ Ev (evE W a env st) fun x s => Op (opM0 f x.d) fun r => Q r s := by rw [evE, Ev_bind]; simp only [Ev_opm]
theorem wE_m1 {f : M1} : Ev (evE W (.m1 f a b) env st) Q ↔ Ev (evE W a env st) fun x s => Ev (evE W b env s) fun y s => Op (opM1 f x.d y.d) fun r => Q r s := by rw [evE, Ev_bind]; simp only [Ev_bind, Ev_opm]
theorem wE_idx : Ev (evE W (.idx a b) env st) Q ↔ Ev (evE W a env st) fun x s => Ev (evE W b env s) fun y s => Op (ixD s x.d y.d) fun r => Q (.sh r) s := by rw [evE, Ev_bind]; simp only [Ev_bind, Ev_opm]
theorem wE_sl {lo hi : Eo} : Ev (evE W (.sl a lo hi) env st) Q ↔ Ev (evE W a env st) fun x s => Ev (evEo W lo env s) fun l s => Ev (evEo W hi env s) fun h s => Op (slD l h x.d) fun r => Q r s := by rw [evE, Ev_bind]; simp only [Ev_bind, Ev_opm]
theorem wE_tup : Ev (evE W (.tup es) env st) Q ↔ Ev (evEs W es env st) fun ds s => Q (.sh (.tup ds)) s := by rw [evE, Ev_map]
theorem wE_lst : Ev (evE W (.lst es) env st) Q ↔ Ev (evEs W es env st) fun ds s => Q (.fr (.lst ds)) s := by rw [evE, Ev_map]
theorem wE_ss : Ev (evE W (.ss a) env st) Q ↔ Ev (evE W a env st) fun x s => Op (ssD x.d) fun r => Q r s := by rw [evE, Ev_bind]; simp only [Ev_opm]
theorem wE_cel : Ev (evE W (.cel es) env st) Q ↔ Ev (evEs W es env st) fun ds s => Q (.sh (.cell s.length)) (s ++ [ds]) := by rw [evE, Ev_map]
theorem wE_comp {ws : List Nat} {elt : E} {tg : Tg} {it : Itb} {cnd : Eo} : Ev (evE W (.comp ws elt tg it cnd) env st) Q ↔ Ev ((evI W it env st).map fun x => (x.1, x.2.2)) fun xs s => Ev (compGo (bindT tg) (evC W cnd) (evE W elt) (wipeE env ws) xs s) fun zs s => zs.length ≤ 16777216 ∧ Q (.fr (.lst zs)) s := by
  rw [evE]
  constructor
  · rintro ⟨r, s, e, q⟩
    obtain ⟨x, e1, e⟩ := bindS e
    obtain ⟨z, e2, e⟩ := bindS e
    obtain ⟨hb, e⟩ := iteS e
    cases e
    exact ⟨x.1, x.2.2, by rw [e1]; rfl, z.1, z.2, e2, big_iff.mp hb, q⟩
  · rintro ⟨xs, s, e1, zs, s2, e2, hb, q⟩
    obtain ⟨x, e1', e3⟩ := mapS e1
    cases e3
    refine ⟨.fr (.lst zs), s2, ?_, q⟩
    rw [e1']
    show (compGo (bindT tg) (evC W cnd) (evE W elt) (wipeE env ws) x.1 x.2.2).bind _ = _
    rw [e2]
    show (if big zs.length = true then _ else none) = _
    rw [if_pos (big_iff.mpr hb)]
section
variable {P : List D → Store → Prop}
theorem wEs_nil : Ev (evEs W .nil env st) P ↔ P [] st := by rw [evEs, Ev_some]
theorem wEs_cons : Ev (evEs W (.cons a es) env st) P ↔ Ev (evE W a env st) fun x s => Op x.own? fun d => Ev (evEs W es env s) fun ds s => P (d :: ds) s := by
  rw [evEs, Ev_bind]; simp only [Ev_opb, Ev_map]
end
section
variable {P : Option Int → Store → Prop}
theorem wEo_no : Ev (evEo W .no env st) P ↔ P none st := by rw [evEo, Ev_some]
theorem wEo_so : Ev (evEo W (.so a) env st) P ↔ Ev (evE W a env st) fun x s => Op (intOf x) fun i => P (some i) s := by rw [evEo, Ev_bind]; simp only [Ev_opm]
end
section
variable {P : Bool → Store → Prop}
theorem wC_no : Ev (evC W .no env st) P ↔ P true st := by rw [evC, Ev_some]
theorem wC_so : Ev (evC W (.so a) env st) P ↔ Ev (evE W a env st) fun x s => Op (boolOf x) fun i => P i s := by rw [evC, Ev_bind]; simp only [Ev_opm]
end
/-- items, whether an own list is walked -/
def EvI (o : Option (List D × Bool × Store)) (P : List D → Bool → Store → Prop) : Prop := ∃ xs b st, o = some (xs, b, st) ∧ P xs b st
section
variable {P : List D → Bool → Store → Prop} {o : Option (List D × Bool × Store)}
theorem EvI_mk {α : Type} {o : Option (α × Store)} {f : α × Store → Option (List D × Bool × Store)} : EvI (o.bind f) P ↔ Ev o fun x s => EvI (f (x, s)) P := by
  constructor
  · rintro ⟨a, en, st, e, q⟩
    obtain ⟨⟨b, s⟩, e1, e2⟩ := bindS e
    exact ⟨b, s, e1, a, en, st, e2, q⟩
  · rintro ⟨b, s, e1, a, en, st, e2, q⟩
    exact ⟨a, en, st, by rw [e1]; exact e2, q⟩
theorem EvI_op {α : Type} {o : Option α} {f : α → List D × Bool × Store} : EvI (o.map f) P ↔ Op o fun x => P (f x).1 (f x).2.1 (f x).2.2 := by
  constructor
  · rintro ⟨a, en, st, e, q⟩
    obtain ⟨b, e1, e2⟩ := mapS e
    exact ⟨b, e1, by simp only [e2]; exact q⟩
  · rintro ⟨b, e1, q⟩
    exact ⟨_, _, _, by rw [e1]; rfl, q⟩
theorem wI_e : EvI (evI W (.e a) env st) P ↔ Ev (evE W a env st) fun x s => Op (itemsOf x.d) fun xs => P xs x.vwB s := by rw [evI, EvI_mk]; simp only [EvI_op]
theorem wI_rng : EvI (evI W (.rng es) env st) P ↔ Ev (evEs W es env st) fun x s => Op (rngOf x) fun xs => P xs false s := by rw [evI, EvI_mk]; simp only [EvI_op]
theorem wI_enum : EvI (evI W (.enum a) env st) P ↔ Ev (evE W a env st) fun x s => Op (itemsOf x.d) fun xs => P (enumD 0 xs) x.vwB s := by rw [evI, EvI_mk]; simp only [EvI_op]
theorem wI_zip : EvI (evI W (.zip a b) env st) P ↔ Ev (evE W a env st) fun x s => Ev (evE W b env s) fun y s => Op (zipOk x.d y.d) fun xs => P xs true s := by rw [evI, EvI_mk]; simp only [EvI_mk, EvI_op]
theorem wI_map {P : List D → Store → Prop} : Ev (o.map fun x => (x.1, x.2.2)) P ↔ EvI o fun xs _ s => P xs s := by
  constructor
  · rintro ⟨xs, s, e, q⟩
    obtain ⟨x, e1, e2⟩ := mapS e
    cases e2
    exact ⟨x.1, x.2.1, x.2.2, e1, q⟩
  · rintro ⟨xs, b, s, e, q⟩
    exact ⟨xs, s, by rw [e]; rfl, q⟩
end
end
section
variable {W : Wd} {env : En} {st : Store} {Q : Fl → En → Store → Prop} {a b c : E} {es : Es} {ss tt : Ss} {s : S}
theorem seqQ_nx {en : En} : seqQ W ss Q .nx en st = EvS (evSs W ss en st) Q := rfl
theorem seqQ_ret {en : En} {r : Rs} : seqQ W ss Q (.ret r) en st = Q (.ret r) en st := rfl
theorem seqQ_brk {en : En} : seqQ W ss Q .brk en st = Q .brk en st := rfl
theorem seqQ_cont {en : En} : seqQ W ss Q .cont en st = Q .cont en st := rfl
theorem wSs_nil : EvS (evSs W .nil env st) Q ↔ Q .nx env st := by rw [evSs, EvS_some]
theorem wSs_cons : EvS (evSs W (.cons s ss) env st) Q ↔ EvS (evS W s env st) (seqQ W ss Q) := by
  rw [evSs, EvS_seq]
  constructor
  · intro h; exact h.mono fun fl en st h => by
      cases fl <;> first | exact h | exact EvS_some.mp h
  · intro h; exact h.mono fun fl en st h => by
      cases fl <;> first | exact h | exact EvS_some.mpr h
theorem wS_set {i : Nat} : EvS (evS W (.set i a) env st) Q ↔ Ev (evE W a env st) fun x s => Op x.own? fun d => Q .nx (env.set i (some d)) s := by rw [evS, EvS_bind]; simp only [EvS_opm]
/-- a fresh value -/
def frOf : Rs → Option D
  | .fr d => some d
  | _ => none
def shOf : Rs → Option D
  | .sh d => some d
  | _ => none
theorem fr_fr {d : D} {P : D → Prop} : Op (frOf (.fr d)) P ↔ P d := by simp only [frOf, Op_some]
theorem sh_sh {d : D} {P : D → Prop} : Op (shOf (.sh d)) P ↔ P d := by simp only [shOf, Op_some]
theorem wS_seto {i : Nat} : EvS (evS W (.seto i a) env st) Q ↔ Ev (evE W a env st) fun x s => Op (frOf x) fun d => Q .nx (env.set i (some d)) s := by
  rw [evS, EvS_bind]
  constructor
  · intro h; exact h.mono fun x s h => by
      cases x with
      | fr d => exact Op_some.mpr (EvS_some.mp h)
      | sh d => exact (EvS_none.mp h).elim
      | vw d => exact (EvS_none.mp h).elim
  · intro h; exact h.mono fun x s h => by
      cases x with
      | fr d => exact EvS_some.mpr (fr_fr.mp h)
      | sh d => exact (Op_none.mp h).elim
      | vw d => exact (Op_none.mp h).elim
theorem wS_unp {tg : Tg} : EvS (evS W (.unp tg a) env st) Q ↔ Ev (evE W a env st) fun x s => Op (shOf x) fun d => Op (bindT tg d env) fun e => Q .nx e s := by
  rw [evS, EvS_bind]
  constructor
  · intro h; exact h.mono fun x s h => by
      cases x with
      | sh d => exact Op_some.mpr (EvS_opm.mp h)
      | fr d => exact (EvS_none.mp h).elim
      | vw d => exact (EvS_none.mp h).elim
  · intro h; exact h.mono fun x s h => by
      cases x with
      | sh d => exact EvS_opm.mpr (sh_sh.mp h)
      | fr d => exact (Op_none.mp h).elim
      | vw d => exact (Op_none.mp h).elim
theorem wS_par {ts : List (Bool × Nat)} : EvS (evS W (.par ts es) env st) Q ↔ Ev (evRs W es env st) fun x s => Op (parSet ts x env) fun e => Q .nx e s := by rw [evS, EvS_bind]; simp only [EvS_opm]
theorem wS_drop : EvS (evS W (.drop a) env st) Q ↔ Ev (evE W a env st) fun x s => Q .nx env s := by rw [evS, EvS_map]
theorem wS_ret : EvS (evS W (.ret a) env st) Q ↔ Ev (evE W a env st) fun x s => Op x.own? fun _ => Q (.ret x) env s := by rw [evS, EvS_bind]; simp only [EvS_opm]
theorem wS_reto {i : Nat} : EvS (evS W (.reto i) env st) Q ↔ Op (env.at i) fun d => Q (.ret (.fr d)) env st := by rw [evS, EvS_opm]
theorem wS_retN : EvS (evS W .retN env st) Q ↔ Q (.ret (.sh .non)) env st := by rw [evS, EvS_some]
theorem wS_pass : EvS (evS W .pass env st) Q ↔ Q .nx env st := by rw [evS, EvS_some]
theorem wS_brk : EvS (evS W .brk env st) Q ↔ Q .brk env st := by rw [evS, EvS_some]
theorem wS_cont : EvS (evS W .cont env st) Q ↔ Q .cont env st := by rw [evS, EvS_some]
theorem wS_fail : EvS (evS W .fail env st) Q ↔ False := by rw [evS, EvS_none]
theorem wS_ite : EvS (evS W (.ite c ss tt) env st) Q ↔ Ev (evE W c env st) fun x s => Op (boolOf x) fun r => if r = true then EvS (evSs W ss env s) Q else EvS (evSs W tt env s) Q := by rw [evS, EvS_bind]; simp only [EvS_opb, EvS_ite]
def lstOf : D → Option (List D)
  | .lst xs => some xs
  | _ => none
theorem lst_lst {xs : List D} {P : List D → Prop} : Op (lstOf (.lst xs)) P ↔ P xs := by simp only [lstOf, Op_some]
theorem wS_app {y : Nat} : EvS (evS W (.app y a) env st) Q ↔ Ev (evE W a env st) fun x s => Op x.own? fun d => Op (env.at y) fun o => Op (lstOf o) fun xs => xs.length < 16777216 ∧ Q .nx (env.set y (some (.lst (xs ++ [d])))) s := by
  rw [evS]
  simp only [EvS_opb, OpE]
  have key : ∀ (o d : D) (s : Store), EvS (match o with
      | .lst xs => if decide (xs.length < sizeLine) then some (Fl.nx, env.set y (some (D.lst (xs ++ [d]))), s) else none
      | _ => none) Q ↔ Op (lstOf o) fun xs => xs.length < 16777216 ∧ Q .nx (env.set y (some (.lst (xs ++ [d])))) s := by
    intro o d s
    cases o <;> simp only [lstOf, Op_none, Op_some, EvS_none, EvS_ite, EvS_some]
    rename_i xs
    by_cases h : xs.length < sizeLine
    · have h' : xs.length < 16777216 := h
      simp only [h, decide_true, if_true, h', true_and]
    · have h' : ¬ xs.length < 16777216 := h
      simp only [h, decide_false, Bool.false_eq_true, if_false, h', false_and]
  constructor
  · intro h; exact h.mono fun x s h => h.mono fun d h => h.mono fun o h => (key _ _ _).mp h
  · intro h; exact h.mono fun x s h => h.mono fun d h => h.mono fun o h => (key _ _ _).mpr h
def celOf : D → Option Nat
  | .cell n => some n
  | _ => none
def inOf : D → Option Int
  | .int n => some n
  | _ => none
theorem cel_cel {n : Nat} {P : Nat → Prop} : Op (celOf (.cell n)) P ↔ P n := by simp only [celOf, Op_some]
theorem in_in {n : Int} {P : Int → Prop} : Op (inOf (.int n)) P ↔ P n := by simp only [inOf, Op_some]
theorem wS_setc {i : E} : EvS (evS W (.setc c i a) env st) Q ↔ Ev (evE W a env st) fun x s => Op x.own? fun d => Ev (evE W c env s) fun o s => Ev (evE W i env s) fun k s => Op (celOf o.d) fun n => Op (inOf k.d) fun i => Op (s[n]?) fun xs => Op (ixN xs.length i) fun j => Q .nx env (s.set n (xs.set j d)) := by
  rw [evS]
  simp only [EvS_opb, OpE]
  have key : ∀ (o k d : D) (s : Store), EvS (match o, k with
      | .cell n, .int i => (s[n]?).bind fun xs => (ixN xs.length i).map fun j => (Fl.nx, env, s.set n (xs.set j d))
      | _, _ => none) Q ↔ Op (celOf o) fun n => Op (inOf k) fun i => Op (s[n]?) fun xs => Op (ixN xs.length i) fun j => Q .nx env (s.set n (xs.set j d)) := by
    intro o k d s
    cases o <;> cases k <;> simp only [celOf, inOf, Op_none, Op_some, EvS_none, EvS_opb, EvS_opm]
    all_goals (constructor <;> (intro h; first | exact h.elim | (obtain ⟨_, h1, _⟩ := h; cases h1)))
  constructor
  · intro h; exact h.mono fun x s h => h.mono fun d h => h.mono fun o s h => h.mono fun k s h => (key _ _ _ _).mp h
  · intro h; exact h.mono fun x s h => h.mono fun d h => h.mono fun o s h => h.mono fun k s h => (key _ _ _ _).mpr h
theorem wS_for {tg : Tg} {it : Itb} : EvS (evS W (.for_ tg it ss) env st) Q ↔ EvI (evI W it env st) fun xs v s => v = false ∧ EvS (forGo (bindT tg) (evSs W ss) xs env s) Q := by
  rw [evS]
  constructor
  · rintro ⟨fl, en, s, e, q⟩
    obtain ⟨⟨xs, v, s1⟩, e1, e⟩ := bindS e
    cases v with
    | true => cases e
    | false => exact ⟨xs, false, s1, e1, rfl, fl, en, s, e, q⟩
  · rintro ⟨xs, v, s1, e1, hv, fl, en, s, e, q⟩
    subst hv
    exact ⟨fl, en, s, by rw [e1]; exact e, q⟩
section
variable {P : List Rs → Store → Prop}
theorem wR_nil : Ev (evRs W .nil env st) P ↔ P [] st := by rw [evRs, Ev_some]
theorem wR_cons : Ev (evRs W (.cons a es) env st) P ↔ Ev (evE W a env st) fun x s => Op x.own? fun _ => Ev (evRs W es env s) fun rs s => P (x :: rs) s := by
  rw [evRs, Ev_bind]; simp only [Ev_opb, Ev_map]
end
end
/-- a call runs the def's body -/
theorem Ev_callD {GD : Nat → Option Df} {wf k f : Nat} {d : Df} {ds : List D} {st : Store} {Q : Rs → Store → Prop} (h : GD f = some d) (hn : d.np = ds.length) :
    Ev (callF GD wf (k + 1) f ds st) Q ↔ EvS (evSs ⟨callF GD wf k, wf⟩ d.body (startE d.n ds) st) (outQ Q) := by
  rw [callF, h]
  show Ev (if d.np = ds.length then _ else none) Q ↔ _
  rw [if_pos hn]
  constructor
  · rintro ⟨r, s, e, q⟩
    obtain ⟨⟨fl, en, s1⟩, e1, e2⟩ := bindS e
    refine ⟨fl, en, s1, e1, ?_⟩
    cases fl <;> cases e2 <;> exact q
  · rintro ⟨fl, en, s1, e1, q⟩
    cases fl with
    | nx => exact ⟨_, _, by rw [e1]; rfl, q⟩
    | ret r => exact ⟨_, _, by rw [e1]; rfl, q⟩
    | brk => exact q.elim
    | cont => exact q.elim
section
variable {P : En → Prop}
theorem bT_nm {i : Nat} {d : D} {env : En} : Op (bindT (.nm i) d env) P ↔ P (env.set i (some d)) := by rw [bindT, Op_some]
theorem bT_tup {ts : Tgs} {ds : List D} {env : En} : Op (bindT (.tup ts) (.tup ds) env) P ↔ Op (bindTs ts ds env) P := by rw [bindT]
theorem bT_nil {env : En} : Op (bindTs .nil [] env) P ↔ P env := by rw [bindTs, Op_some]
theorem bT_cons {t : Tg} {ts : Tgs} {d : D} {ds : List D} {env : En} : Op (bindTs (.cons t ts) (d :: ds) env) P ↔ Op (bindT t d env) fun e => Op (bindTs ts ds e) P := by rw [bindTs, Op_bind]
theorem pS_nil {env : En} : Op (parSet [] [] env) P ↔ P env := by rw [parSet, Op_some]
theorem pS_fr {i : Nat} {d : D} {ts : List (Bool × Nat)} {rs : List Rs} {env : En} : Op (parSet ((true, i) :: ts) (.fr d :: rs) env) P ↔ Op (parSet ts rs (env.set i (some d))) P := by rw [parSet]
theorem pS_sh {i : Nat} {r : Rs} {ts : List (Bool × Nat)} {rs : List Rs} {env : En} : Op (parSet ((false, i) :: ts) (r :: rs) env) P ↔ Op r.own? fun d => Op (parSet ts rs (env.set i (some d))) P := by rw [parSet, Op_bind]
end
theorem wipe_nil {env : En} : wipeE env [] = env := rfl
theorem wipe_cons {env : En} {v : Nat} {vs : List Nat} : wipeE env (v :: vs) = (wipeE env vs).set v none := rfl
section
variable {P : List D → Prop}
theorem it_lst {xs : List D} : Op (itemsOf (.lst xs)) P ↔ P xs := by simp only [itemsOf, Op_some]
theorem it_tup {xs : List D} : Op (itemsOf (.tup xs)) P ↔ P xs := by simp only [itemsOf, Op_some]
theorem it_str {x : List Nat} : Op (itemsOf (.str x)) P ↔ P (signsD x) := by simp only [itemsOf, Op_some]
theorem rng_one {j : Int} : Op (rngOf [.int j]) P ↔ bnd j = true ∧ P (rngI 0 j.toNat) := by simp only [rngOf, Op_guard, Op_some]
theorem rng_two {i j : Int} : Op (rngOf [.int i, .int j]) P ↔ (bnd i = true ∧ bnd j = true) ∧ P (rngI i (j - i).toNat) := by simp only [rngOf, Op_guard, Op_some, Bool.and_eq_true]
theorem zip_tup {x y : List D} : Op (zipOk (.tup x) (.tup y)) P ↔ P (zipD x y) := by simp only [zipOk, Op_some]
theorem zip_lst {x y : List D} : Op (zipOk (.lst x) (.lst y)) P ↔ P (zipD x y) := by simp only [zipOk, Op_some]
end
end MW
/-! Plain: more rules. -/
namespace MW
open PySem PySem.Spec PyProof.Rows L2
section
variable {W : Wd} {env : En} {st : Store} {Q : Rs → Store → Prop} {a b c : E} {es : Es}
theorem wE_rev : Ev (evE W (.rev a) env st) Q ↔ Ev (evE W a env st) fun x s => Op (lstOf x.d) fun xs => Q (.fr (.lst xs.reverse)) s := by
  rw [evE, Ev_bind]
  constructor
  · intro h; exact h.mono fun x s h => by
      cases hd : x.d with
      | lst xs => simp only [hd] at h; exact lst_lst.mpr (Ev_some.mp h)
      | _ => simp only [hd] at h; exact (Ev_none.mp h).elim
  · intro h; exact h.mono fun x s h => by
      cases hd : x.d with
      | lst xs => simp only [hd] at h ⊢; exact Ev_some.mpr (lst_lst.mp h)
      | _ => simp only [hd] at h; exact (Op_none.mp h).elim
end
section
variable {W : Wd} {env : En} {st : Store} {Q : Fl → En → Store → Prop} {a b c i : E} {es : Es} {ss tt : Ss} {s : S}
theorem wS_seti {y : Nat} : EvS (evS W (.seti y i a) env st) Q ↔ Ev (evE W a env st) fun x s => Op x.own? fun d => Ev (evE W i env s) fun k s => Op (env.at y) fun o => Op (setIx d o k.d) fun z => Q .nx (env.set y (some z)) s := by
  rw [evS]; simp only [EvS_opb, OpE, EvS_opm]
end
theorem set_lst {d : D} {xs : List D} {i : Int} {P : D → Prop} : Op (setIx d (.lst xs) (.int i)) P ↔ Op (ixN xs.length i) fun j => P (.lst (xs.set j d)) := by simp only [setIx, Op_map]
theorem eq_non_str {y : List Nat} {R : Bool → Prop} : Op (opC .eq .non (.str y)) R ↔ R false := by simp only [opC, eqF, Op_some]
theorem ne_non_str {y : List Nat} {R : Bool → Prop} : Op (opC .ne .non (.str y)) R ↔ R true := by simp only [opC, eqF, Op_some]; rfl
theorem ne_str_non {y : List Nat} {R : Bool → Prop} : Op (opC .ne (.str y) .non) R ↔ R true := by simp only [opC, eqF, Op_some]; rfl
theorem eq_non {R : Bool → Prop} : Op (opC .eq .non .non) R ↔ R true := by simp only [opC, eqF, Op_some]
theorem ne_non {R : Bool → Prop} : Op (opC .ne .non .non) R ↔ R false := by simp only [opC, eqF, Op_some]; rfl
end MW
namespace MW
section
variable {W : Wd} {env : En} {st : Store} {Q : Rs → Store → Prop} {a b c : E} {es : Es}
def dicOf : D → Option (List (DKey × D))
  | .dic kd => some kd
  | _ => none
theorem dic_dic {kd : List (DKey × D)} {P : List (DKey × D) → Prop} : Op (dicOf (.dic kd)) P ↔ P kd := by simp only [dicOf, Op_some]
theorem wE_dic0 : Ev (evE W .dic0 env st) Q ↔ Q (.fr (.dic [])) st := by rw [evE, Ev_some]
theorem wE_dic1 : Ev (evE W (.dic1 a b) env st) Q ↔ Ev (evE W a env st) fun x s => Op x.own? fun k => Ev (evE W b env s) fun y s => Op y.own? fun d => Op (keyD k) fun k => Q (.fr (.dic [(k, d)])) s := by
  rw [evE]; simp only [Ev_opb, OpE, Ev_opm]
theorem wE_dicL : Ev (evE W (.dicL a) env st) Q ↔ Ev (evE W a env st) fun x s => Op (lstOf x.d) fun ds => Op (pairsD ds) fun kd => Q (.fr (.dic (mergeKD [] kd))) s := by
  rw [evE, Ev_bind]
  constructor
  · intro h; exact h.mono fun x s h => by
      cases hd : x.d with
      | lst xs => simp only [hd] at h; exact lst_lst.mpr (Ev_opm.mp h)
      | _ => simp only [hd] at h; exact (Ev_none.mp h).elim
  · intro h; exact h.mono fun x s h => by
      cases hd : x.d with
      | lst xs => simp only [hd] at h ⊢; exact Ev_opm.mpr (lst_lst.mp h)
      | _ => simp only [hd] at h; exact (Op_none.mp h).elim
theorem wE_compI {y : Nat} {ws : List Nat} {elt : E} {tg : Tg} {cnd : Eo} : Ev (evE W (.compI y ws elt tg cnd) env st) Q ↔ Op (env.at y) fun o => Op (dicOf o) fun kd => Ev (compGo (bindT tg) (evC W cnd) (evE W elt) (wipeE (env.set y none) ws) (itemsKD kd) st) fun zs s => zs.length ≤ 16777216 ∧ Q (.fr (.lst zs)) s := by
  rw [evE, Ev_opb]
  have key : ∀ o : D, Ev (match o with
      | .dic kd => (compGo (bindT tg) (evC W cnd) (evE W elt) (wipeE (env.set y none) ws) (itemsKD kd) st).bind fun z => if big z.1.length then some (Rs.fr (.lst z.1), z.2) else none
      | _ => none) Q ↔ Op (dicOf o) fun kd => Ev (compGo (bindT tg) (evC W cnd) (evE W elt) (wipeE (env.set y none) ws) (itemsKD kd) st) fun zs s => zs.length ≤ 16777216 ∧ Q (.fr (.lst zs)) s := by
    intro o
    cases o with
    | dic kd =>
      simp only [dic_dic, Ev_bind]
      constructor
      · intro h; exact h.mono fun z s h => by
          obtain ⟨r, s2, e, q⟩ := h
          obtain ⟨hb, e⟩ := iteS e
          cases e
          exact ⟨big_iff.mp hb, q⟩
      · intro h; exact h.mono fun z s h => ⟨_, _, if_pos (big_iff.mpr h.1), h.2⟩
    | _ => simp only [dicOf, Op_none, Ev_none]
  constructor
  · intro h; exact h.mono fun o h => (key o).mp h
  · intro h; exact h.mono fun o h => (key o).mpr h
def repD (c d : Nat) : D → Option Rs
  | .str t => if (decide (2 * t.length + 1 ≤ 16777216) && decide (c ≠ d)) = true then some (.sh (.str (t.map fun k => if k = c then d else k))) else none
  | _ => none
theorem rep_str {c d : Nat} {t : List Nat} {Q : Rs → Prop} : Op (repD c d (.str t)) Q ↔ (2 * t.length + 1 ≤ 16777216 ∧ c ≠ d) ∧ Q (.sh (.str (t.map fun k => if k = c then d else k))) := by
  simp only [repD, Op_guard, Op_some, Bool.and_eq_true, decide_eq_true_iff]
theorem wE_rep {c d : Nat} : Ev (evE W (.rep a c d) env st) Q ↔ Ev (evE W a env st) fun x s => Op (repD c d x.d) fun r => Q r s := by
  have key : ∀ (x : Rs) (s : Store), Ev (match x.d with
      | .str t => if (decide (2 * t.length + 1 ≤ 16777216) && decide (c ≠ d)) = true then some (Rs.sh (.str (t.map fun k => if k = c then d else k)), s) else none
      | _ => none) Q ↔ Op (repD c d x.d) fun r => Q r s := by
    intro x s
    cases hd : x.d with
    | str t =>
      rw [rep_str]
      by_cases hb : (decide (2 * t.length + 1 ≤ 16777216) && decide (c ≠ d)) = true
      · simp only [hb, if_true, Ev_some]
        simp only [Bool.and_eq_true, decide_eq_true_iff] at hb
        exact ⟨fun q => ⟨hb, q⟩, fun q => q.2⟩
      · have hb' := hb
        simp only [Bool.and_eq_true, decide_eq_true_iff] at hb'
        simp only [if_neg hb]
        exact ⟨fun q => (Ev_none.mp q).elim, fun q => absurd q.1 hb'⟩
    | _ => exact ⟨fun q => (Ev_none.mp q).elim, fun q => (Op_none.mp q).elim⟩
  rw [evE, Ev_bind]
  exact ⟨fun h => h.mono fun x s h => (key x s).mp h, fun h => h.mono fun x s h => (key x s).mpr h⟩
theorem wE_lrng : Ev (evE W (.lrng a) env st) Q ↔ Ev (evE W a env st) fun x s => Op (intOf x) fun i => (0 ≤ i ∧ i ≤ 16777216) ∧ Q (.fr (.lst (rngI 0 i.toNat))) s := by
  rw [evE, Ev_bind]
  simp only [Ev_opb]
  constructor
  · intro h; exact h.mono fun x s h => h.mono fun i h => by
      obtain ⟨r, s2, e, q⟩ := h
      obtain ⟨hb, e⟩ := iteS e
      cases e
      simp only [Bool.and_eq_true, decide_eq_true_eq] at hb
      exact ⟨hb, q⟩
  · intro h; exact h.mono fun x s h => h.mono fun i h => ⟨_, _, if_pos (by simp only [Bool.and_eq_true, decide_eq_true_eq]; exact h.1), h.2⟩
theorem wE_lix : Ev (evE W (.lix a b) env st) Q ↔ Ev (evE W a env st) fun x s => Ev (evE W b env s) fun y s => Op (lstOf x.d) fun xs => ((D.lst xs).pl = true ∧ y.d.pl = true) ∧ Op (xs.findIdx? fun z => PySem.PyData.eqv z.py y.d.py) fun j => Q (.sh (.int (j : Nat))) s := by
  rw [evE, Ev_bind]
  constructor
  · intro h; exact h.mono fun x s h => (Ev_bind.mp h).mono fun y s h => by
      cases hd : x.d with
      | lst xs =>
        simp only [hd] at h
        obtain ⟨r, s2, e, q⟩ := h
        obtain ⟨hb, e⟩ := iteN e
        obtain ⟨j, e1, e2⟩ := mapS e
        cases e2
        simp only [Bool.and_eq_true] at hb
        exact lst_lst.mpr ⟨hb, j, e1, q⟩
      | _ => simp only [hd] at h; exact (Ev_none.mp h).elim
  · intro h; exact h.mono fun x s h => Ev_bind.mpr (h.mono fun y s h => by
      cases hd : x.d with
      | lst xs =>
        simp only [hd] at h ⊢
        obtain ⟨hb, j, e, q⟩ := lst_lst.mp h
        refine ⟨_, _, (if_pos (by simp only [Bool.and_eq_true]; exact hb)).trans ?_, q⟩
        rw [e]; rfl
      | _ => simp only [hd] at h; exact (Op_none.mp h).elim)
section
variable {P : DKey → Prop} {R : Bool → Prop} {T : D → Prop} {x : List Nat} {i : Int} {kd : List (DKey × D)} {d : D}
theorem key_str : Op (keyD (.str x)) P ↔ P (.inr x) := by simp only [keyD, Op_some]
theorem key_int : Op (keyD (.int i)) P ↔ P (.inl i) := by simp only [keyD, Op_some]
theorem in_dicS : Op (opC .inn (.str x) (.dic kd)) R ↔ R (getKD kd (.inr x)).isSome := by
  have e : opC .inn (.str x) (.dic kd) = some (getKD kd (.inr x)).isSome := by
    unfold opC
    split <;> first | contradiction | (rename_i h; cases h) | rfl | skip
    all_goals first | rfl | (rename_i h1 h2; cases h2; rfl) | (simp_all [keyD])
  rw [e, Op_some]
theorem nin_dicS : Op (opC .nin (.str x) (.dic kd)) R ↔ R (!(getKD kd (.inr x)).isSome) := by
  have e : opC .nin (.str x) (.dic kd) = some (!(getKD kd (.inr x)).isSome) := by
    unfold opC
    split <;> first | contradiction | (rename_i h; cases h) | rfl | skip
    all_goals first | rfl | (rename_i h1 h2; cases h2; rfl) | (simp_all [keyD])
  rw [e, Op_some]
theorem ix_dicS {st : Store} : Op (ixD st (.dic kd) (.str x)) T ↔ Op (getKD kd (.inr x)) T := by simp only [ixD, keyD, Op_bind, Op_some]
theorem set_dicS : Op (setIx d (.dic kd) (.str x)) T ↔ kd.length < 16777216 ∧ T (.dic (putKD kd (.inr x) d)) := by
  simp only [setIx, keyD, Op_bind, Op_some, Op_guard, decide_eq_true_iff]
  exact Iff.rfl
end
theorem intsD_map {τ : Type} (f : τ → Int) : ∀ xs : List τ, intsD (xs.map fun x => .int (f x)) = some (xs.map f)
  | [] => rfl
  | x :: xs => by simp only [List.map_cons, intsD, intsD_map f xs, Option.map_some]
theorem min_lst {τ : Type} {f : τ → Int} {xs : List τ} {Q : Rs → Prop} : Op (op1 .min (.lst (xs.map fun x => .int (f x)))) Q ↔ Op (minI (xs.map f)) fun m => Q (.sh (.int m)) := by
  simp only [op1, intsD_map, Op_bind, Op_some, Op_map]
theorem max_lst {τ : Type} {f : τ → Int} {xs : List τ} {Q : Rs → Prop} : Op (op1 .max (.lst (xs.map fun x => .int (f x)))) Q ↔ Op (maxI (xs.map f)) fun m => Q (.sh (.int m)) := by
  simp only [op1, intsD_map, Op_bind, Op_some, Op_map]
theorem max_int {i j : Int} {Q : Rs → Prop} : Op (op2 .max (.int i) (.int j)) Q ↔ Q (.sh (.int (if j > i then j else i))) := by simp only [op2, Op_some]
end
/-- a while, by an invariant with the turns counted -/
theorem whl_inv {W : Wd} {c : E} {ss : Ss} {env : En} {st : Store} {Q : Fl → En → Store → Prop} (I : Nat → En → Store → Prop) (h0 : I 0 env st) (hn : ∀ i env st, I i env st → i < W.wf)
    (hs : ∀ i env st, I i env st → Ev (evE W c env st) fun x s => Op (boolOf x) fun b => if b = true then EvS (evSs W ss env s) (fun fl e2 s2 => match fl with
      | .nx => I (i + 1) e2 s2
      | .cont => I (i + 1) e2 s2
      | .brk => Q .nx e2 s2
      | .ret r => Q (.ret r) e2 s2) else Q .nx env s) : EvS (evS W (.whl c ss) env st) Q := by
  rw [evS]
  have key : ∀ (k i : Nat) (env : En) (st : Store), i + k = W.wf → I i env st → EvS (whlGo (fun env st => (evE W c env st).bind fun x => (boolOf x.1).map fun b => (b, x.2)) (evSs W ss) k env st) Q := by
    intro k
    induction k with
    | zero => intro i env st e h; have := hn i env st h; omega
    | succ k ih =>
      intro i env st e h
      rw [whlGo]
      obtain ⟨x, s, e1, b, e2, q⟩ := hs i env st h
      try dsimp only at e1 e2 ⊢
      rw [e1]
      try dsimp only [Option.bind_some]
      rw [e2]
      try dsimp only [Option.map_some, Option.bind_some]
      cases b with
      | false =>
        rw [if_neg Bool.false_ne_true] at q ⊢
        exact EvS_some.mpr q
      | true =>
        rw [if_pos rfl] at q ⊢
        obtain ⟨fl, e2, s2, e3, q⟩ := q
        rw [e3]
        try dsimp only [Option.bind_some]
        cases fl with
        | nx => exact ih (i + 1) e2 s2 (by omega) q
        | cont => exact ih (i + 1) e2 s2 (by omega) q
        | brk => exact EvS_some.mpr q
        | ret r => exact EvS_some.mpr q
  exact key W.wf 0 env st (by omega) h0
end MW
set_option Elab.async false
set_option linter.all false
set_option maxRecDepth 100000
set_option maxHeartbeats 1000000
set_option autoImplicit false
/-! Plain: lists.py, typed. -/
namespace MWL
open MW
abbrev Tx := List Nat
def abcde : Tx := [97, 98, 99, 100, 101]
def wordT : Tx := [119, 111, 114, 100]
def endT : Tx := [101, 110, 100]
/-- an entry: kind, old, new -/
structure Ent where
  k : Tx
  o : Tx
  n : Tx
  deriving DecidableEq
def dE (e : Ent) : D := .tup [.str e.k, .str e.o, .str e.n]
def dL (ls : List Ent) : D := .tup (ls.map dE)
def isLet (x : Tx) (m : Int) : Bool := decide (1 ≤ (x.length : Int)) && decide ((x.length : Int) ≤ m) && x.all fun c => decide (c ∈ abcde)
theorem isLet_len {x : Tx} {m : Int} (h : isLet x m = true) : 1 ≤ x.length ∧ (x.length : Int) ≤ m ∧ ∀ c ∈ x, c ∈ abcde := by
  unfold isLet at h
  simp only [Bool.and_eq_true, decide_eq_true_iff, List.all_eq_true] at h
  exact ⟨by omega, h.1.2, h.2⟩
theorem small_abcde {c : Nat} (h : c ∈ abcde) : c < 128 := by
  unfold abcde at h; simp at h; omega
def vE (e : Ent) : Bool := (decide (e.k = wordT) || decide (e.k = endT)) && (isLet e.n 4 && (isLet e.o (if e.k = wordT then 4 else 3) && decide (e.o ≠ e.n)))
structure VE (e : Ent) : Prop where
  k : e.k = wordT ∨ e.k = endT
  n : isLet e.n 4 = true
  o : isLet e.o (if e.k = wordT then 4 else 3) = true
  ne : e.o ≠ e.n
theorem VE.o4 {e : Ent} (h : VE e) : e.o.length ≤ 4 ∧ 1 ≤ e.o.length ∧ (∀ c ∈ e.o, c ∈ abcde) := by
  obtain ⟨a, b, c⟩ := isLet_len h.o
  refine ⟨?_, a, c⟩
  split at b <;> omega
theorem VE.n4 {e : Ent} (h : VE e) : e.n.length ≤ 4 ∧ 1 ≤ e.n.length ∧ (∀ c ∈ e.n, c ∈ abcde) := by
  obtain ⟨a, b, c⟩ := isLet_len h.n
  exact ⟨by omega, a, c⟩
theorem VE.k4 {e : Ent} (h : VE e) : e.k.length ≤ 4 ∧ (∀ c ∈ e.k, c < 128) := by
  rcases h.k with h | h <;> rw [h] <;> decide
theorem small_pl {x : Tx} (h : ∀ c ∈ x, c < 128) : x.all (· < 0x110000) = true := by
  rw [List.all_eq_true]
  intro c hc
  have := h c hc
  rw [decide_eq_true_iff]; omega
theorem VE.pl {e : Ent} (h : VE e) {n : Nat} : plD (n + 1) (dE e) = true := by
  unfold dE
  rw [plD, plL, plL, plL, plL, plD, plD, plD]
  rw [small_pl h.k4.2, small_pl fun c m => small_abcde (h.o4.2.2 c m), small_pl fun c m => small_abcde (h.n4.2.2 c m)]; rfl
theorem VE.pl2 {e : Ent} (h : VE e) : (D.tup [D.str e.k, D.str e.o]).pl = true := by
  refine pl_of ?_
  rw [plD, plL, plL, plL, plD, plD, small_pl h.k4.2, small_pl fun c m => small_abcde (h.o4.2.2 c m)]; rfl
section
variable {st : Store} {e : Ent} {Q : Rs → Prop} {P : D → Prop} {R : En → Prop}
theorem sl_E : Op (slD none (some 2) (dE e)) Q ↔ Q (.sh (.tup [.str e.k, .str e.o])) := by
  unfold dE
  rw [sl_tup, cut_to _ (by decide)]; exact Iff.rfl
theorem ix_E0 : Op (ixD st (dE e) (.int 0)) P ↔ P (.str e.k) := by unfold dE; rw [ix_tup, at_0]
theorem ix_E1 : Op (ixD st (dE e) (.int 1)) P ↔ P (.str e.o) := by unfold dE; rw [ix_tup, at_1]
theorem ix_E2 : Op (ixD st (dE e) (.int 2)) P ↔ P (.str e.n) := by unfold dE; rw [ix_tup, at_2]
theorem bT_E {ts : Tgs} {env : En} : Op (bindT (.tup ts) (dE e) env) R ↔ Op (bindTs ts [.str e.k, .str e.o, .str e.n] env) R := by unfold dE; rw [bT_tup]
theorem isN_E : isNonD (dE e) = false := rfl
end
def ltE (a b : Ent) : Bool := PySem.W.dataLt (dE a).py (dE b).py
theorem alike_E (a b : Ent) : PySem.W.alike (dE a).py (dE b).py = true := by
  unfold dE
  rw [D.py, D.py, pyAll_map, pyAll_map]
  simp only [List.map_cons, List.map_nil]
  rw [D.py, D.py, D.py, D.py, D.py, D.py]
  rfl
/-- a list of entries -/
structure VL (ls : List Ent) : Prop where
  len : ls.length ≤ 6
  ok : ∀ e ∈ ls, VE e
  ord : ∀ p ∈ ls.zip (ls.drop 1), ltE p.1 p.2 = true ∧ ¬ (p.1.k = p.2.k ∧ p.1.o = p.2.o)
theorem is_letters_ok {wf k : Nat} {st : Store} {x : List Nat} {m : Int} {Q : Rs → Store → Prop} (hl : x.length ≤ 16777216) :
    Ev (callF GD wf (k + 1) 0 [.str x, .int m] st) Q ↔ Q (.sh (.bl (isLet x m))) st := by
  rw [Ev_callD (d := d0) rfl rfl]
  unfold d0 b0
  simp only [hl, wE_c, wE_v, wE_vo, wE_bin, wE_neg, wE_not, wE_cmp, wE_chain, wE_and, wE_or, wE_ite, wE_call, wE_b1, wE_b2, wE_isi, wE_m0, wE_m1, wE_idx, wE_sl, wE_ss, ss_lst, mul_str, isn_bl, notn_bl, wE_tup, wE_lst, wE_cel, wE_comp, wEs_nil, wEs_cons, wEo_no, wEo_so, wC_no, wC_so, wI_e, wI_rng, wI_enum, wI_zip, wI_map, wSs_nil, wSs_cons, wS_set, wS_seto, wS_unp, wS_par, wS_app, wS_setc, wS_drop, wS_ret, wS_reto, wS_retN, wS_pass, wS_brk, wS_cont, wS_fail, wS_ite, wS_for, wR_nil, wR_cons, seqQ_nx, seqQ_ret, seqQ_brk, seqQ_cont, outQ_nx, outQ_ret, outQ_brk, outQ_cont, d_sh, d_fr, d_vw, vw_sh, vw_fr, vw_vw, add_int, add_str, add_tup, add_lst, sub_int, mul_int, fdiv_int, mod_int, eq_str, ne_str, eq_int, ne_int, eq_bl, ne_bl, eq_sn, lt_int, le_int, gt_int, ge_int, isn_any, notn_any, in_sign, nin_sign, len_str, len_tup, len_lst, len_scr, all_map, any_map, list_tup, list_lst, list_str, tuple_lst, tuple_tup, int_int, abs_int, min_int, own_sh, own_fr, bool_sh, int_sh, ends_str, starts_str, lower_str, upper_str, sl_lst, sl_tup, sl_str, ix_lst, ix_tup, ix_scr, ix_str, ix_cell, at_zero, at_succ, set_zero, set_succ, startE_zero, startE_cons, Op_some, Op_none, bT_nm, bT_tup, bT_nil, bT_cons, pS_nil, pS_fr, pS_sh, wipe_nil, wipe_cons, it_lst, it_tup, it_str, rng_one, rng_two, zip_tup, zip_lst, fr_fr, sh_sh, lst_lst, cel_cel, in_in, List.replicate_succ, List.replicate_zero, decide_eq_true_iff, true_and, and_true, ite_true, ite_false, if_true, if_false, Bool.false_eq_true, Bool.not_eq_true', List.length_cons, List.length_nil, isi_str, isi_tup, isi_lst, isi_int, isi_non, isi_bl, eq_tup, ne_tup, eq_lst, ne_lst, lt_tup, in_lst, nin_lst, nin_tup, at_0, at_1, at_2, at_3, Bool.true_eq_false, wE_rev, wS_seti, set_lst, eq_non_str, ne_non_str, ne_str_non, eq_non, ne_non, wE_dic0, wE_dic1, wE_dicL, wE_compI, wE_lrng, wE_rep, rep_str, wE_lix, dic_dic, key_str, key_int, in_dicS, nin_dicS, ix_dicS, set_dicS, min_lst, max_lst, max_int]
  unfold signsD
  rw [comp_map (fun c => .bl (decide (c ∈ abcde))) x (by intro c hc; simp only [wE_c, wE_v, wE_vo, wE_bin, wE_neg, wE_not, wE_cmp, wE_chain, wE_and, wE_or, wE_ite, wE_call, wE_b1, wE_b2, wE_isi, wE_m0, wE_m1, wE_idx, wE_sl, wE_ss, ss_lst, mul_str, isn_bl, notn_bl, wE_tup, wE_lst, wE_cel, wE_comp, wEs_nil, wEs_cons, wEo_no, wEo_so, wC_no, wC_so, wI_e, wI_rng, wI_enum, wI_zip, wI_map, wSs_nil, wSs_cons, wS_set, wS_seto, wS_unp, wS_par, wS_app, wS_setc, wS_drop, wS_ret, wS_reto, wS_retN, wS_pass, wS_brk, wS_cont, wS_fail, wS_ite, wS_for, wR_nil, wR_cons, seqQ_nx, seqQ_ret, seqQ_brk, seqQ_cont, outQ_nx, outQ_ret, outQ_brk, outQ_cont, d_sh, d_fr, d_vw, vw_sh, vw_fr, vw_vw, add_int, add_str, add_tup, add_lst, sub_int, mul_int, fdiv_int, mod_int, eq_str, ne_str, eq_int, ne_int, eq_bl, ne_bl, eq_sn, lt_int, le_int, gt_int, ge_int, isn_any, notn_any, in_sign, nin_sign, len_str, len_tup, len_lst, len_scr, all_map, any_map, list_tup, list_lst, list_str, tuple_lst, tuple_tup, int_int, abs_int, min_int, own_sh, own_fr, bool_sh, int_sh, ends_str, starts_str, lower_str, upper_str, sl_lst, sl_tup, sl_str, ix_lst, ix_tup, ix_scr, ix_str, ix_cell, at_zero, at_succ, set_zero, set_succ, startE_zero, startE_cons, Op_some, Op_none, bT_nm, bT_tup, bT_nil, bT_cons, pS_nil, pS_fr, pS_sh, wipe_nil, wipe_cons, it_lst, it_tup, it_str, rng_one, rng_two, zip_tup, zip_lst, fr_fr, sh_sh, lst_lst, cel_cel, in_in, List.replicate_succ, List.replicate_zero, decide_eq_true_iff, true_and, and_true, ite_true, ite_false, if_true, if_false, Bool.false_eq_true, Bool.not_eq_true', List.length_cons, List.length_nil, isi_str, isi_tup, isi_lst, isi_int, isi_non, isi_bl, eq_tup, ne_tup, eq_lst, ne_lst, lt_tup, in_lst, nin_lst, nin_tup, at_0, at_1, at_2, at_3, Bool.true_eq_false, wE_rev, wS_seti, set_lst, eq_non_str, ne_non_str, ne_str_non, eq_non, ne_non, wE_dic0, wE_dic1, wE_dicL, wE_compI, wE_lrng, wE_rep, rep_str, wE_lix, dic_dic, key_str, key_int, in_dicS, nin_dicS, ix_dicS, set_dicS, min_lst, max_lst, max_int]; rfl)]
  simp only [List.length_map, hl, wE_c, wE_v, wE_vo, wE_bin, wE_neg, wE_not, wE_cmp, wE_chain, wE_and, wE_or, wE_ite, wE_call, wE_b1, wE_b2, wE_isi, wE_m0, wE_m1, wE_idx, wE_sl, wE_ss, ss_lst, mul_str, isn_bl, notn_bl, wE_tup, wE_lst, wE_cel, wE_comp, wEs_nil, wEs_cons, wEo_no, wEo_so, wC_no, wC_so, wI_e, wI_rng, wI_enum, wI_zip, wI_map, wSs_nil, wSs_cons, wS_set, wS_seto, wS_unp, wS_par, wS_app, wS_setc, wS_drop, wS_ret, wS_reto, wS_retN, wS_pass, wS_brk, wS_cont, wS_fail, wS_ite, wS_for, wR_nil, wR_cons, seqQ_nx, seqQ_ret, seqQ_brk, seqQ_cont, outQ_nx, outQ_ret, outQ_brk, outQ_cont, d_sh, d_fr, d_vw, vw_sh, vw_fr, vw_vw, add_int, add_str, add_tup, add_lst, sub_int, mul_int, fdiv_int, mod_int, eq_str, ne_str, eq_int, ne_int, eq_bl, ne_bl, eq_sn, lt_int, le_int, gt_int, ge_int, isn_any, notn_any, in_sign, nin_sign, len_str, len_tup, len_lst, len_scr, all_map, any_map, list_tup, list_lst, list_str, tuple_lst, tuple_tup, int_int, abs_int, min_int, own_sh, own_fr, bool_sh, int_sh, ends_str, starts_str, lower_str, upper_str, sl_lst, sl_tup, sl_str, ix_lst, ix_tup, ix_scr, ix_str, ix_cell, at_zero, at_succ, set_zero, set_succ, startE_zero, startE_cons, Op_some, Op_none, bT_nm, bT_tup, bT_nil, bT_cons, pS_nil, pS_fr, pS_sh, wipe_nil, wipe_cons, it_lst, it_tup, it_str, rng_one, rng_two, zip_tup, zip_lst, fr_fr, sh_sh, lst_lst, cel_cel, in_in, List.replicate_succ, List.replicate_zero, decide_eq_true_iff, true_and, and_true, ite_true, ite_false, if_true, if_false, Bool.false_eq_true, Bool.not_eq_true', List.length_cons, List.length_nil, isi_str, isi_tup, isi_lst, isi_int, isi_non, isi_bl, eq_tup, ne_tup, eq_lst, ne_lst, lt_tup, in_lst, nin_lst, nin_tup, at_0, at_1, at_2, at_3, Bool.true_eq_false, wE_rev, wS_seti, set_lst, eq_non_str, ne_non_str, ne_str_non, eq_non, ne_non, wE_dic0, wE_dic1, wE_dicL, wE_compI, wE_lrng, wE_rep, rep_str, wE_lix, dic_dic, key_str, key_int, in_dicS, nin_dicS, ix_dicS, set_dicS, min_lst, max_lst, max_int]
  unfold isLet
  by_cases h1 : 1 ≤ (x.length : Int) <;> by_cases h2 : (x.length : Int) ≤ m <;> simp [h1, h2]
theorem is_entry_ok {wf k : Nat} {st : Store} {e : Ent} {Q : Rs → Store → Prop} (h : VE e) :
    Ev (callF GD wf (k + 1 + 1) 1 [dE e] st) Q ↔ Q (.sh (.bl true)) st := by
  rw [Ev_callD (d := d1) rfl rfl]
  unfold d1 b1 dE
  have hn := h.n4
  have ho := h.o4
  have nl : e.n.length ≤ 16777216 := by omega
  have ol : e.o.length ≤ 16777216 := by omega
  have i4 := h.n
  have i3 := h.o
  have hne : ¬ (e.o = e.n) := h.ne
  simp only [is_letters_ok nl, is_letters_ok ol, wE_c, wE_v, wE_vo, wE_bin, wE_neg, wE_not, wE_cmp, wE_chain, wE_and, wE_or, wE_ite, wE_call, wE_b1, wE_b2, wE_isi, wE_m0, wE_m1, wE_idx, wE_sl, wE_ss, ss_lst, mul_str, isn_bl, notn_bl, wE_tup, wE_lst, wE_cel, wE_comp, wEs_nil, wEs_cons, wEo_no, wEo_so, wC_no, wC_so, wI_e, wI_rng, wI_enum, wI_zip, wI_map, wSs_nil, wSs_cons, wS_set, wS_seto, wS_unp, wS_par, wS_app, wS_setc, wS_drop, wS_ret, wS_reto, wS_retN, wS_pass, wS_brk, wS_cont, wS_fail, wS_ite, wS_for, wR_nil, wR_cons, seqQ_nx, seqQ_ret, seqQ_brk, seqQ_cont, outQ_nx, outQ_ret, outQ_brk, outQ_cont, d_sh, d_fr, d_vw, vw_sh, vw_fr, vw_vw, add_int, add_str, add_tup, add_lst, sub_int, mul_int, fdiv_int, mod_int, eq_str, ne_str, eq_int, ne_int, eq_bl, ne_bl, eq_sn, lt_int, le_int, gt_int, ge_int, isn_any, notn_any, in_sign, nin_sign, len_str, len_tup, len_lst, len_scr, all_map, any_map, list_tup, list_lst, list_str, tuple_lst, tuple_tup, int_int, abs_int, min_int, own_sh, own_fr, bool_sh, int_sh, ends_str, starts_str, lower_str, upper_str, sl_lst, sl_tup, sl_str, ix_lst, ix_tup, ix_scr, ix_str, ix_cell, at_zero, at_succ, set_zero, set_succ, startE_zero, startE_cons, Op_some, Op_none, bT_nm, bT_tup, bT_nil, bT_cons, pS_nil, pS_fr, pS_sh, wipe_nil, wipe_cons, it_lst, it_tup, it_str, rng_one, rng_two, zip_tup, zip_lst, fr_fr, sh_sh, lst_lst, cel_cel, in_in, List.replicate_succ, List.replicate_zero, decide_eq_true_iff, true_and, and_true, ite_true, ite_false, if_true, if_false, Bool.false_eq_true, Bool.not_eq_true', List.length_cons, List.length_nil, isi_str, isi_tup, isi_lst, isi_int, isi_non, isi_bl, eq_tup, ne_tup, eq_lst, ne_lst, lt_tup, in_lst, nin_lst, nin_tup, at_0, at_1, at_2, at_3, Bool.true_eq_false, wE_rev, wS_seti, set_lst, eq_non_str, ne_non_str, ne_str_non, eq_non, ne_non, wE_dic0, wE_dic1, wE_dicL, wE_compI, wE_lrng, wE_rep, rep_str, wE_lix, dic_dic, key_str, key_int, in_dicS, nin_dicS, ix_dicS, set_dicS, min_lst, max_lst, max_int]
  rcases h.k with hk | hk
  · rw [hk, if_pos rfl] at i3
    simp [eqv_str, hk, i4, i3, hne, flatD, wordT]
  · rw [hk, if_neg (by decide)] at i3
    simp [eqv_str, hk, i4, i3, hne, flatD, wordT, endT]
theorem cut2 (e : Ent) : cutL [D.str e.k, D.str e.o, D.str e.n] none (some 2) = [D.str e.k, D.str e.o] := by rw [cut_to _ (by decide)]; rfl
theorem is_list_ok {wf k : Nat} {st : Store} {ls : List Ent} {Q : Rs → Store → Prop} (h : VL ls) :
    Ev (callF GD wf (k + 1 + 1 + 1) 2 [dL ls] st) Q ↔ Q (.sh (.bl true)) st := by
  rw [Ev_callD (d := d2) rfl rfl]
  unfold d2 b2 dL
  have hl := h.len
  simp only [List.length_map, wE_c, wE_v, wE_vo, wE_bin, wE_neg, wE_not, wE_cmp, wE_chain, wE_and, wE_or, wE_ite, wE_call, wE_b1, wE_b2, wE_isi, wE_m0, wE_m1, wE_idx, wE_sl, wE_ss, ss_lst, mul_str, isn_bl, notn_bl, wE_tup, wE_lst, wE_cel, wE_comp, wEs_nil, wEs_cons, wEo_no, wEo_so, wC_no, wC_so, wI_e, wI_rng, wI_enum, wI_zip, wI_map, wSs_nil, wSs_cons, wS_set, wS_seto, wS_unp, wS_par, wS_app, wS_setc, wS_drop, wS_ret, wS_reto, wS_retN, wS_pass, wS_brk, wS_cont, wS_fail, wS_ite, wS_for, wR_nil, wR_cons, seqQ_nx, seqQ_ret, seqQ_brk, seqQ_cont, outQ_nx, outQ_ret, outQ_brk, outQ_cont, d_sh, d_fr, d_vw, vw_sh, vw_fr, vw_vw, add_int, add_str, add_tup, add_lst, sub_int, mul_int, fdiv_int, mod_int, eq_str, ne_str, eq_int, ne_int, eq_bl, ne_bl, eq_sn, lt_int, le_int, gt_int, ge_int, isn_any, notn_any, in_sign, nin_sign, len_str, len_tup, len_lst, len_scr, all_map, any_map, list_tup, list_lst, list_str, tuple_lst, tuple_tup, int_int, abs_int, min_int, own_sh, own_fr, bool_sh, int_sh, ends_str, starts_str, lower_str, upper_str, sl_lst, sl_tup, sl_str, ix_lst, ix_tup, ix_scr, ix_str, ix_cell, at_zero, at_succ, set_zero, set_succ, startE_zero, startE_cons, Op_some, Op_none, bT_nm, bT_tup, bT_nil, bT_cons, pS_nil, pS_fr, pS_sh, wipe_nil, wipe_cons, it_lst, it_tup, it_str, rng_one, rng_two, zip_tup, zip_lst, fr_fr, sh_sh, lst_lst, cel_cel, in_in, List.replicate_succ, List.replicate_zero, decide_eq_true_iff, true_and, and_true, ite_true, ite_false, if_true, if_false, Bool.false_eq_true, Bool.not_eq_true', List.length_cons, List.length_nil, isi_str, isi_tup, isi_lst, isi_int, isi_non, isi_bl, eq_tup, ne_tup, eq_lst, ne_lst, lt_tup, in_lst, nin_lst, nin_tup, at_0, at_1, at_2, at_3, Bool.true_eq_false, wE_rev, wS_seti, set_lst, eq_non_str, ne_non_str, ne_str_non, eq_non, ne_non, wE_dic0, wE_dic1, wE_dicL, wE_compI, wE_lrng, wE_rep, rep_str, wE_lix, dic_dic, key_str, key_int, in_dicS, nin_dicS, ix_dicS, set_dicS, min_lst, max_lst, max_int]
  rw [comp_map (fun _ => .bl true) ls (by intro e he; simp only [is_entry_ok (h.ok e he), wE_c, wE_v, wE_vo, wE_bin, wE_neg, wE_not, wE_cmp, wE_chain, wE_and, wE_or, wE_ite, wE_call, wE_b1, wE_b2, wE_isi, wE_m0, wE_m1, wE_idx, wE_sl, wE_ss, ss_lst, mul_str, isn_bl, notn_bl, wE_tup, wE_lst, wE_cel, wE_comp, wEs_nil, wEs_cons, wEo_no, wEo_so, wC_no, wC_so, wI_e, wI_rng, wI_enum, wI_zip, wI_map, wSs_nil, wSs_cons, wS_set, wS_seto, wS_unp, wS_par, wS_app, wS_setc, wS_drop, wS_ret, wS_reto, wS_retN, wS_pass, wS_brk, wS_cont, wS_fail, wS_ite, wS_for, wR_nil, wR_cons, seqQ_nx, seqQ_ret, seqQ_brk, seqQ_cont, outQ_nx, outQ_ret, outQ_brk, outQ_cont, d_sh, d_fr, d_vw, vw_sh, vw_fr, vw_vw, add_int, add_str, add_tup, add_lst, sub_int, mul_int, fdiv_int, mod_int, eq_str, ne_str, eq_int, ne_int, eq_bl, ne_bl, eq_sn, lt_int, le_int, gt_int, ge_int, isn_any, notn_any, in_sign, nin_sign, len_str, len_tup, len_lst, len_scr, all_map, any_map, list_tup, list_lst, list_str, tuple_lst, tuple_tup, int_int, abs_int, min_int, own_sh, own_fr, bool_sh, int_sh, ends_str, starts_str, lower_str, upper_str, sl_lst, sl_tup, sl_str, ix_lst, ix_tup, ix_scr, ix_str, ix_cell, at_zero, at_succ, set_zero, set_succ, startE_zero, startE_cons, Op_some, Op_none, bT_nm, bT_tup, bT_nil, bT_cons, pS_nil, pS_fr, pS_sh, wipe_nil, wipe_cons, it_lst, it_tup, it_str, rng_one, rng_two, zip_tup, zip_lst, fr_fr, sh_sh, lst_lst, cel_cel, in_in, List.replicate_succ, List.replicate_zero, decide_eq_true_iff, true_and, and_true, ite_true, ite_false, if_true, if_false, Bool.false_eq_true, Bool.not_eq_true', List.length_cons, List.length_nil, isi_str, isi_tup, isi_lst, isi_int, isi_non, isi_bl, eq_tup, ne_tup, eq_lst, ne_lst, lt_tup, in_lst, nin_lst, nin_tup, at_0, at_1, at_2, at_3, Bool.true_eq_false, wE_rev, wS_seti, set_lst, eq_non_str, ne_non_str, ne_str_non, eq_non, ne_non, wE_dic0, wE_dic1, wE_dicL, wE_compI, wE_lrng, wE_rep, rep_str, wE_lix, dic_dic, key_str, key_int, in_dicS, nin_dicS, ix_dicS, set_dicS, min_lst, max_lst, max_int])]
  simp only [cut_from _ (show (0 : Int) ≤ 1 by decide), wE_c, wE_v, wE_vo, wE_bin, wE_neg, wE_not, wE_cmp, wE_chain, wE_and, wE_or, wE_ite, wE_call, wE_b1, wE_b2, wE_isi, wE_m0, wE_m1, wE_idx, wE_sl, wE_ss, ss_lst, mul_str, isn_bl, notn_bl, wE_tup, wE_lst, wE_cel, wE_comp, wEs_nil, wEs_cons, wEo_no, wEo_so, wC_no, wC_so, wI_e, wI_rng, wI_enum, wI_zip, wI_map, wSs_nil, wSs_cons, wS_set, wS_seto, wS_unp, wS_par, wS_app, wS_setc, wS_drop, wS_ret, wS_reto, wS_retN, wS_pass, wS_brk, wS_cont, wS_fail, wS_ite, wS_for, wR_nil, wR_cons, seqQ_nx, seqQ_ret, seqQ_brk, seqQ_cont, outQ_nx, outQ_ret, outQ_brk, outQ_cont, d_sh, d_fr, d_vw, vw_sh, vw_fr, vw_vw, add_int, add_str, add_tup, add_lst, sub_int, mul_int, fdiv_int, mod_int, eq_str, ne_str, eq_int, ne_int, eq_bl, ne_bl, eq_sn, lt_int, le_int, gt_int, ge_int, isn_any, notn_any, in_sign, nin_sign, len_str, len_tup, len_lst, len_scr, all_map, any_map, list_tup, list_lst, list_str, tuple_lst, tuple_tup, int_int, abs_int, min_int, own_sh, own_fr, bool_sh, int_sh, ends_str, starts_str, lower_str, upper_str, sl_lst, sl_tup, sl_str, ix_lst, ix_tup, ix_scr, ix_str, ix_cell, at_zero, at_succ, set_zero, set_succ, startE_zero, startE_cons, Op_some, Op_none, bT_nm, bT_tup, bT_nil, bT_cons, pS_nil, pS_fr, pS_sh, wipe_nil, wipe_cons, it_lst, it_tup, it_str, rng_one, rng_two, zip_tup, zip_lst, fr_fr, sh_sh, lst_lst, cel_cel, in_in, List.replicate_succ, List.replicate_zero, decide_eq_true_iff, true_and, and_true, ite_true, ite_false, if_true, if_false, Bool.false_eq_true, Bool.not_eq_true', List.length_cons, List.length_nil, isi_str, isi_tup, isi_lst, isi_int, isi_non, isi_bl, eq_tup, ne_tup, eq_lst, ne_lst, lt_tup, in_lst, nin_lst, nin_tup, at_0, at_1, at_2, at_3, Bool.true_eq_false, wE_rev, wS_seti, set_lst, eq_non_str, ne_non_str, ne_str_non, eq_non, ne_non, wE_dic0, wE_dic1, wE_dicL, wE_compI, wE_lrng, wE_rep, rep_str, wE_lix, dic_dic, key_str, key_int, in_dicS, nin_dicS, ix_dicS, set_dicS, min_lst, max_lst, max_int]
  rw [show List.drop (Int.toNat 1) (ls.map dE) = (ls.drop 1).map dE from by rw [List.map_drop]; rfl]
  simp only [zipD_map]
  rw [comp_map (fun p => .bl (ltE p.1 p.2 && !decide (p.1.k = p.2.k ∧ p.1.o = p.2.o))) (ls.zip (ls.drop 1)) (by
    intro p hp
    have ha : p.1 ∈ ls := (List.of_mem_zip hp).1
    have hb : p.2 ∈ ls := List.mem_of_mem_drop (List.of_mem_zip hp).2
    have pa : (D.tup [D.str p.1.k, D.str p.1.o, D.str p.1.n]).pl = true := pl_of (h.ok _ ha).pl
    have pb : (D.tup [D.str p.2.k, D.str p.2.o, D.str p.2.n]).pl = true := pl_of (h.ok _ hb).pl
    have qa := (h.ok _ ha).pl2
    have qb := (h.ok _ hb).pl2
    have al := alike_E p.1 p.2
    unfold dE at al
    unfold dE
    simp only [cut2, pa, pb, qa, qb, al, wE_c, wE_v, wE_vo, wE_bin, wE_neg, wE_not, wE_cmp, wE_chain, wE_and, wE_or, wE_ite, wE_call, wE_b1, wE_b2, wE_isi, wE_m0, wE_m1, wE_idx, wE_sl, wE_ss, ss_lst, mul_str, isn_bl, notn_bl, wE_tup, wE_lst, wE_cel, wE_comp, wEs_nil, wEs_cons, wEo_no, wEo_so, wC_no, wC_so, wI_e, wI_rng, wI_enum, wI_zip, wI_map, wSs_nil, wSs_cons, wS_set, wS_seto, wS_unp, wS_par, wS_app, wS_setc, wS_drop, wS_ret, wS_reto, wS_retN, wS_pass, wS_brk, wS_cont, wS_fail, wS_ite, wS_for, wR_nil, wR_cons, seqQ_nx, seqQ_ret, seqQ_brk, seqQ_cont, outQ_nx, outQ_ret, outQ_brk, outQ_cont, d_sh, d_fr, d_vw, vw_sh, vw_fr, vw_vw, add_int, add_str, add_tup, add_lst, sub_int, mul_int, fdiv_int, mod_int, eq_str, ne_str, eq_int, ne_int, eq_bl, ne_bl, eq_sn, lt_int, le_int, gt_int, ge_int, isn_any, notn_any, in_sign, nin_sign, len_str, len_tup, len_lst, len_scr, all_map, any_map, list_tup, list_lst, list_str, tuple_lst, tuple_tup, int_int, abs_int, min_int, own_sh, own_fr, bool_sh, int_sh, ends_str, starts_str, lower_str, upper_str, sl_lst, sl_tup, sl_str, ix_lst, ix_tup, ix_scr, ix_str, ix_cell, at_zero, at_succ, set_zero, set_succ, startE_zero, startE_cons, Op_some, Op_none, bT_nm, bT_tup, bT_nil, bT_cons, pS_nil, pS_fr, pS_sh, wipe_nil, wipe_cons, it_lst, it_tup, it_str, rng_one, rng_two, zip_tup, zip_lst, fr_fr, sh_sh, lst_lst, cel_cel, in_in, List.replicate_succ, List.replicate_zero, decide_eq_true_iff, true_and, and_true, ite_true, ite_false, if_true, if_false, Bool.false_eq_true, Bool.not_eq_true', List.length_cons, List.length_nil, isi_str, isi_tup, isi_lst, isi_int, isi_non, isi_bl, eq_tup, ne_tup, eq_lst, ne_lst, lt_tup, in_lst, nin_lst, nin_tup, at_0, at_1, at_2, at_3, Bool.true_eq_false, wE_rev, wS_seti, set_lst, eq_non_str, ne_non_str, ne_str_non, eq_non, ne_non, wE_dic0, wE_dic1, wE_dicL, wE_compI, wE_lrng, wE_rep, rep_str, wE_lix, dic_dic, key_str, key_int, in_dicS, nin_dicS, ix_dicS, set_dicS, min_lst, max_lst, max_int]
    rw [eqv_tup, eqvAll_cons, eqvAll_cons, eqvAll_nil, eqv_str, eqv_str]
    unfold ltE dE
    cases PySem.W.dataLt (D.tup [D.str p.1.k, D.str p.1.o, D.str p.1.n]).py (D.tup [D.str p.2.k, D.str p.2.o, D.str p.2.n]).py <;> simp)]
  have hz : (ls.zip (List.drop 1 ls)).length ≤ 16777216 := by rw [List.length_zip]; omega
  have ha : ((ls.zip (List.drop 1 ls)).all fun p => ltE p.1 p.2 && !decide (p.1.k = p.2.k ∧ p.1.o = p.2.o)) = true := by
    rw [List.all_eq_true]
    intro p hp
    obtain ⟨h1, h2⟩ := h.ord p hp
    simp [h1, h2]
  simp only [List.length_map, hz, ha, wE_c, wE_v, wE_vo, wE_bin, wE_neg, wE_not, wE_cmp, wE_chain, wE_and, wE_or, wE_ite, wE_call, wE_b1, wE_b2, wE_isi, wE_m0, wE_m1, wE_idx, wE_sl, wE_ss, ss_lst, mul_str, isn_bl, notn_bl, wE_tup, wE_lst, wE_cel, wE_comp, wEs_nil, wEs_cons, wEo_no, wEo_so, wC_no, wC_so, wI_e, wI_rng, wI_enum, wI_zip, wI_map, wSs_nil, wSs_cons, wS_set, wS_seto, wS_unp, wS_par, wS_app, wS_setc, wS_drop, wS_ret, wS_reto, wS_retN, wS_pass, wS_brk, wS_cont, wS_fail, wS_ite, wS_for, wR_nil, wR_cons, seqQ_nx, seqQ_ret, seqQ_brk, seqQ_cont, outQ_nx, outQ_ret, outQ_brk, outQ_cont, d_sh, d_fr, d_vw, vw_sh, vw_fr, vw_vw, add_int, add_str, add_tup, add_lst, sub_int, mul_int, fdiv_int, mod_int, eq_str, ne_str, eq_int, ne_int, eq_bl, ne_bl, eq_sn, lt_int, le_int, gt_int, ge_int, isn_any, notn_any, in_sign, nin_sign, len_str, len_tup, len_lst, len_scr, all_map, any_map, list_tup, list_lst, list_str, tuple_lst, tuple_tup, int_int, abs_int, min_int, own_sh, own_fr, bool_sh, int_sh, ends_str, starts_str, lower_str, upper_str, sl_lst, sl_tup, sl_str, ix_lst, ix_tup, ix_scr, ix_str, ix_cell, at_zero, at_succ, set_zero, set_succ, startE_zero, startE_cons, Op_some, Op_none, bT_nm, bT_tup, bT_nil, bT_cons, pS_nil, pS_fr, pS_sh, wipe_nil, wipe_cons, it_lst, it_tup, it_str, rng_one, rng_two, zip_tup, zip_lst, fr_fr, sh_sh, lst_lst, cel_cel, in_in, List.replicate_succ, List.replicate_zero, decide_eq_true_iff, true_and, and_true, ite_true, ite_false, if_true, if_false, Bool.false_eq_true, Bool.not_eq_true', List.length_cons, List.length_nil, isi_str, isi_tup, isi_lst, isi_int, isi_non, isi_bl, eq_tup, ne_tup, eq_lst, ne_lst, lt_tup, in_lst, nin_lst, nin_tup, at_0, at_1, at_2, at_3, Bool.true_eq_false, wE_rev, wS_seti, set_lst, eq_non_str, ne_non_str, ne_str_non, eq_non, ne_non, wE_dic0, wE_dic1, wE_dicL, wE_compI, wE_lrng, wE_rep, rep_str, wE_lix, dic_dic, key_str, key_int, in_dicS, nin_dicS, ix_dicS, set_dicS, min_lst, max_lst, max_int]
  have h6 : ¬ (6 : Int) < (ls.length : Int) := by omega
  have h7 : ls.length ≤ 16777216 := by omega
  simp [h6, h7]
theorem need_list_ok {wf k : Nat} {st : Store} {ls : List Ent} {Q : Rs → Store → Prop} (h : VL ls) :
    Ev (callF GD wf (k + 1 + 1 + 1 + 1) 15 [dL ls] st) Q ↔ Q (.sh .non) st := by
  rw [Ev_callD (d := d15) rfl rfl]
  unfold d15 b15
  simp only [is_list_ok h, wE_c, wE_v, wE_vo, wE_bin, wE_neg, wE_not, wE_cmp, wE_chain, wE_and, wE_or, wE_ite, wE_call, wE_b1, wE_b2, wE_isi, wE_m0, wE_m1, wE_idx, wE_sl, wE_ss, ss_lst, mul_str, isn_bl, notn_bl, wE_tup, wE_lst, wE_cel, wE_comp, wEs_nil, wEs_cons, wEo_no, wEo_so, wC_no, wC_so, wI_e, wI_rng, wI_enum, wI_zip, wI_map, wSs_nil, wSs_cons, wS_set, wS_seto, wS_unp, wS_par, wS_app, wS_setc, wS_drop, wS_ret, wS_reto, wS_retN, wS_pass, wS_brk, wS_cont, wS_fail, wS_ite, wS_for, wR_nil, wR_cons, seqQ_nx, seqQ_ret, seqQ_brk, seqQ_cont, outQ_nx, outQ_ret, outQ_brk, outQ_cont, d_sh, d_fr, d_vw, vw_sh, vw_fr, vw_vw, add_int, add_str, add_tup, add_lst, sub_int, mul_int, fdiv_int, mod_int, eq_str, ne_str, eq_int, ne_int, eq_bl, ne_bl, eq_sn, lt_int, le_int, gt_int, ge_int, isn_any, notn_any, in_sign, nin_sign, len_str, len_tup, len_lst, len_scr, all_map, any_map, list_tup, list_lst, list_str, tuple_lst, tuple_tup, int_int, abs_int, min_int, own_sh, own_fr, bool_sh, int_sh, ends_str, starts_str, lower_str, upper_str, sl_lst, sl_tup, sl_str, ix_lst, ix_tup, ix_scr, ix_str, ix_cell, at_zero, at_succ, set_zero, set_succ, startE_zero, startE_cons, Op_some, Op_none, bT_nm, bT_tup, bT_nil, bT_cons, pS_nil, pS_fr, pS_sh, wipe_nil, wipe_cons, it_lst, it_tup, it_str, rng_one, rng_two, zip_tup, zip_lst, fr_fr, sh_sh, lst_lst, cel_cel, in_in, List.replicate_succ, List.replicate_zero, decide_eq_true_iff, true_and, and_true, ite_true, ite_false, if_true, if_false, Bool.false_eq_true, Bool.not_eq_true', List.length_cons, List.length_nil, isi_str, isi_tup, isi_lst, isi_int, isi_non, isi_bl, eq_tup, ne_tup, eq_lst, ne_lst, lt_tup, in_lst, nin_lst, nin_tup, at_0, at_1, at_2, at_3, Bool.true_eq_false, wE_rev, wS_seti, set_lst, eq_non_str, ne_non_str, ne_str_non, eq_non, ne_non, wE_dic0, wE_dic1, wE_dicL, wE_compI, wE_lrng, wE_rep, rep_str, wE_lix, dic_dic, key_str, key_int, in_dicS, nin_dicS, ix_dicS, set_dicS, min_lst, max_lst, max_int]
theorem need_word_ok {wf k : Nat} {st : Store} {x : Tx} {Q : Rs → Store → Prop} (h : isLet x 12 = true) :
    Ev (callF GD wf (k + 1 + 1) 16 [.str x] st) Q ↔ Q (.sh .non) st := by
  rw [Ev_callD (d := d16) rfl rfl]
  unfold d16 b16
  have := isLet_len h
  simp only [is_letters_ok (show x.length ≤ 16777216 by omega), h, wE_c, wE_v, wE_vo, wE_bin, wE_neg, wE_not, wE_cmp, wE_chain, wE_and, wE_or, wE_ite, wE_call, wE_b1, wE_b2, wE_isi, wE_m0, wE_m1, wE_idx, wE_sl, wE_ss, ss_lst, mul_str, isn_bl, notn_bl, wE_tup, wE_lst, wE_cel, wE_comp, wEs_nil, wEs_cons, wEo_no, wEo_so, wC_no, wC_so, wI_e, wI_rng, wI_enum, wI_zip, wI_map, wSs_nil, wSs_cons, wS_set, wS_seto, wS_unp, wS_par, wS_app, wS_setc, wS_drop, wS_ret, wS_reto, wS_retN, wS_pass, wS_brk, wS_cont, wS_fail, wS_ite, wS_for, wR_nil, wR_cons, seqQ_nx, seqQ_ret, seqQ_brk, seqQ_cont, outQ_nx, outQ_ret, outQ_brk, outQ_cont, d_sh, d_fr, d_vw, vw_sh, vw_fr, vw_vw, add_int, add_str, add_tup, add_lst, sub_int, mul_int, fdiv_int, mod_int, eq_str, ne_str, eq_int, ne_int, eq_bl, ne_bl, eq_sn, lt_int, le_int, gt_int, ge_int, isn_any, notn_any, in_sign, nin_sign, len_str, len_tup, len_lst, len_scr, all_map, any_map, list_tup, list_lst, list_str, tuple_lst, tuple_tup, int_int, abs_int, min_int, own_sh, own_fr, bool_sh, int_sh, ends_str, starts_str, lower_str, upper_str, sl_lst, sl_tup, sl_str, ix_lst, ix_tup, ix_scr, ix_str, ix_cell, at_zero, at_succ, set_zero, set_succ, startE_zero, startE_cons, Op_some, Op_none, bT_nm, bT_tup, bT_nil, bT_cons, pS_nil, pS_fr, pS_sh, wipe_nil, wipe_cons, it_lst, it_tup, it_str, rng_one, rng_two, zip_tup, zip_lst, fr_fr, sh_sh, lst_lst, cel_cel, in_in, List.replicate_succ, List.replicate_zero, decide_eq_true_iff, true_and, and_true, ite_true, ite_false, if_true, if_false, Bool.false_eq_true, Bool.not_eq_true', List.length_cons, List.length_nil, isi_str, isi_tup, isi_lst, isi_int, isi_non, isi_bl, eq_tup, ne_tup, eq_lst, ne_lst, lt_tup, in_lst, nin_lst, nin_tup, at_0, at_1, at_2, at_3, Bool.true_eq_false, wE_rev, wS_seti, set_lst, eq_non_str, ne_non_str, ne_str_non, eq_non, ne_non, wE_dic0, wE_dic1, wE_dicL, wE_compI, wE_lrng, wE_rep, rep_str, wE_lix, dic_dic, key_str, key_int, in_dicS, nin_dicS, ix_dicS, set_dicS, min_lst, max_lst, max_int]
end MWL
set_option Elab.async false
set_option linter.all false
set_option maxRecDepth 100000
set_option maxHeartbeats 1000000
set_option autoImplicit false
/-! Plain: acting, mended, mend. -/
namespace MWL
open MW
def better (b : Option (Nat × Ent)) (e : Ent) : Bool := match b with
  | none => true
  | some p => decide (p.2.o.length < e.o.length)
/-- the entry that acts, with its place -/
def actGo (w : Tx) : Nat → Option (Nat × Ent) → List Ent → Option (Nat × Ent)
  | _, b, [] => b
  | i, b, e :: es => if e.k = wordT ∧ e.o = w then some (i, e)
    else if e.k = endT ∧ e.o.isSuffixOf w = true ∧ better b e = true then actGo w (i + 1) (some (i, e)) es else actGo w (i + 1) b es
def actI (ls : List Ent) (w : Tx) : Option (Nat × Ent) := actGo w 0 none ls
def act (ls : List Ent) (w : Tx) : Option Ent := (actI ls w).map (·.2)
def dB (b : Option (Nat × Ent)) : D := match b with
  | none => .non
  | some p => .int (p.1 : Nat)
structure TL (ls : List Ent) : Prop where
  o : ∀ e ∈ ls, e.o.length ≤ 16777216
theorem VL.tl {ls : List Ent} (h : VL ls) : TL ls := ⟨fun e he => by have := (h.ok e he).o4; omega⟩
theorem actGo_at {ls : List Ent} {w : Tx} : ∀ (suf pre : List Ent) (b : Option (Nat × Ent)), ls = pre ++ suf → (∀ p, b = some p → ls[p.1]? = some p.2) → ∀ p, actGo w pre.length b suf = some p → ls[p.1]? = some p.2
  | [], pre, b, _, hb, p, h => hb p h
  | e :: es, pre, b, hl, hb, p, h => by
    rw [actGo] at h
    have he : ls[pre.length]? = some e := by rw [hl]; simp
    have nx : ∀ b', (∀ p, b' = some p → ls[p.1]? = some p.2) → actGo w (pre.length + 1) b' es = some p → ls[p.1]? = some p.2 := fun b' hb' h =>
      actGo_at es (pre ++ [e]) b' (by rw [hl]; simp) hb' p (by rw [List.length_append]; exact h)
    split at h
    · cases h; exact he
    · split at h
      · exact nx _ (fun p hp => by cases hp; exact he) h
      · exact nx _ hb h
theorem actI_at {ls : List Ent} {w : Tx} {p : Nat × Ent} (h : actI ls w = some p) : ls[p.1]? = some p.2 := actGo_at ls [] none rfl (fun p h => by cases h) p h
def Iact (ls : List Ent) (w : Tx) (st : Store) (i : Nat) (suf : List Ent) (env : En) (s : Store) : Prop :=
  ∃ pre b a3 a4 a5 a6, env = [some (.tup (ls.map dE)), some (.str w), some (dB b), a3, a4, a5, a6] ∧ s = st ∧ ls = pre ++ suf ∧ i = pre.length ∧ (∀ p, b = some p → ls[p.1]? = some p.2) ∧ actGo w i b suf = actI ls w
theorem acting_ok {wf k : Nat} {st : Store} {ls : List Ent} {w : Tx} {Q : Rs → Store → Prop} (h : TL ls) (hw : w.length ≤ 16777216) (hq : Q (.sh (dB (actI ls w))) st) :
    Ev (callF GD wf (k + 1) 18 [dL ls, .str w] st) Q := by
  rw [Ev_callD (d := d18) rfl rfl]
  unfold d18 b18 dL
  simp only [wE_c, wE_v, wE_vo, wE_bin, wE_neg, wE_not, wE_cmp, wE_chain, wE_and, wE_or, wE_ite, wE_call, wE_b1, wE_b2, wE_isi, wE_m0, wE_m1, wE_idx, wE_sl, wE_ss, ss_lst, mul_str, isn_bl, notn_bl, wE_tup, wE_lst, wE_cel, wE_comp, wEs_nil, wEs_cons, wEo_no, wEo_so, wC_no, wC_so, wI_e, wI_rng, wI_enum, wI_zip, wI_map, wSs_nil, wSs_cons, wS_set, wS_seto, wS_unp, wS_par, wS_app, wS_setc, wS_drop, wS_ret, wS_reto, wS_retN, wS_pass, wS_brk, wS_cont, wS_fail, wS_ite, wS_for, wR_nil, wR_cons, seqQ_nx, seqQ_ret, seqQ_brk, seqQ_cont, outQ_nx, outQ_ret, outQ_brk, outQ_cont, d_sh, d_fr, d_vw, vw_sh, vw_fr, vw_vw, add_int, add_str, add_tup, add_lst, sub_int, mul_int, fdiv_int, mod_int, eq_str, ne_str, eq_int, ne_int, eq_bl, ne_bl, eq_sn, lt_int, le_int, gt_int, ge_int, isn_any, notn_any, in_sign, nin_sign, len_str, len_tup, len_lst, len_scr, all_map, any_map, list_tup, list_lst, list_str, tuple_lst, tuple_tup, int_int, abs_int, min_int, own_sh, own_fr, bool_sh, int_sh, ends_str, starts_str, lower_str, upper_str, sl_lst, sl_tup, sl_str, ix_lst, ix_tup, ix_scr, ix_str, ix_cell, at_zero, at_succ, set_zero, set_succ, startE_zero, startE_cons, Op_some, Op_none, bT_nm, bT_tup, bT_nil, bT_cons, pS_nil, pS_fr, pS_sh, wipe_nil, wipe_cons, it_lst, it_tup, it_str, rng_one, rng_two, zip_tup, zip_lst, fr_fr, sh_sh, lst_lst, cel_cel, in_in, List.replicate_succ, List.replicate_zero, decide_eq_true_iff, true_and, and_true, ite_true, ite_false, if_true, if_false, Bool.false_eq_true, Bool.not_eq_true', List.length_cons, List.length_nil, isi_str, isi_tup, isi_lst, isi_int, isi_non, isi_bl, eq_tup, ne_tup, eq_lst, ne_lst, lt_tup, in_lst, nin_lst, nin_tup, at_0, at_1, at_2, at_3, Bool.true_eq_false, wE_rev, wS_seti, set_lst, eq_non_str, ne_non_str, ne_str_non, eq_non, ne_non, wE_dic0, wE_dic1, wE_dicL, wE_compI, wE_lrng, wE_rep, rep_str, wE_lix, dic_dic, key_str, key_int, in_dicS, nin_dicS, ix_dicS, set_dicS, min_lst, max_lst, max_int, sl_E, ix_E0, ix_E1, ix_E2, bT_E, isN_E]
  refine for_enum (f := dE) (Iact ls w st) ls 0 _ _ ⟨[], none, none, none, none, none, rfl, rfl, rfl, rfl, (fun p h => by cases h), rfl⟩ ?_ ?_
  · rintro i e es env s ⟨pre, b, a3, a4, a5, a6, rfl, rfl, hl, hi, hb, hg⟩
    have he : e ∈ ls := by rw [hl]; simp
    have hat : ls[i]? = some e := by rw [hl, hi]; simp
    have ol := h.o e he
    have keep : actGo w (i + 1) b es = actI ls w → ∀ a3 a4 a5 a6, Iact ls w s (i + 1) es [some (.tup (ls.map dE)), some (.str w), some (dB b), a3, a4, a5, a6] s := fun hg a3 a4 a5 a6 =>
      ⟨pre ++ [e], b, a3, a4, a5, a6, rfl, rfl, by rw [hl]; simp, by rw [hi]; simp, hb, hg⟩
    have take : actGo w (i + 1) (some (i, e)) es = actI ls w → ∀ a3 a4 a5 a6, Iact ls w s (i + 1) es [some (.tup (ls.map dE)), some (.str w), some (.int (i : Nat)), a3, a4, a5, a6] s := fun hg a3 a4 a5 a6 =>
      ⟨pre ++ [e], some (i, e), a3, a4, a5, a6, rfl, rfl, by rw [hl]; simp, by rw [hi]; simp, (fun p hp => by cases hp; exact hat), hg⟩
    rw [actGo] at hg
    unfold wordT endT at hg
    rw [show dE e = .tup [.str e.k, .str e.o, .str e.n] from rfl]
    simp only [wE_c, wE_v, wE_vo, wE_bin, wE_neg, wE_not, wE_cmp, wE_chain, wE_and, wE_or, wE_ite, wE_call, wE_b1, wE_b2, wE_isi, wE_m0, wE_m1, wE_idx, wE_sl, wE_ss, ss_lst, mul_str, isn_bl, notn_bl, wE_tup, wE_lst, wE_cel, wE_comp, wEs_nil, wEs_cons, wEo_no, wEo_so, wC_no, wC_so, wI_e, wI_rng, wI_enum, wI_zip, wI_map, wSs_nil, wSs_cons, wS_set, wS_seto, wS_unp, wS_par, wS_app, wS_setc, wS_drop, wS_ret, wS_reto, wS_retN, wS_pass, wS_brk, wS_cont, wS_fail, wS_ite, wS_for, wR_nil, wR_cons, seqQ_nx, seqQ_ret, seqQ_brk, seqQ_cont, outQ_nx, outQ_ret, outQ_brk, outQ_cont, d_sh, d_fr, d_vw, vw_sh, vw_fr, vw_vw, add_int, add_str, add_tup, add_lst, sub_int, mul_int, fdiv_int, mod_int, eq_str, ne_str, eq_int, ne_int, eq_bl, ne_bl, eq_sn, lt_int, le_int, gt_int, ge_int, isn_any, notn_any, in_sign, nin_sign, len_str, len_tup, len_lst, len_scr, all_map, any_map, list_tup, list_lst, list_str, tuple_lst, tuple_tup, int_int, abs_int, min_int, own_sh, own_fr, bool_sh, int_sh, ends_str, starts_str, lower_str, upper_str, sl_lst, sl_tup, sl_str, ix_lst, ix_tup, ix_scr, ix_str, ix_cell, at_zero, at_succ, set_zero, set_succ, startE_zero, startE_cons, Op_some, Op_none, bT_nm, bT_tup, bT_nil, bT_cons, pS_nil, pS_fr, pS_sh, wipe_nil, wipe_cons, it_lst, it_tup, it_str, rng_one, rng_two, zip_tup, zip_lst, fr_fr, sh_sh, lst_lst, cel_cel, in_in, List.replicate_succ, List.replicate_zero, decide_eq_true_iff, true_and, and_true, ite_true, ite_false, if_true, if_false, Bool.false_eq_true, Bool.not_eq_true', List.length_cons, List.length_nil, isi_str, isi_tup, isi_lst, isi_int, isi_non, isi_bl, eq_tup, ne_tup, eq_lst, ne_lst, lt_tup, in_lst, nin_lst, nin_tup, at_0, at_1, at_2, at_3, Bool.true_eq_false, wE_rev, wS_seti, set_lst, eq_non_str, ne_non_str, ne_str_non, eq_non, ne_non, wE_dic0, wE_dic1, wE_dicL, wE_compI, wE_lrng, wE_rep, rep_str, wE_lix, dic_dic, key_str, key_int, in_dicS, nin_dicS, ix_dicS, set_dicS, min_lst, max_lst, max_int, sl_E, ix_E0, ix_E1, ix_E2, bT_E, isN_E]
    have part2 : (if e.k = [101, 110, 100] ∧ e.o.isSuffixOf w = true ∧ better b e = true then actGo w (i + 1) (some (i, e)) es else actGo w (i + 1) b es) = actI ls w →
        (if e.k = [101, 110, 100] then if List.isSuffixOf e.o w = true then if isNonD (dB b) = true then Iact ls w s (i + 1) es [some (.tup (ls.map dE)), some (.str w), some (.int (i : Nat)), some (.int (i : Nat)), some (.str e.k), some (.str e.o), some (.str e.n)] s
          else List.length e.o ≤ 16777216 ∧ Op (ixD s (.tup (ls.map dE)) (dB b)) fun r => Op (ixD s r (.int 1)) fun r => Op (op1 B1.len r) fun r => Op (opC COp.gt (D.int ↑(List.length e.o)) r.d) fun r => if r = true then Iact ls w s (i + 1) es [some (.tup (ls.map dE)), some (.str w), some (.int (i : Nat)), some (.int (i : Nat)), some (.str e.k), some (.str e.o), some (.str e.n)] s else Iact ls w s (i + 1) es [some (.tup (ls.map dE)), some (.str w), some (dB b), some (.int (i : Nat)), some (.str e.k), some (.str e.o), some (.str e.n)] s
          else Iact ls w s (i + 1) es [some (.tup (ls.map dE)), some (.str w), some (dB b), some (.int (i : Nat)), some (.str e.k), some (.str e.o), some (.str e.n)] s
          else Iact ls w s (i + 1) es [some (.tup (ls.map dE)), some (.str w), some (dB b), some (.int (i : Nat)), some (.str e.k), some (.str e.o), some (.str e.n)] s) := by
      intro hg
      by_cases h2 : e.k = [101, 110, 100]
      · rw [if_pos h2]
        by_cases h3 : e.o.isSuffixOf w = true
        · rw [if_pos h3]
          cases b with
          | none =>
            rw [if_pos ⟨h2, h3, rfl⟩] at hg
            rw [if_pos (show isNonD (dB none) = true from rfl)]
            exact take hg _ _ _ _
          | some p =>
            have hp := hb p rfl
            have pl := h.o p.2 (List.mem_of_getElem? hp)
            rw [if_neg (show ¬ isNonD (dB (some p)) = true from Bool.false_ne_true)]
            refine ⟨ol, ?_⟩
            show Op (ixD s (.tup (ls.map dE)) (.int (p.1 : Nat))) _
            rw [ix_tup, at_nat (Int.natCast_nonneg _), Int.toNat_natCast, List.getElem?_map, hp]
            rw [show Option.map dE (some p.2) = some (.tup [.str p.2.k, .str p.2.o, .str p.2.n]) from rfl]
            simp only [pl, wE_c, wE_v, wE_vo, wE_bin, wE_neg, wE_not, wE_cmp, wE_chain, wE_and, wE_or, wE_ite, wE_call, wE_b1, wE_b2, wE_isi, wE_m0, wE_m1, wE_idx, wE_sl, wE_ss, ss_lst, mul_str, isn_bl, notn_bl, wE_tup, wE_lst, wE_cel, wE_comp, wEs_nil, wEs_cons, wEo_no, wEo_so, wC_no, wC_so, wI_e, wI_rng, wI_enum, wI_zip, wI_map, wSs_nil, wSs_cons, wS_set, wS_seto, wS_unp, wS_par, wS_app, wS_setc, wS_drop, wS_ret, wS_reto, wS_retN, wS_pass, wS_brk, wS_cont, wS_fail, wS_ite, wS_for, wR_nil, wR_cons, seqQ_nx, seqQ_ret, seqQ_brk, seqQ_cont, outQ_nx, outQ_ret, outQ_brk, outQ_cont, d_sh, d_fr, d_vw, vw_sh, vw_fr, vw_vw, add_int, add_str, add_tup, add_lst, sub_int, mul_int, fdiv_int, mod_int, eq_str, ne_str, eq_int, ne_int, eq_bl, ne_bl, eq_sn, lt_int, le_int, gt_int, ge_int, isn_any, notn_any, in_sign, nin_sign, len_str, len_tup, len_lst, len_scr, all_map, any_map, list_tup, list_lst, list_str, tuple_lst, tuple_tup, int_int, abs_int, min_int, own_sh, own_fr, bool_sh, int_sh, ends_str, starts_str, lower_str, upper_str, sl_lst, sl_tup, sl_str, ix_lst, ix_tup, ix_scr, ix_str, ix_cell, at_zero, at_succ, set_zero, set_succ, startE_zero, startE_cons, Op_some, Op_none, bT_nm, bT_tup, bT_nil, bT_cons, pS_nil, pS_fr, pS_sh, wipe_nil, wipe_cons, it_lst, it_tup, it_str, rng_one, rng_two, zip_tup, zip_lst, fr_fr, sh_sh, lst_lst, cel_cel, in_in, List.replicate_succ, List.replicate_zero, decide_eq_true_iff, true_and, and_true, ite_true, ite_false, if_true, if_false, Bool.false_eq_true, Bool.not_eq_true', List.length_cons, List.length_nil, isi_str, isi_tup, isi_lst, isi_int, isi_non, isi_bl, eq_tup, ne_tup, eq_lst, ne_lst, lt_tup, in_lst, nin_lst, nin_tup, at_0, at_1, at_2, at_3, Bool.true_eq_false, wE_rev, wS_seti, set_lst, eq_non_str, ne_non_str, ne_str_non, eq_non, ne_non, wE_dic0, wE_dic1, wE_dicL, wE_compI, wE_lrng, wE_rep, rep_str, wE_lix, dic_dic, key_str, key_int, in_dicS, nin_dicS, ix_dicS, set_dicS, min_lst, max_lst, max_int, sl_E, ix_E0, ix_E1, ix_E2, bT_E, isN_E]
            by_cases h4 : p.2.o.length < e.o.length
            · rw [if_pos (by omega)]
              rw [if_pos ⟨h2, h3, decide_eq_true h4⟩] at hg
              exact take hg _ _ _ _
            · rw [if_neg (by omega)]
              rw [if_neg (fun z => h4 (of_decide_eq_true z.2.2))] at hg
              exact keep hg _ _ _ _
        · rw [if_neg h3]
          rw [if_neg (fun z => h3 z.2.1)] at hg
          exact keep hg _ _ _ _
      · rw [if_neg h2]
        rw [if_neg (fun z => h2 z.1)] at hg
        exact keep hg _ _ _ _
    by_cases h1 : e.k = [119, 111, 114, 100]
    · rw [if_pos h1]
      by_cases h2 : e.o = w
      · rw [if_pos h2]
        rw [if_pos ⟨h1, h2⟩] at hg
        rw [← hg] at hq
        exact hq
      · rw [if_neg h2]
        rw [if_neg (fun z => h2 z.2)] at hg
        exact part2 hg
    · rw [if_neg h1]
      rw [if_neg (fun z => h1 z.1)] at hg
      exact part2 hg
  · rintro i env s ⟨pre, b, a3, a4, a5, a6, rfl, rfl, hl, hi, hb, hg⟩
    rw [actGo] at hg
    simp only [wE_c, wE_v, wE_vo, wE_bin, wE_neg, wE_not, wE_cmp, wE_chain, wE_and, wE_or, wE_ite, wE_call, wE_b1, wE_b2, wE_isi, wE_m0, wE_m1, wE_idx, wE_sl, wE_ss, ss_lst, mul_str, isn_bl, notn_bl, wE_tup, wE_lst, wE_cel, wE_comp, wEs_nil, wEs_cons, wEo_no, wEo_so, wC_no, wC_so, wI_e, wI_rng, wI_enum, wI_zip, wI_map, wSs_nil, wSs_cons, wS_set, wS_seto, wS_unp, wS_par, wS_app, wS_setc, wS_drop, wS_ret, wS_reto, wS_retN, wS_pass, wS_brk, wS_cont, wS_fail, wS_ite, wS_for, wR_nil, wR_cons, seqQ_nx, seqQ_ret, seqQ_brk, seqQ_cont, outQ_nx, outQ_ret, outQ_brk, outQ_cont, d_sh, d_fr, d_vw, vw_sh, vw_fr, vw_vw, add_int, add_str, add_tup, add_lst, sub_int, mul_int, fdiv_int, mod_int, eq_str, ne_str, eq_int, ne_int, eq_bl, ne_bl, eq_sn, lt_int, le_int, gt_int, ge_int, isn_any, notn_any, in_sign, nin_sign, len_str, len_tup, len_lst, len_scr, all_map, any_map, list_tup, list_lst, list_str, tuple_lst, tuple_tup, int_int, abs_int, min_int, own_sh, own_fr, bool_sh, int_sh, ends_str, starts_str, lower_str, upper_str, sl_lst, sl_tup, sl_str, ix_lst, ix_tup, ix_scr, ix_str, ix_cell, at_zero, at_succ, set_zero, set_succ, startE_zero, startE_cons, Op_some, Op_none, bT_nm, bT_tup, bT_nil, bT_cons, pS_nil, pS_fr, pS_sh, wipe_nil, wipe_cons, it_lst, it_tup, it_str, rng_one, rng_two, zip_tup, zip_lst, fr_fr, sh_sh, lst_lst, cel_cel, in_in, List.replicate_succ, List.replicate_zero, decide_eq_true_iff, true_and, and_true, ite_true, ite_false, if_true, if_false, Bool.false_eq_true, Bool.not_eq_true', List.length_cons, List.length_nil, isi_str, isi_tup, isi_lst, isi_int, isi_non, isi_bl, eq_tup, ne_tup, eq_lst, ne_lst, lt_tup, in_lst, nin_lst, nin_tup, at_0, at_1, at_2, at_3, Bool.true_eq_false, wE_rev, wS_seti, set_lst, eq_non_str, ne_non_str, ne_str_non, eq_non, ne_non, wE_dic0, wE_dic1, wE_dicL, wE_compI, wE_lrng, wE_rep, rep_str, wE_lix, dic_dic, key_str, key_int, in_dicS, nin_dicS, ix_dicS, set_dicS, min_lst, max_lst, max_int, sl_E, ix_E0, ix_E1, ix_E2, bT_E, isN_E]
    rw [hg]; exact hq
theorem dB_none : isNonD (dB none) = true := rfl
theorem dB_some {p : Nat × Ent} : isNonD (dB (some p)) = false := rfl
/-- what a word becomes -/
def mendT (ls : List Ent) (w : Tx) : Tx := match act ls w with
  | none => w
  | some e => w.take (w.length - e.o.length) ++ e.n
theorem act_suf {ls : List Ent} {w : Tx} {e : Ent} (h : act ls w = some e) : e ∈ ls ∧ (e.k = wordT ∧ e.o = w ∨ e.k = endT ∧ e.o.isSuffixOf w = true) := by
  have gen : ∀ (suf : List Ent) (i : Nat) (b : Option (Nat × Ent)), (∀ e ∈ suf, e ∈ ls) → (∀ p, b = some p → p.2 ∈ ls ∧ (p.2.k = wordT ∧ p.2.o = w ∨ p.2.k = endT ∧ p.2.o.isSuffixOf w = true)) → ∀ p, actGo w i b suf = some p → p.2 ∈ ls ∧ (p.2.k = wordT ∧ p.2.o = w ∨ p.2.k = endT ∧ p.2.o.isSuffixOf w = true) := by
    intro suf
    induction suf with
    | nil => intro i b _ hb p h; exact hb p h
    | cons e es ih =>
      intro i b hs hb p h
      rw [actGo] at h
      split at h
      · rename_i hc; cases h; exact ⟨hs e List.mem_cons_self, .inl hc⟩
      · split at h
        · rename_i hc
          exact ih _ _ (fun e he => hs e (List.mem_cons_of_mem _ he)) (fun p hp => by cases hp; exact ⟨hs e List.mem_cons_self, .inr ⟨hc.1, hc.2.1⟩⟩) p h
        · exact ih _ _ (fun e he => hs e (List.mem_cons_of_mem _ he)) hb p h
  unfold act at h
  cases e1 : actI ls w with
  | none => rw [e1] at h; cases h
  | some p =>
    rw [e1] at h; cases h
    exact gen ls 0 none (fun _ h => h) (fun p h => by cases h) p e1
theorem suf_le {ls : List Ent} {w : Tx} {e : Ent} (h : act ls w = some e) : e.o.length ≤ w.length := by
  rcases (act_suf h).2 with ⟨_, h⟩ | ⟨_, h⟩
  · rw [h]; exact Nat.le_refl _
  · exact (List.isSuffixOf_iff_suffix.mp h).length_le
theorem mended_ok {wf k : Nat} {st : Store} {ls : List Ent} {w : Tx} {Q : Rs → Store → Prop} (h : TL ls) (hn : ∀ e ∈ ls, e.n.length ≤ 1000000) (hw : w.length ≤ 1000000) (hq : Q (.sh (.str (mendT ls w))) st) :
    Ev (callF GD wf (k + 1 + 1) 19 [dL ls, .str w] st) Q := by
  rw [Ev_callD (d := d19) rfl rfl]
  unfold d19 b19
  simp only [wE_c, wE_v, wE_vo, wE_bin, wE_neg, wE_not, wE_cmp, wE_chain, wE_and, wE_or, wE_ite, wE_call, wE_b1, wE_b2, wE_isi, wE_m0, wE_m1, wE_idx, wE_sl, wE_ss, ss_lst, mul_str, isn_bl, notn_bl, wE_tup, wE_lst, wE_cel, wE_comp, wEs_nil, wEs_cons, wEo_no, wEo_so, wC_no, wC_so, wI_e, wI_rng, wI_enum, wI_zip, wI_map, wSs_nil, wSs_cons, wS_set, wS_seto, wS_unp, wS_par, wS_app, wS_setc, wS_drop, wS_ret, wS_reto, wS_retN, wS_pass, wS_brk, wS_cont, wS_fail, wS_ite, wS_for, wR_nil, wR_cons, seqQ_nx, seqQ_ret, seqQ_brk, seqQ_cont, outQ_nx, outQ_ret, outQ_brk, outQ_cont, d_sh, d_fr, d_vw, vw_sh, vw_fr, vw_vw, add_int, add_str, add_tup, add_lst, sub_int, mul_int, fdiv_int, mod_int, eq_str, ne_str, eq_int, ne_int, eq_bl, ne_bl, eq_sn, lt_int, le_int, gt_int, ge_int, isn_any, notn_any, in_sign, nin_sign, len_str, len_tup, len_lst, len_scr, all_map, any_map, list_tup, list_lst, list_str, tuple_lst, tuple_tup, int_int, abs_int, min_int, own_sh, own_fr, bool_sh, int_sh, ends_str, starts_str, lower_str, upper_str, sl_lst, sl_tup, sl_str, ix_lst, ix_tup, ix_scr, ix_str, ix_cell, at_zero, at_succ, set_zero, set_succ, startE_zero, startE_cons, Op_some, Op_none, bT_nm, bT_tup, bT_nil, bT_cons, pS_nil, pS_fr, pS_sh, wipe_nil, wipe_cons, it_lst, it_tup, it_str, rng_one, rng_two, zip_tup, zip_lst, fr_fr, sh_sh, lst_lst, cel_cel, in_in, List.replicate_succ, List.replicate_zero, decide_eq_true_iff, true_and, and_true, ite_true, ite_false, if_true, if_false, Bool.false_eq_true, Bool.not_eq_true', List.length_cons, List.length_nil, isi_str, isi_tup, isi_lst, isi_int, isi_non, isi_bl, eq_tup, ne_tup, eq_lst, ne_lst, lt_tup, in_lst, nin_lst, nin_tup, at_0, at_1, at_2, at_3, Bool.true_eq_false, wE_rev, wS_seti, set_lst, eq_non_str, ne_non_str, ne_str_non, eq_non, ne_non, wE_dic0, wE_dic1, wE_dicL, wE_compI, wE_lrng, wE_rep, rep_str, wE_lix, dic_dic, key_str, key_int, in_dicS, nin_dicS, ix_dicS, set_dicS, min_lst, max_lst, max_int, sl_E, ix_E0, ix_E1, ix_E2, bT_E, isN_E]
  refine acting_ok h (by omega) ?_
  unfold mendT act at hq
  cases e1 : actI ls w with
  | none =>
    rw [e1] at hq
    simp only [dB_none, wE_c, wE_v, wE_vo, wE_bin, wE_neg, wE_not, wE_cmp, wE_chain, wE_and, wE_or, wE_ite, wE_call, wE_b1, wE_b2, wE_isi, wE_m0, wE_m1, wE_idx, wE_sl, wE_ss, ss_lst, mul_str, isn_bl, notn_bl, wE_tup, wE_lst, wE_cel, wE_comp, wEs_nil, wEs_cons, wEo_no, wEo_so, wC_no, wC_so, wI_e, wI_rng, wI_enum, wI_zip, wI_map, wSs_nil, wSs_cons, wS_set, wS_seto, wS_unp, wS_par, wS_app, wS_setc, wS_drop, wS_ret, wS_reto, wS_retN, wS_pass, wS_brk, wS_cont, wS_fail, wS_ite, wS_for, wR_nil, wR_cons, seqQ_nx, seqQ_ret, seqQ_brk, seqQ_cont, outQ_nx, outQ_ret, outQ_brk, outQ_cont, d_sh, d_fr, d_vw, vw_sh, vw_fr, vw_vw, add_int, add_str, add_tup, add_lst, sub_int, mul_int, fdiv_int, mod_int, eq_str, ne_str, eq_int, ne_int, eq_bl, ne_bl, eq_sn, lt_int, le_int, gt_int, ge_int, isn_any, notn_any, in_sign, nin_sign, len_str, len_tup, len_lst, len_scr, all_map, any_map, list_tup, list_lst, list_str, tuple_lst, tuple_tup, int_int, abs_int, min_int, own_sh, own_fr, bool_sh, int_sh, ends_str, starts_str, lower_str, upper_str, sl_lst, sl_tup, sl_str, ix_lst, ix_tup, ix_scr, ix_str, ix_cell, at_zero, at_succ, set_zero, set_succ, startE_zero, startE_cons, Op_some, Op_none, bT_nm, bT_tup, bT_nil, bT_cons, pS_nil, pS_fr, pS_sh, wipe_nil, wipe_cons, it_lst, it_tup, it_str, rng_one, rng_two, zip_tup, zip_lst, fr_fr, sh_sh, lst_lst, cel_cel, in_in, List.replicate_succ, List.replicate_zero, decide_eq_true_iff, true_and, and_true, ite_true, ite_false, if_true, if_false, Bool.false_eq_true, Bool.not_eq_true', List.length_cons, List.length_nil, isi_str, isi_tup, isi_lst, isi_int, isi_non, isi_bl, eq_tup, ne_tup, eq_lst, ne_lst, lt_tup, in_lst, nin_lst, nin_tup, at_0, at_1, at_2, at_3, Bool.true_eq_false, wE_rev, wS_seti, set_lst, eq_non_str, ne_non_str, ne_str_non, eq_non, ne_non, wE_dic0, wE_dic1, wE_dicL, wE_compI, wE_lrng, wE_rep, rep_str, wE_lix, dic_dic, key_str, key_int, in_dicS, nin_dicS, ix_dicS, set_dicS, min_lst, max_lst, max_int, sl_E, ix_E0, ix_E1, ix_E2, bT_E, isN_E]
    exact hq
  | some p =>
    rw [e1] at hq
    have hp := actI_at e1
    have hm := List.mem_of_getElem? hp
    have hs : p.2.o.length ≤ w.length := suf_le (ls := ls) (by unfold act; rw [e1]; rfl)
    have pl := h.o p.2 hm
    have pn := hn p.2 hm
    have wl : w.length ≤ 16777216 := by omega
    simp only [dB_some, wE_c, wE_v, wE_vo, wE_bin, wE_neg, wE_not, wE_cmp, wE_chain, wE_and, wE_or, wE_ite, wE_call, wE_b1, wE_b2, wE_isi, wE_m0, wE_m1, wE_idx, wE_sl, wE_ss, ss_lst, mul_str, isn_bl, notn_bl, wE_tup, wE_lst, wE_cel, wE_comp, wEs_nil, wEs_cons, wEo_no, wEo_so, wC_no, wC_so, wI_e, wI_rng, wI_enum, wI_zip, wI_map, wSs_nil, wSs_cons, wS_set, wS_seto, wS_unp, wS_par, wS_app, wS_setc, wS_drop, wS_ret, wS_reto, wS_retN, wS_pass, wS_brk, wS_cont, wS_fail, wS_ite, wS_for, wR_nil, wR_cons, seqQ_nx, seqQ_ret, seqQ_brk, seqQ_cont, outQ_nx, outQ_ret, outQ_brk, outQ_cont, d_sh, d_fr, d_vw, vw_sh, vw_fr, vw_vw, add_int, add_str, add_tup, add_lst, sub_int, mul_int, fdiv_int, mod_int, eq_str, ne_str, eq_int, ne_int, eq_bl, ne_bl, eq_sn, lt_int, le_int, gt_int, ge_int, isn_any, notn_any, in_sign, nin_sign, len_str, len_tup, len_lst, len_scr, all_map, any_map, list_tup, list_lst, list_str, tuple_lst, tuple_tup, int_int, abs_int, min_int, own_sh, own_fr, bool_sh, int_sh, ends_str, starts_str, lower_str, upper_str, sl_lst, sl_tup, sl_str, ix_lst, ix_tup, ix_scr, ix_str, ix_cell, at_zero, at_succ, set_zero, set_succ, startE_zero, startE_cons, Op_some, Op_none, bT_nm, bT_tup, bT_nil, bT_cons, pS_nil, pS_fr, pS_sh, wipe_nil, wipe_cons, it_lst, it_tup, it_str, rng_one, rng_two, zip_tup, zip_lst, fr_fr, sh_sh, lst_lst, cel_cel, in_in, List.replicate_succ, List.replicate_zero, decide_eq_true_iff, true_and, and_true, ite_true, ite_false, if_true, if_false, Bool.false_eq_true, Bool.not_eq_true', List.length_cons, List.length_nil, isi_str, isi_tup, isi_lst, isi_int, isi_non, isi_bl, eq_tup, ne_tup, eq_lst, ne_lst, lt_tup, in_lst, nin_lst, nin_tup, at_0, at_1, at_2, at_3, Bool.true_eq_false, wE_rev, wS_seti, set_lst, eq_non_str, ne_non_str, ne_str_non, eq_non, ne_non, wE_dic0, wE_dic1, wE_dicL, wE_compI, wE_lrng, wE_rep, rep_str, wE_lix, dic_dic, key_str, key_int, in_dicS, nin_dicS, ix_dicS, set_dicS, min_lst, max_lst, max_int, sl_E, ix_E0, ix_E1, ix_E2, bT_E, isN_E]
    unfold dL
    show Op (ixD st (.tup (ls.map dE)) (.int (p.1 : Nat))) _
    rw [ix_tup, at_nat (Int.natCast_nonneg _), Int.toNat_natCast, List.getElem?_map, hp]
    rw [show Option.map dE (some p.2) = some (.tup [.str p.2.k, .str p.2.o, .str p.2.n]) from rfl]
    simp only [pl, wl, wE_c, wE_v, wE_vo, wE_bin, wE_neg, wE_not, wE_cmp, wE_chain, wE_and, wE_or, wE_ite, wE_call, wE_b1, wE_b2, wE_isi, wE_m0, wE_m1, wE_idx, wE_sl, wE_ss, ss_lst, mul_str, isn_bl, notn_bl, wE_tup, wE_lst, wE_cel, wE_comp, wEs_nil, wEs_cons, wEo_no, wEo_so, wC_no, wC_so, wI_e, wI_rng, wI_enum, wI_zip, wI_map, wSs_nil, wSs_cons, wS_set, wS_seto, wS_unp, wS_par, wS_app, wS_setc, wS_drop, wS_ret, wS_reto, wS_retN, wS_pass, wS_brk, wS_cont, wS_fail, wS_ite, wS_for, wR_nil, wR_cons, seqQ_nx, seqQ_ret, seqQ_brk, seqQ_cont, outQ_nx, outQ_ret, outQ_brk, outQ_cont, d_sh, d_fr, d_vw, vw_sh, vw_fr, vw_vw, add_int, add_str, add_tup, add_lst, sub_int, mul_int, fdiv_int, mod_int, eq_str, ne_str, eq_int, ne_int, eq_bl, ne_bl, eq_sn, lt_int, le_int, gt_int, ge_int, isn_any, notn_any, in_sign, nin_sign, len_str, len_tup, len_lst, len_scr, all_map, any_map, list_tup, list_lst, list_str, tuple_lst, tuple_tup, int_int, abs_int, min_int, own_sh, own_fr, bool_sh, int_sh, ends_str, starts_str, lower_str, upper_str, sl_lst, sl_tup, sl_str, ix_lst, ix_tup, ix_scr, ix_str, ix_cell, at_zero, at_succ, set_zero, set_succ, startE_zero, startE_cons, Op_some, Op_none, bT_nm, bT_tup, bT_nil, bT_cons, pS_nil, pS_fr, pS_sh, wipe_nil, wipe_cons, it_lst, it_tup, it_str, rng_one, rng_two, zip_tup, zip_lst, fr_fr, sh_sh, lst_lst, cel_cel, in_in, List.replicate_succ, List.replicate_zero, decide_eq_true_iff, true_and, and_true, ite_true, ite_false, if_true, if_false, Bool.false_eq_true, Bool.not_eq_true', List.length_cons, List.length_nil, isi_str, isi_tup, isi_lst, isi_int, isi_non, isi_bl, eq_tup, ne_tup, eq_lst, ne_lst, lt_tup, in_lst, nin_lst, nin_tup, at_0, at_1, at_2, at_3, Bool.true_eq_false, wE_rev, wS_seti, set_lst, eq_non_str, ne_non_str, ne_str_non, eq_non, ne_non, wE_dic0, wE_dic1, wE_dicL, wE_compI, wE_lrng, wE_rep, rep_str, wE_lix, dic_dic, key_str, key_int, in_dicS, nin_dicS, ix_dicS, set_dicS, min_lst, max_lst, max_int, sl_E, ix_E0, ix_E1, ix_E2, bT_E, isN_E]
    rw [cut_to _ (show (0 : Int) ≤ (w.length : Int) - (p.2.o.length : Int) by omega)]
    rw [show ((w.length : Int) - (p.2.o.length : Int)).toNat = w.length - p.2.o.length by omega]
    refine ⟨?_, hq⟩
    rw [List.length_take]; omega
theorem VL.n {ls : List Ent} (h : VL ls) : ∀ e ∈ ls, e.n.length ≤ 1000000 := fun e he => by have := (h.ok e he).n4; omega
end MWL
set_option Elab.async false
set_option linter.all false
set_option maxRecDepth 100000
set_option maxHeartbeats 1000000
set_option autoImplicit false
/-! Plain: the law's draws. -/
namespace MWL
open MW
/-- the cell c holds a source -/
def Src (c : Nat) (st : Store) : Prop := ∃ a b : Int, st[c]? = some [.int a, .int b] ∧ 0 ≤ a ∧ 0 ≤ b ∧ b < 2 ^ 32
theorem Src.set {c : Nat} {st : Store} {a b : Int} (h : Src c st) (ha : 0 ≤ a) (hb : 0 ≤ b) (hl : b < 2 ^ 32) : Src c (st.set c [.int a, .int b]) := by
  obtain ⟨_, _, e, _⟩ := h
  exact ⟨a, b, by rw [List.getElem?_set_self (List.getElem?_eq_some_iff.mp e).1], ha, hb, hl⟩
theorem ixN0 {R : Nat → Prop} : Op (L2.ixN (0 + 1 + 1) 0) R ↔ R 0 := Op_some
theorem ixN1 {R : Nat → Prop} : Op (L2.ixN (0 + 1 + 1) 1) R ↔ R 1 := Op_some
theorem draw_ok {wf k c : Nat} {st : Store} {n : Int} (h : Src c st) (h0 : 0 < n) (h1 : n.natAbs < 2 ^ 100) :
    Ev (callF GD wf (k + 1) 5 [.cell c, .int n] st) fun r s => Src c s ∧ ∃ v : Int, r = .sh (.int v) ∧ 0 ≤ v ∧ v < n := by
  obtain ⟨a, b, e, ha, hb, hl⟩ := h
  have h' : Src c st := ⟨a, b, e, ha, hb, hl⟩
  have hlt := (List.getElem?_eq_some_iff.mp e).1
  rw [Ev_callD (d := d5) rfl rfl]
  unfold d5 b5
  simp only [e, ixN0, ixN1, h0, h1, wE_c, wE_v, wE_vo, wE_bin, wE_neg, wE_not, wE_cmp, wE_chain, wE_and, wE_or, wE_ite, wE_call, wE_b1, wE_b2, wE_isi, wE_m0, wE_m1, wE_idx, wE_sl, wE_ss, ss_lst, mul_str, isn_bl, notn_bl, wE_tup, wE_lst, wE_cel, wE_comp, wEs_nil, wEs_cons, wEo_no, wEo_so, wC_no, wC_so, wI_e, wI_rng, wI_enum, wI_zip, wI_map, wSs_nil, wSs_cons, wS_set, wS_seto, wS_unp, wS_par, wS_app, wS_setc, wS_drop, wS_ret, wS_reto, wS_retN, wS_pass, wS_brk, wS_cont, wS_fail, wS_ite, wS_for, wR_nil, wR_cons, seqQ_nx, seqQ_ret, seqQ_brk, seqQ_cont, outQ_nx, outQ_ret, outQ_brk, outQ_cont, d_sh, d_fr, d_vw, vw_sh, vw_fr, vw_vw, add_int, add_str, add_tup, add_lst, sub_int, mul_int, fdiv_int, mod_int, eq_str, ne_str, eq_int, ne_int, eq_bl, ne_bl, eq_sn, lt_int, le_int, gt_int, ge_int, isn_any, notn_any, in_sign, nin_sign, len_str, len_tup, len_lst, len_scr, all_map, any_map, list_tup, list_lst, list_str, tuple_lst, tuple_tup, int_int, abs_int, min_int, own_sh, own_fr, bool_sh, int_sh, ends_str, starts_str, lower_str, upper_str, sl_lst, sl_tup, sl_str, ix_lst, ix_tup, ix_scr, ix_str, ix_cell, at_zero, at_succ, set_zero, set_succ, startE_zero, startE_cons, Op_some, Op_none, bT_nm, bT_tup, bT_nil, bT_cons, pS_nil, pS_fr, pS_sh, wipe_nil, wipe_cons, it_lst, it_tup, it_str, rng_one, rng_two, zip_tup, zip_lst, fr_fr, sh_sh, lst_lst, cel_cel, in_in, List.replicate_succ, List.replicate_zero, decide_eq_true_iff, true_and, and_true, ite_true, ite_false, if_true, if_false, Bool.false_eq_true, Bool.not_eq_true', List.length_cons, List.length_nil, isi_str, isi_tup, isi_lst, isi_int, isi_non, isi_bl, eq_tup, ne_tup, eq_lst, ne_lst, lt_tup, in_lst, nin_lst, nin_tup, at_0, at_1, at_2, at_3, Bool.true_eq_false, wE_rev, wS_seti, set_lst, eq_non_str, ne_non_str, ne_str_non, eq_non, ne_non, wE_dic0, wE_dic1, wE_dicL, wE_compI, wE_lrng, wE_rep, rep_str, wE_lix, dic_dic, key_str, key_int, in_dicS, nin_dicS, ix_dicS, set_dicS, min_lst, max_lst, max_int, sl_E, ix_E0, ix_E1, ix_E2, bT_E, isN_E]
  split
  · rename_i hp
    refine ⟨h'.set (Int.ediv_nonneg ha (by omega)) hb hl, _, rfl, Int.emod_nonneg _ (by omega), Int.emod_lt_of_pos _ h0⟩
  · have m1 : 0 ≤ b * 48271 % 2147483647 := Int.emod_nonneg _ (by decide)
    have m2 : b * 48271 % 2147483647 < 2147483647 := Int.emod_lt_of_pos _ (by decide)
    have s1 : (st.set c [D.int a, D.int (b * 48271 % 2147483647)])[c]? = some [D.int a, D.int (b * 48271 % 2147483647)] := by rw [List.getElem?_set_self hlt]
    have e1 : (List.set [D.int a, D.int b] 1 (D.int (b * 48271 % 2147483647))) = [D.int a, D.int (b * 48271 % 2147483647)] := rfl
    simp only [s1, e1, h0, wE_c, wE_v, wE_vo, wE_bin, wE_neg, wE_not, wE_cmp, wE_chain, wE_and, wE_or, wE_ite, wE_call, wE_b1, wE_b2, wE_isi, wE_m0, wE_m1, wE_idx, wE_sl, wE_ss, ss_lst, mul_str, isn_bl, notn_bl, wE_tup, wE_lst, wE_cel, wE_comp, wEs_nil, wEs_cons, wEo_no, wEo_so, wC_no, wC_so, wI_e, wI_rng, wI_enum, wI_zip, wI_map, wSs_nil, wSs_cons, wS_set, wS_seto, wS_unp, wS_par, wS_app, wS_setc, wS_drop, wS_ret, wS_reto, wS_retN, wS_pass, wS_brk, wS_cont, wS_fail, wS_ite, wS_for, wR_nil, wR_cons, seqQ_nx, seqQ_ret, seqQ_brk, seqQ_cont, outQ_nx, outQ_ret, outQ_brk, outQ_cont, d_sh, d_fr, d_vw, vw_sh, vw_fr, vw_vw, add_int, add_str, add_tup, add_lst, sub_int, mul_int, fdiv_int, mod_int, eq_str, ne_str, eq_int, ne_int, eq_bl, ne_bl, eq_sn, lt_int, le_int, gt_int, ge_int, isn_any, notn_any, in_sign, nin_sign, len_str, len_tup, len_lst, len_scr, all_map, any_map, list_tup, list_lst, list_str, tuple_lst, tuple_tup, int_int, abs_int, min_int, own_sh, own_fr, bool_sh, int_sh, ends_str, starts_str, lower_str, upper_str, sl_lst, sl_tup, sl_str, ix_lst, ix_tup, ix_scr, ix_str, ix_cell, at_zero, at_succ, set_zero, set_succ, startE_zero, startE_cons, Op_some, Op_none, bT_nm, bT_tup, bT_nil, bT_cons, pS_nil, pS_fr, pS_sh, wipe_nil, wipe_cons, it_lst, it_tup, it_str, rng_one, rng_two, zip_tup, zip_lst, fr_fr, sh_sh, lst_lst, cel_cel, in_in, List.replicate_succ, List.replicate_zero, decide_eq_true_iff, true_and, and_true, ite_true, ite_false, if_true, if_false, Bool.false_eq_true, Bool.not_eq_true', List.length_cons, List.length_nil, isi_str, isi_tup, isi_lst, isi_int, isi_non, isi_bl, eq_tup, ne_tup, eq_lst, ne_lst, lt_tup, in_lst, nin_lst, nin_tup, at_0, at_1, at_2, at_3, Bool.true_eq_false, wE_rev, wS_seti, set_lst, eq_non_str, ne_non_str, ne_str_non, eq_non, ne_non, wE_dic0, wE_dic1, wE_dicL, wE_compI, wE_lrng, wE_rep, rep_str, wE_lix, dic_dic, key_str, key_int, in_dicS, nin_dicS, ix_dicS, set_dicS, min_lst, max_lst, max_int, sl_E, ix_E0, ix_E1, ix_E2, bT_E, isN_E]
    refine ⟨.inr ⟨by decide, by decide⟩, by decide, .inl ⟨by omega, by omega⟩, by decide, ⟨by decide, by decide⟩, h'.set ha m1 (by omega), _, rfl, Int.emod_nonneg _ (by omega), Int.emod_lt_of_pos _ h0⟩
theorem choice_ok {wf k c : Nat} {st : Store} {xs : List D} (h : Src c st) (h0 : 0 < xs.length) (h1 : xs.length ≤ 16777216) :
    Ev (callF GD wf (k + 1 + 1) 6 [.cell c, .lst xs] st) fun r s => Src c s ∧ ∃ x ∈ xs, r = .sh x := by
  rw [Ev_callD (d := d6) rfl rfl]
  unfold d6 b6
  simp only [wE_c, wE_v, wE_vo, wE_bin, wE_neg, wE_not, wE_cmp, wE_chain, wE_and, wE_or, wE_ite, wE_call, wE_b1, wE_b2, wE_isi, wE_m0, wE_m1, wE_idx, wE_sl, wE_ss, ss_lst, mul_str, isn_bl, notn_bl, wE_tup, wE_lst, wE_cel, wE_comp, wEs_nil, wEs_cons, wEo_no, wEo_so, wC_no, wC_so, wI_e, wI_rng, wI_enum, wI_zip, wI_map, wSs_nil, wSs_cons, wS_set, wS_seto, wS_unp, wS_par, wS_app, wS_setc, wS_drop, wS_ret, wS_reto, wS_retN, wS_pass, wS_brk, wS_cont, wS_fail, wS_ite, wS_for, wR_nil, wR_cons, seqQ_nx, seqQ_ret, seqQ_brk, seqQ_cont, outQ_nx, outQ_ret, outQ_brk, outQ_cont, d_sh, d_fr, d_vw, vw_sh, vw_fr, vw_vw, add_int, add_str, add_tup, add_lst, sub_int, mul_int, fdiv_int, mod_int, eq_str, ne_str, eq_int, ne_int, eq_bl, ne_bl, eq_sn, lt_int, le_int, gt_int, ge_int, isn_any, notn_any, in_sign, nin_sign, len_str, len_tup, len_lst, len_scr, all_map, any_map, list_tup, list_lst, list_str, tuple_lst, tuple_tup, int_int, abs_int, min_int, own_sh, own_fr, bool_sh, int_sh, ends_str, starts_str, lower_str, upper_str, sl_lst, sl_tup, sl_str, ix_lst, ix_tup, ix_scr, ix_str, ix_cell, at_zero, at_succ, set_zero, set_succ, startE_zero, startE_cons, Op_some, Op_none, bT_nm, bT_tup, bT_nil, bT_cons, pS_nil, pS_fr, pS_sh, wipe_nil, wipe_cons, it_lst, it_tup, it_str, rng_one, rng_two, zip_tup, zip_lst, fr_fr, sh_sh, lst_lst, cel_cel, in_in, List.replicate_succ, List.replicate_zero, decide_eq_true_iff, true_and, and_true, ite_true, ite_false, if_true, if_false, Bool.false_eq_true, Bool.not_eq_true', List.length_cons, List.length_nil, isi_str, isi_tup, isi_lst, isi_int, isi_non, isi_bl, eq_tup, ne_tup, eq_lst, ne_lst, lt_tup, in_lst, nin_lst, nin_tup, at_0, at_1, at_2, at_3, Bool.true_eq_false, wE_rev, wS_seti, set_lst, eq_non_str, ne_non_str, ne_str_non, eq_non, ne_non, wE_dic0, wE_dic1, wE_dicL, wE_compI, wE_lrng, wE_rep, rep_str, wE_lix, dic_dic, key_str, key_int, in_dicS, nin_dicS, ix_dicS, set_dicS, min_lst, max_lst, max_int, sl_E, ix_E0, ix_E1, ix_E2, bT_E, isN_E]
  refine (draw_ok h (by omega) (by omega)).mono ?_
  rintro r s ⟨hs, v, rfl, hv0, hv1⟩
  simp only [wE_c, wE_v, wE_vo, wE_bin, wE_neg, wE_not, wE_cmp, wE_chain, wE_and, wE_or, wE_ite, wE_call, wE_b1, wE_b2, wE_isi, wE_m0, wE_m1, wE_idx, wE_sl, wE_ss, ss_lst, mul_str, isn_bl, notn_bl, wE_tup, wE_lst, wE_cel, wE_comp, wEs_nil, wEs_cons, wEo_no, wEo_so, wC_no, wC_so, wI_e, wI_rng, wI_enum, wI_zip, wI_map, wSs_nil, wSs_cons, wS_set, wS_seto, wS_unp, wS_par, wS_app, wS_setc, wS_drop, wS_ret, wS_reto, wS_retN, wS_pass, wS_brk, wS_cont, wS_fail, wS_ite, wS_for, wR_nil, wR_cons, seqQ_nx, seqQ_ret, seqQ_brk, seqQ_cont, outQ_nx, outQ_ret, outQ_brk, outQ_cont, d_sh, d_fr, d_vw, vw_sh, vw_fr, vw_vw, add_int, add_str, add_tup, add_lst, sub_int, mul_int, fdiv_int, mod_int, eq_str, ne_str, eq_int, ne_int, eq_bl, ne_bl, eq_sn, lt_int, le_int, gt_int, ge_int, isn_any, notn_any, in_sign, nin_sign, len_str, len_tup, len_lst, len_scr, all_map, any_map, list_tup, list_lst, list_str, tuple_lst, tuple_tup, int_int, abs_int, min_int, own_sh, own_fr, bool_sh, int_sh, ends_str, starts_str, lower_str, upper_str, sl_lst, sl_tup, sl_str, ix_lst, ix_tup, ix_scr, ix_str, ix_cell, at_zero, at_succ, set_zero, set_succ, startE_zero, startE_cons, Op_some, Op_none, bT_nm, bT_tup, bT_nil, bT_cons, pS_nil, pS_fr, pS_sh, wipe_nil, wipe_cons, it_lst, it_tup, it_str, rng_one, rng_two, zip_tup, zip_lst, fr_fr, sh_sh, lst_lst, cel_cel, in_in, List.replicate_succ, List.replicate_zero, decide_eq_true_iff, true_and, and_true, ite_true, ite_false, if_true, if_false, Bool.false_eq_true, Bool.not_eq_true', List.length_cons, List.length_nil, isi_str, isi_tup, isi_lst, isi_int, isi_non, isi_bl, eq_tup, ne_tup, eq_lst, ne_lst, lt_tup, in_lst, nin_lst, nin_tup, at_0, at_1, at_2, at_3, Bool.true_eq_false, wE_rev, wS_seti, set_lst, eq_non_str, ne_non_str, ne_str_non, eq_non, ne_non, wE_dic0, wE_dic1, wE_dicL, wE_compI, wE_lrng, wE_rep, rep_str, wE_lix, dic_dic, key_str, key_int, in_dicS, nin_dicS, ix_dicS, set_dicS, min_lst, max_lst, max_int, sl_E, ix_E0, ix_E1, ix_E2, bT_E, isN_E]
  rw [at_nat hv0]
  have hl : v.toNat < xs.length := by omega
  rw [List.getElem?_eq_getElem hl]
  simp only [wE_c, wE_v, wE_vo, wE_bin, wE_neg, wE_not, wE_cmp, wE_chain, wE_and, wE_or, wE_ite, wE_call, wE_b1, wE_b2, wE_isi, wE_m0, wE_m1, wE_idx, wE_sl, wE_ss, ss_lst, mul_str, isn_bl, notn_bl, wE_tup, wE_lst, wE_cel, wE_comp, wEs_nil, wEs_cons, wEo_no, wEo_so, wC_no, wC_so, wI_e, wI_rng, wI_enum, wI_zip, wI_map, wSs_nil, wSs_cons, wS_set, wS_seto, wS_unp, wS_par, wS_app, wS_setc, wS_drop, wS_ret, wS_reto, wS_retN, wS_pass, wS_brk, wS_cont, wS_fail, wS_ite, wS_for, wR_nil, wR_cons, seqQ_nx, seqQ_ret, seqQ_brk, seqQ_cont, outQ_nx, outQ_ret, outQ_brk, outQ_cont, d_sh, d_fr, d_vw, vw_sh, vw_fr, vw_vw, add_int, add_str, add_tup, add_lst, sub_int, mul_int, fdiv_int, mod_int, eq_str, ne_str, eq_int, ne_int, eq_bl, ne_bl, eq_sn, lt_int, le_int, gt_int, ge_int, isn_any, notn_any, in_sign, nin_sign, len_str, len_tup, len_lst, len_scr, all_map, any_map, list_tup, list_lst, list_str, tuple_lst, tuple_tup, int_int, abs_int, min_int, own_sh, own_fr, bool_sh, int_sh, ends_str, starts_str, lower_str, upper_str, sl_lst, sl_tup, sl_str, ix_lst, ix_tup, ix_scr, ix_str, ix_cell, at_zero, at_succ, set_zero, set_succ, startE_zero, startE_cons, Op_some, Op_none, bT_nm, bT_tup, bT_nil, bT_cons, pS_nil, pS_fr, pS_sh, wipe_nil, wipe_cons, it_lst, it_tup, it_str, rng_one, rng_two, zip_tup, zip_lst, fr_fr, sh_sh, lst_lst, cel_cel, in_in, List.replicate_succ, List.replicate_zero, decide_eq_true_iff, true_and, and_true, ite_true, ite_false, if_true, if_false, Bool.false_eq_true, Bool.not_eq_true', List.length_cons, List.length_nil, isi_str, isi_tup, isi_lst, isi_int, isi_non, isi_bl, eq_tup, ne_tup, eq_lst, ne_lst, lt_tup, in_lst, nin_lst, nin_tup, at_0, at_1, at_2, at_3, Bool.true_eq_false, wE_rev, wS_seti, set_lst, eq_non_str, ne_non_str, ne_str_non, eq_non, ne_non, wE_dic0, wE_dic1, wE_dicL, wE_compI, wE_lrng, wE_rep, rep_str, wE_lix, dic_dic, key_str, key_int, in_dicS, nin_dicS, ix_dicS, set_dicS, min_lst, max_lst, max_int, sl_E, ix_E0, ix_E1, ix_E2, bT_E, isN_E]
  exact ⟨hs, _, List.getElem_mem hl, rfl⟩
/-- texts of one sign each -/
theorem signs_of : ∀ {zs : List D} {P : Nat → Prop}, (∀ z ∈ zs, ∃ c, z = .str [c] ∧ P c) → ∃ cs : List Nat, zs = cs.map (fun c => .str [c]) ∧ ∀ c ∈ cs, P c
  | [], _, _ => ⟨[], rfl, fun _ h => nomatch h⟩
  | z :: zs, P, h => by
    obtain ⟨c, rfl, hc⟩ := h z List.mem_cons_self
    obtain ⟨cs, e, hp⟩ := signs_of fun y hy => h y (List.mem_cons_of_mem _ hy)
    refine ⟨c :: cs, by rw [e]; rfl, fun d hd => ?_⟩
    rcases List.mem_cons.mp hd with rfl | hd
    · exact hc
    · exact hp d hd
theorem strsD_map {τ : Type} (f : τ → List Nat) : ∀ xs : List τ, strsD (xs.map fun x => .str (f x)) = some (xs.map f)
  | [] => rfl
  | x :: xs => by simp only [List.map_cons, strsD, strsD_map f xs, Option.map_some]
theorem join_signs : ∀ cs : List Nat, joinD [] (cs.map fun c => [c]) = cs
  | [] => rfl
  | [c] => rfl
  | c :: d :: cs => by
    have := join_signs (d :: cs)
    simp only [List.map_cons] at this ⊢
    rw [joinD, this]; rfl
theorem join_one {cs : List Nat} {Q : Rs → Prop} (h : cs.length ≤ 1000000) : Op (opM1 .join (.str []) (.lst (cs.map fun c => .str [c]))) Q ↔ Q (.sh (.str cs)) := by
  simp only [opM1, strsD_map, Op_bind, Op_some, Op_guard, join_signs, decide_eq_true_iff]
  have : ((cs.map fun c => [c]).map (·.length)).sum = cs.length := by
    clear h
    induction cs with
    | nil => rfl
    | cons c cs ih => simp only [List.map_cons, List.sum_cons, ih, List.length_cons]; simp; omega
  rw [this]
  simp only [List.length_map, List.length_nil, Nat.mul_zero, Nat.add_zero]
  constructor
  · exact fun z => z.2
  · exact fun z => ⟨by omega, z⟩
theorem rngI_length (i : Int) (n : Nat) : (rngI i n).length = n := by unfold rngI; simp
theorem bnd_small {i : Int} (h0 : -1000000000 ≤ i) (h1 : i ≤ 1000000000) : bnd i = true := by
  unfold bnd
  rw [Bool.and_eq_true, decide_eq_true_iff, decide_eq_true_iff]
  omega
theorem letters_ok {wf k c : Nat} {st : Store} {lo hi : Int} (h : Src c st) (h0 : 0 ≤ lo) (h1 : lo ≤ hi) (h2 : hi ≤ 1000) :
    Ev (callF GD wf (k + 1 + 1 + 1) 7 [.cell c, .int lo, .int hi] st) fun r s => Src c s ∧ ∃ x : Tx, r = .sh (.str x) ∧ lo ≤ (x.length : Int) ∧ (x.length : Int) ≤ hi ∧ ∀ c ∈ x, c ∈ abcde := by
  rw [Ev_callD (d := d7) rfl rfl]
  unfold d7 b7
  simp only [wE_c, wE_v, wE_vo, wE_bin, wE_neg, wE_not, wE_cmp, wE_chain, wE_and, wE_or, wE_ite, wE_call, wE_b1, wE_b2, wE_isi, wE_m0, wE_m1, wE_idx, wE_sl, wE_ss, ss_lst, mul_str, isn_bl, notn_bl, wE_tup, wE_lst, wE_cel, wE_comp, wEs_nil, wEs_cons, wEo_no, wEo_so, wC_no, wC_so, wI_e, wI_rng, wI_enum, wI_zip, wI_map, wSs_nil, wSs_cons, wS_set, wS_seto, wS_unp, wS_par, wS_app, wS_setc, wS_drop, wS_ret, wS_reto, wS_retN, wS_pass, wS_brk, wS_cont, wS_fail, wS_ite, wS_for, wR_nil, wR_cons, seqQ_nx, seqQ_ret, seqQ_brk, seqQ_cont, outQ_nx, outQ_ret, outQ_brk, outQ_cont, d_sh, d_fr, d_vw, vw_sh, vw_fr, vw_vw, add_int, add_str, add_tup, add_lst, sub_int, mul_int, fdiv_int, mod_int, eq_str, ne_str, eq_int, ne_int, eq_bl, ne_bl, eq_sn, lt_int, le_int, gt_int, ge_int, isn_any, notn_any, in_sign, nin_sign, len_str, len_tup, len_lst, len_scr, all_map, any_map, list_tup, list_lst, list_str, tuple_lst, tuple_tup, int_int, abs_int, min_int, own_sh, own_fr, bool_sh, int_sh, ends_str, starts_str, lower_str, upper_str, sl_lst, sl_tup, sl_str, ix_lst, ix_tup, ix_scr, ix_str, ix_cell, at_zero, at_succ, set_zero, set_succ, startE_zero, startE_cons, Op_some, Op_none, bT_nm, bT_tup, bT_nil, bT_cons, pS_nil, pS_fr, pS_sh, wipe_nil, wipe_cons, it_lst, it_tup, it_str, rng_one, rng_two, zip_tup, zip_lst, fr_fr, sh_sh, lst_lst, cel_cel, in_in, List.replicate_succ, List.replicate_zero, decide_eq_true_iff, true_and, and_true, ite_true, ite_false, if_true, if_false, Bool.false_eq_true, Bool.not_eq_true', List.length_cons, List.length_nil, isi_str, isi_tup, isi_lst, isi_int, isi_non, isi_bl, eq_tup, ne_tup, eq_lst, ne_lst, lt_tup, in_lst, nin_lst, nin_tup, at_0, at_1, at_2, at_3, Bool.true_eq_false, wE_rev, wS_seti, set_lst, eq_non_str, ne_non_str, ne_str_non, eq_non, ne_non, wE_dic0, wE_dic1, wE_dicL, wE_compI, wE_lrng, wE_rep, rep_str, wE_lix, dic_dic, key_str, key_int, in_dicS, nin_dicS, ix_dicS, set_dicS, min_lst, max_lst, max_int, sl_E, ix_E0, ix_E1, ix_E2, bT_E, isN_E]
  refine (draw_ok h (by omega) (by omega)).mono ?_
  rintro r s ⟨hs, v, rfl, hv0, hv1⟩
  simp only [bnd_small (show -1000000000 ≤ lo + v by omega) (show lo + v ≤ 1000000000 by omega), wE_c, wE_v, wE_vo, wE_bin, wE_neg, wE_not, wE_cmp, wE_chain, wE_and, wE_or, wE_ite, wE_call, wE_b1, wE_b2, wE_isi, wE_m0, wE_m1, wE_idx, wE_sl, wE_ss, ss_lst, mul_str, isn_bl, notn_bl, wE_tup, wE_lst, wE_cel, wE_comp, wEs_nil, wEs_cons, wEo_no, wEo_so, wC_no, wC_so, wI_e, wI_rng, wI_enum, wI_zip, wI_map, wSs_nil, wSs_cons, wS_set, wS_seto, wS_unp, wS_par, wS_app, wS_setc, wS_drop, wS_ret, wS_reto, wS_retN, wS_pass, wS_brk, wS_cont, wS_fail, wS_ite, wS_for, wR_nil, wR_cons, seqQ_nx, seqQ_ret, seqQ_brk, seqQ_cont, outQ_nx, outQ_ret, outQ_brk, outQ_cont, d_sh, d_fr, d_vw, vw_sh, vw_fr, vw_vw, add_int, add_str, add_tup, add_lst, sub_int, mul_int, fdiv_int, mod_int, eq_str, ne_str, eq_int, ne_int, eq_bl, ne_bl, eq_sn, lt_int, le_int, gt_int, ge_int, isn_any, notn_any, in_sign, nin_sign, len_str, len_tup, len_lst, len_scr, all_map, any_map, list_tup, list_lst, list_str, tuple_lst, tuple_tup, int_int, abs_int, min_int, own_sh, own_fr, bool_sh, int_sh, ends_str, starts_str, lower_str, upper_str, sl_lst, sl_tup, sl_str, ix_lst, ix_tup, ix_scr, ix_str, ix_cell, at_zero, at_succ, set_zero, set_succ, startE_zero, startE_cons, Op_some, Op_none, bT_nm, bT_tup, bT_nil, bT_cons, pS_nil, pS_fr, pS_sh, wipe_nil, wipe_cons, it_lst, it_tup, it_str, rng_one, rng_two, zip_tup, zip_lst, fr_fr, sh_sh, lst_lst, cel_cel, in_in, List.replicate_succ, List.replicate_zero, decide_eq_true_iff, true_and, and_true, ite_true, ite_false, if_true, if_false, Bool.false_eq_true, Bool.not_eq_true', List.length_cons, List.length_nil, isi_str, isi_tup, isi_lst, isi_int, isi_non, isi_bl, eq_tup, ne_tup, eq_lst, ne_lst, lt_tup, in_lst, nin_lst, nin_tup, at_0, at_1, at_2, at_3, Bool.true_eq_false, wE_rev, wS_seti, set_lst, eq_non_str, ne_non_str, ne_str_non, eq_non, ne_non, wE_dic0, wE_dic1, wE_dicL, wE_compI, wE_lrng, wE_rep, rep_str, wE_lix, dic_dic, key_str, key_int, in_dicS, nin_dicS, ix_dicS, set_dicS, min_lst, max_lst, max_int, sl_E, ix_E0, ix_E1, ix_E2, bT_E, isN_E]
  refine (comp_inv (fun d => ∃ c, d = .str [c] ∧ c ∈ abcde) (Src c) _ s hs ?_).mono ?_
  · intro x hx st hs
    simp only [wE_c, wE_v, wE_vo, wE_bin, wE_neg, wE_not, wE_cmp, wE_chain, wE_and, wE_or, wE_ite, wE_call, wE_b1, wE_b2, wE_isi, wE_m0, wE_m1, wE_idx, wE_sl, wE_ss, ss_lst, mul_str, isn_bl, notn_bl, wE_tup, wE_lst, wE_cel, wE_comp, wEs_nil, wEs_cons, wEo_no, wEo_so, wC_no, wC_so, wI_e, wI_rng, wI_enum, wI_zip, wI_map, wSs_nil, wSs_cons, wS_set, wS_seto, wS_unp, wS_par, wS_app, wS_setc, wS_drop, wS_ret, wS_reto, wS_retN, wS_pass, wS_brk, wS_cont, wS_fail, wS_ite, wS_for, wR_nil, wR_cons, seqQ_nx, seqQ_ret, seqQ_brk, seqQ_cont, outQ_nx, outQ_ret, outQ_brk, outQ_cont, d_sh, d_fr, d_vw, vw_sh, vw_fr, vw_vw, add_int, add_str, add_tup, add_lst, sub_int, mul_int, fdiv_int, mod_int, eq_str, ne_str, eq_int, ne_int, eq_bl, ne_bl, eq_sn, lt_int, le_int, gt_int, ge_int, isn_any, notn_any, in_sign, nin_sign, len_str, len_tup, len_lst, len_scr, all_map, any_map, list_tup, list_lst, list_str, tuple_lst, tuple_tup, int_int, abs_int, min_int, own_sh, own_fr, bool_sh, int_sh, ends_str, starts_str, lower_str, upper_str, sl_lst, sl_tup, sl_str, ix_lst, ix_tup, ix_scr, ix_str, ix_cell, at_zero, at_succ, set_zero, set_succ, startE_zero, startE_cons, Op_some, Op_none, bT_nm, bT_tup, bT_nil, bT_cons, pS_nil, pS_fr, pS_sh, wipe_nil, wipe_cons, it_lst, it_tup, it_str, rng_one, rng_two, zip_tup, zip_lst, fr_fr, sh_sh, lst_lst, cel_cel, in_in, List.replicate_succ, List.replicate_zero, decide_eq_true_iff, true_and, and_true, ite_true, ite_false, if_true, if_false, Bool.false_eq_true, Bool.not_eq_true', List.length_cons, List.length_nil, isi_str, isi_tup, isi_lst, isi_int, isi_non, isi_bl, eq_tup, ne_tup, eq_lst, ne_lst, lt_tup, in_lst, nin_lst, nin_tup, at_0, at_1, at_2, at_3, Bool.true_eq_false, wE_rev, wS_seti, set_lst, eq_non_str, ne_non_str, ne_str_non, eq_non, ne_non, wE_dic0, wE_dic1, wE_dicL, wE_compI, wE_lrng, wE_rep, rep_str, wE_lix, dic_dic, key_str, key_int, in_dicS, nin_dicS, ix_dicS, set_dicS, min_lst, max_lst, max_int, sl_E, ix_E0, ix_E1, ix_E2, bT_E, isN_E]
    refine (choice_ok hs (by decide) (by decide)).mono ?_
    rintro r s ⟨hs, x, hx, rfl⟩
    simp only [wE_c, wE_v, wE_vo, wE_bin, wE_neg, wE_not, wE_cmp, wE_chain, wE_and, wE_or, wE_ite, wE_call, wE_b1, wE_b2, wE_isi, wE_m0, wE_m1, wE_idx, wE_sl, wE_ss, ss_lst, mul_str, isn_bl, notn_bl, wE_tup, wE_lst, wE_cel, wE_comp, wEs_nil, wEs_cons, wEo_no, wEo_so, wC_no, wC_so, wI_e, wI_rng, wI_enum, wI_zip, wI_map, wSs_nil, wSs_cons, wS_set, wS_seto, wS_unp, wS_par, wS_app, wS_setc, wS_drop, wS_ret, wS_reto, wS_retN, wS_pass, wS_brk, wS_cont, wS_fail, wS_ite, wS_for, wR_nil, wR_cons, seqQ_nx, seqQ_ret, seqQ_brk, seqQ_cont, outQ_nx, outQ_ret, outQ_brk, outQ_cont, d_sh, d_fr, d_vw, vw_sh, vw_fr, vw_vw, add_int, add_str, add_tup, add_lst, sub_int, mul_int, fdiv_int, mod_int, eq_str, ne_str, eq_int, ne_int, eq_bl, ne_bl, eq_sn, lt_int, le_int, gt_int, ge_int, isn_any, notn_any, in_sign, nin_sign, len_str, len_tup, len_lst, len_scr, all_map, any_map, list_tup, list_lst, list_str, tuple_lst, tuple_tup, int_int, abs_int, min_int, own_sh, own_fr, bool_sh, int_sh, ends_str, starts_str, lower_str, upper_str, sl_lst, sl_tup, sl_str, ix_lst, ix_tup, ix_scr, ix_str, ix_cell, at_zero, at_succ, set_zero, set_succ, startE_zero, startE_cons, Op_some, Op_none, bT_nm, bT_tup, bT_nil, bT_cons, pS_nil, pS_fr, pS_sh, wipe_nil, wipe_cons, it_lst, it_tup, it_str, rng_one, rng_two, zip_tup, zip_lst, fr_fr, sh_sh, lst_lst, cel_cel, in_in, List.replicate_succ, List.replicate_zero, decide_eq_true_iff, true_and, and_true, ite_true, ite_false, if_true, if_false, Bool.false_eq_true, Bool.not_eq_true', List.length_cons, List.length_nil, isi_str, isi_tup, isi_lst, isi_int, isi_non, isi_bl, eq_tup, ne_tup, eq_lst, ne_lst, lt_tup, in_lst, nin_lst, nin_tup, at_0, at_1, at_2, at_3, Bool.true_eq_false, wE_rev, wS_seti, set_lst, eq_non_str, ne_non_str, ne_str_non, eq_non, ne_non, wE_dic0, wE_dic1, wE_dicL, wE_compI, wE_lrng, wE_rep, rep_str, wE_lix, dic_dic, key_str, key_int, in_dicS, nin_dicS, ix_dicS, set_dicS, min_lst, max_lst, max_int, sl_E, ix_E0, ix_E1, ix_E2, bT_E, isN_E]
    refine ⟨hs, ?_⟩
    simp only [List.mem_cons, List.not_mem_nil, or_false] at hx
    rcases hx with rfl | rfl | rfl | rfl | rfl | rfl | rfl <;> exact ⟨_, rfl, by decide⟩
  · rintro zs s ⟨hs, hl, hz⟩
    obtain ⟨cs, rfl, hc⟩ := signs_of hz
    rw [List.length_map, rngI_length] at hl
    simp only [List.length_map, join_one (show cs.length ≤ 1000000 by omega), wE_c, wE_v, wE_vo, wE_bin, wE_neg, wE_not, wE_cmp, wE_chain, wE_and, wE_or, wE_ite, wE_call, wE_b1, wE_b2, wE_isi, wE_m0, wE_m1, wE_idx, wE_sl, wE_ss, ss_lst, mul_str, isn_bl, notn_bl, wE_tup, wE_lst, wE_cel, wE_comp, wEs_nil, wEs_cons, wEo_no, wEo_so, wC_no, wC_so, wI_e, wI_rng, wI_enum, wI_zip, wI_map, wSs_nil, wSs_cons, wS_set, wS_seto, wS_unp, wS_par, wS_app, wS_setc, wS_drop, wS_ret, wS_reto, wS_retN, wS_pass, wS_brk, wS_cont, wS_fail, wS_ite, wS_for, wR_nil, wR_cons, seqQ_nx, seqQ_ret, seqQ_brk, seqQ_cont, outQ_nx, outQ_ret, outQ_brk, outQ_cont, d_sh, d_fr, d_vw, vw_sh, vw_fr, vw_vw, add_int, add_str, add_tup, add_lst, sub_int, mul_int, fdiv_int, mod_int, eq_str, ne_str, eq_int, ne_int, eq_bl, ne_bl, eq_sn, lt_int, le_int, gt_int, ge_int, isn_any, notn_any, in_sign, nin_sign, len_str, len_tup, len_lst, len_scr, all_map, any_map, list_tup, list_lst, list_str, tuple_lst, tuple_tup, int_int, abs_int, min_int, own_sh, own_fr, bool_sh, int_sh, ends_str, starts_str, lower_str, upper_str, sl_lst, sl_tup, sl_str, ix_lst, ix_tup, ix_scr, ix_str, ix_cell, at_zero, at_succ, set_zero, set_succ, startE_zero, startE_cons, Op_some, Op_none, bT_nm, bT_tup, bT_nil, bT_cons, pS_nil, pS_fr, pS_sh, wipe_nil, wipe_cons, it_lst, it_tup, it_str, rng_one, rng_two, zip_tup, zip_lst, fr_fr, sh_sh, lst_lst, cel_cel, in_in, List.replicate_succ, List.replicate_zero, decide_eq_true_iff, true_and, and_true, ite_true, ite_false, if_true, if_false, Bool.false_eq_true, Bool.not_eq_true', List.length_cons, List.length_nil, isi_str, isi_tup, isi_lst, isi_int, isi_non, isi_bl, eq_tup, ne_tup, eq_lst, ne_lst, lt_tup, in_lst, nin_lst, nin_tup, at_0, at_1, at_2, at_3, Bool.true_eq_false, wE_rev, wS_seti, set_lst, eq_non_str, ne_non_str, ne_str_non, eq_non, ne_non, wE_dic0, wE_dic1, wE_dicL, wE_compI, wE_lrng, wE_rep, rep_str, wE_lix, dic_dic, key_str, key_int, in_dicS, nin_dicS, ix_dicS, set_dicS, min_lst, max_lst, max_int, sl_E, ix_E0, ix_E1, ix_E2, bT_E, isN_E]
    refine ⟨by omega, hs, cs, rfl, by omega, by omega, hc⟩
end MWL
set_option Elab.async false
set_option linter.all false
set_option maxRecDepth 100000
set_option maxHeartbeats 1000000
set_option autoImplicit false
/-! Plain: the law's entries, lists, rows, source. -/
namespace MWL
open MW
theorem W_W : (wordT = [119, 111, 114, 100]) = True := eq_true rfl
theorem E_W : (endT = [119, 111, 114, 100]) = False := eq_false (by decide)
theorem W_E : (wordT = [101, 110, 100]) = False := eq_false (by decide)
theorem E_E : (endT = [101, 110, 100]) = True := eq_true rfl
theorem isLet_of {x : Tx} {m : Int} (h0 : 1 ≤ x.length) (h1 : (x.length : Int) ≤ m) (h2 : ∀ c ∈ x, c ∈ abcde) : isLet x m = true := by
  unfold isLet
  simp only [Bool.and_eq_true, decide_eq_true_iff, List.all_eq_true]
  exact ⟨⟨by omega, h1⟩, h2⟩
/-- the keys of a row -/
def keysT : Tx := [97, 98, 99, 100, 101, 65, 66, 67, 68, 69, 32, 44, 46, 60]
def keysL : Tx := [97, 97, 97, 98, 98, 98, 99, 99, 100, 101, 66, 67, 65, 32, 32, 32, 44, 46, 60]
theorem keysL_ok : ∀ c ∈ keysL, c ∈ keysT := by decide
/-! sorted lists of entries -/
def kE (e : Ent) : Tx × Tx := (e.k, e.o)
def tokE (e : Ent) : List (Int ⊕ List Nat) := PySem.W.keyToks (dE e).py
theorem tokE_eq (e : Ent) : tokE e = [.inl 1, .inr e.k, .inl 1, .inr e.o, .inl 1, .inr e.n, .inl 0] := by
  unfold tokE dE
  rw [D.py, pyAll_map]
  simp only [List.map_cons, List.map_nil]
  rw [D.py, D.py, D.py]
  simp [PySem.W.keyToks, PySem.W.keyToksAll]
def leE : Ent → Ent → Bool := PySem.W.sortLe (PyProof.Rows.listOrd PyProof.Rows.itemOrd) false tokE
theorem zip_drop {α : Type} {R : α → α → Prop} : ∀ {xs : List α}, xs.Pairwise R → ∀ p ∈ xs.zip (xs.drop 1), R p.1 p.2
  | [], _, p, h => by simp at h
  | [x], _, p, h => by simp at h
  | x :: y :: xs, hp, p, h => by
    rw [List.pairwise_cons] at hp
    simp only [List.drop_succ_cons, List.drop_zero, List.zip_cons_cons, List.mem_cons] at h
    rcases h with rfl | h
    · exact hp.1 _ List.mem_cons_self
    · exact zip_drop hp.2 p (by simpa using h)
theorem sortD_E (es : List Ent) : sortD (es.map dE) = (es.mergeSort leE).map dE := by
  unfold sortD
  exact (List.map_mergeSort (f := dE) (r := leE) (s := PySem.W.dataLe false D.py) fun a _ b _ => by unfold leE PySem.W.dataLe PySem.W.sortLe tokE; rfl).symm
theorem ltE_of {a b : Ent} (h : leE a b = true) (hk : kE a ≠ kE b) : ltE a b = true := by
  show (PyProof.Rows.listOrd PyProof.Rows.itemOrd).blt (tokE a) (tokE b) = true
  have h : (!(PyProof.Rows.listOrd PyProof.Rows.itemOrd).blt (tokE b) (tokE a)) = true := h
  rw [Bool.not_eq_true'] at h
  cases e : (PyProof.Rows.listOrd PyProof.Rows.itemOrd).blt (tokE a) (tokE b) with
  | true => rfl
  | false =>
    have := (PyProof.Rows.listOrd PyProof.Rows.itemOrd).total _ _ e h
    rw [tokE_eq, tokE_eq] at this
    injection this with _ this
    injection this with h1 this
    injection this with _ this
    injection this with h2 this
    injection h1 with h1
    injection h2 with h2
    exact absurd (by unfold kE; rw [h1, h2]) hk
/-- what makes a list when it is sorted -/
structure VS (es : List Ent) : Prop where
  len : es.length ≤ 6
  ok : ∀ e ∈ es, VE e
  keys : es.Pairwise fun a b => kE a ≠ kE b
theorem VS.sorted {es : List Ent} (h : VS es) : VL (es.mergeSort leE) where
  len := by rw [List.length_mergeSort]; exact h.len
  ok := fun e he => h.ok e (List.mem_mergeSort.mp he)
  ord := by
    have p1 : (es.mergeSort leE).Pairwise fun a b => leE a b = true := PySem.W.sort_pairwise (PySem.W.sortLe_total _ _ _) es
    have p2 : (es.mergeSort leE).Pairwise fun a b => kE a ≠ kE b := h.keys.perm (List.mergeSort_perm es leE).symm fun z => z.symm
    have p3 := p1.and p2
    intro p hp
    have := zip_drop p3 p hp
    refine ⟨ltE_of this.1 this.2, fun z => this.2 ?_⟩
    unfold kE; rw [z.1, z.2]
theorem sortOk_E {es : List Ent} (h : ∀ e ∈ es, VE e) : sortOkD (es.map dE) = true := by
  unfold sortOkD
  simp only [Bool.and_eq_true, Bool.or_eq_true, List.all_map, List.all_eq_true]
  refine ⟨⟨fun a _ => ?_, .inl fun a _ => rfl⟩, fun a ha => pl_of (h a ha).pl⟩
  simp only [Function.comp, List.all_eq_true]
  exact fun b _ => alike_E a b
theorem sorted_E {es : List Ent} {Q : Rs → Prop} (h : ∀ e ∈ es, VE e) : Op (op1 .sorted (.lst (es.map dE))) Q ↔ Q (.fr (.lst ((es.mergeSort leE).map dE))) := by
  simp only [op1, Op_guard, Op_some, sortOk_E h, true_and, sortD_E]
theorem cutE (e : Ent) : cutL [D.str e.k, D.str e.o, D.str e.n] none (some 2) = [D.str e.k, D.str e.o] := cut2 e
theorem pl_keys {es : List Ent} (h : ∀ e ∈ es, VE e) : (D.lst (es.map fun e => D.tup [.str e.k, .str e.o])).pl = true := by
  refine pl_of ?_
  rw [plD]
  refine plL_map fun e he => ?_
  rw [plD, plL, plL, plL, plD, plD, small_pl (h e he).k4.2, small_pl fun c m => small_abcde ((h e he).o4.2.2 c m)]; rfl
theorem pow_int {i j : Int} {Q : Rs → Prop} : Op (opB .pow (.int i) (.int j)) Q ↔ ((0 ≤ j ∧ j ≤ 1000000) ∧ i.natAbs < 2 ^ 64) ∧ Q (.sh (.int (i ^ j.toNat))) := by simp only [opB, Op_guard, Op_some, Bool.and_eq_true, decide_eq_true_iff]
theorem source_ok {wf k : Nat} {st : Store} {ns : List Int} {i : Int} (h0 : 0 ≤ i) (h1 : i ≤ 1000) :
    Ev (callF GD wf (k + 1) 4 [.scr ns, .int i] st) fun r s => ∃ c, r = .sh (.cell c) ∧ Src c s := by
  rw [Ev_callD (d := d4) rfl rfl]
  unfold d4 b4
  have fin : ∀ j : Int, 0 ≤ j → EvS (evSs ⟨callF GD wf k, wf⟩
      (.cons (.ite (.cmp .lt (.v 2) (.bin .pow (.c (.int 10)) (.c (.int 18)))) (.cons (.ret (.cel (.cons (.c (.int 0)) (.cons (.bin .add (.c (.int 1)) (.bin .mod (.b1 .int (.bin .add (.bin .mul (.v 2) (.c (.int 7919))) (.bin .mul (.c (.int 104729)) (.v 1)))) (.c (.int 2147483646)))) .nil))))
  .nil) .nil)
  (.cons (.ret (.cel (.cons (.v 2) (.cons (.bin .add (.c (.int 1)) (.bin .mod (.b1 .int (.bin .add (.v 2) (.v 1))) (.c (.int 2147483646)))) .nil))))
  .nil)) [some (.scr ns), some (.int i), some (.int j)] st) (outQ fun r s => ∃ c, r = .sh (.cell c) ∧ Src c s) := by
    intro j hj
    simp only [pow_int, wE_c, wE_v, wE_vo, wE_bin, wE_neg, wE_not, wE_cmp, wE_chain, wE_and, wE_or, wE_ite, wE_call, wE_b1, wE_b2, wE_isi, wE_m0, wE_m1, wE_idx, wE_sl, wE_ss, ss_lst, mul_str, isn_bl, notn_bl, wE_tup, wE_lst, wE_cel, wE_comp, wEs_nil, wEs_cons, wEo_no, wEo_so, wC_no, wC_so, wI_e, wI_rng, wI_enum, wI_zip, wI_map, wSs_nil, wSs_cons, wS_set, wS_seto, wS_unp, wS_par, wS_app, wS_setc, wS_drop, wS_ret, wS_reto, wS_retN, wS_pass, wS_brk, wS_cont, wS_fail, wS_ite, wS_for, wR_nil, wR_cons, seqQ_nx, seqQ_ret, seqQ_brk, seqQ_cont, outQ_nx, outQ_ret, outQ_brk, outQ_cont, d_sh, d_fr, d_vw, vw_sh, vw_fr, vw_vw, add_int, add_str, add_tup, add_lst, sub_int, mul_int, fdiv_int, mod_int, eq_str, ne_str, eq_int, ne_int, eq_bl, ne_bl, eq_sn, lt_int, le_int, gt_int, ge_int, isn_any, notn_any, in_sign, nin_sign, len_str, len_tup, len_lst, len_scr, all_map, any_map, list_tup, list_lst, list_str, tuple_lst, tuple_tup, int_int, abs_int, min_int, own_sh, own_fr, bool_sh, int_sh, ends_str, starts_str, lower_str, upper_str, sl_lst, sl_tup, sl_str, ix_lst, ix_tup, ix_scr, ix_str, ix_cell, at_zero, at_succ, set_zero, set_succ, startE_zero, startE_cons, Op_some, Op_none, bT_nm, bT_tup, bT_nil, bT_cons, pS_nil, pS_fr, pS_sh, wipe_nil, wipe_cons, it_lst, it_tup, it_str, rng_one, rng_two, zip_tup, zip_lst, fr_fr, sh_sh, lst_lst, cel_cel, in_in, List.replicate_succ, List.replicate_zero, decide_eq_true_iff, true_and, and_true, ite_true, ite_false, if_true, if_false, Bool.false_eq_true, Bool.not_eq_true', List.length_cons, List.length_nil, isi_str, isi_tup, isi_lst, isi_int, isi_non, isi_bl, eq_tup, ne_tup, eq_lst, ne_lst, lt_tup, in_lst, nin_lst, nin_tup, at_0, at_1, at_2, at_3, Bool.true_eq_false, wE_rev, wS_seti, set_lst, eq_non_str, ne_non_str, ne_str_non, eq_non, ne_non, wE_dic0, wE_dic1, wE_dicL, wE_compI, wE_lrng, wE_rep, rep_str, wE_lix, dic_dic, key_str, key_int, in_dicS, nin_dicS, ix_dicS, set_dicS, min_lst, max_lst, max_int, sl_E, ix_E0, ix_E1, ix_E2, bT_E, isN_E]
    refine ⟨by decide, ?_⟩
    have sr : ∀ a b : Int, 0 ≤ a → Src st.length (st ++ [[.int a, .int (1 + b % 2147483646)]]) := fun a b ha => by
      have m1 : 0 ≤ b % 2147483646 := Int.emod_nonneg _ (by decide)
      have m2 : b % 2147483646 < 2147483646 := Int.emod_lt_of_pos _ (by decide)
      exact ⟨a, 1 + b % 2147483646, by simp, ha, by omega, by omega⟩
    split
    · refine ⟨.inr ⟨by decide, by decide⟩, .inl ⟨by decide, by decide⟩, by decide, _, rfl, sr _ _ (by decide)⟩
    · exact ⟨by decide, _, rfl, sr _ _ hj⟩
  simp only [wE_c, wE_v, wE_vo, wE_bin, wE_neg, wE_not, wE_cmp, wE_chain, wE_and, wE_or, wE_ite, wE_call, wE_b1, wE_b2, wE_isi, wE_m0, wE_m1, wE_idx, wE_sl, wE_ss, ss_lst, mul_str, isn_bl, notn_bl, wE_tup, wE_lst, wE_comp, wEs_nil, wEs_cons, wEo_no, wEo_so, wC_no, wC_so, wI_e, wI_rng, wI_enum, wI_zip, wI_map, wSs_nil, wSs_cons, wS_set, wS_seto, wS_unp, wS_par, wS_app, wS_setc, wS_drop, wS_ret, wS_reto, wS_retN, wS_pass, wS_brk, wS_cont, wS_fail, wS_ite, wS_for, wR_nil, wR_cons, seqQ_nx, seqQ_ret, seqQ_brk, seqQ_cont, outQ_nx, outQ_ret, outQ_brk, outQ_cont, d_sh, d_fr, d_vw, vw_sh, vw_fr, vw_vw, add_int, add_str, add_tup, add_lst, sub_int, mul_int, fdiv_int, mod_int, eq_str, ne_str, eq_int, ne_int, eq_bl, ne_bl, eq_sn, lt_int, le_int, gt_int, ge_int, isn_any, notn_any, in_sign, nin_sign, len_str, len_tup, len_lst, len_scr, all_map, any_map, list_tup, list_lst, list_str, tuple_lst, tuple_tup, int_int, abs_int, min_int, own_sh, own_fr, bool_sh, int_sh, ends_str, starts_str, lower_str, upper_str, sl_lst, sl_tup, sl_str, ix_lst, ix_tup, ix_scr, ix_str, ix_cell, at_zero, at_succ, set_zero, set_succ, startE_zero, startE_cons, Op_some, Op_none, bT_nm, bT_tup, bT_nil, bT_cons, pS_nil, pS_fr, pS_sh, wipe_nil, wipe_cons, it_lst, it_tup, it_str, rng_one, rng_two, zip_tup, zip_lst, fr_fr, sh_sh, lst_lst, cel_cel, in_in, List.replicate_succ, List.replicate_zero, decide_eq_true_iff, true_and, and_true, ite_true, ite_false, if_true, if_false, Bool.false_eq_true, Bool.not_eq_true', List.length_cons, List.length_nil, isi_str, isi_tup, isi_lst, isi_int, isi_non, isi_bl, eq_tup, ne_tup, eq_lst, ne_lst, lt_tup, in_lst, nin_lst, nin_tup, at_0, at_1, at_2, at_3, Bool.true_eq_false, wE_rev, wS_seti, set_lst, eq_non_str, ne_non_str, ne_str_non, eq_non, ne_non, wE_dic0, wE_dic1, wE_dicL, wE_compI, wE_lrng, wE_rep, rep_str, wE_lix, dic_dic, key_str, key_int, in_dicS, nin_dicS, ix_dicS, set_dicS, min_lst, max_lst, max_int, sl_E, ix_E0, ix_E1, ix_E2, bT_E, isN_E]
  split
  · rename_i hl
    rw [at_nat h0, List.getElem?_eq_getElem (show i.toNat < ns.length by omega)]
    simp only [wE_c, wE_v, wE_vo, wE_bin, wE_neg, wE_not, wE_cmp, wE_chain, wE_and, wE_or, wE_ite, wE_call, wE_b1, wE_b2, wE_isi, wE_m0, wE_m1, wE_idx, wE_sl, wE_ss, ss_lst, mul_str, isn_bl, notn_bl, wE_tup, wE_lst, wE_comp, wEs_nil, wEs_cons, wEo_no, wEo_so, wC_no, wC_so, wI_e, wI_rng, wI_enum, wI_zip, wI_map, wSs_nil, wSs_cons, wS_set, wS_seto, wS_unp, wS_par, wS_app, wS_setc, wS_drop, wS_ret, wS_reto, wS_retN, wS_pass, wS_brk, wS_cont, wS_fail, wS_ite, wS_for, wR_nil, wR_cons, seqQ_nx, seqQ_ret, seqQ_brk, seqQ_cont, outQ_nx, outQ_ret, outQ_brk, outQ_cont, d_sh, d_fr, d_vw, vw_sh, vw_fr, vw_vw, add_int, add_str, add_tup, add_lst, sub_int, mul_int, fdiv_int, mod_int, eq_str, ne_str, eq_int, ne_int, eq_bl, ne_bl, eq_sn, lt_int, le_int, gt_int, ge_int, isn_any, notn_any, in_sign, nin_sign, len_str, len_tup, len_lst, len_scr, all_map, any_map, list_tup, list_lst, list_str, tuple_lst, tuple_tup, int_int, abs_int, min_int, own_sh, own_fr, bool_sh, int_sh, ends_str, starts_str, lower_str, upper_str, sl_lst, sl_tup, sl_str, ix_lst, ix_tup, ix_scr, ix_str, ix_cell, at_zero, at_succ, set_zero, set_succ, startE_zero, startE_cons, Op_some, Op_none, bT_nm, bT_tup, bT_nil, bT_cons, pS_nil, pS_fr, pS_sh, wipe_nil, wipe_cons, it_lst, it_tup, it_str, rng_one, rng_two, zip_tup, zip_lst, fr_fr, sh_sh, lst_lst, cel_cel, in_in, List.replicate_succ, List.replicate_zero, decide_eq_true_iff, true_and, and_true, ite_true, ite_false, if_true, if_false, Bool.false_eq_true, Bool.not_eq_true', List.length_cons, List.length_nil, isi_str, isi_tup, isi_lst, isi_int, isi_non, isi_bl, eq_tup, ne_tup, eq_lst, ne_lst, lt_tup, in_lst, nin_lst, nin_tup, at_0, at_1, at_2, at_3, Bool.true_eq_false, wE_rev, wS_seti, set_lst, eq_non_str, ne_non_str, ne_str_non, eq_non, ne_non, wE_dic0, wE_dic1, wE_dicL, wE_compI, wE_lrng, wE_rep, rep_str, wE_lix, dic_dic, key_str, key_int, in_dicS, nin_dicS, ix_dicS, set_dicS, min_lst, max_lst, max_int, sl_E, ix_E0, ix_E1, ix_E2, bT_E, isN_E]
    have := fin (if ns[i.toNat] < 0 then -ns[i.toNat] else ns[i.toNat]) (by split <;> omega)
    simp only [wE_c, wE_v, wE_vo, wE_bin, wE_neg, wE_not, wE_cmp, wE_chain, wE_and, wE_or, wE_ite, wE_call, wE_b1, wE_b2, wE_isi, wE_m0, wE_m1, wE_idx, wE_sl, wE_ss, ss_lst, mul_str, isn_bl, notn_bl, wE_tup, wE_lst, wE_comp, wEs_nil, wEs_cons, wEo_no, wEo_so, wC_no, wC_so, wI_e, wI_rng, wI_enum, wI_zip, wI_map, wSs_nil, wSs_cons, wS_set, wS_seto, wS_unp, wS_par, wS_app, wS_setc, wS_drop, wS_ret, wS_reto, wS_retN, wS_pass, wS_brk, wS_cont, wS_fail, wS_ite, wS_for, wR_nil, wR_cons, seqQ_nx, seqQ_ret, seqQ_brk, seqQ_cont, outQ_nx, outQ_ret, outQ_brk, outQ_cont, d_sh, d_fr, d_vw, vw_sh, vw_fr, vw_vw, add_int, add_str, add_tup, add_lst, sub_int, mul_int, fdiv_int, mod_int, eq_str, ne_str, eq_int, ne_int, eq_bl, ne_bl, eq_sn, lt_int, le_int, gt_int, ge_int, isn_any, notn_any, in_sign, nin_sign, len_str, len_tup, len_lst, len_scr, all_map, any_map, list_tup, list_lst, list_str, tuple_lst, tuple_tup, int_int, abs_int, min_int, own_sh, own_fr, bool_sh, int_sh, ends_str, starts_str, lower_str, upper_str, sl_lst, sl_tup, sl_str, ix_lst, ix_tup, ix_scr, ix_str, ix_cell, at_zero, at_succ, set_zero, set_succ, startE_zero, startE_cons, Op_some, Op_none, bT_nm, bT_tup, bT_nil, bT_cons, pS_nil, pS_fr, pS_sh, wipe_nil, wipe_cons, it_lst, it_tup, it_str, rng_one, rng_two, zip_tup, zip_lst, fr_fr, sh_sh, lst_lst, cel_cel, in_in, List.replicate_succ, List.replicate_zero, decide_eq_true_iff, true_and, and_true, ite_true, ite_false, if_true, if_false, Bool.false_eq_true, Bool.not_eq_true', List.length_cons, List.length_nil, isi_str, isi_tup, isi_lst, isi_int, isi_non, isi_bl, eq_tup, ne_tup, eq_lst, ne_lst, lt_tup, in_lst, nin_lst, nin_tup, at_0, at_1, at_2, at_3, Bool.true_eq_false, wE_rev, wS_seti, set_lst, eq_non_str, ne_non_str, ne_str_non, eq_non, ne_non, wE_dic0, wE_dic1, wE_dicL, wE_compI, wE_lrng, wE_rep, rep_str, wE_lix, dic_dic, key_str, key_int, in_dicS, nin_dicS, ix_dicS, set_dicS, min_lst, max_lst, max_int, sl_E, ix_E0, ix_E1, ix_E2, bT_E, isN_E] at this
    exact this
  · have := fin 0 (by decide)
    simp only [wE_c, wE_v, wE_vo, wE_bin, wE_neg, wE_not, wE_cmp, wE_chain, wE_and, wE_or, wE_ite, wE_call, wE_b1, wE_b2, wE_isi, wE_m0, wE_m1, wE_idx, wE_sl, wE_ss, ss_lst, mul_str, isn_bl, notn_bl, wE_tup, wE_lst, wE_comp, wEs_nil, wEs_cons, wEo_no, wEo_so, wC_no, wC_so, wI_e, wI_rng, wI_enum, wI_zip, wI_map, wSs_nil, wSs_cons, wS_set, wS_seto, wS_unp, wS_par, wS_app, wS_setc, wS_drop, wS_ret, wS_reto, wS_retN, wS_pass, wS_brk, wS_cont, wS_fail, wS_ite, wS_for, wR_nil, wR_cons, seqQ_nx, seqQ_ret, seqQ_brk, seqQ_cont, outQ_nx, outQ_ret, outQ_brk, outQ_cont, d_sh, d_fr, d_vw, vw_sh, vw_fr, vw_vw, add_int, add_str, add_tup, add_lst, sub_int, mul_int, fdiv_int, mod_int, eq_str, ne_str, eq_int, ne_int, eq_bl, ne_bl, eq_sn, lt_int, le_int, gt_int, ge_int, isn_any, notn_any, in_sign, nin_sign, len_str, len_tup, len_lst, len_scr, all_map, any_map, list_tup, list_lst, list_str, tuple_lst, tuple_tup, int_int, abs_int, min_int, own_sh, own_fr, bool_sh, int_sh, ends_str, starts_str, lower_str, upper_str, sl_lst, sl_tup, sl_str, ix_lst, ix_tup, ix_scr, ix_str, ix_cell, at_zero, at_succ, set_zero, set_succ, startE_zero, startE_cons, Op_some, Op_none, bT_nm, bT_tup, bT_nil, bT_cons, pS_nil, pS_fr, pS_sh, wipe_nil, wipe_cons, it_lst, it_tup, it_str, rng_one, rng_two, zip_tup, zip_lst, fr_fr, sh_sh, lst_lst, cel_cel, in_in, List.replicate_succ, List.replicate_zero, decide_eq_true_iff, true_and, and_true, ite_true, ite_false, if_true, if_false, Bool.false_eq_true, Bool.not_eq_true', List.length_cons, List.length_nil, isi_str, isi_tup, isi_lst, isi_int, isi_non, isi_bl, eq_tup, ne_tup, eq_lst, ne_lst, lt_tup, in_lst, nin_lst, nin_tup, at_0, at_1, at_2, at_3, Bool.true_eq_false, wE_rev, wS_seti, set_lst, eq_non_str, ne_non_str, ne_str_non, eq_non, ne_non, wE_dic0, wE_dic1, wE_dicL, wE_compI, wE_lrng, wE_rep, rep_str, wE_lix, dic_dic, key_str, key_int, in_dicS, nin_dicS, ix_dicS, set_dicS, min_lst, max_lst, max_int, sl_E, ix_E0, ix_E1, ix_E2, bT_E, isN_E] at this
    exact this
end MWL
set_option Elab.async false
set_option linter.all false
set_option maxRecDepth 100000
set_option maxHeartbeats 1000000
set_option autoImplicit false
/-! Plain: rows.py, typed. -/
namespace MWL
open MW
abbrev lo (x : Tx) : Tx := x.map PyProof.Rows.lo1
abbrev up (x : Tx) : Tx := x.map PyProof.Rows.up1
def ABCDE : Tx := [65, 66, 67, 68, 69]
def lets : Tx := [97, 98, 99, 100, 101, 65, 66, 67, 68, 69]
def shapedT (l small : Tx) : Option Tx :=
  if l = lo l then some small
  else if l.take 1 = up (l.take 1) ∧ l.drop 1 = lo (l.drop 1) then some (up (small.take 1) ++ small.drop 1)
  else if l = up l then some (up small) else none
def dO (b : Option Tx) : D := match b with
  | none => .non
  | some x => .str x
theorem dO_none : isNonD (dO none) = true := rfl
theorem dO_some {x : Tx} : isNonD (dO (some x)) = false := rfl
theorem dO_eq {x : Tx} : dO (some x) = .str x := rfl
theorem own_dO {b : Option Tx} {P : D → Prop} : Op (Rs.own? (.sh (dO b))) P ↔ P (dO b) := own_sh
theorem take1 {c : Nat} {l : Tx} : (c :: l).take 1 = [c] := rfl
theorem shaped_len {l small n : Tx} (h : shapedT l small = some n) : n.length = small.length := by
  unfold shapedT at h
  split at h
  · cases h; rfl
  · split at h
    · cases h
      simp only [up, List.length_append, List.length_map, List.length_take, List.length_drop]; omega
    · split at h
      · cases h; simp [up]
      · cases h
/-! a state: text, letters, what can be put back -/
structure Stt where
  t : Tx
  l : Tx
  b : Option Tx
def dS (s : Stt) : D := .tup [.str s.t, .str s.l, dO s.b]
abbrev Chg := Option (Tx × Tx × Ent)
def dC (c : Chg) : D := match c with
  | none => .non
  | some (l, n, e) => .tup [.str l, .str n, dE e]
def pressT (ls : List Ent) (s : Stt) (key : Nat) : Stt × Chg :=
  if key = 60 then (⟨s.b.getD s.t, if s.b = none then s.l else [], none⟩, none)
  else if key ∉ [32, 44, 46] then (⟨s.t ++ [key], s.l ++ [key], none⟩, none)
  else if s.l = [] then (⟨s.t ++ [key], [], none⟩, none)
  else match shapedT s.l (mendT ls (lo s.l)), act ls (lo s.l) with
    | some n, some e => if n = s.l then (⟨s.t ++ [key], [], none⟩, none) else (⟨s.t.take (s.t.length - s.l.length) ++ n ++ [key], [], some (s.t ++ [key])⟩, some (s.l, n, e))
    | _, _ => (⟨s.t ++ [key], [], none⟩, none)
/-- what a state bears -/
structure SOk (s : Stt) (n : Nat) : Prop where
  t : s.t.length ≤ 4 * n
  b : ∀ x, s.b = some x → x.length ≤ 4 * n
  l : s.l.length ≤ s.t.length
  cl : ∀ c ∈ s.l, c ∈ lets
theorem lo_lets : ∀ c ∈ lets, PyProof.Rows.lo1 c ∈ abcde := by decide
theorem lets_small : ∀ c ∈ lets, c < 128 := by decide
theorem lo_up_lets : ∀ c ∈ lets, (c = PyProof.Rows.lo1 c ↔ c ∉ ABCDE) ∧ (c = PyProof.Rows.up1 c ↔ c ∈ ABCDE) := by decide
/-- no entry acts: a word stays -/
theorem mendT_none {ls : List Ent} {w : Tx} (h : act ls w = none) : mendT ls w = w := by unfold mendT; rw [h]
theorem mendT_some {ls : List Ent} {w : Tx} {e : Ent} (h : act ls w = some e) : mendT ls w = w.take (w.length - e.o.length) ++ e.n := by unfold mendT; rw [h]
theorem mendT_len {ls : List Ent} (h : VL ls) {w : Tx} : (mendT ls w).length ≤ w.length + 3 ∧ (w ≠ [] → mendT ls w ≠ []) ∧ ((∀ c ∈ w, c ∈ abcde) → ∀ c ∈ mendT ls w, c ∈ abcde) := by
  cases e1 : act ls w with
  | none => rw [mendT_none e1]; exact ⟨by omega, id, id⟩
  | some e =>
    rw [mendT_some e1]
    have hm := (act_suf e1).1
    have ve := h.ok e hm
    have sl := suf_le e1
    have o4 := ve.o4
    have n4 := ve.n4
    refine ⟨by rw [List.length_append, List.length_take]; omega, fun _ z => ?_, fun hw c hc => ?_⟩
    · have := congrArg List.length z
      rw [List.length_append, List.length_nil] at this
      omega
    · rcases List.mem_append.mp hc with hc | hc
      · exact hw c (List.mem_of_mem_take hc)
      · exact n4.2.2 c hc
theorem list_lo {l : Tx} (h : ∀ c ∈ l, c ∈ lets) : (l = lo l ↔ ∀ c ∈ l, c ∉ ABCDE) ∧ (l = up l ↔ ∀ c ∈ l, c ∈ ABCDE) := by
  induction l with
  | nil => exact ⟨by simp, by simp⟩
  | cons c l ih =>
    obtain ⟨i1, i2⟩ := ih fun x hx => h x (List.mem_cons_of_mem _ hx)
    obtain ⟨j1, j2⟩ := lo_up_lets c (h c List.mem_cons_self)
    unfold lo up at *
    constructor
    · rw [List.map_cons, List.cons.injEq, j1, i1]
      simp
    · rw [List.map_cons, List.cons.injEq, j2, i2]
      simp
/-- a word that stays keeps its letters -/
theorem shaped_same {l : Tx} (h : ∀ c ∈ l, c ∈ lets) : ∀ n, shapedT l (lo l) = some n → n = l := by
  intro n hn
  unfold shapedT at hn
  split at hn
  · rename_i e; cases hn; exact e.symm
  · split at hn
    · rename_i e
      cases hn
      cases l with
      | nil => rfl
      | cons c l =>
        simp only [lo, up, List.map_cons, take1, List.drop_succ_cons, List.drop_zero, List.map_nil] at e ⊢
        obtain ⟨e1, e2⟩ := e
        rw [← e2]
        have hc := h c List.mem_cons_self
        have e1 : c = PyProof.Rows.up1 c := (List.cons.inj e1).1
        have : ∀ c ∈ lets, c = PyProof.Rows.up1 c → PyProof.Rows.up1 (PyProof.Rows.lo1 c) = c := by decide
        rw [this c hc e1]; rfl
    · split at hn
      · rename_i e
        cases hn
        have : ∀ c ∈ lets, c = PyProof.Rows.up1 c → PyProof.Rows.up1 (PyProof.Rows.lo1 c) = c := by decide
        have hu := (list_lo h).2.mp e
        have gen : ∀ l : Tx, (∀ c ∈ l, c ∈ lets) → (∀ c ∈ l, c ∈ ABCDE) → up (lo l) = l := by
          intro l
          induction l with
          | nil => intro _ _; rfl
          | cons c l ih =>
            intro h1 h2
            simp only [up, lo, List.map_cons]
            rw [this c (h1 c List.mem_cons_self) ((lo_up_lets c (h1 c List.mem_cons_self)).2.mpr (h2 c List.mem_cons_self))]
            congr 1
            exact ih (fun x hx => h1 x (List.mem_cons_of_mem _ hx)) (fun x hx => h2 x (List.mem_cons_of_mem _ hx))
        exact gen l h hu
      · cases hn
theorem dS_eq (s : Stt) : dS s = .tup [.str s.t, .str s.l, dO s.b] := rfl
theorem keys_kinds : ∀ c ∈ keysT, c ≠ 60 → c ∉ [32, 44, 46] → c ∈ lets := by decide
theorem SOk.press {ls : List Ent} {s : Stt} {n key : Nat} (h : VL ls) (hs : SOk s n) (hk : key ∈ keysT) : SOk (pressT ls s key).1 (n + 1) := by
  have t1 := hs.t
  have l1 := hs.l
  unfold pressT
  split
  · cases hb : s.b with
    | none =>
      refine ⟨?_, (fun x hx => nomatch hx), ?_, ?_⟩
      · show s.t.length ≤ _; omega
      · show (if (none : Option Tx) = none then s.l else []).length ≤ s.t.length; rw [if_pos rfl]; exact l1
      · show ∀ c ∈ (if (none : Option Tx) = none then s.l else []), c ∈ lets; rw [if_pos rfl]; exact hs.cl
    | some x =>
      have := hs.b x hb
      refine ⟨?_, (fun x hx => nomatch hx), ?_, ?_⟩
      · show x.length ≤ _; omega
      · show (if some x = none then s.l else []).length ≤ x.length; rw [if_neg (fun z => nomatch z)]; exact Nat.zero_le _
      · show ∀ c ∈ (if some x = none then s.l else []), c ∈ lets; rw [if_neg (fun z => nomatch z)]; exact fun c hc => nomatch hc
  · rename_i k1
    split
    · rename_i k2
      refine ⟨?_, (fun x hx => nomatch hx), ?_, ?_⟩
      · show (s.t ++ [key]).length ≤ _; rw [List.length_append]; simp; omega
      · show (s.l ++ [key]).length ≤ (s.t ++ [key]).length; rw [List.length_append, List.length_append]; omega
      · intro c hc
        rcases List.mem_append.mp hc with hc | hc
        · exact hs.cl c hc
        · rw [List.mem_singleton.mp hc]; exact keys_kinds key hk k1 k2
    · have plain : SOk ⟨s.t ++ [key], [], none⟩ (n + 1) := by
        refine ⟨?_, (fun x hx => nomatch hx), Nat.zero_le _, (fun c hc => nomatch hc)⟩
        show (s.t ++ [key]).length ≤ _; rw [List.length_append]; simp; omega
      split
      · exact plain
      · split
        · rename_i n' e hsh hac
          split
          · exact plain
          · have ml := (mendT_len h (w := lo s.l)).1
            have sl := shaped_len hsh
            have lol : (lo s.l).length = s.l.length := List.length_map _
            refine ⟨?_, fun x hx => ?_, Nat.zero_le _, (fun c hc => nomatch hc)⟩
            · show (s.t.take (s.t.length - s.l.length) ++ n' ++ [key]).length ≤ _
              simp only [List.length_append, List.length_take, List.length_cons, List.length_nil]
              omega
            · cases hx
              rw [List.length_append]; simp; omega
        · exact plain
/-- the states behind a row's keys -/
def runT (ls : List Ent) (s : Stt) (row : Tx) : Stt := row.foldl (fun s k => (pressT ls s k).1) s
def st0 : Stt := ⟨[], [], none⟩
theorem st0_ok : SOk st0 0 := ⟨Nat.le_refl _, (fun x h => nomatch h), Nat.le_refl _, (fun c h => nomatch h)⟩
def Irun (ls : List Ent) (row : Tx) (st : Store) (suf : Tx) (env : En) (t : Store) : Prop :=
  ∃ s n a3, env = [some (dL ls), some (.str row), some (dS s), a3] ∧ t = st ∧ SOk s n ∧ n + suf.length ≤ 1000 ∧ (∀ c ∈ suf, c ∈ keysT) ∧ runT ls s suf = runT ls st0 row
def isRow (row : Tx) : Prop := row.length ≤ 60 ∧ ∀ c ∈ row, c ∈ keysT
/-- the changes that a row's keys bring -/
def chgT (ls : List Ent) : Nat → Stt → Tx → List (Nat × Tx × Tx)
  | _, _, [] => []
  | i, s, key :: r => (match (pressT ls s key).2 with
    | none => []
    | some (l, n, _) => [(i, l, n)]) ++ chgT ls (i + 1) (pressT ls s key).1 r
def dG (c : Nat × Tx × Tx) : D := .tup [.int (c.1 : Nat), .str c.2.1, .str c.2.2]
def Ichg (ls : List Ent) (row : Tx) (st : Store) (i : Nat) (suf : Tx) (env : En) (t : Store) : Prop :=
  ∃ s gs a4 a5 a6, env = [some (dL ls), some (.str row), some (dS s), some (.lst (gs.map dG)), a4, a5, a6] ∧ t = st ∧ SOk s i ∧ i + suf.length ≤ 1000 ∧ gs.length ≤ i ∧ (∀ c ∈ suf, c ∈ keysT) ∧ gs ++ chgT ls i s suf = chgT ls 0 st0 row
end MWL
set_option Elab.async false
set_option linter.all false
set_option maxRecDepth 100000
set_option maxHeartbeats 1000000
set_option autoImplicit false
/-! Plain: the law's own acts, mends, caps, runs. -/
namespace MWL
open MW
def isW (w : Tx) (e : Ent) : Bool := decide (e.k = wordT) && decide (e.o = w)
def bestGo (w : Tx) : Option Ent → List Ent → Option Ent
  | b, [] => b
  | b, e :: es => if e.k = endT ∧ e.o.isSuffixOf w = true ∧ (∀ p, b = some p → p.o.length < e.o.length) then bestGo w (some e) es else bestGo w b es
theorem act_eq {ls : List Ent} {w : Tx} : act ls w = match ls.filter (isW w) with
    | e :: _ => some e
    | [] => bestGo w none ls := by
  have gen : ∀ (suf : List Ent) (i : Nat) (b : Option (Nat × Ent)), (actGo w i b suf).map (·.2) = match suf.filter (isW w) with
    | e :: _ => some e
    | [] => bestGo w (b.map (·.2)) suf := by
    intro suf
    induction suf with
    | nil => intro i b; rfl
    | cons e es ih =>
      intro i b
      rw [actGo, List.filter_cons]
      by_cases h1 : e.k = wordT ∧ e.o = w
      · have : isW w e = true := by unfold isW; simp [h1]
        rw [if_pos h1, if_pos this]; rfl
      · have : ¬ isW w e = true := by unfold isW; simp; exact fun a b => h1 ⟨a, b⟩
        rw [if_neg h1, if_neg this]
        have hb : (better b e = true) ↔ ∀ p, b.map (·.2) = some p → p.o.length < e.o.length := by
          cases b with
          | none => simp [better]
          | some p => simp [better]
        by_cases h2 : e.k = endT ∧ e.o.isSuffixOf w = true ∧ better b e = true
        · rw [if_pos h2, ih]
          cases es.filter (isW w) with
          | cons => rfl
          | nil =>
            show bestGo w (some e) es = bestGo w (b.map (·.2)) (e :: es)
            rw [bestGo, if_pos ⟨h2.1, h2.2.1, hb.mp h2.2.2⟩]
        · rw [if_neg h2, ih]
          cases es.filter (isW w) with
          | cons => rfl
          | nil =>
            show bestGo w (b.map (·.2)) es = bestGo w (b.map (·.2)) (e :: es)
            rw [bestGo, if_neg (fun z => h2 ⟨z.1, z.2.1, hb.mpr z.2.2⟩)]
  unfold act actI
  rw [gen]; rfl
def dEo (b : Option Ent) : D := match b with
  | none => .non
  | some e => dE e
theorem dEo_none : isNonD (dEo none) = true := rfl
theorem dEo_some {e : Ent} : isNonD (dEo (some e)) = false := rfl
theorem dEo_eq {e : Ent} : dEo (some e) = dE e := rfl
theorem suf_iff {o w : Tx} : o.isSuffixOf w = true ↔ o.length ≤ w.length ∧ w.drop (w.length - o.length) = o := by
  rw [List.isSuffixOf_iff_suffix]
  constructor
  · rintro ⟨t, rfl⟩
    refine ⟨by simp, by simp⟩
  · rintro ⟨h1, h2⟩
    refine ⟨w.take (w.length - o.length), ?_⟩
    have := List.take_append_drop (w.length - o.length) w
    rw [h2] at this; exact this
def Iacts (ls : List Ent) (w : Tx) (st : Store) (suf : List Ent) (env : En) (t : Store) : Prop :=
  ∃ b a2 a4 a5, env = [some (dL ls), some (.str w), a2, some (dEo b), a4, a5] ∧ t = st ∧ (∀ e ∈ suf, e ∈ ls) ∧ (∀ p, b = some p → p ∈ ls) ∧ bestGo w b suf = bestGo w none ls
theorem pl_list {es : List Ent} (h : ∀ e ∈ es, VE e) : (D.lst (es.map dE)).pl = true := by
  refine pl_of ?_
  rw [plD]
  exact plL_map fun e he => (h e he).pl
end MWL
set_option Elab.async false
set_option linter.all false
set_option maxRecDepth 100000
set_option maxHeartbeats 1000000
set_option autoImplicit false
/-! Plain: the law's caps, runs. -/
namespace MWL
open MW
def capsT (l small : Tx) : Tx :=
  if (l.any fun c => decide (c ∈ ABCDE)) = false then small
  else if (l.take 1).any (fun c => decide (c ∈ ABCDE)) = true ∧ (l.drop 1).any (fun c => decide (c ∈ ABCDE)) = false then up (small.take 1) ++ small.drop 1
  else if l.any (fun c => !decide (c ∈ ABCDE)) = true then l else up small
theorem any_tr {l : Tx} : ((l.map fun c => D.bl (decide (c ∈ ABCDE))).any fun z => PySem.PyData.eqv z.py (D.bl true).py) = l.any fun c => decide (c ∈ ABCDE) := by
  rw [List.any_map]
  congr 1
  funext c
  simp only [Function.comp, eqv_bl]
  cases decide (c ∈ ABCDE) <;> rfl
theorem any_fa {l : Tx} : ((l.map fun c => D.bl (decide (c ∈ ABCDE))).any fun z => PySem.PyData.eqv z.py (D.bl false).py) = l.any fun c => !decide (c ∈ ABCDE) := by
  rw [List.any_map]
  congr 1
  funext c
  simp only [Function.comp, eqv_bl]
  cases decide (c ∈ ABCDE) <;> rfl
theorem pl_bls {τ : Type} {f : τ → Bool} {l : List τ} : (D.lst (l.map fun c => D.bl (f c))).pl = true := by
  refine pl_of ?_
  rw [plD]
  exact plL_map fun c _ => by rw [plD]
theorem any_no {l : Tx} : (l.any fun c => decide (c ∈ ABCDE)) = false ↔ ∀ c ∈ l, c ∉ ABCDE := by
  rw [List.any_eq_false]
  constructor
  · intro h c hc z; exact h c hc (decide_eq_true z)
  · intro h c hc z; exact h c hc (of_decide_eq_true z)
theorem caps_eq {l small : Tx} (h0 : l ≠ []) (h : ∀ c ∈ l, c ∈ lets) : capsT l small = (shapedT l small).getD l := by
  have h1 : ∀ c ∈ l.drop 1, c ∈ lets := fun c hc => h c (List.mem_of_mem_drop hc)
  have h2 : ∀ c ∈ l.take 1, c ∈ lets := fun c hc => h c (List.mem_of_mem_take hc)
  unfold capsT shapedT
  by_cases a1 : l = lo l
  · rw [if_pos (any_no.mpr ((list_lo h).1.mp a1)), if_pos a1]; rfl
  · rw [if_neg (fun z => a1 ((list_lo h).1.mpr (any_no.mp z))), if_neg a1]
    have e1 : l.take 1 = up (l.take 1) ↔ (l.take 1).any (fun c => decide (c ∈ ABCDE)) = true := by
      rw [(list_lo h2).2]
      cases l with
      | nil => exact absurd rfl h0
      | cons c l => simp [take1]
    have e2 : l.drop 1 = lo (l.drop 1) ↔ (l.drop 1).any (fun c => decide (c ∈ ABCDE)) = false := by rw [(list_lo h1).1, any_no]
    by_cases a2 : l.take 1 = up (l.take 1) ∧ l.drop 1 = lo (l.drop 1)
    · rw [if_pos a2, if_pos ⟨e1.mp a2.1, e2.mp a2.2⟩]; rfl
    · rw [if_neg a2, if_neg (fun z => a2 ⟨e1.mpr z.1, e2.mpr z.2⟩)]
      have e3 : l.any (fun c => !decide (c ∈ ABCDE)) = true ↔ ¬ l = up l := by
        rw [(list_lo h).2, List.any_eq_true]
        simp
      by_cases a3 : l = up l
      · rw [if_pos a3, if_neg (fun z => e3.mp z a3)]; rfl
      · rw [if_neg a3, if_pos (e3.mpr a3)]; rfl
/-- the changes with the entries that acted -/
def chgE (ls : List Ent) : Nat → Stt → Tx → List (Nat × Tx × Tx × Ent)
  | _, _, [] => []
  | i, s, key :: r => (match (pressT ls s key).2 with
    | none => []
    | some (l, n, e) => [(i, l, n, e)]) ++ chgE ls (i + 1) (pressT ls s key).1 r
theorem chgT_eq {ls : List Ent} : ∀ (r : Tx) (i : Nat) (s : Stt), chgT ls i s r = (chgE ls i s r).map fun c => (c.1, c.2.1, c.2.2.1)
  | [], i, s => rfl
  | key :: r, i, s => by
    rw [chgT, chgE, List.map_append, chgT_eq r]
    congr 1
    cases (pressT ls s key).2 with
    | none => rfl
    | some c => rfl
def dF (c : Nat × Tx × Tx × Ent) : D := .tup [.int (c.1 : Nat), .str c.2.1, .str c.2.2.1, dE c.2.2.2]
def Iruns (ls : List Ent) (row : Tx) (st : Store) (i : Nat) (suf : Tx) (env : En) (t : Store) : Prop :=
  ∃ s fs a6 a7 a8 a9 a10 a11, ∃ start : Nat, env = [some (dL ls), some (.str row), some (.str s.t), some (.int (start : Nat)), some (dO s.b), some (.lst (fs.map dF)), a6, a7, a8, a9, a10, a11] ∧ t = st ∧ SOk s i ∧ i + suf.length ≤ 1000 ∧ fs.length ≤ i ∧
    start ≤ s.t.length ∧ s.l = s.t.drop start ∧ (∀ c ∈ suf, c ∈ keysT) ∧ fs ++ chgE ls i s suf = chgE ls 0 st0 row ∧ runT ls s suf = runT ls st0 row
theorem in3 {key : Nat} {R : Bool → Prop} : Op (opC .inn (.str [key]) (.str [32, 44, 46])) R ↔ R (decide (key ∈ [32, 44, 46])) := in_sign
end MWL
set_option Elab.async false
set_option linter.all false
set_option maxRecDepth 100000
set_option maxHeartbeats 1000000
set_option autoImplicit false
/-! Plain: origins, all short words. -/
namespace MWL
open MW
/-! all words -/
def lev : Nat → List Tx
  | 0 => [[]]
  | n + 1 => (lev n).flatMap fun w => abcde.map fun c => w ++ [c]
def everyT : Nat → List Tx
  | 0 => []
  | n + 1 => everyT n ++ lev (n + 1)
theorem lev_mem : ∀ (n : Nat) (w : Tx), w ∈ lev n ↔ w.length = n ∧ ∀ c ∈ w, c ∈ abcde
  | 0, w => by
    rw [lev, List.mem_singleton]
    constructor
    · rintro rfl; exact ⟨rfl, fun _ h => nomatch h⟩
    · rintro ⟨h, _⟩; exact List.length_eq_zero_iff.mp h
  | n + 1, w => by
    rw [lev, List.mem_flatMap]
    constructor
    · rintro ⟨v, hv, h⟩
      obtain ⟨c, hc, rfl⟩ := List.mem_map.mp h
      obtain ⟨h1, h2⟩ := (lev_mem n v).mp hv
      refine ⟨by simp [h1], fun d hd => ?_⟩
      rcases List.mem_append.mp hd with hd | hd
      · exact h2 d hd
      · rw [List.mem_singleton.mp hd]; exact hc
    · rintro ⟨h1, h2⟩
      have hne : w ≠ [] := fun z => by rw [z] at h1; cases h1
      refine ⟨w.dropLast, (lev_mem n _).mpr ⟨by simp [h1], fun c hc => h2 c (by rw [List.dropLast_eq_take] at hc; exact List.mem_of_mem_take hc)⟩, List.mem_map.mpr ⟨w.getLast hne, h2 _ (List.getLast_mem hne), List.dropLast_concat_getLast hne⟩⟩
theorem lev_nodup : ∀ n, (lev n).Nodup
  | 0 => List.pairwise_singleton _ _
  | n + 1 => by
    rw [lev]
    refine List.pairwise_flatMap.mpr ⟨fun w _ => ?_, ?_⟩
    · refine List.pairwise_map.mpr (List.Pairwise.imp (fun {a b} ne e => ne ?_) (show abcde.Nodup by decide))
      have := List.append_inj_right e rfl
      exact (List.cons.inj this).1
    · refine (lev_nodup n).imp fun {a b} ne x hx y hy e => ne ?_
      obtain ⟨c, _, rfl⟩ := List.mem_map.mp hx
      obtain ⟨d, _, rfl⟩ := List.mem_map.mp hy
      exact (List.append_inj' e rfl).1
theorem every_mem : ∀ (n : Nat) (w : Tx), w ∈ everyT n ↔ 1 ≤ w.length ∧ w.length ≤ n ∧ ∀ c ∈ w, c ∈ abcde
  | 0, w => by
    rw [everyT]
    constructor
    · intro h; cases h
    · rintro ⟨h1, h2, _⟩; omega
  | n + 1, w => by
    rw [everyT, List.mem_append, every_mem n, lev_mem]
    constructor
    · rintro (⟨h1, h2, h3⟩ | ⟨h1, h2⟩)
      · exact ⟨h1, by omega, h3⟩
      · exact ⟨by omega, by omega, h2⟩
    · rintro ⟨h1, h2, h3⟩
      by_cases e : w.length = n + 1
      · exact .inr ⟨e, h3⟩
      · exact .inl ⟨h1, by omega, h3⟩
theorem every_nodup : ∀ n, (everyT n).Nodup
  | 0 => List.nodup_nil
  | n + 1 => by
    rw [everyT]
    refine List.nodup_append.mpr ⟨every_nodup n, lev_nodup _, fun a ha b hb e => ?_⟩
    subst e
    have h1 := (every_mem n a).mp ha
    have h2 := (lev_mem _ a).mp hb
    omega
theorem lev_len : ∀ n, (lev n).length = 5 ^ n
  | 0 => rfl
  | n + 1 => by
    rw [lev, List.length_flatMap]
    have : (List.map (fun w : Tx => (abcde.map fun c => w ++ [c]).length) (lev n)) = (lev n).map fun _ => 5 := by
      refine List.map_congr_left fun w _ => ?_
      rw [List.length_map]; rfl
    rw [this, List.map_const', List.sum_replicate_nat, lev_len n, Nat.pow_succ]
theorem every_len : ∀ n, (everyT n).length ≤ n * 5 ^ n
  | 0 => Nat.le_refl _
  | n + 1 => by
    rw [everyT, List.length_append, lev_len]
    have h1 := every_len n
    have h2 : 5 ^ (n + 1) = 5 * 5 ^ n := by rw [Nat.pow_succ, Nat.mul_comm]
    have h3 : n * 5 ^ n ≤ n * 5 ^ (n + 1) := Nat.mul_le_mul_left _ (by omega)
    have h4 : (n + 1) * 5 ^ (n + 1) = n * 5 ^ (n + 1) + 5 ^ (n + 1) := Nat.succ_mul _ _
    omega
theorem range_snoc {τ : Type} (f : τ → D) (xs ys : List τ) : (xs ++ ys).map f = xs.map f ++ ys.map f := List.map_append
def Iev (m : Int) (st : Store) (i : Nat) (env : En) (s : Store) : Prop := ∃ a1 a4 a5 a6, env = [some (.int m), a1, some (.lst ((everyT i).map .str)), some (.lst ((lev i).map .str)), a4, a5, a6] ∧ s = st
def Iev2 (m : Int) (a1 : Option D) (i : Nat) (st : Store) (suf : List Tx) (env : En) (s : Store) : Prop := ∃ (pre : List Tx) (a5 a6 : Option D), env = [some (.int m), a1, some (.lst ((everyT i).map .str)), some (.lst ((lev i).map .str)), some (.lst ((pre.flatMap fun w => abcde.map fun c => w ++ [c]).map .str)), a5, a6] ∧ s = st ∧ lev i = pre ++ suf
end MWL
set_option Elab.async false
set_option linter.all false
set_option maxRecDepth 100000
set_option maxHeartbeats 1000000
set_option autoImplicit false
/-! Plain: origins. -/
namespace MWL
open MW
def candE (w : Tx) (e : Ent) : List Tx := if e.k = wordT then [e.o] else if e.n.isSuffixOf w = true then [w.take (w.length - e.n.length) ++ e.o] else []
def cand (ls : List Ent) (w : Tx) : List Tx := w :: ls.flatMap (candE w)
def origT (ls : List Ent) (w : Tx) : List Tx := (sortT (onceT (cand ls w))).filter fun o => decide (mendT ls o = w)
theorem candE_len {w : Tx} {e : Ent} : (candE w e).length ≤ 1 := by
  unfold candE
  split
  · exact Nat.le_refl _
  · split
    · exact Nat.le_refl _
    · exact Nat.zero_le _
theorem cand_len {w : Tx} : ∀ (ls : List Ent), (ls.flatMap (candE w)).length ≤ ls.length
  | [] => Nat.le_refl _
  | e :: ls => by
    rw [List.flatMap_cons, List.length_append, List.length_cons]
    have := candE_len (w := w) (e := e)
    have := cand_len (w := w) ls
    omega
theorem onceT_len : ∀ zs : List Tx, (onceT zs).length ≤ zs.length
  | [] => Nat.le_refl _
  | z :: zs => by
    rw [onceT]
    have := onceT_len zs
    split
    · rw [List.length_cons]; omega
    · rw [List.length_cons, List.length_cons]; omega
theorem sortT_mem {zs : List Tx} {z : Tx} : z ∈ sortT (onceT zs) ↔ z ∈ zs := by rw [(sortT_perm _).mem_iff, onceT_mem]
theorem sortT_len (zs : List Tx) : (sortT (onceT zs)).length ≤ zs.length := by rw [(sortT_perm _).length_eq]; exact onceT_len zs
theorem sortT_nodup (zs : List Tx) : (sortT (onceT zs)).Nodup := (sortT_perm _).nodup_iff.mpr (onceT_nodup zs)
/-- the words of an entry: what it may have changed -/
theorem cand_ok {ls : List Ent} (h : VL ls) {w : Tx} (hw : ∀ c ∈ w, c ∈ abcde) (h1 : 1 ≤ w.length) : ∀ o ∈ cand ls w, o.length ≤ max 4 (w.length + 2) ∧ 1 ≤ o.length ∧ ∀ c ∈ o, c ∈ abcde := by
  intro o ho
  unfold cand at ho
  rcases List.mem_cons.mp ho with rfl | ho
  · exact ⟨by omega, h1, hw⟩
  · obtain ⟨e, he, ho⟩ := List.mem_flatMap.mp ho
    have ve := h.ok e he
    have o4 := ve.o4
    have n4 := ve.n4
    unfold candE at ho
    split at ho
    · rw [List.mem_singleton.mp ho]; exact ⟨by omega, o4.2.1, o4.2.2⟩
    · rename_i hk
      split at ho
      · rename_i hs
        have sl := (List.isSuffixOf_iff_suffix.mp hs).length_le
        have o3 := (isLet_len ve.o).2.1
        rw [if_neg hk] at o3
        rw [List.mem_singleton.mp ho]
        refine ⟨by rw [List.length_append, List.length_take]; omega, by rw [List.length_append]; omega, fun c hc => ?_⟩
        rcases List.mem_append.mp hc with hc | hc
        · exact hw c (List.mem_of_mem_take hc)
        · exact o4.2.2 c hc
      · exact nomatch ho
/-- what becomes a word is among them -/
theorem mend_cand {ls : List Ent} {o w : Tx} (h : mendT ls o = w) : o ∈ cand ls w := by
  cases hac : act ls o with
  | none =>
    rw [mendT_none hac] at h
    rw [h]; exact List.mem_cons_self
  | some e =>
    rw [mendT_some hac] at h
    obtain ⟨hm, hk⟩ := act_suf hac
    refine List.mem_cons_of_mem _ (List.mem_flatMap.mpr ⟨e, hm, ?_⟩)
    unfold candE
    rcases hk with ⟨k1, k2⟩ | ⟨k1, k2⟩
    · rw [if_pos k1, k2]; exact List.mem_singleton.mpr rfl
    · rw [if_neg (by rw [k1]; decide)]
      have hs : e.n.isSuffixOf w = true := List.isSuffixOf_iff_suffix.mpr ⟨_, h⟩
      rw [if_pos hs]
      obtain ⟨t, ht⟩ := List.isSuffixOf_iff_suffix.mp k2
      subst ht
      have : (t ++ e.o).take ((t ++ e.o).length - e.o.length) = t := by simp
      rw [this] at h
      subst h
      simp
def Iorg (ls : List Ent) (w : Tx) (st : Store) (suf : List Ent) (env : En) (s : Store) : Prop :=
  ∃ pre a3 a4 a5 a6, env = [some (dL ls), some (.str w), some (.lst ((w :: pre.flatMap (candE w)).map .str)), a3, a4, a5, a6] ∧ s = st ∧ ls = pre ++ suf
theorem pl_txs {zs : List Tx} (h : ∀ z ∈ zs, ∀ c ∈ z, c < 128) : (D.lst (zs.map D.str)).pl = true := by
  refine pl_of ?_
  rw [plD]
  exact plL_map fun z hz => by rw [plD]; exact small_pl (h z hz)
theorem pl_tx {z : Tx} (h : ∀ c ∈ z, c < 128) : (D.str z).pl = true := by
  refine pl_of ?_
  rw [plD]; exact small_pl h
theorem orig_mem {ls : List Ent} {o w : Tx} : o ∈ origT ls w ↔ mendT ls o = w := by
  unfold origT
  rw [List.mem_filter, sortT_mem, decide_eq_true_iff]
  exact ⟨fun h => h.2, fun h => ⟨mend_cand h, h⟩⟩
theorem orig_small {ls : List Ent} (h : VL ls) {w : Tx} (hw : ∀ c ∈ w, c ∈ abcde) (h1 : 1 ≤ w.length) : ∀ z ∈ origT ls w, ∀ c ∈ z, c < 128 := by
  intro z hz c hc
  have := cand_ok h hw h1 z (mend_cand (orig_mem.mp hz))
  exact small_abcde (this.2.2 c hc)
theorem orig_sorted {ls : List Ent} {w : Tx} : (origT ls w).Pairwise (fun a b => leT a b = true) ∧ (origT ls w).Nodup :=
  ⟨(sortT_sorted _).filter _, (sortT_nodup _).filter _⟩
theorem asc_one {l m : List Tx} (h1 : l.Pairwise fun a b => leT a b = true) (h2 : l.Nodup) (h3 : m.Pairwise fun a b => leT a b = true) (h4 : m.Nodup) (hm : ∀ x, x ∈ l ↔ x ∈ m) : l = m :=
  List.Perm.eq_of_pairwise (le := fun a b => leT a b = true) (fun a b _ _ p q => leT_anti a b p q) h1 h3 ((List.perm_ext_iff_of_nodup h2 h4).mpr hm)
end MWL
set_option Elab.async false
set_option linter.all false
set_option maxRecDepth 100000
set_option maxHeartbeats 1000000
set_option autoImplicit false
/-! Plain: the words that end with some olds; the first word that is mended otherwise. -/
namespace MWL
open MW
def olds0 (ls : List Ent) : List Tx := sortT (onceT (ls.map (·.o)))
/-- no other old is an end of it -/
def least (os : List Tx) (o : Tx) : Bool := !os.any fun p => !decide (o = p) && p.isSuffixOf o
def oldsT (ls : List Ent) : List Tx := (olds0 ls).filter (least (olds0 ls))
def endsW (n : Nat) (o : Tx) : List Tx := if o.length ≤ n then (lev (n - o.length)).map fun w => w ++ o else []
def wordsT (os : List Tx) (n : Nat) : List Tx := sortT (onceT (os.flatMap (endsW n)))
def Iw0 (os : List Tx) (n : Nat) (st : Store) (suf : List Tx) (env : En) (s : Store) : Prop :=
  ∃ pre a3 a4 a5 a6 a7 a8, env = [some (.lst (os.map .str)), some (.int (n : Nat)), some (.lst ((pre.flatMap (endsW n)).map .str)), a3, a4, a5, a6, a7, a8] ∧ s = st ∧ os = pre ++ suf
def Iw1 (os : List Tx) (n : Nat) (st : Store) (a2 : Option D) (o : Tx) (i : Nat) (env : En) (s : Store) : Prop :=
  ∃ a5 a6 a7 a8, env = [some (.lst (os.map .str)), some (.int (n : Nat)), a2, some (.str o), some (.lst ((lev i).map .str)), a5, a6, a7, a8] ∧ s = st
def Iw2 (os : List Tx) (n : Nat) (st : Store) (a2 : Option D) (o : Tx) (a5 : Option D) (i : Nat) (suf : List Tx) (env : En) (s : Store) : Prop :=
  ∃ (pre : List Tx) (a7 a8 : Option D), env = [some (.lst (os.map .str)), some (.int (n : Nat)), a2, some (.str o), some (.lst ((lev i).map .str)), a5, some (.lst ((pre.flatMap fun w => abcde.map fun c => w ++ [c]).map .str)), a7, a8] ∧ s = st ∧ lev i = pre ++ suf
theorem five_each (pre : List Tx) : (pre.flatMap fun w => abcde.map fun c => w ++ [c]).length = 5 * pre.length := by
  rw [List.length_flatMap]
  have : (List.map (fun w : Tx => (abcde.map fun c => w ++ [c]).length) pre) = pre.map fun _ => 5 := List.map_congr_left fun w _ => by rw [List.length_map]; rfl
  rw [this, List.map_const', List.sum_replicate_nat, Nat.mul_comm]
end MWL
set_option Elab.async false
set_option linter.all false
set_option maxRecDepth 100000
set_option maxHeartbeats 1000000
set_option autoImplicit false
/-! Plain: the first word that two lists mend otherwise is found among those that end with a least old; none of five letters, then none at all. -/
namespace MWL
open MW
/-! ascending lists -/
theorem lt_app : ∀ {a b : Tx} (x y : Tx), a.length = b.length → a < b → a ++ x < b ++ y
  | [], [], x, y, _, h => absurd h (List.lt_irrefl _)
  | [], _ :: _, x, y, e, _ => by cases e
  | _ :: _, [], x, y, e, _ => by cases e
  | c :: a, d :: b, x, y, e, h => by
    rw [List.cons_append, List.cons_append, List.cons_lt_cons_iff]
    rcases List.cons_lt_cons_iff.mp h with h | ⟨h1, h2⟩
    · exact .inl h
    · exact .inr ⟨h1, lt_app x y (by simpa using e) h2⟩
theorem lt_same : ∀ {a x y : Tx}, x < y → a ++ x < a ++ y
  | [], x, y, h => h
  | c :: a, x, y, h => by
    rw [List.cons_append, List.cons_append, List.cons_lt_cons_iff]
    exact .inr ⟨rfl, lt_same h⟩
theorem leT_lt {a b : Tx} (h : a < b) : leT a b = true := by
  unfold leT
  simp only [Bool.not_eq_true', decide_eq_false_iff_not]
  exact fun q => absurd (List.lt_trans h q) (List.lt_irrefl _)
theorem lev_lt : ∀ n, (lev n).Pairwise fun a b => a < b
  | 0 => List.pairwise_singleton _ _
  | n + 1 => by
    rw [lev]
    refine List.pairwise_flatMap.mpr ⟨fun w _ => ?_, ?_⟩
    · refine List.pairwise_map.mpr (List.Pairwise.imp (fun {a b} (ne : a < b) => lt_same (List.cons_lt_cons_iff.mpr (.inl ne))) (show abcde.Pairwise fun a b => a < b by decide))
    · refine List.Pairwise.imp_of_mem (fun {a b} ha hb lt x hx y hy => ?_) (lev_lt n)
      obtain ⟨c, _, rfl⟩ := List.mem_map.mp hx
      obtain ⟨d, _, rfl⟩ := List.mem_map.mp hy
      exact lt_app _ _ (((lev_mem n a).mp ha).1.trans ((lev_mem n b).mp hb).1.symm) lt
theorem lev_sorted (n : Nat) : (lev n).Pairwise fun a b => leT a b = true := (lev_lt n).imp leT_lt
theorem find_sub {p : Tx → Bool} {l m : List Tx} (h1 : l.Pairwise fun a b => leT a b = true) (h2 : l.Nodup) (h3 : m.Pairwise fun a b => leT a b = true) (h4 : m.Nodup) (hs : ∀ x ∈ l, x ∈ m) (hp : ∀ x ∈ m, p x = true → x ∈ l) : l.find? p = m.find? p := by
  have e : l = m.filter fun x => decide (x ∈ l) := asc_one h1 h2 (h3.filter _) (h4.filter _) fun x => by
    rw [List.mem_filter, decide_eq_true_iff]
    exact ⟨fun h => ⟨hs x h, h⟩, fun h => h.2⟩
  have e2 : (m.filter fun x => decide (x ∈ l)).find? p = m.find? p := by
    rw [List.find?_filter]
    clear h1 h2 h3 h4 hs e
    induction m with
    | nil => rfl
    | cons x xs ih =>
      rw [List.find?_cons, List.find?_cons]
      have ih := ih fun y hy => hp y (List.mem_cons_of_mem _ hy)
      cases e : p x with
      | true =>
        have := hp x List.mem_cons_self e
        simp [this]
      | false =>
        have ih' : List.find? (fun a => decide (a ∈ l) && p a) xs = List.find? p xs := by rw [← ih]; congr 1; funext a; simp
        simp [ih']
  rw [← e2, ← e]
theorem sub_len : ∀ {l m : List Tx}, l.Nodup → (∀ x ∈ l, x ∈ m) → l.length ≤ m.length
  | [], m, _, _ => Nat.zero_le _
  | x :: l, m, h, hs => by
    rw [List.nodup_cons] at h
    have hx := hs x List.mem_cons_self
    have := sub_len (l := l) (m := m.erase x) h.2 fun y hy => (List.mem_erase_of_ne (a := y) (b := x) fun e => h.1 (e ▸ hy)).mpr (hs y (List.mem_cons_of_mem _ hy))
    rw [List.length_erase_of_mem hx] at this
    have := List.length_pos_of_mem hx
    rw [List.length_cons]; omega
/-! differing words -/
def differ (a b : List Ent) (w : Tx) : Bool := decide (mendT a w ≠ mendT b w)
def partT (a b : List Ent) : Option Tx := (everyT 5).find? (differ a b)
theorem differ_old {a b : List Ent} {w : Tx} (h : differ a b w = true) : ∃ e ∈ a ++ b, e.o <:+ w := by
  unfold differ at h
  rw [decide_eq_true_iff] at h
  have suf : ∀ {ls : List Ent} {e : Ent}, act ls w = some e → e ∈ ls ∧ e.o <:+ w := fun {ls e} h => by
    obtain ⟨h1, h2⟩ := act_suf h
    refine ⟨h1, ?_⟩
    rcases h2 with ⟨_, h2⟩ | ⟨_, h2⟩
    · rw [h2]; exact List.suffix_refl _
    · exact List.isSuffixOf_iff_suffix.mp h2
  cases ea : act a w with
  | some e => exact ⟨e, List.mem_append_left _ (suf ea).1, (suf ea).2⟩
  | none =>
    cases eb : act b w with
    | some e => exact ⟨e, List.mem_append_right _ (suf eb).1, (suf eb).2⟩
    | none => exact absurd (by unfold mendT; rw [ea, eb]) h
theorem olds0_mem {ls : List Ent} {o : Tx} : o ∈ olds0 ls ↔ ∃ e ∈ ls, e.o = o := by
  unfold olds0
  rw [sortT_mem, List.mem_map]
theorem least_in {ls : List Ent} {w : Tx} : ∀ (n : Nat) (o : Tx), o.length ≤ n → o ∈ olds0 ls → o <:+ w → ∃ p ∈ oldsT ls, p <:+ w
  | n, o, hn, ho, hw => by
    by_cases h : least (olds0 ls) o = true
    · exact ⟨o, List.mem_filter.mpr ⟨ho, h⟩, hw⟩
    · unfold least at h
      rw [Bool.not_eq_true, Bool.not_eq_false'] at h
      simp only [List.any_eq_true, Bool.and_eq_true, Bool.not_eq_true', decide_eq_false_iff_not] at h
      obtain ⟨p, hp, hne, hs⟩ := h
      have hs := List.isSuffixOf_iff_suffix.mp hs
      have hl := hs.length_le
      have hlt : p.length < o.length := by
        refine Nat.lt_of_le_of_ne hl fun e => hne (hs.eq_of_length e).symm
      cases n with
      | zero => omega
      | succ n => exact least_in n p (by omega) hp (hs.trans hw)
theorem differ_least {a b : List Ent} {w : Tx} (h : differ a b w = true) : ∃ p ∈ oldsT (a ++ b), p <:+ w := by
  obtain ⟨e, he, hw⟩ := differ_old h
  exact least_in _ e.o (Nat.le_refl _) (olds0_mem.mpr ⟨e, he, rfl⟩) hw
theorem oldsT_nodup (ls : List Ent) : (oldsT ls).Nodup := (sortT_nodup _).filter _
theorem oldsT_mem {ls : List Ent} {o : Tx} (h : o ∈ oldsT ls) : ∃ e ∈ ls, e.o = o := olds0_mem.mp (List.mem_filter.mp h).1
theorem oldsT_anti {ls : List Ent} {o p : Tx} (ho : o ∈ oldsT ls) (hp : p ∈ oldsT ls) (h : p <:+ o) : p = o := by
  obtain ⟨_, h1⟩ := List.mem_filter.mp ho
  obtain ⟨h2, _⟩ := List.mem_filter.mp hp
  unfold least at h1
  rw [Bool.not_eq_true', List.any_eq_false] at h1
  have := h1 p h2
  simp only [Bool.and_eq_true, Bool.not_eq_true', decide_eq_false_iff_not, not_and] at this
  by_cases e : o = p
  · exact e.symm
  · exact absurd (List.isSuffixOf_iff_suffix.mpr h) (this e)
theorem endsW_mem {n : Nat} {o w : Tx} (ho : ∀ c ∈ o, c ∈ abcde) : w ∈ endsW n o ↔ w ∈ lev n ∧ o <:+ w := by
  unfold endsW
  constructor
  · intro h
    by_cases hl : o.length ≤ n
    · rw [if_pos hl] at h
      obtain ⟨v, hv, rfl⟩ := List.mem_map.mp h
      obtain ⟨h1, h2⟩ := (lev_mem _ v).mp hv
      refine ⟨(lev_mem _ _).mpr ⟨by rw [List.length_append]; omega, fun c hc => ?_⟩, List.suffix_append _ _⟩
      rcases List.mem_append.mp hc with hc | hc
      · exact h2 c hc
      · exact ho c hc
    · rw [if_neg hl] at h; cases h
  · rintro ⟨h1, v, rfl⟩
    obtain ⟨h2, h3⟩ := (lev_mem _ _).mp h1
    rw [List.length_append] at h2
    rw [if_pos (by omega)]
    exact List.mem_map.mpr ⟨v, (lev_mem _ v).mpr ⟨by omega, fun c hc => h3 c (List.mem_append_left _ hc)⟩, rfl⟩
theorem ends_nodup {n : Nat} {o : Tx} : (endsW n o).Nodup := by
  unfold endsW
  split
  · exact List.pairwise_map.mpr ((lev_nodup _).imp fun {a b} ne e => ne (List.append_cancel_right e))
  · exact List.nodup_nil
theorem words_sub {ls : List Ent} (ho : ∀ e ∈ ls, ∀ c ∈ e.o, c ∈ abcde) {n : Nat} {w : Tx} : w ∈ (oldsT ls).flatMap (endsW n) ↔ w ∈ lev n ∧ ∃ p ∈ oldsT ls, p <:+ w := by
  rw [List.mem_flatMap]
  have hc : ∀ p ∈ oldsT ls, ∀ c ∈ p, c ∈ abcde := fun p hp => by
    obtain ⟨e, he, rfl⟩ := oldsT_mem hp
    exact ho e he
  constructor
  · rintro ⟨p, hp, h⟩
    have := (endsW_mem (hc p hp)).mp h
    exact ⟨this.1, p, hp, this.2⟩
  · rintro ⟨h1, p, hp, h2⟩
    exact ⟨p, hp, (endsW_mem (hc p hp)).mpr ⟨h1, h2⟩⟩
theorem words_bound {ls : List Ent} (ho : ∀ e ∈ ls, ∀ c ∈ e.o, c ∈ abcde) {n : Nat} (hn : n ≤ 5) : ((oldsT ls).flatMap (endsW n)).length ≤ 3125 := by
  have hc : ∀ p ∈ oldsT ls, ∀ c ∈ p, c ∈ abcde := fun p hp => by
    obtain ⟨e, he, rfl⟩ := oldsT_mem hp
    exact ho e he
  have nd : ((oldsT ls).flatMap (endsW n)).Nodup := by
    refine List.pairwise_flatMap.mpr ⟨fun o _ => ends_nodup, List.Pairwise.imp_of_mem (fun {p q} hp hq ne x hx y hy e => ne ?_) (oldsT_nodup ls)⟩
    subst e
    have h1 := ((endsW_mem (hc p hp)).mp hx).2
    have h2 := ((endsW_mem (hc q hq)).mp hy).2
    rcases Nat.le_total p.length q.length with h | h
    · exact oldsT_anti hq hp (List.suffix_of_suffix_length_le h1 h2 h)
    · exact (oldsT_anti hp hq (List.suffix_of_suffix_length_le h2 h1 h)).symm
  have := sub_len nd fun x hx => ((words_sub ho).mp hx).1
  rw [lev_len] at this
  have p5 : 5 ^ n ≤ 5 ^ 5 := Nat.pow_le_pow_right (by decide) hn
  exact Nat.le_trans this p5
theorem words_find {a b : List Ent} (ho : ∀ e ∈ a ++ b, ∀ c ∈ e.o, c ∈ abcde) (n : Nat) : (wordsT (oldsT (a ++ b)) n).find? (differ a b) = (lev n).find? (differ a b) := by
  unfold wordsT
  refine find_sub (sortT_sorted _) (sortT_nodup _) (lev_sorted n) (lev_nodup n) (fun x hx => ((words_sub ho).mp (sortT_mem.mp hx)).1) fun x hx hp => sortT_mem.mpr ((words_sub ho).mpr ⟨hx, differ_least hp⟩)
/-! longer words -/
theorem act_tail {ls : List Ent} (h : VL ls) {u v : Tx} (hv : v.length = 5) (hu : u ≠ []) : act ls (u ++ v) = act ls v := by
  have ul : 0 < u.length := List.length_pos_iff.mpr hu
  have gen : ∀ (es : List Ent) (i : Nat) (b : Option (Nat × Ent)), (∀ e ∈ es, VE e) → actGo (u ++ v) i b es = actGo v i b es := by
    intro es
    induction es with
    | nil => intro i b _; rfl
    | cons e es ih =>
      intro i b he
      have ve := he e List.mem_cons_self
      have ih := fun i b => ih i b fun e h => he e (List.mem_cons_of_mem _ h)
      have o4 := ve.o4
      have n1 : ¬ (e.k = wordT ∧ e.o = u ++ v) := fun ⟨_, z⟩ => by
        have := congrArg List.length z
        rw [List.length_append] at this; omega
      have n2 : ¬ (e.k = wordT ∧ e.o = v) := fun ⟨_, z⟩ => by
        have := congrArg List.length z
        omega
      have sf : e.o.isSuffixOf (u ++ v) = e.o.isSuffixOf v := by
        rw [Bool.eq_iff_iff, List.isSuffixOf_iff_suffix, List.isSuffixOf_iff_suffix]
        exact ⟨fun h => List.suffix_of_suffix_length_le h (List.suffix_append u v) (by omega), fun h => h.trans (List.suffix_append u v)⟩
      rw [actGo, actGo, if_neg n1, if_neg n2, sf, ih, ih]
  unfold act actI
  rw [gen ls 0 none h.ok]
theorem mend_tail {ls : List Ent} (h : VL ls) {u v : Tx} (hv : v.length = 5) (hu : u ≠ []) : mendT ls (u ++ v) = u ++ mendT ls v := by
  unfold mendT
  rw [act_tail h hv hu]
  cases e1 : act ls v with
  | none => rfl
  | some e =>
    have := suf_le e1
    show (u ++ v).take _ ++ e.n = u ++ (v.take _ ++ e.n)
    rw [List.length_append, show u.length + v.length - e.o.length = u.length + (v.length - e.o.length) by omega, List.take_length_add_append, List.append_assoc]
theorem differ_short {a b : List Ent} (ha : VL a) (hb : VL b) {w : Tx} (hw : ∀ c ∈ w, c ∈ abcde) (h1 : 1 ≤ w.length) (h : differ a b w = true) : ∃ v ∈ everyT 5, differ a b v = true ∧ v.length ≤ w.length := by
  by_cases hl : w.length ≤ 5
  · exact ⟨w, (every_mem 5 w).mpr ⟨h1, hl, hw⟩, h, Nat.le_refl _⟩
  · have e : w = w.take (w.length - 5) ++ w.drop (w.length - 5) := (List.take_append_drop _ _).symm
    have l5 : (w.drop (w.length - 5)).length = 5 := by rw [List.length_drop]; omega
    have ne : w.take (w.length - 5) ≠ [] := fun z => by
      have := congrArg List.length z
      rw [List.length_take] at this
      simp at this; omega
    refine ⟨w.drop (w.length - 5), (every_mem 5 _).mpr ⟨by omega, by omega, fun c hc => hw c (List.mem_of_mem_drop hc)⟩, ?_, by omega⟩
    unfold differ at *
    rw [decide_eq_true_iff] at *
    intro z
    refine h ?_
    rw [e, mend_tail ha l5 ne, mend_tail hb l5 ne, z]
theorem part_none {a b : List Ent} (ha : VL a) (hb : VL b) (h : partT a b = none) {w : Tx} (hw : ∀ c ∈ w, c ∈ abcde) (h1 : 1 ≤ w.length) : mendT a w = mendT b w := by
  by_cases e : mendT a w = mendT b w
  · exact e
  · obtain ⟨v, hv, hd, _⟩ := differ_short ha hb hw h1 (by unfold differ; exact decide_eq_true e)
    exact absurd hd (List.find?_eq_none.mp h v hv)
theorem differ_comm (a b : List Ent) : differ a b = differ b a := by
  funext w
  unfold differ
  rw [Bool.eq_iff_iff, decide_eq_true_iff, decide_eq_true_iff]
  exact ⟨fun h => fun z => h z.symm, fun h => fun z => h z.symm⟩
theorem part_comm (a b : List Ent) : partT a b = partT b a := by unfold partT; rw [differ_comm]
theorem part_self (a : List Ent) : partT a a = none := by
  unfold partT
  refine List.find?_eq_none.mpr fun w _ => ?_
  unfold differ
  simp
/-! the program's function -/
def Ipt0 (a b : List Ent) (st : Store) (i : Nat) (env : En) (s : Store) : Prop :=
  ∃ a3 a4, env = [some (dL a), some (dL b), some (.lst ((oldsT (a ++ b)).map .str)), a3, a4] ∧ s = st ∧ (everyT i).find? (differ a b) = none
def Ipt1 (a b : List Ent) (st : Store) (i : Nat) (suf : List Tx) (env : En) (s : Store) : Prop :=
  ∃ pre a3 a4, env = [some (dL a), some (dL b), some (.lst ((oldsT (a ++ b)).map .str)), a3, a4] ∧ s = st ∧ wordsT (oldsT (a ++ b)) (i + 1) = pre ++ suf ∧ pre.find? (differ a b) = none
theorem every_app (i : Nat) : ∀ j, ∃ r, everyT (i + j) = everyT i ++ r
  | 0 => ⟨[], (List.append_nil _).symm⟩
  | j + 1 => by
    obtain ⟨r, h⟩ := every_app i j
    exact ⟨r ++ lev (i + j + 1), by rw [← Nat.add_assoc, everyT, h, List.append_assoc]⟩
theorem part_hit {a b : List Ent} {i : Nat} {w : Tx} (hi : i < 5) (h0 : (everyT i).find? (differ a b) = none) (h1 : (lev (i + 1)).find? (differ a b) = some w) : partT a b = some w := by
  obtain ⟨r, h⟩ := every_app (i + 1) (5 - (i + 1))
  rw [show i + 1 + (5 - (i + 1)) = 5 by omega] at h
  unfold partT
  rw [h, everyT, List.find?_append, List.find?_append, h0, h1]
  rfl
theorem range_at {lo : Int} {n i : Nat} {x : D} (h : (rngI lo n)[i]? = some x) : x = .int (lo + (i : Nat)) ∧ i < n := by
  have hl := (List.getElem?_eq_some_iff.mp h).1
  rw [rngI_length] at hl
  unfold rngI at h
  rw [List.getElem?_map, List.getElem?_range hl] at h
  cases h
  exact ⟨rfl, hl⟩
end MWL
set_option Elab.async false
set_option linter.all false
set_option maxRecDepth 100000
set_option maxHeartbeats 1000000
set_option autoImplicit false
/-! Plain: lists drawn, lists nearly the same; alike.py's functions. -/
namespace MWL
open MW
/-- a list, told pair by pair -/
structure VP (ls : List Ent) : Prop where
  len : ls.length ≤ 6
  ok : ∀ e ∈ ls, VE e
  pw : ls.Pairwise fun a b => ltE a b = true ∧ kE a ≠ kE b
theorem VP.vl {ls : List Ent} (h : VP ls) : VL ls := ⟨h.len, h.ok, fun p hp => by
  obtain ⟨h1, h2⟩ := zip_drop h.pw p hp
  exact ⟨h1, fun z => h2 (by unfold kE; rw [z.1, z.2])⟩⟩
theorem VP.vs {ls : List Ent} (h : VP ls) : VS ls := ⟨h.len, h.ok, h.pw.imp fun h => h.2⟩
theorem VP.sub {ls ms : List Ent} (h : VP ls) (s : ms.Sublist ls) : VP ms := ⟨Nat.le_trans s.length_le h.len, fun e he => h.ok e (s.subset he), h.pw.sublist s⟩
theorem VP.nil : VP [] := ⟨by decide, (fun e h => nomatch h), .nil⟩
theorem leE_sorted (es : List Ent) : (es.mergeSort leE).Pairwise fun a b => leE a b = true := PySem.W.sort_pairwise (PySem.W.sortLe_total _ _ _) es
theorem key_any {es : List Ent} {e : Ent} : ((es.map fun e => D.tup [.str e.k, .str e.o]).any fun z => PySem.PyData.eqv z.py (D.tup [.str e.k, .str e.o]).py) = es.any fun a => decide (kE a = kE e) := by
  rw [List.any_map]
  congr 1
  funext a
  simp only [Function.comp]
  rw [eqv_tup, eqvAll_cons, eqvAll_cons, eqvAll_nil, eqv_str, eqv_str]
  unfold kE
  simp
theorem key_no {es : List Ent} {e : Ent} (hn : (es.any fun a => decide (kE a = kE e)) = false) : ∀ a ∈ es, kE a ≠ kE e := fun a ha z => by
  have : (es.any fun a => decide (kE a = kE e)) = true := List.any_eq_true.mpr ⟨a, ha, decide_eq_true z⟩
  rw [hn] at this; cases this
theorem eqv_ent {a b : Ent} : PySem.PyData.eqv (dE a).py (dE b).py = decide (a = b) := by
  unfold dE
  rw [eqv_tup, eqvAll_cons, eqvAll_cons, eqvAll_cons, eqvAll_nil, eqv_str, eqv_str, eqv_str]
  cases a; cases b
  simp
theorem eqvAll_ents : ∀ (xs ys : List Ent), PySem.PyData.eqvAll (pyAll (xs.map dE)) (pyAll (ys.map dE)) = decide (xs = ys)
  | [], [] => by simp [eqvAll_nil]
  | [], y :: ys => by simp [eqvAll_nc]
  | x :: xs, [] => by simp [eqvAll_cn]
  | x :: xs, y :: ys => by
    rw [List.map_cons, List.map_cons, eqvAll_cons, eqv_ent, eqvAll_ents xs ys]
    by_cases h1 : x = y <;> by_cases h2 : xs = ys <;> simp [h1, h2]
theorem eqv_ents {xs ys : List Ent} : PySem.PyData.eqv (D.lst (xs.map dE)).py (D.lst (ys.map dE)).py = decide (xs = ys) := by rw [eqv_lst, eqvAll_ents]
theorem eqv_dL {xs ys : List Ent} : PySem.PyData.eqv (dL xs).py (dL ys).py = decide (xs = ys) := by unfold dL; rw [eqv_tup, eqvAll_ents]
theorem VS.vp {es : List Ent} (h : VS es) : VP (es.mergeSort leE) where
  len := by rw [List.length_mergeSort]; exact h.len
  ok := fun e he => h.ok e (List.mem_mergeSort.mp he)
  pw := by
    have k : (es.mergeSort leE).Pairwise fun a b => kE a ≠ kE b := h.keys.perm (List.mergeSort_perm es leE).symm fun z => z.symm
    exact ((leE_sorted es).and k).imp fun h => ⟨ltE_of h.1 h.2, h.2⟩
theorem near3 {P Q R A C D : Prop} [Decidable P] [Decidable Q] [Decidable R] (a : P → Q → A) (c : R → Q → C) (d : D) : if P then (if Q then A else (if R then (if Q then C else D) else D)) else (if R then (if Q then C else D) else D) := by
  by_cases p : P <;> by_cases q : Q <;> by_cases r : R <;> simp only [p, q, r, if_true, if_false, true_and] <;> first | exact a p q | exact c r q | exact d
theorem kE_set {es : List Ent} {j : Nat} {e : Ent} {n : Tx} (h : es[j]? = some e) : (es.set j ⟨e.k, e.o, n⟩).map kE = es.map kE := by
  rw [List.map_set]
  show (es.map kE).set j (kE e) = _
  have : (es.map kE)[j]? = some (kE e) := by rw [List.getElem?_map, h]; rfl
  obtain ⟨hl, he⟩ := List.getElem?_eq_some_iff.mp this
  rw [← he, List.set_getElem_self]
theorem pw_map {es : List Ent} : (es.Pairwise fun a b => kE a ≠ kE b) ↔ (es.map kE).Nodup := (List.pairwise_map (f := kE) (R := fun a b => a ≠ b)).symm
end MWL
set_option Elab.async false
set_option linter.all false
set_option maxRecDepth 100000
set_option maxHeartbeats 1000000
set_option autoImplicit false
/-! Plain: alike.py. -/
namespace MWL
open MW
theorem dO_n : dO none = .non := rfl
theorem isN_str {x : Tx} : isNonD (.str x) = false := rfl
theorem isN_tup {x : List D} : isNonD (.tup x) = false := rfl
theorem isN_lst {x : List D} : isNonD (.lst x) = false := rfl
theorem isN_int {x : Int} : isNonD (.int x) = false := rfl
theorem isN_non : isNonD .non = true := rfl
theorem isN_dO {x : Option Tx} : isNonD (dO x) = x.isNone := by cases x <;> rfl
theorem eq_dO {x y : Option Tx} {R : Bool → Prop} : Op (opC .eq (dO x) (dO y)) R ↔ R (decide (x = y)) := by
  cases x <;> cases y <;> simp only [dO, opC, eqF, Op_some] <;> simp
theorem ne_dO {x y : Option Tx} {R : Bool → Prop} : Op (opC .ne (dO x) (dO y)) R ↔ R (!decide (x = y)) := by
  cases x <;> cases y <;> simp only [dO, opC, eqF, Op_some] <;> simp
def rowT (x : Option Tx) : Option Tx := x.map fun w => up w ++ [32]
theorem rowT_none : rowT none = none := rfl
theorem rowT_some {w : Tx} : rowT (some w) = some (up w ++ [32]) := rfl
theorem part_some {a b : List Ent} {w : Tx} (h : partT a b = some w) : differ a b w = true ∧ 1 ≤ w.length ∧ w.length ≤ 5 ∧ ∀ c ∈ w, c ∈ abcde :=
  ⟨List.find?_some h, (every_mem 5 w).mp (List.mem_of_find?_eq_some h)⟩
end MWL
set_option linter.all false
set_option autoImplicit false
/-! Courses of words, plain: a machine that changes the ends of words, and short words as a whole. -/
namespace MWL
def itr (M : List Nat → List Nat) : Nat → List Nat → List Nat
  | 0, w => w
  | n + 1, w => M (itr M n w)
structure Mach (M E : List Nat → List Nat) : Prop where
  long : ∀ w, 5 ≤ w.length → M w = E w
  app : ∀ u v, 3 ≤ v.length → E (u ++ v) = u ++ E v
  ne : ∀ w, w ≠ [] → M w ≠ []
  abc : ∀ w, (∀ c ∈ w, c ∈ [97, 98, 99, 100, 101]) → ∀ c ∈ M w, c ∈ [97, 98, 99, 100, 101]
theorem itr_add (M : List Nat → List Nat) (w : List Nat) (i : Nat) : ∀ j, itr M (i + j) w = itr M j (itr M i w)
  | 0 => rfl
  | j + 1 => by
    show M (itr M (i + j) w) = M (itr M j (itr M i w))
    rw [itr_add M w i j]
section
variable {M E : List Nat → List Nat} (h : Mach M E)
include h
/-- while the end stays at least three letters long, the front stays -/
theorem front_stays {f t : List Nat} (hf : 2 ≤ f.length) : ∀ n, (∀ k, k < n → 3 ≤ (itr E k t).length) → itr M n (f ++ t) = f ++ itr E n t
  | 0, _ => rfl
  | n + 1, hk => by
    have ih := front_stays hf n fun k q => hk k (by omega)
    show M (itr M n (f ++ t)) = f ++ E (itr E n t)
    have h3 := hk n (by omega)
    rw [ih, h.long _ (by rw [List.length_append]; omega), h.app _ _ h3]
theorem front_E {g t : List Nat} : ∀ n, (∀ k, k < n → 3 ≤ (itr E k t).length) → itr E n (g ++ t) = g ++ itr E n t
  | 0, _ => rfl
  | n + 1, hk => by
    have ih := front_E (g := g) n fun k q => hk k (by omega)
    show E (itr E n (g ++ t)) = g ++ E (itr E n t)
    rw [ih, h.app _ _ (hk n (by omega))]
/-- the same three letters at the end again, never below: from then on alike -/
theorem again {w : List Nat} {p : Nat} (hp : 0 < p) (h5 : 5 ≤ w.length) (hm : ∀ k, k ≤ p → w.length ≤ (itr M k w).length) (ht : (itr M p w).drop ((itr M p w).length - 3) = w.drop (w.length - 3)) :
    ∃ f g t : List Nat, w = f ++ t ∧ t.length = 3 ∧ 2 ≤ f.length ∧ itr M p w = f ++ g ++ t ∧ (∀ m, itr M m w = f ++ itr E m t) ∧ (∀ m, 3 ≤ (itr E m t).length) ∧ ∀ m, itr M (p + m) w = f ++ g ++ itr E m t := by
  generalize hf : w.take (w.length - 3) = f
  generalize htt : w.drop (w.length - 3) = t at ht
  have ew : w = f ++ t := by rw [← hf, ← htt, List.take_append_drop]
  have tl : t.length = 3 := by rw [← htt, List.length_drop]; omega
  have fl : f.length = w.length - 3 := by rw [← hf, List.length_take]; omega
  have f2 : 2 ≤ f.length := by omega
  -- within the first turn
  have within : ∀ n, n ≤ p → itr M n w = f ++ itr E n t ∧ 3 ≤ (itr E n t).length := by
    intro n
    induction n using Nat.strongRecOn with
    | _ n ih =>
      intro hn
      have e : itr M n w = f ++ itr E n t := by
        rw [ew]
        exact front_stays h f2 n fun k hk => (ih k hk (by omega)).2
      refine ⟨e, ?_⟩
      have := hm n hn
      rw [e, List.length_append] at this
      omega
  have xp := within p (Nat.le_refl p)
  obtain ⟨g, hg⟩ : ∃ g, itr E p t = g ++ t := by
    have l3 := xp.2
    rw [xp.1] at ht
    refine ⟨(itr E p t).take ((itr E p t).length - 3), ?_⟩
    have e : (f ++ itr E p t).drop ((f ++ itr E p t).length - 3) = (itr E p t).drop ((itr E p t).length - 3) := by
      rw [List.length_append, show f.length + (itr E p t).length - 3 = f.length + ((itr E p t).length - 3) by omega, List.drop_append]
      simp
    rw [e] at ht
    conv => lhs; rw [← List.take_append_drop ((itr E p t).length - 3) (itr E p t)]
    rw [ht]
  have all3 : ∀ m, 3 ≤ (itr E m t).length := by
    intro m
    induction m using Nat.strongRecOn with
    | _ m ih =>
      by_cases hmp : m ≤ p
      · exact (within m hmp).2
      · have e : m = p + (m - p) := by omega
        rw [e, itr_add, hg, front_E h (m - p) fun k hk => ih k (by omega), List.length_append]
        have := ih (m - p) (by omega)
        omega
  have all : ∀ m, itr M m w = f ++ itr E m t := fun m => by
    rw [ew]; exact front_stays h f2 m fun k _ => all3 k
  refine ⟨f, g, t, ew, tl, f2, ?_, all, all3, fun m => ?_⟩
  · rw [all p, hg, List.append_assoc]
  · rw [all, itr_add, hg, front_E h m fun k _ => all3 k, List.append_assoc]
/-- lengths go on alike -/
theorem again_len {w : List Nat} {p : Nat} (hp : 0 < p) (h5 : 5 ≤ w.length) (hm : ∀ k, k ≤ p → w.length ≤ (itr M k w).length) (ht : (itr M p w).drop ((itr M p w).length - 3) = w.drop (w.length - 3)) (m : Nat) :
    (itr M (p + m) w).length = (itr M m w).length + ((itr M p w).length - w.length) := by
  obtain ⟨f, g, t, ew, tl, f2, ep, a, a3, b⟩ := again h hp h5 hm ht
  rw [b m, a m, ep, ew]
  simp only [List.length_append]
  omega
/-- it never comes to rest, if it did not in the first turn -/
theorem again_moves {w : List Nat} {p : Nat} (hp : 0 < p) (h5 : 5 ≤ w.length) (hm : ∀ k, k ≤ p → w.length ≤ (itr M k w).length) (ht : (itr M p w).drop ((itr M p w).length - 3) = w.drop (w.length - 3))
    (hc : ∀ k, k < p → M (itr M k w) ≠ itr M k w) : ∀ m, M (itr M m w) ≠ itr M m w := by
  obtain ⟨f, g, t, ew, tl, f2, ep, a, a3, b⟩ := again h hp h5 hm ht
  intro m
  induction m using Nat.strongRecOn with
  | _ m ih =>
    by_cases hmp : m < p
    · exact hc m hmp
    · intro z
      have em : m = p + (m - p) := by omega
      have e1 := b (m - p)
      have e2 := b (m - p + 1)
      rw [← em] at e1
      rw [show p + (m - p + 1) = m + 1 by omega] at e2
      have z : itr M (m + 1) w = itr M m w := z
      rw [e1, e2] at z
      have z2 := List.append_cancel_left z
      refine ih (m - p) (by omega) ?_
      show itr M (m - p + 1) w = itr M (m - p) w
      rw [a, a, z2]
omit h in
/-- a word of at most four letters comes again -/
theorem cyc_moves {w : List Nat} {p : Nat} (hp : 0 < p) (he : itr M p w = w) (hc : ∀ k, k < p → M (itr M k w) ≠ itr M k w) : ∀ m, M (itr M m w) ≠ itr M m w := by
  intro m
  induction m using Nat.strongRecOn with
  | _ m ih =>
    by_cases hmp : m < p
    · exact hc m hmp
    · have em : m = p + (m - p) := by omega
      rw [em, itr_add, he]
      exact ih (m - p) (by omega)
/-- some pass from which on no word is shorter -/
theorem low (w : List Nat) (n : Nat) : ∃ i, n ≤ i ∧ ∀ m, i ≤ m → (itr M i w).length ≤ (itr M m w).length := by
  have key : ∀ L i, n ≤ i → (itr M i w).length ≤ L → ∃ i, n ≤ i ∧ ∀ m, i ≤ m → (itr M i w).length ≤ (itr M m w).length := by
    intro L
    induction L with
    | zero => intro i hi hl; exact ⟨i, hi, fun m _ => by omega⟩
    | succ L ih =>
      intro i hi hl
      by_cases hx : ∃ m, i ≤ m ∧ (itr M m w).length < (itr M i w).length
      · obtain ⟨m, h1, h2⟩ := hx
        exact ih m (by omega) (by omega)
      · refine ⟨i, hi, fun m hm => ?_⟩
        by_cases q : (itr M i w).length ≤ (itr M m w).length
        · exact q
        · exact absurd ⟨m, hm, by omega⟩ hx
  exact key _ n (Nat.le_refl _) (Nat.le_refl _)
end
end MWL
namespace MWL
/-! many words, few kinds: two alike -/
theorem pigeon {α : Type} [DecidableEq α] (l : List α) (f : Nat → α) (hf : ∀ i, i ≤ l.length → f i ∈ l) : ∃ i j, i < j ∧ j ≤ l.length ∧ f i = f j := by
  by_cases hx : ∃ i j, i < j ∧ j ≤ l.length ∧ f i = f j
  · exact hx
  · exfalso
    have inj : ∀ i j, i ≤ l.length → j ≤ l.length → f i = f j → i = j := fun i j hi hj e => by
      rcases Nat.lt_trichotomy i j with q | q | q
      · exact absurd ⟨i, j, q, hj, e⟩ hx
      · exact q
      · exact absurd ⟨j, i, q, hi, e.symm⟩ hx
    have nd : ((List.range (l.length + 1)).map f).Nodup := by
      refine List.pairwise_map.mpr (List.Pairwise.imp_of_mem (fun {a b} ha hb ne e => ne (inj a b ?_ ?_ e)) List.nodup_range)
      · have := List.mem_range.mp ha; omega
      · have := List.mem_range.mp hb; omega
    have sub : ∀ (l1 l2 : List α), l1.Nodup → (∀ x ∈ l1, x ∈ l2) → l1.length ≤ l2.length := by
      intro l1
      induction l1 with
      | nil => intro l2 _ _; exact Nat.zero_le _
      | cons x l1 ih =>
        intro l2 h hs
        rw [List.nodup_cons] at h
        have hx := hs x List.mem_cons_self
        have := ih (l2.erase x) h.2 fun y hy => (List.mem_erase_of_ne (a := y) (b := x) fun e => h.1 (e ▸ hy)).mpr (hs y (List.mem_cons_of_mem _ hy))
        rw [List.length_erase_of_mem hx] at this
        have := List.length_pos_of_mem hx
        rw [List.length_cons]; omega
    have := sub _ l nd fun x hx => by
      obtain ⟨i, hi, rfl⟩ := List.mem_map.mp hx
      exact hf i (by have := List.mem_range.mp hi; omega)
    rw [List.length_map, List.length_range] at this
    omega
/-- for finitely many things one number that is enough for all -/
theorem enough {α : Type} {P : α → Nat → Prop} (mono : ∀ a n m, n ≤ m → P a n → P a m) : ∀ l : List α, (∀ a ∈ l, ∃ n, P a n) → ∃ n, ∀ a ∈ l, P a n
  | [], _ => ⟨0, fun _ h => nomatch h⟩
  | a :: l, h => by
    obtain ⟨n, h1⟩ := h a List.mem_cons_self
    obtain ⟨m, h2⟩ := enough mono l fun b hb => h b (List.mem_cons_of_mem _ hb)
    refine ⟨n + m, fun b hb => ?_⟩
    rcases List.mem_cons.mp hb with rfl | hb
    · exact mono _ _ _ (by omega) h1
    · exact mono _ _ _ (by omega) (h2 b hb)
def lev3 : List (List Nat) := [97, 98, 99, 100, 101].flatMap fun a => [97, 98, 99, 100, 101].flatMap fun b => [97, 98, 99, 100, 101].map fun c => [a, b, c]
theorem lev3_mem {w : List Nat} (h3 : w.length = 3) (hw : ∀ c ∈ w, c ∈ [97, 98, 99, 100, 101]) : w ∈ lev3 := by
  match w, h3 with
  | [a, b, c], _ =>
    unfold lev3
    refine List.mem_flatMap.mpr ⟨a, hw a (by simp), List.mem_flatMap.mpr ⟨b, hw b (by simp), List.mem_map.mpr ⟨c, hw c (by simp), rfl⟩⟩⟩
def short4 : List (List Nat) := let l := [97, 98, 99, 100, 101]
  [] :: (l.map fun a => [a]) ++ (l.flatMap fun a => l.map fun b => [a, b]) ++ (l.flatMap fun a => l.flatMap fun b => l.map fun c => [a, b, c]) ++ l.flatMap fun a => l.flatMap fun b => l.flatMap fun c => l.map fun d => [a, b, c, d]
theorem short4_mem {w : List Nat} (h4 : w.length ≤ 4) (hw : ∀ c ∈ w, c ∈ [97, 98, 99, 100, 101]) : w ∈ short4 := by
  unfold short4
  match w, h4 with
  | [], _ => exact List.mem_append_left _ (List.mem_append_left _ (List.mem_append_left _ List.mem_cons_self))
  | [a], _ =>
    have := hw a (by simp)
    refine List.mem_append_left _ (List.mem_append_left _ (List.mem_append_left _ (List.mem_cons_of_mem _ (List.mem_map.mpr ⟨a, this, rfl⟩))))
  | [a, b], _ =>
    refine List.mem_append_left _ (List.mem_append_left _ (List.mem_append_right _ (List.mem_flatMap.mpr ⟨a, hw a (by simp), List.mem_map.mpr ⟨b, hw b (by simp), rfl⟩⟩)))
  | [a, b, c], _ =>
    refine List.mem_append_left _ (List.mem_append_right _ (List.mem_flatMap.mpr ⟨a, hw a (by simp), List.mem_flatMap.mpr ⟨b, hw b (by simp), List.mem_map.mpr ⟨c, hw c (by simp), rfl⟩⟩⟩))
  | [a, b, c, d], _ =>
    refine List.mem_append_right _ (List.mem_flatMap.mpr ⟨a, hw a (by simp), List.mem_flatMap.mpr ⟨b, hw b (by simp), List.mem_flatMap.mpr ⟨c, hw c (by simp), List.mem_map.mpr ⟨d, hw d (by simp), rfl⟩⟩⟩⟩)
section
variable {M E : List Nat → List Nat} (h : Mach M E)
include h
theorem itr_abc {w : List Nat} (hw : ∀ c ∈ w, c ∈ [97, 98, 99, 100, 101]) : ∀ n, ∀ c ∈ itr M n w, c ∈ [97, 98, 99, 100, 101]
  | 0 => hw
  | n + 1 => h.abc _ (itr_abc hw n)
/-- passes from which on no word is shorter, one behind the other -/
theorem lows (w : List Nat) (n : Nat) : ∃ f : Nat → Nat, n ≤ f 0 ∧ (∀ k, f k < f (k + 1)) ∧ ∀ k m, f k ≤ m → (itr M (f k) w).length ≤ (itr M m w).length := by
  have ch : ∀ n, ∃ i, n ≤ i ∧ ∀ m, i ≤ m → (itr M i w).length ≤ (itr M m w).length := low h w
  let g : Nat → Nat := fun n => (ch n).choose
  have hg : ∀ n, n ≤ g n ∧ ∀ m, g n ≤ m → (itr M (g n) w).length ≤ (itr M m w).length := fun n => (ch n).choose_spec
  let f : Nat → Nat := fun k => Nat.rec (g n) (fun _ x => g (x + 1)) k
  refine ⟨f, (hg n).1, fun k => ?_, fun k m hm => ?_⟩
  · have : f (k + 1) = g (f k + 1) := rfl
    have := (hg (f k + 1)).1
    omega
  · cases k with
    | zero => exact (hg n).2 m hm
    | succ k => exact (hg (f k + 1)).2 m hm
/-- either a short word comes twice behind n passes, or two words with more than four letters end alike and no word behind the first is shorter -/
theorem ends_twice {w : List Nat} (hw : ∀ c ∈ w, c ∈ [97, 98, 99, 100, 101]) (n : Nat) : ∃ i j, n ≤ i ∧ i < j ∧ (∀ m, i ≤ m → (itr M i w).length ≤ (itr M m w).length) ∧
    ((itr M i w).length ≤ 4 ∧ itr M i w = itr M j w ∨ 5 ≤ (itr M i w).length ∧ (∀ m, j ≤ m → (itr M j w).length ≤ (itr M m w).length) ∧ (itr M j w).drop ((itr M j w).length - 3) = (itr M i w).drop ((itr M i w).length - 3)) := by
  obtain ⟨f, f0, fs, fl⟩ := lows h w n
  have fm : ∀ a b, a < b → f a < f b := by
    intro a b hab
    induction b with
    | zero => omega
    | succ b ih =>
      have := fs b
      by_cases q : a = b
      · subst q; exact this
      · have := ih (by omega); omega
  have fn : ∀ a, n ≤ f a := fun a => by
    by_cases q : a = 0
    · subst q; exact f0
    · have := fm 0 a (by omega); omega
  have abc := itr_abc h hw
  let kd : Nat → List Nat ⊕ List Nat := fun a => if (itr M (f a) w).length ≤ 4 then .inl (itr M (f a) w) else .inr ((itr M (f a) w).drop ((itr M (f a) w).length - 3))
  obtain ⟨a, b, hab, _, e⟩ := pigeon ((short4.map Sum.inl) ++ (lev3.map Sum.inr)) kd fun a _ => by
    show (if (itr M (f a) w).length ≤ 4 then (Sum.inl (itr M (f a) w) : List Nat ⊕ List Nat) else .inr _) ∈ _
    split
    · rename_i q
      exact List.mem_append_left _ (List.mem_map.mpr ⟨_, short4_mem q (abc _), rfl⟩)
    · rename_i q
      refine List.mem_append_right _ (List.mem_map.mpr ⟨_, lev3_mem (by rw [List.length_drop]; omega) fun c hc => abc _ c (List.mem_of_mem_drop hc), rfl⟩)
  have e : (if (itr M (f a) w).length ≤ 4 then (Sum.inl (itr M (f a) w) : List Nat ⊕ List Nat) else .inr ((itr M (f a) w).drop ((itr M (f a) w).length - 3))) = if (itr M (f b) w).length ≤ 4 then .inl (itr M (f b) w) else .inr ((itr M (f b) w).drop ((itr M (f b) w).length - 3)) := e
  refine ⟨f a, f b, fn a, fm a b hab, fl a, ?_⟩
  by_cases q : (itr M (f a) w).length ≤ 4
  · rw [if_pos q] at e
    split at e
    · exact .inl ⟨q, Sum.inl.inj e⟩
    · cases e
  · rw [if_neg q] at e
    split at e
    · cases e
    · exact .inr ⟨by omega, fl b, (Sum.inr.inj e).symm⟩
end
end MWL
namespace MWL
/-- a look back at pass j finds a word that ends alike -/
def stopM (M : List Nat → List Nat) (w : List Nat) (j : Nat) : Prop := ∃ i, i < j ∧
  ((itr M i w).length ≤ 4 ∧ itr M i w = itr M j w ∨ 5 ≤ (itr M i w).length ∧ (∀ m, i ≤ m → m ≤ j → (itr M i w).length ≤ (itr M m w).length) ∧ (itr M j w).drop ((itr M j w).length - 3) = (itr M i w).drop ((itr M i w).length - 3))
theorem last_of {P : Nat → Prop} (h0 : P 0) : ∀ n, ∃ t, t ≤ n ∧ P t ∧ ∀ m, t < m → m ≤ n → ¬ P m
  | 0 => ⟨0, Nat.le_refl _, h0, fun m a b => by omega⟩
  | n + 1 => by
    by_cases h : P (n + 1)
    · exact ⟨n + 1, Nat.le_refl _, h, fun m a b => by omega⟩
    · obtain ⟨t, h1, h2, h3⟩ := last_of h0 n
      refine ⟨t, by omega, h2, fun m a b => ?_⟩
      by_cases q : m = n + 1
      · rw [q]; exact h
      · exact h3 m a (by omega)
/-- no look back has found any: the word is not long -/
theorem len_bound {M E : List Nat → List Nat} (h : Mach M E) {w : List Nat} (hw : ∀ c ∈ w, c ∈ [97, 98, 99, 100, 101]) (hl : w.length ≤ 12) (hs : ∀ v, (M v).length ≤ v.length + 3) (n : Nat) (hn : ∀ j, j < n → ¬ stopM M w j) : (itr M n w).length ≤ 387 := by
  by_cases hb : (itr M n w).length ≤ 387
  · exact hb
  · exfalso
    have ex : ∀ i, ∃ t, t ≤ n ∧ (itr M t w).length ≤ 12 + 3 * i ∧ ∀ m, t < m → m ≤ n → ¬ (itr M m w).length ≤ 12 + 3 * i := fun i => last_of (P := fun t => (itr M t w).length ≤ 12 + 3 * i) (show w.length ≤ _ by omega) n
    let f : Nat → Nat := fun i => (ex i).choose
    have hf : ∀ i, f i ≤ n ∧ (itr M (f i) w).length ≤ 12 + 3 * i ∧ ∀ m, f i < m → m ≤ n → ¬ (itr M m w).length ≤ 12 + 3 * i := fun i => (ex i).choose_spec
    have lt : ∀ i, i ≤ 125 → f i < n := fun i hi => by
      obtain ⟨a, b, c⟩ := hf i
      refine Nat.lt_of_le_of_ne a fun z => ?_
      rw [z] at b; omega
    have ge : ∀ i, i ≤ 125 → 10 + 3 * i ≤ (itr M (f i) w).length := fun i hi => by
      obtain ⟨a, b, c⟩ := hf i
      have := c (f i + 1) (by omega) (lt i hi)
      have := hs (itr M (f i) w)
      have e : itr M (f i + 1) w = M (itr M (f i) w) := rfl
      rw [← e] at this
      omega
    have l3 : lev3.length = 125 := by decide +kernel
    obtain ⟨i, j, hij, hj, e⟩ := pigeon lev3 (fun i => (itr M (f i) w).drop ((itr M (f i) w).length - 3)) fun i hi => lev3_mem (by
      have := ge i (by omega)
      rw [List.length_drop]; omega) fun c hc => itr_abc h hw _ c (List.mem_of_mem_drop hc)
    rw [l3] at hj
    have gi := ge i (by omega)
    have gj := ge j hj
    have fi := hf i
    have fj := hf j
    have lij : f i < f j := by
      rcases Nat.lt_trichotomy (f i) (f j) with q | q | q
      · exact q
      · have := fi.2.1; rw [q] at this; omega
      · exact absurd (show (itr M (f i) w).length ≤ 12 + 3 * j by omega) (fj.2.2 (f i) q fi.1)
    refine hn (f j) (lt j hj) ⟨f i, lij, .inr ⟨by omega, fun m h1 h2 => ?_, e.symm⟩⟩
    by_cases q : m = f i
    · rw [q]; exact Nat.le_refl _
    · have := fi.2.2 m (by omega) (by omega)
      omega
end MWL
set_option linter.all false
set_option autoImplicit false
/-! Courses of words, plain: what a look back tells of the whole course. -/
namespace MWL
abbrev last3W (w : List Nat) : List Nat := w.drop (w.length - 3)
/-- a course up to pass n: the next word came at pass b, or from pass b on it goes on alike, longer by more -/
structure CoIs (M : List Nat → List Nat) (w : List Nat) (n b more : Nat) : Prop where
  le : b ≤ n
  nd : ∀ i j, i < j → j ≤ n → itr M i w ≠ itr M j w
  fin : (more = 0 ∧ itr M (n + 1) w = itr M b w) ∨ (0 < more ∧ b < n ∧ 5 ≤ (itr M b w).length ∧ (∀ m, b ≤ m → m ≤ n → (itr M b w).length ≤ (itr M m w).length) ∧ last3W (itr M n w) = last3W (itr M b w) ∧ (itr M n w).length = (itr M b w).length + more)
section
variable {M E : List Nat → List Nat} {w : List Nat} {n b more : Nat}
theorem itr_cyc {p : Nat} (h : itr M (b + p) w = itr M b w) : ∀ m, itr M (b + m + p) w = itr M (b + m) w
  | 0 => h
  | m + 1 => by
    have := itr_cyc h m
    rw [show b + (m + 1) + p = b + m + p + 1 by omega]
    show M (itr M (b + m + p) w) = M (itr M (b + m) w)
    rw [this]
theorem itr_cyc_mul {p : Nat} (h : itr M (b + p) w = itr M b w) (m : Nat) : ∀ k, itr M (b + m + p * k) w = itr M (b + m) w
  | 0 => rfl
  | k + 1 => by
    rw [Nat.mul_succ, show b + m + (p * k + p) = b + (m + p * k) + p by omega, itr_cyc h, ← Nat.add_assoc]
    exact itr_cyc_mul h m k
theorem CoIs.cyc (c : CoIs M w n b 0) : itr M (n + 1) w = itr M b w := by
  rcases c.fin with h | h
  · exact h.2
  · exact absurd h.1 (Nat.lt_irrefl 0)
/-- the word behind any number of passes -/
theorem CoIs.cyc_at (c : CoIs M w n b 0) {t : Nat} (ht : b ≤ t) : itr M t w = itr M (b + (t - b) % (n + 1 - b)) w := by
  have hb := c.le
  have hp : 0 < n + 1 - b := by omega
  have h : itr M (b + (n + 1 - b)) w = itr M b w := by rw [show b + (n + 1 - b) = n + 1 by omega]; exact c.cyc
  have e := itr_cyc_mul h ((t - b) % (n + 1 - b)) ((t - b) / (n + 1 - b))
  have := Nat.mod_add_div (t - b) (n + 1 - b)
  rw [show b + (t - b) % (n + 1 - b) + (n + 1 - b) * ((t - b) / (n + 1 - b)) = t by omega] at e
  exact e
section
variable (h : Mach M E)
include h
theorem CoIs.grow (c : CoIs M w n b more) (hm : 0 < more) (m : Nat) : (itr M (n + m) w).length = (itr M (b + m) w).length + more := by
  rcases c.fin with z | ⟨_, hb, h5, hl, h3, he⟩
  · omega
  · have e1 : itr M (n - b) (itr M b w) = itr M n w := by rw [← itr_add, show b + (n - b) = n by omega]
    have := again_len h (w := itr M b w) (p := n - b) (by omega) h5 (fun k hk => by
      rw [← itr_add]; exact hl (b + k) (by omega) (by omega)) (by rw [e1]; exact h3) m
    rw [e1, ← itr_add, ← itr_add, show b + (n - b + m) = n + m by omega] at this
    omega
theorem CoIs.grow_mul (c : CoIs M w n b more) (hm : 0 < more) (m : Nat) : ∀ k, (itr M (b + m + (n - b) * k) w).length = (itr M (b + m) w).length + k * more
  | 0 => by simp
  | k + 1 => by
    have hbn : b < n := by
      rcases c.fin with z | z
      · omega
      · exact z.2.1
    have e := c.grow h hm (m + (n - b) * k)
    have := CoIs.grow_mul c hm m k
    rw [Nat.mul_succ, show b + m + ((n - b) * k + (n - b)) = n + (m + (n - b) * k) by omega, e, ← Nat.add_assoc, this, Nat.succ_mul]
    omega
/-- the length behind any number of passes -/
theorem CoIs.grow_at (c : CoIs M w n b more) (hm : 0 < more) {t : Nat} (ht : b ≤ t) : (itr M t w).length = (itr M (b + (t - b) % (n - b)) w).length + (t - b) / (n - b) * more := by
  have e := c.grow_mul h hm ((t - b) % (n - b)) ((t - b) / (n - b))
  have := Nat.mod_add_div (t - b) (n - b)
  rw [show b + (t - b) % (n - b) + (n - b) * ((t - b) / (n - b)) = t by omega] at e
  exact e
/-- what goes on alike never comes again -/
theorem CoIs.grow_ne (c : CoIs M w n b more) (hm : 0 < more) {i j : Nat} (hij : i < j) : itr M i w ≠ itr M j w := by
  intro e
  have cy : ∀ k, itr M (i + (j - i) * k) w = itr M i w := fun k => itr_cyc_mul (M := M) (b := i) (p := j - i) (by rw [show i + (j - i) = j by omega]; exact e.symm) 0 k
  have hbn : b < n := by
    rcases c.fin with z | z
    · omega
    · exact z.2.1
  -- the lengths of the words that come again are bounded
  have bd : ∃ L, ∀ t, (itr M t w).length ≤ L := by
    have ex : ∀ N, ∃ L, ∀ t, t < N → (itr M t w).length ≤ L := by
      intro N
      induction N with
      | zero => exact ⟨0, fun t z => absurd z (Nat.not_lt_zero t)⟩
      | succ N ih =>
        obtain ⟨L, hL⟩ := ih
        refine ⟨L + (itr M N w).length, fun t ht => ?_⟩
        by_cases q : t = N
        · rw [q]; omega
        · have := hL t (by omega); omega
    obtain ⟨L, hL⟩ := ex j
    refine ⟨L, fun t => ?_⟩
    by_cases q : t < j
    · exact hL t q
    · have e2 := itr_cyc_mul (M := M) (w := w) (b := i) (p := j - i) (by rw [show i + (j - i) = j by omega]; exact e.symm) ((t - i) % (j - i)) ((t - i) / (j - i))
      have := Nat.mod_add_div (t - i) (j - i)
      rw [show i + (t - i) % (j - i) + (j - i) * ((t - i) / (j - i)) = t by omega] at e2
      rw [e2]
      exact hL _ (by have := Nat.mod_lt (t - i) (show 0 < j - i by omega); omega)
  obtain ⟨L, hL⟩ := bd
  have g := c.grow_mul h hm 0 (L + 1)
  have l := hL (b + 0 + (n - b) * (L + 1))
  have : L + 1 ≤ (L + 1) * more := Nat.le_mul_of_pos_right _ hm
  omega
end
end
/-- words that never get shorter: two soon look alike -/
theorem mono_stops {M E : List Nat → List Nat} (h : Mach M E) {w : List Nat} (hw : ∀ c ∈ w, c ∈ [97, 98, 99, 100, 101]) (hm : ∀ i, (itr M i w).length ≤ (itr M (i + 1) w).length) : ∃ j, j ≤ 1000 ∧ stopM M w j := by
  have mono : ∀ i j, i ≤ j → (itr M i w).length ≤ (itr M j w).length := by
    intro i j hij
    induction j with
    | zero => rw [show i = 0 by omega]; exact Nat.le_refl _
    | succ j ih =>
      by_cases q : i = j + 1
      · rw [q]; exact Nat.le_refl _
      · exact Nat.le_trans (ih (by omega)) (hm j)
  have l3 : lev3.length = 125 := by decide +kernel
  have l4 : short4.length = 781 := by decide +kernel
  by_cases hs : (itr M 781 w).length ≤ 4
  · obtain ⟨i, j, hij, hj, e⟩ := pigeon short4 (fun i => itr M i w) fun i hi => short4_mem (Nat.le_trans (mono i 781 (by omega)) hs) (itr_abc h hw i)
    rw [l4] at hj
    exact ⟨j, by omega, i, hij, .inl ⟨Nat.le_trans (mono i 781 (by omega)) hs, e⟩⟩
  · obtain ⟨i, j, hij, hj, e⟩ := pigeon lev3 (fun i => last3W (itr M (781 + i) w)) fun i hi => lev3_mem (by
      have := mono 781 (781 + i) (by omega)
      rw [List.length_drop]; omega) fun c hc => itr_abc h hw _ c (List.mem_of_mem_drop hc)
    rw [l3] at hj
    refine ⟨781 + j, by omega, 781 + i, by omega, .inr ⟨?_, fun m a b => mono _ _ a, e.symm⟩⟩
    have := mono 781 (781 + i) (by omega)
    omega
end MWL
set_option Elab.async false
set_option linter.all false
set_option maxRecDepth 100000
set_option maxHeartbeats 1000000
set_option autoImplicit false
/-! Plain: mends of mends. -/
namespace MWL
open MW
/-! ### the machine of a list -/
def endsL (ls : List Ent) : List Ent := ls.filter fun e => decide (e.k = endT)
theorem best_ends (w : Tx) : ∀ (ls : List Ent) (b : Option Ent), bestGo w b (endsL ls) = bestGo w b ls
  | [], b => rfl
  | e :: ls, b => by
    unfold endsL
    rw [List.filter_cons]
    by_cases h : e.k = endT
    · rw [if_pos (decide_eq_true h), bestGo, bestGo]
      split
      · exact best_ends w ls _
      · exact best_ends w ls _
    · rw [if_neg (by simpa using h), bestGo, if_neg (fun z => h z.1)]
      exact best_ends w ls b
theorem best_same {w w' : Tx} : ∀ (ls : List Ent) (b : Option Ent), (∀ e ∈ ls, e.k = endT → e.o.isSuffixOf w = e.o.isSuffixOf w') → bestGo w b ls = bestGo w' b ls
  | [], b, _ => rfl
  | e :: ls, b, h => by
    have ih := fun b => best_same ls b fun e he => h e (List.mem_cons_of_mem _ he)
    rw [bestGo, bestGo]
    by_cases k : e.k = endT
    · rw [h e List.mem_cons_self k, ih, ih]
    · rw [if_neg (fun z => k z.1), if_neg (fun z => k z.1), ih]
theorem act_long {ls : List Ent} (h : VL ls) {w : Tx} (hw : 5 ≤ w.length) : act ls w = bestGo w none ls := by
  rw [act_eq]
  have : ls.filter (isW w) = [] := by
    rw [List.filter_eq_nil_iff]
    intro e he z
    unfold isW at z
    simp only [Bool.and_eq_true, decide_eq_true_iff] at z
    have := (h.ok e he).o4
    rw [z.2] at this
    omega
  rw [this]
theorem act_endsL {ls : List Ent} (w : Tx) : act (endsL ls) w = bestGo w none ls := by
  rw [act_eq]
  have : (endsL ls).filter (isW w) = [] := by
    rw [List.filter_eq_nil_iff]
    intro e he z
    unfold isW at z
    simp only [Bool.and_eq_true, decide_eq_true_iff] at z
    have := (List.mem_filter.mp he).2
    rw [decide_eq_true_iff, z.1] at this
    revert this; decide
  rw [this]
  exact best_ends w ls none
theorem end3 {e : Ent} (h : VE e) (k : e.k = endT) : e.o.length ≤ 3 := by
  have := (isLet_len h.o).2.1
  rw [if_neg (by rw [k]; decide)] at this
  omega
theorem mach {ls : List Ent} (h : VL ls) : Mach (mendT ls) (mendT (endsL ls)) where
  long := fun w hw => by unfold mendT; rw [act_long h hw, act_endsL]
  app := fun u v hv => by
    unfold mendT
    have e : act (endsL ls) (u ++ v) = act (endsL ls) v := by
      rw [act_endsL, act_endsL]
      refine best_same ls none fun e he k => ?_
      have := end3 (h.ok e he) k
      rw [Bool.eq_iff_iff, List.isSuffixOf_iff_suffix, List.isSuffixOf_iff_suffix]
      exact ⟨fun h => List.suffix_of_suffix_length_le h (List.suffix_append u v) (by omega), fun h => h.trans (List.suffix_append u v)⟩
    rw [e]
    cases e1 : act (endsL ls) v with
    | none => rfl
    | some e =>
      have := suf_le e1
      show (u ++ v).take _ ++ e.n = u ++ (v.take _ ++ e.n)
      rw [List.length_append, show u.length + v.length - e.o.length = u.length + (v.length - e.o.length) by omega, List.take_length_add_append, List.append_assoc]
  ne := fun w hw => (mendT_len h).2.1 hw
  abc := fun w hw => (mendT_len h).2.2 hw
abbrev crs (ls : List Ent) (w : Tx) (n : Nat) : Tx := itr (mendT ls) n w
theorem crs_len {ls : List Ent} (h : VL ls) (w : Tx) : ∀ n, (crs ls w n).length ≤ w.length + 3 * n
  | 0 => Nat.le_refl _
  | n + 1 => by
    have := crs_len h w n
    have := (mendT_len h (w := crs ls w n)).1
    show (mendT ls (crs ls w n)).length ≤ _
    omega
/-! ### finitely many lists -/
def allE : List Ent := [wordT, endT].flatMap fun k => (everyT 4).flatMap fun o => (everyT 4).map fun n => ⟨k, o, n⟩
def allLs : Nat → List (List Ent)
  | 0 => [[]]
  | n + 1 => [] :: (allLs n).flatMap fun l => allE.map fun e => e :: l
theorem allE_mem {e : Ent} (h : VE e) : e ∈ allE := by
  have o := h.o4
  have n := h.n4
  refine List.mem_flatMap.mpr ⟨e.k, ?_, List.mem_flatMap.mpr ⟨e.o, (every_mem 4 _).mpr ⟨o.2.1, o.1, o.2.2⟩, List.mem_map.mpr ⟨e.n, (every_mem 4 _).mpr ⟨n.2.1, n.1, n.2.2⟩, rfl⟩⟩⟩
  rcases h.k with k | k <;> rw [k] <;> simp
theorem allLs_mem : ∀ (n : Nat) (ls : List Ent), ls.length ≤ n → (∀ e ∈ ls, VE e) → ls ∈ allLs n
  | 0, ls, hl, _ => by
    have : ls = [] := List.length_eq_zero_iff.mp (by omega)
    subst this; exact List.mem_singleton.mpr rfl
  | n + 1, [], _, _ => List.mem_cons_self
  | n + 1, e :: ls, hl, h => List.mem_cons_of_mem _ (List.mem_flatMap.mpr ⟨ls, allLs_mem n ls (by simpa using hl) fun e m => h e (List.mem_cons_of_mem _ m), List.mem_map.mpr ⟨e, allE_mem (h e List.mem_cons_self), rfl⟩⟩)
/-- at this pass a look back finds a word that ends alike -/
def stopsAt (ls : List Ent) (w : Tx) (j : Nat) : Prop := stopM (mendT ls) w j
theorem fuel_all : ∃ F : Nat, ∀ ls w, VL ls → isLet w 12 = true → ∃ j, j < F ∧ stopsAt ls w j := by
  obtain ⟨F, hF⟩ := enough (P := fun (p : List Ent × Tx) n => VL p.1 → ∃ j, j < n ∧ stopsAt p.1 p.2 j) (fun a n m hnm h hv => by
    obtain ⟨j, h1, h2⟩ := h hv
    exact ⟨j, by omega, h2⟩) ((allLs 6).flatMap fun ls => (everyT 12).map fun w => (ls, w)) (fun p hp => by
      obtain ⟨ls, _, hp⟩ := List.mem_flatMap.mp hp
      obtain ⟨w, hw, rfl⟩ := List.mem_map.mp hp
      by_cases hv : VL ls
      · obtain ⟨i, j, _, hij, hlow, h⟩ := ends_twice (mach hv) ((every_mem 12 w).mp hw).2.2 0
        refine ⟨j + 1, fun _ => ⟨j, Nat.lt_succ_self j, i, hij, ?_⟩⟩
        rcases h with h | ⟨h1, _, h3⟩
        · exact .inl h
        · exact .inr ⟨h1, fun m hm _ => hlow m hm, h3⟩
      · exact ⟨0, fun z => absurd z hv⟩)
  refine ⟨F, fun ls w hv hw => ?_⟩
  have wl := isLet_len hw
  exact hF (ls, w) (List.mem_flatMap.mpr ⟨ls, allLs_mem 6 ls hv.len hv.ok, List.mem_map.mpr ⟨w, (every_mem 12 w).mpr ⟨wl.1, by omega, wl.2.2⟩, rfl⟩⟩) hv
/-! ### dicts with text keys -/
section
variable {τ : Type} (f : τ → Tx) (g : τ → D)
def kdT (l : List τ) : List (DKey × D) := l.map fun p => (.inr (f p), g p)
theorem has_kd (x : Tx) : ∀ l : List τ, (getKD (kdT f g l) (.inr x)).isSome = decide (x ∈ l.map f)
  | [] => by simp [kdT, getKD]
  | p :: l => by
    have ih := has_kd x l
    unfold kdT at *
    rw [List.map_cons, getKD]
    by_cases h : f p = x
    · subst h; simp
    · have n : ¬ ((Sum.inr (f p) : DKey) = .inr x) := fun z => h (by injection z)
      have n' : ¬ x = f p := fun z => h z.symm
      rw [if_neg n, ih]
      simp [n']
theorem put_kd {x : Tx} {d : D} {l : List τ} (h : x ∉ l.map f) : putKD (kdT f g l) (.inr x) d = kdT f g l ++ [(.inr x, d)] := by
  unfold putKD
  rw [has_kd, if_neg (by simpa using h)]
theorem merge_kd : ∀ (l acc : List τ), ((acc ++ l).map f).Nodup → mergeKD (kdT f g acc) (kdT f g l) = kdT f g (acc ++ l)
  | [], acc, _ => by rw [List.append_nil]; rfl
  | p :: l, acc, h => by
    have e : mergeKD (kdT f g acc) (kdT f g (p :: l)) = mergeKD (putKD (kdT f g acc) (.inr (f p)) (g p)) (kdT f g l) := rfl
    have hn : f p ∉ acc.map f := by
      rw [List.map_append, List.nodup_append] at h
      intro m
      exact h.2.2 _ m (f p) (by simp) rfl
    rw [e, put_kd f g hn]
    have e2 : kdT f g acc ++ [(Sum.inr (f p), g p)] = kdT f g (acc ++ [p]) := by unfold kdT; rw [List.map_append]; rfl
    rw [e2, merge_kd l (acc ++ [p]) (by simpa using h)]
    simp
theorem items_kd (l : List τ) : itemsKD (kdT f g l) = l.map fun p => .tup [.str (f p), g p] := by unfold itemsKD kdT; rw [List.map_map]; rfl
theorem pairs_kd : ∀ l : List τ, pairsD (l.map fun p => .tup [.str (f p), g p]) = some (kdT f g l)
  | [] => rfl
  | p :: l => by rw [List.map_cons, pairsD, pairs_kd l]; rfl
end
theorem cut_last3 {w : Tx} (h : 3 ≤ w.length) : cutL w (some (-3)) none = w.drop (w.length - 3) := by
  unfold cutL HT.sIx
  dsimp only
  rw [if_pos (by decide), show ((-3 : Int) + (w.length : Int)).toNat = w.length - 3 by omega]
  exact List.take_of_length_le (by rw [List.length_drop]; omega)
end MWL
set_option Elab.async false
set_option linter.all false
set_option maxRecDepth 100000
set_option maxHeartbeats 1000000
set_option autoImplicit false
/-! Plain: rests.py. -/
namespace MWL
open MW
def last3 (w : Tx) : Tx := w.drop (w.length - 3)
/-- what a rest tells -/
structure RestIs (ls : List Ent) (w : Tx) (r : Option (Nat × Tx)) : Prop where
  no : r = none → ∀ n, mendT ls (crs ls w n) ≠ crs ls w n
  yes : ∀ n v, r = some (n, v) → v = crs ls w n ∧ mendT ls v = v ∧ ∀ j, j < n → mendT ls (crs ls w j) ≠ crs ls w j
def dR : Option (Nat × Tx) → D
  | none => .non
  | some (n, v) => .tup [.int (n : Nat), .str v]
abbrev tpK (tops : List (Tx × Nat)) : D := .dic (kdT (fun p : Tx × Nat => p.1) (fun p => .int (p.2 : Nat)) tops)
abbrev shK (short : List Tx) : D := .dic (kdT (fun x : Tx => x) (fun _ => .bl true) short)
structure Rin (ls : List Ent) (w : Tx) (i : Nat) (tops : List (Tx × Nat)) (short : List Tx) : Prop where
  mv : ∀ j, j < i → mendT ls (crs ls w j) ≠ crs ls w j
  ns : ∀ j, j < i → ¬ stopsAt ls w j
  tn : (tops.map fun p => p.1).Nodup
  sn : short.Nodup
  t1 : ∀ p ∈ tops, ∃ j, j < i ∧ 5 ≤ (crs ls w j).length ∧ p.2 = (crs ls w j).length ∧ p.1 = last3 (crs ls w j) ∧ ∀ m, j ≤ m → m < i → (crs ls w j).length ≤ (crs ls w m).length
  t2 : ∀ j, j < i → 5 ≤ (crs ls w j).length → (∀ m, j ≤ m → m < i → (crs ls w j).length ≤ (crs ls w m).length) → (last3 (crs ls w j), (crs ls w j).length) ∈ tops
  s1 : ∀ x ∈ short, ∃ j, j < i ∧ x = crs ls w j ∧ x.length ≤ 4
  s2 : ∀ j, j < i → (crs ls w j).length ≤ 4 → crs ls w j ∈ short
def Irest (ls : List Ent) (w : Tx) (st : Store) (i : Nat)    (env : En) (s : Store) : Prop := ∃ (tops : List (Tx × Nat)) (short : List Tx) (z5 z6 z7 : Option D), env = [some (dL ls), some (.str (crs ls w i)), some (.int (i : Nat)), some (shK short), some (tpK tops), z5, z6, z7] ∧  s = st ∧ Rin ls w i tops short
theorem nodup_len {α : Type} [DecidableEq α] : ∀ (l m : List α), l.Nodup → (∀ x ∈ l, x ∈ m) → l.length ≤ m.length
  | [], m, _, _ => Nat.zero_le _
  | x :: l, m, h, hs => by
    rw [List.nodup_cons] at h
    have hx := hs x List.mem_cons_self
    have := nodup_len l (m.erase x) h.2 fun y hy => (List.mem_erase_of_ne (a := y) (b := x) fun e => h.1 (e ▸ hy)).mpr (hs y (List.mem_cons_of_mem _ hy))
    rw [List.length_erase_of_mem hx] at this
    have := List.length_pos_of_mem hx
    rw [List.length_cons]; omega
theorem crs_abc {ls : List Ent} (h : VL ls) {w : Tx} (hw : ∀ c ∈ w, c ∈ abcde) (n : Nat) : ∀ c ∈ crs ls w n, c ∈ abcde := itr_abc (mach h) hw n
theorem crs_ne {ls : List Ent} (h : VL ls) {w : Tx} (hw : w ≠ []) : ∀ n, crs ls w n ≠ []
  | 0 => hw
  | n + 1 => (mach h).ne _ (crs_ne h hw n)
theorem Rin.tlen {ls : List Ent} {w : Tx} {i : Nat} {tops : List (Tx × Nat)} {short : List Tx} (h : VL ls) (hw : ∀ c ∈ w, c ∈ abcde) (R : Rin ls w i tops short) : tops.length ≤ 125 ∧ short.length ≤ 781 := by
  have l3 : lev3.length = 125 := by decide +kernel
  have l4 : short4.length = 781 := by decide +kernel
  constructor
  · have := nodup_len _ lev3 R.tn fun x hx => by
      obtain ⟨p, hp, rfl⟩ := List.mem_map.mp hx
      obtain ⟨j, _, h5, _, e, _⟩ := R.t1 p hp
      rw [e]
      exact lev3_mem (by unfold last3; rw [List.length_drop]; omega) fun c hc => crs_abc h hw j c (List.mem_of_mem_drop hc)
    rw [List.length_map] at this
    omega
  · have := nodup_len _ short4 R.sn fun x hx => by
      obtain ⟨j, _, e, h4⟩ := R.s1 x hx
      exact short4_mem h4 (by rw [e]; exact crs_abc h hw j)
    omega
theorem rest_of_ok {F wf k : Nat} {st : Store} {ls : List Ent} {w : Tx} (hF : ∀ ls w, VL ls → isLet w 12 = true → ∃ j, j < F ∧ stopsAt ls w j) (hwf : F < wf) (h : VL ls) (hw : isLet w 12 = true) :
    Ev (callF GD wf (k + 1 + 1 + 1) 61 [dL ls, .str w] st) fun x s => s = st ∧ ∃ r, x = .sh (dR r) ∧ RestIs ls w r := by
  obtain ⟨w1, w12, wc⟩ := isLet_len hw
  have wne : w ≠ [] := fun z => by rw [z] at w1; simp at w1
  rw [Ev_callD (d := d61) rfl rfl]
  unfold d61 b61
  simp only [wE_c, wE_v, wE_vo, wE_bin, wE_neg, wE_not, wE_cmp, wE_chain, wE_and, wE_or, wE_ite, wE_call, wE_b1, wE_b2, wE_isi, wE_m0, wE_m1, wE_idx, wE_sl, wE_ss, ss_lst, mul_str, isn_bl, notn_bl, wE_tup, wE_lst, wE_cel, wE_comp, wEs_nil, wEs_cons, wEo_no, wEo_so, wC_no, wC_so, wI_e, wI_rng, wI_enum, wI_zip, wI_map, wSs_nil, wSs_cons, wS_set, wS_seto, wS_unp, wS_par, wS_app, wS_setc, wS_drop, wS_ret, wS_reto, wS_retN, wS_pass, wS_brk, wS_cont, wS_fail, wS_ite, wS_for, wR_nil, wR_cons, seqQ_nx, seqQ_ret, seqQ_brk, seqQ_cont, outQ_nx, outQ_ret, outQ_brk, outQ_cont, d_sh, d_fr, d_vw, vw_sh, vw_fr, vw_vw, add_int, add_str, add_tup, add_lst, sub_int, mul_int, fdiv_int, mod_int, eq_str, ne_str, eq_int, ne_int, eq_bl, ne_bl, eq_sn, lt_int, le_int, gt_int, ge_int, isn_any, notn_any, in_sign, nin_sign, len_str, len_tup, len_lst, len_scr, all_map, any_map, list_tup, list_lst, list_str, tuple_lst, tuple_tup, int_int, abs_int, min_int, own_sh, own_fr, bool_sh, int_sh, ends_str, starts_str, lower_str, upper_str, sl_lst, sl_tup, sl_str, ix_lst, ix_tup, ix_scr, ix_str, ix_cell, at_zero, at_succ, set_zero, set_succ, startE_zero, startE_cons, Op_some, Op_none, bT_nm, bT_tup, bT_nil, bT_cons, pS_nil, pS_fr, pS_sh, wipe_nil, wipe_cons, it_lst, it_tup, it_str, rng_one, rng_two, zip_tup, zip_lst, fr_fr, sh_sh, lst_lst, cel_cel, in_in, List.replicate_succ, List.replicate_zero, decide_eq_true_iff, true_and, and_true, ite_true, ite_false, if_true, if_false, Bool.false_eq_true, Bool.not_eq_true', List.length_cons, List.length_nil, isi_str, isi_tup, isi_lst, isi_int, isi_non, isi_bl, eq_tup, ne_tup, eq_lst, ne_lst, lt_tup, in_lst, nin_lst, nin_tup, at_0, at_1, at_2, at_3, Bool.true_eq_false, wE_rev, wS_seti, set_lst, eq_non_str, ne_non_str, ne_str_non, eq_non, ne_non, wE_dic0, wE_dic1, wE_dicL, wE_compI, wE_lrng, wE_rep, rep_str, wE_lix, dic_dic, key_str, key_int, in_dicS, nin_dicS, ix_dicS, set_dicS, min_lst, max_lst, max_int, sl_E, ix_E0, ix_E1, ix_E2, bT_E, isN_E, isN_dO, isN_str, isN_tup, isN_lst, isN_int, isN_non, eq_dO, ne_dO, eq_self, decide_true, decide_false, Bool.not_true, Bool.not_false, not_true_eq_false, not_false_eq_true]
  refine whl_inv (Irest ls w st) ⟨[], [], _, _, _, rfl, rfl, ?_⟩ ?_ ?_
  · exact ⟨(fun j h => absurd h (Nat.not_lt_zero j)), (fun j h => absurd h (Nat.not_lt_zero j)), .nil, .nil, (fun p h => nomatch h), (fun j h => absurd h (Nat.not_lt_zero j)), (fun p h => nomatch h), (fun j h => absurd h (Nat.not_lt_zero j))⟩
  · rintro i env s ⟨tops, short, _, _, _, rfl, rfl, R⟩
    obtain ⟨j, hj, hs⟩ := hF ls w h hw
    by_cases q : j < i
    · exact absurd hs (R.ns j q)
    · show i < wf; omega
  · rintro i env s ⟨tops, short, _, _, _, rfl, rfl, R⟩
    have len := len_bound (mach h) wc (by omega) (fun v => (mendT_len h (w := v)).1) i R.ns
    obtain ⟨tl, sl⟩ := R.tlen h wc
    have abc := crs_abc h wc i
    have cne := crs_ne h wne i
    have c1 : 1 ≤ (crs ls w i).length := List.length_pos_iff.mpr cne
    have next : crs ls w (i + 1) = mendT ls (crs ls w i) := rfl
    have len : (crs ls w i).length ≤ 387 := len
    generalize hW : crs ls w i = W at *
    have wl : W.length ≤ 16777216 := by omega
    simp only [wE_c, wE_v, wE_vo, wE_bin, wE_neg, wE_not, wE_cmp, wE_chain, wE_and, wE_or, wE_ite, wE_call, wE_b1, wE_b2, wE_isi, wE_m0, wE_m1, wE_idx, wE_sl, wE_ss, ss_lst, mul_str, isn_bl, notn_bl, wE_tup, wE_lst, wE_cel, wE_comp, wEs_nil, wEs_cons, wEo_no, wEo_so, wC_no, wC_so, wI_e, wI_rng, wI_enum, wI_zip, wI_map, wSs_nil, wSs_cons, wS_set, wS_seto, wS_unp, wS_par, wS_app, wS_setc, wS_drop, wS_ret, wS_reto, wS_retN, wS_pass, wS_brk, wS_cont, wS_fail, wS_ite, wS_for, wR_nil, wR_cons, seqQ_nx, seqQ_ret, seqQ_brk, seqQ_cont, outQ_nx, outQ_ret, outQ_brk, outQ_cont, d_sh, d_fr, d_vw, vw_sh, vw_fr, vw_vw, add_int, add_str, add_tup, add_lst, sub_int, mul_int, fdiv_int, mod_int, eq_str, ne_str, eq_int, ne_int, eq_bl, ne_bl, eq_sn, lt_int, le_int, gt_int, ge_int, isn_any, notn_any, in_sign, nin_sign, len_str, len_tup, len_lst, len_scr, all_map, any_map, list_tup, list_lst, list_str, tuple_lst, tuple_tup, int_int, abs_int, min_int, own_sh, own_fr, bool_sh, int_sh, ends_str, starts_str, lower_str, upper_str, sl_lst, sl_tup, sl_str, ix_lst, ix_tup, ix_scr, ix_str, ix_cell, at_zero, at_succ, set_zero, set_succ, startE_zero, startE_cons, Op_some, Op_none, bT_nm, bT_tup, bT_nil, bT_cons, pS_nil, pS_fr, pS_sh, wipe_nil, wipe_cons, it_lst, it_tup, it_str, rng_one, rng_two, zip_tup, zip_lst, fr_fr, sh_sh, lst_lst, cel_cel, in_in, List.replicate_succ, List.replicate_zero, decide_eq_true_iff, true_and, and_true, ite_true, ite_false, if_true, if_false, Bool.false_eq_true, Bool.not_eq_true', List.length_cons, List.length_nil, isi_str, isi_tup, isi_lst, isi_int, isi_non, isi_bl, eq_tup, ne_tup, eq_lst, ne_lst, lt_tup, in_lst, nin_lst, nin_tup, at_0, at_1, at_2, at_3, Bool.true_eq_false, wE_rev, wS_seti, set_lst, eq_non_str, ne_non_str, ne_str_non, eq_non, ne_non, wE_dic0, wE_dic1, wE_dicL, wE_compI, wE_lrng, wE_rep, rep_str, wE_lix, dic_dic, key_str, key_int, in_dicS, nin_dicS, ix_dicS, set_dicS, min_lst, max_lst, max_int, sl_E, ix_E0, ix_E1, ix_E2, bT_E, isN_E, isN_dO, isN_str, isN_tup, isN_lst, isN_int, isN_non, eq_dO, ne_dO, eq_self, decide_true, decide_false, Bool.not_true, Bool.not_false, not_true_eq_false, not_false_eq_true]
    refine mended_ok h.tl h.n (by omega) ?_
    simp only [wE_c, wE_v, wE_vo, wE_bin, wE_neg, wE_not, wE_cmp, wE_chain, wE_and, wE_or, wE_ite, wE_call, wE_b1, wE_b2, wE_isi, wE_m0, wE_m1, wE_idx, wE_sl, wE_ss, ss_lst, mul_str, isn_bl, notn_bl, wE_tup, wE_lst, wE_cel, wE_comp, wEs_nil, wEs_cons, wEo_no, wEo_so, wC_no, wC_so, wI_e, wI_rng, wI_enum, wI_zip, wI_map, wSs_nil, wSs_cons, wS_set, wS_seto, wS_unp, wS_par, wS_app, wS_setc, wS_drop, wS_ret, wS_reto, wS_retN, wS_pass, wS_brk, wS_cont, wS_fail, wS_ite, wS_for, wR_nil, wR_cons, seqQ_nx, seqQ_ret, seqQ_brk, seqQ_cont, outQ_nx, outQ_ret, outQ_brk, outQ_cont, d_sh, d_fr, d_vw, vw_sh, vw_fr, vw_vw, add_int, add_str, add_tup, add_lst, sub_int, mul_int, fdiv_int, mod_int, eq_str, ne_str, eq_int, ne_int, eq_bl, ne_bl, eq_sn, lt_int, le_int, gt_int, ge_int, isn_any, notn_any, in_sign, nin_sign, len_str, len_tup, len_lst, len_scr, all_map, any_map, list_tup, list_lst, list_str, tuple_lst, tuple_tup, int_int, abs_int, min_int, own_sh, own_fr, bool_sh, int_sh, ends_str, starts_str, lower_str, upper_str, sl_lst, sl_tup, sl_str, ix_lst, ix_tup, ix_scr, ix_str, ix_cell, at_zero, at_succ, set_zero, set_succ, startE_zero, startE_cons, Op_some, Op_none, bT_nm, bT_tup, bT_nil, bT_cons, pS_nil, pS_fr, pS_sh, wipe_nil, wipe_cons, it_lst, it_tup, it_str, rng_one, rng_two, zip_tup, zip_lst, fr_fr, sh_sh, lst_lst, cel_cel, in_in, List.replicate_succ, List.replicate_zero, decide_eq_true_iff, true_and, and_true, ite_true, ite_false, if_true, if_false, Bool.false_eq_true, Bool.not_eq_true', List.length_cons, List.length_nil, isi_str, isi_tup, isi_lst, isi_int, isi_non, isi_bl, eq_tup, ne_tup, eq_lst, ne_lst, lt_tup, in_lst, nin_lst, nin_tup, at_0, at_1, at_2, at_3, Bool.true_eq_false, wE_rev, wS_seti, set_lst, eq_non_str, ne_non_str, ne_str_non, eq_non, ne_non, wE_dic0, wE_dic1, wE_dicL, wE_compI, wE_lrng, wE_rep, rep_str, wE_lix, dic_dic, key_str, key_int, in_dicS, nin_dicS, ix_dicS, set_dicS, min_lst, max_lst, max_int, sl_E, ix_E0, ix_E1, ix_E2, bT_E, isN_E, isN_dO, isN_str, isN_tup, isN_lst, isN_int, isN_non, eq_dO, ne_dO, eq_self, decide_true, decide_false, Bool.not_true, Bool.not_false, not_true_eq_false, not_false_eq_true]
    by_cases hfix : mendT ls W = W
    · rw [if_pos hfix]
      refine ⟨some (i, W), rfl, (fun z => nomatch z), fun n v e => ?_⟩
      cases e
      exact ⟨hW.symm, hfix, R.mv⟩
    · rw [if_neg hfix]
      have mv' : ∀ j, j < i + 1 → mendT ls (crs ls w j) ≠ crs ls w j := fun j hj => by
        by_cases q : j = i
        · subst q; rw [hW]; exact hfix
        · exact R.mv j (by omega)
      simp only [items_kd, wE_c, wE_v, wE_vo, wE_bin, wE_neg, wE_not, wE_cmp, wE_chain, wE_and, wE_or, wE_ite, wE_call, wE_b1, wE_b2, wE_isi, wE_m0, wE_m1, wE_idx, wE_sl, wE_ss, ss_lst, mul_str, isn_bl, notn_bl, wE_tup, wE_lst, wE_cel, wE_comp, wEs_nil, wEs_cons, wEo_no, wEo_so, wC_no, wC_so, wI_e, wI_rng, wI_enum, wI_zip, wI_map, wSs_nil, wSs_cons, wS_set, wS_seto, wS_unp, wS_par, wS_app, wS_setc, wS_drop, wS_ret, wS_reto, wS_retN, wS_pass, wS_brk, wS_cont, wS_fail, wS_ite, wS_for, wR_nil, wR_cons, seqQ_nx, seqQ_ret, seqQ_brk, seqQ_cont, outQ_nx, outQ_ret, outQ_brk, outQ_cont, d_sh, d_fr, d_vw, vw_sh, vw_fr, vw_vw, add_int, add_str, add_tup, add_lst, sub_int, mul_int, fdiv_int, mod_int, eq_str, ne_str, eq_int, ne_int, eq_bl, ne_bl, eq_sn, lt_int, le_int, gt_int, ge_int, isn_any, notn_any, in_sign, nin_sign, len_str, len_tup, len_lst, len_scr, all_map, any_map, list_tup, list_lst, list_str, tuple_lst, tuple_tup, int_int, abs_int, min_int, own_sh, own_fr, bool_sh, int_sh, ends_str, starts_str, lower_str, upper_str, sl_lst, sl_tup, sl_str, ix_lst, ix_tup, ix_scr, ix_str, ix_cell, at_zero, at_succ, set_zero, set_succ, startE_zero, startE_cons, Op_some, Op_none, bT_nm, bT_tup, bT_nil, bT_cons, pS_nil, pS_fr, pS_sh, wipe_nil, wipe_cons, it_lst, it_tup, it_str, rng_one, rng_two, zip_tup, zip_lst, fr_fr, sh_sh, lst_lst, cel_cel, in_in, List.replicate_succ, List.replicate_zero, decide_eq_true_iff, true_and, and_true, ite_true, ite_false, if_true, if_false, Bool.false_eq_true, Bool.not_eq_true', List.length_cons, List.length_nil, isi_str, isi_tup, isi_lst, isi_int, isi_non, isi_bl, eq_tup, ne_tup, eq_lst, ne_lst, lt_tup, in_lst, nin_lst, nin_tup, at_0, at_1, at_2, at_3, Bool.true_eq_false, wE_rev, wS_seti, set_lst, eq_non_str, ne_non_str, ne_str_non, eq_non, ne_non, wE_dic0, wE_dic1, wE_dicL, wE_compI, wE_lrng, wE_rep, rep_str, wE_lix, dic_dic, key_str, key_int, in_dicS, nin_dicS, ix_dicS, set_dicS, min_lst, max_lst, max_int, sl_E, ix_E0, ix_E1, ix_E2, bT_E, isN_E, isN_dO, isN_str, isN_tup, isN_lst, isN_int, isN_non, eq_dO, ne_dO, eq_self, decide_true, decide_false, Bool.not_true, Bool.not_false, not_true_eq_false, not_false_eq_true]
      rw [comp_fil (f := fun p : Tx × Nat => D.tup [.str p.1, .int (p.2 : Nat)]) (fun p : Tx × Nat => D.tup [.str p.1, .int (p.2 : Nat)]) (fun p => decide (p.2 ≤ W.length)) tops (by
        intro p hp
        simp only [wl, wE_c, wE_v, wE_vo, wE_bin, wE_neg, wE_not, wE_cmp, wE_chain, wE_and, wE_or, wE_ite, wE_call, wE_b1, wE_b2, wE_isi, wE_m0, wE_m1, wE_idx, wE_sl, wE_ss, ss_lst, mul_str, isn_bl, notn_bl, wE_tup, wE_lst, wE_cel, wE_comp, wEs_nil, wEs_cons, wEo_no, wEo_so, wC_no, wC_so, wI_e, wI_rng, wI_enum, wI_zip, wI_map, wSs_nil, wSs_cons, wS_set, wS_seto, wS_unp, wS_par, wS_app, wS_setc, wS_drop, wS_ret, wS_reto, wS_retN, wS_pass, wS_brk, wS_cont, wS_fail, wS_ite, wS_for, wR_nil, wR_cons, seqQ_nx, seqQ_ret, seqQ_brk, seqQ_cont, outQ_nx, outQ_ret, outQ_brk, outQ_cont, d_sh, d_fr, d_vw, vw_sh, vw_fr, vw_vw, add_int, add_str, add_tup, add_lst, sub_int, mul_int, fdiv_int, mod_int, eq_str, ne_str, eq_int, ne_int, eq_bl, ne_bl, eq_sn, lt_int, le_int, gt_int, ge_int, isn_any, notn_any, in_sign, nin_sign, len_str, len_tup, len_lst, len_scr, all_map, any_map, list_tup, list_lst, list_str, tuple_lst, tuple_tup, int_int, abs_int, min_int, own_sh, own_fr, bool_sh, int_sh, ends_str, starts_str, lower_str, upper_str, sl_lst, sl_tup, sl_str, ix_lst, ix_tup, ix_scr, ix_str, ix_cell, at_zero, at_succ, set_zero, set_succ, startE_zero, startE_cons, Op_some, Op_none, bT_nm, bT_tup, bT_nil, bT_cons, pS_nil, pS_fr, pS_sh, wipe_nil, wipe_cons, it_lst, it_tup, it_str, rng_one, rng_two, zip_tup, zip_lst, fr_fr, sh_sh, lst_lst, cel_cel, in_in, List.replicate_succ, List.replicate_zero, decide_eq_true_iff, true_and, and_true, ite_true, ite_false, if_true, if_false, Bool.false_eq_true, Bool.not_eq_true', List.length_cons, List.length_nil, isi_str, isi_tup, isi_lst, isi_int, isi_non, isi_bl, eq_tup, ne_tup, eq_lst, ne_lst, lt_tup, in_lst, nin_lst, nin_tup, at_0, at_1, at_2, at_3, Bool.true_eq_false, wE_rev, wS_seti, set_lst, eq_non_str, ne_non_str, ne_str_non, eq_non, ne_non, wE_dic0, wE_dic1, wE_dicL, wE_compI, wE_lrng, wE_rep, rep_str, wE_lix, dic_dic, key_str, key_int, in_dicS, nin_dicS, ix_dicS, set_dicS, min_lst, max_lst, max_int, sl_E, ix_E0, ix_E1, ix_E2, bT_E, isN_E, isN_dO, isN_str, isN_tup, isN_lst, isN_int, isN_non, eq_dO, ne_dO, eq_self, decide_true, decide_false, Bool.not_true, Bool.not_false, not_true_eq_false, not_false_eq_true]
        refine ⟨?_, fun _ => trivial⟩
        rw [decide_eq_decide]; omega)]
      generalize hT : tops.filter (fun p => decide (p.2 ≤ W.length)) = tops'
      have tl' : tops'.length ≤ 125 := by rw [← hT]; exact Nat.le_trans (List.length_filter_le _ _) tl
      have tn' : (tops'.map fun p => p.1).Nodup := by
        rw [← hT]; exact R.tn.sublist (List.filter_sublist.map _)
      have mg := merge_kd (fun p : Tx × Nat => p.1) (fun p => D.int (p.2 : Nat)) tops' [] (by simpa using tn')
      have mg : mergeKD [] (kdT (fun p : Tx × Nat => p.1) (fun p => D.int (p.2 : Nat)) tops') = kdT (fun p : Tx × Nat => p.1) (fun p => D.int (p.2 : Nat)) tops' := mg
      simp only [List.length_map, pairs_kd, mg, wl, wE_c, wE_v, wE_vo, wE_bin, wE_neg, wE_not, wE_cmp, wE_chain, wE_and, wE_or, wE_ite, wE_call, wE_b1, wE_b2, wE_isi, wE_m0, wE_m1, wE_idx, wE_sl, wE_ss, ss_lst, mul_str, isn_bl, notn_bl, wE_tup, wE_lst, wE_cel, wE_comp, wEs_nil, wEs_cons, wEo_no, wEo_so, wC_no, wC_so, wI_e, wI_rng, wI_enum, wI_zip, wI_map, wSs_nil, wSs_cons, wS_set, wS_seto, wS_unp, wS_par, wS_app, wS_setc, wS_drop, wS_ret, wS_reto, wS_retN, wS_pass, wS_brk, wS_cont, wS_fail, wS_ite, wS_for, wR_nil, wR_cons, seqQ_nx, seqQ_ret, seqQ_brk, seqQ_cont, outQ_nx, outQ_ret, outQ_brk, outQ_cont, d_sh, d_fr, d_vw, vw_sh, vw_fr, vw_vw, add_int, add_str, add_tup, add_lst, sub_int, mul_int, fdiv_int, mod_int, eq_str, ne_str, eq_int, ne_int, eq_bl, ne_bl, eq_sn, lt_int, le_int, gt_int, ge_int, isn_any, notn_any, in_sign, nin_sign, len_str, len_tup, len_lst, len_scr, all_map, any_map, list_tup, list_lst, list_str, tuple_lst, tuple_tup, int_int, abs_int, min_int, own_sh, own_fr, bool_sh, int_sh, ends_str, starts_str, lower_str, upper_str, sl_lst, sl_tup, sl_str, ix_lst, ix_tup, ix_scr, ix_str, ix_cell, at_zero, at_succ, set_zero, set_succ, startE_zero, startE_cons, Op_some, Op_none, bT_nm, bT_tup, bT_nil, bT_cons, pS_nil, pS_fr, pS_sh, wipe_nil, wipe_cons, it_lst, it_tup, it_str, rng_one, rng_two, zip_tup, zip_lst, fr_fr, sh_sh, lst_lst, cel_cel, in_in, List.replicate_succ, List.replicate_zero, decide_eq_true_iff, true_and, and_true, ite_true, ite_false, if_true, if_false, Bool.false_eq_true, Bool.not_eq_true', List.length_cons, List.length_nil, isi_str, isi_tup, isi_lst, isi_int, isi_non, isi_bl, eq_tup, ne_tup, eq_lst, ne_lst, lt_tup, in_lst, nin_lst, nin_tup, at_0, at_1, at_2, at_3, Bool.true_eq_false, wE_rev, wS_seti, set_lst, eq_non_str, ne_non_str, ne_str_non, eq_non, ne_non, wE_dic0, wE_dic1, wE_dicL, wE_compI, wE_lrng, wE_rep, rep_str, wE_lix, dic_dic, key_str, key_int, in_dicS, nin_dicS, ix_dicS, set_dicS, min_lst, max_lst, max_int, sl_E, ix_E0, ix_E1, ix_E2, bT_E, isN_E, isN_dO, isN_str, isN_tup, isN_lst, isN_int, isN_non, eq_dO, ne_dO, eq_self, decide_true, decide_false, Bool.not_true, Bool.not_false, not_true_eq_false, not_false_eq_true]
      refine ⟨by omega, ?_⟩
      by_cases h5 : (4 : Int) < (W.length : Int)
      · rw [if_pos h5]
        have h5' : 5 ≤ W.length := by omega
        simp only [cut_last3 (show 3 ≤ W.length by omega), wl, has_kd, wE_c, wE_v, wE_vo, wE_bin, wE_neg, wE_not, wE_cmp, wE_chain, wE_and, wE_or, wE_ite, wE_call, wE_b1, wE_b2, wE_isi, wE_m0, wE_m1, wE_idx, wE_sl, wE_ss, ss_lst, mul_str, isn_bl, notn_bl, wE_tup, wE_lst, wE_cel, wE_comp, wEs_nil, wEs_cons, wEo_no, wEo_so, wC_no, wC_so, wI_e, wI_rng, wI_enum, wI_zip, wI_map, wSs_nil, wSs_cons, wS_set, wS_seto, wS_unp, wS_par, wS_app, wS_setc, wS_drop, wS_ret, wS_reto, wS_retN, wS_pass, wS_brk, wS_cont, wS_fail, wS_ite, wS_for, wR_nil, wR_cons, seqQ_nx, seqQ_ret, seqQ_brk, seqQ_cont, outQ_nx, outQ_ret, outQ_brk, outQ_cont, d_sh, d_fr, d_vw, vw_sh, vw_fr, vw_vw, add_int, add_str, add_tup, add_lst, sub_int, mul_int, fdiv_int, mod_int, eq_str, ne_str, eq_int, ne_int, eq_bl, ne_bl, eq_sn, lt_int, le_int, gt_int, ge_int, isn_any, notn_any, in_sign, nin_sign, len_str, len_tup, len_lst, len_scr, all_map, any_map, list_tup, list_lst, list_str, tuple_lst, tuple_tup, int_int, abs_int, min_int, own_sh, own_fr, bool_sh, int_sh, ends_str, starts_str, lower_str, upper_str, sl_lst, sl_tup, sl_str, ix_lst, ix_tup, ix_scr, ix_str, ix_cell, at_zero, at_succ, set_zero, set_succ, startE_zero, startE_cons, Op_some, Op_none, bT_nm, bT_tup, bT_nil, bT_cons, pS_nil, pS_fr, pS_sh, wipe_nil, wipe_cons, it_lst, it_tup, it_str, rng_one, rng_two, zip_tup, zip_lst, fr_fr, sh_sh, lst_lst, cel_cel, in_in, List.replicate_succ, List.replicate_zero, decide_eq_true_iff, true_and, and_true, ite_true, ite_false, if_true, if_false, Bool.false_eq_true, Bool.not_eq_true', List.length_cons, List.length_nil, isi_str, isi_tup, isi_lst, isi_int, isi_non, isi_bl, eq_tup, ne_tup, eq_lst, ne_lst, lt_tup, in_lst, nin_lst, nin_tup, at_0, at_1, at_2, at_3, Bool.true_eq_false, wE_rev, wS_seti, set_lst, eq_non_str, ne_non_str, ne_str_non, eq_non, ne_non, wE_dic0, wE_dic1, wE_dicL, wE_compI, wE_lrng, wE_rep, rep_str, wE_lix, dic_dic, key_str, key_int, in_dicS, nin_dicS, ix_dicS, set_dicS, min_lst, max_lst, max_int, sl_E, ix_E0, ix_E1, ix_E2, bT_E, isN_E, isN_dO, isN_str, isN_tup, isN_lst, isN_int, isN_non, eq_dO, ne_dO, eq_self, decide_true, decide_false, Bool.not_true, Bool.not_false, not_true_eq_false, not_false_eq_true]
        by_cases hin : W.drop (W.length - 3) ∈ tops'.map fun p => p.1
        · rw [if_pos hin]
          refine ⟨none, rfl, fun _ => ?_, (fun n v e => nomatch e)⟩
          obtain ⟨p, hp, ep⟩ := List.mem_map.mp hin
          rw [← hT] at hp
          obtain ⟨hp, hle⟩ := List.mem_filter.mp hp
          rw [decide_eq_true_iff] at hle
          obtain ⟨j, hj, j5, e2, e1, hm⟩ := R.t1 p hp
          have al := again_moves (mach h) (w := crs ls w j) (p := i - j) (by omega) j5 (fun k hk => by
            show (crs ls w j).length ≤ (itr (mendT ls) k (itr (mendT ls) j w)).length
            rw [← itr_add]
            by_cases q : j + k = i
            · rw [q, show itr (mendT ls) i w = W from hW]; omega
            · exact hm (j + k) (by omega) (by omega)) (by
            rw [show itr (mendT ls) (i - j) (crs ls w j) = W from by
              show itr (mendT ls) (i - j) (itr (mendT ls) j w) = W
              rw [← itr_add, show j + (i - j) = i by omega]; exact hW]
            rw [← ep, e1]; rfl) (fun k hk => by
            show mendT ls (itr (mendT ls) k (itr (mendT ls) j w)) ≠ itr (mendT ls) k (itr (mendT ls) j w)
            rw [← itr_add]
            exact R.mv (j + k) (by omega))
          intro n
          by_cases q : n < j
          · exact R.mv n (by omega)
          · have := al (n - j)
            rw [show itr (mendT ls) (n - j) (crs ls w j) = crs ls w n from by
              show itr (mendT ls) (n - j) (itr (mendT ls) j w) = _
              rw [← itr_add, show j + (n - j) = n by omega]] at this
            exact this
        · rw [if_neg hin]
          rw [put_kd _ _ hin]
          have kl : (kdT (fun p : Tx × Nat => p.1) (fun p => D.int (p.2 : Nat)) tops').length < 16777216 := by unfold kdT; rw [List.length_map]; omega
          refine ⟨kl, ?_⟩
          have e1 : kdT (fun p : Tx × Nat => p.1) (fun p => D.int (p.2 : Nat)) tops' ++ [(Sum.inr (W.drop (W.length - 3)), D.int (W.length : Nat))] = kdT (fun p : Tx × Nat => p.1) (fun p => D.int (p.2 : Nat)) (tops' ++ [(last3 W, W.length)]) := by unfold kdT; rw [List.map_append]; rfl
          rw [e1, ← next]
          refine ⟨tops' ++ [(last3 W, W.length)], short, _, _, _, rfl, rfl, ?_⟩
          · refine ⟨mv', fun j hj z => ?_, ?_, R.sn, fun p hp => ?_, fun j hj j5 hm => ?_, fun x hx => ?_, fun j hj j4 => ?_⟩
            · by_cases q : j = i
              · subst q
                obtain ⟨m, hm, z⟩ := z
                rcases z with ⟨z1, z2⟩ | ⟨z1, z2, z3⟩
                · rw [show itr (mendT ls) j w = W from hW] at z2
                  rw [z2] at z1; omega
                · rw [show itr (mendT ls) j w = W from hW] at z3
                  have z4 := z2 j (by omega) (Nat.le_refl _)
                  rw [show itr (mendT ls) j w = W from hW] at z4
                  have := R.t2 m hm z1 fun m' a b => z2 m' a (by omega)
                  refine hin (List.mem_map.mpr ⟨_, by rw [← hT]; exact List.mem_filter.mpr ⟨this, decide_eq_true z4⟩, z3.symm⟩)
              · exact R.ns j (by omega) z
            · rw [List.map_append]
              refine List.nodup_append.mpr ⟨tn', by simp, fun a ha b hb e => ?_⟩
              rw [List.map_singleton, List.mem_singleton] at hb
              rw [e, hb] at ha
              exact hin ha
            · rcases List.mem_append.mp hp with hp | hp
              · rw [← hT] at hp
                obtain ⟨hp, hle⟩ := List.mem_filter.mp hp
                rw [decide_eq_true_iff] at hle
                obtain ⟨j, hj, j5, e2, e1, hm⟩ := R.t1 p hp
                refine ⟨j, by omega, j5, e2, e1, fun m a b => ?_⟩
                by_cases q : m = i
                · subst q; rw [hW]; omega
                · exact hm m a (by omega)
              · rw [List.mem_singleton.mp hp]
                refine ⟨i, Nat.lt_succ_self i, by rw [hW]; exact h5', by rw [hW], by rw [hW], fun m a b => ?_⟩
                rw [show m = i by omega]; exact Nat.le_refl _
            · by_cases q : j = i
              · subst q; rw [hW]; exact List.mem_append_right _ (List.mem_singleton.mpr rfl)
              · have t := R.t2 j (by omega) j5 fun m a b => hm m a (by omega)
                have le := hm i (by omega) (Nat.lt_succ_self i)
                rw [hW] at le
                exact List.mem_append_left _ (by rw [← hT]; exact List.mem_filter.mpr ⟨t, decide_eq_true le⟩)
            · obtain ⟨j, hj, e⟩ := R.s1 x hx
              exact ⟨j, by omega, e⟩
            · by_cases q : j = i
              · subst q; rw [hW] at j4; omega
              · exact R.s2 j (by omega) j4
      · rw [if_neg h5]
        have h4' : W.length ≤ 4 := by omega
        simp only [has_kd, wE_c, wE_v, wE_vo, wE_bin, wE_neg, wE_not, wE_cmp, wE_chain, wE_and, wE_or, wE_ite, wE_call, wE_b1, wE_b2, wE_isi, wE_m0, wE_m1, wE_idx, wE_sl, wE_ss, ss_lst, mul_str, isn_bl, notn_bl, wE_tup, wE_lst, wE_cel, wE_comp, wEs_nil, wEs_cons, wEo_no, wEo_so, wC_no, wC_so, wI_e, wI_rng, wI_enum, wI_zip, wI_map, wSs_nil, wSs_cons, wS_set, wS_seto, wS_unp, wS_par, wS_app, wS_setc, wS_drop, wS_ret, wS_reto, wS_retN, wS_pass, wS_brk, wS_cont, wS_fail, wS_ite, wS_for, wR_nil, wR_cons, seqQ_nx, seqQ_ret, seqQ_brk, seqQ_cont, outQ_nx, outQ_ret, outQ_brk, outQ_cont, d_sh, d_fr, d_vw, vw_sh, vw_fr, vw_vw, add_int, add_str, add_tup, add_lst, sub_int, mul_int, fdiv_int, mod_int, eq_str, ne_str, eq_int, ne_int, eq_bl, ne_bl, eq_sn, lt_int, le_int, gt_int, ge_int, isn_any, notn_any, in_sign, nin_sign, len_str, len_tup, len_lst, len_scr, all_map, any_map, list_tup, list_lst, list_str, tuple_lst, tuple_tup, int_int, abs_int, min_int, own_sh, own_fr, bool_sh, int_sh, ends_str, starts_str, lower_str, upper_str, sl_lst, sl_tup, sl_str, ix_lst, ix_tup, ix_scr, ix_str, ix_cell, at_zero, at_succ, set_zero, set_succ, startE_zero, startE_cons, Op_some, Op_none, bT_nm, bT_tup, bT_nil, bT_cons, pS_nil, pS_fr, pS_sh, wipe_nil, wipe_cons, it_lst, it_tup, it_str, rng_one, rng_two, zip_tup, zip_lst, fr_fr, sh_sh, lst_lst, cel_cel, in_in, List.replicate_succ, List.replicate_zero, decide_eq_true_iff, true_and, and_true, ite_true, ite_false, if_true, if_false, Bool.false_eq_true, Bool.not_eq_true', List.length_cons, List.length_nil, isi_str, isi_tup, isi_lst, isi_int, isi_non, isi_bl, eq_tup, ne_tup, eq_lst, ne_lst, lt_tup, in_lst, nin_lst, nin_tup, at_0, at_1, at_2, at_3, Bool.true_eq_false, wE_rev, wS_seti, set_lst, eq_non_str, ne_non_str, ne_str_non, eq_non, ne_non, wE_dic0, wE_dic1, wE_dicL, wE_compI, wE_lrng, wE_rep, rep_str, wE_lix, dic_dic, key_str, key_int, in_dicS, nin_dicS, ix_dicS, set_dicS, min_lst, max_lst, max_int, sl_E, ix_E0, ix_E1, ix_E2, bT_E, isN_E, isN_dO, isN_str, isN_tup, isN_lst, isN_int, isN_non, eq_dO, ne_dO, eq_self, decide_true, decide_false, Bool.not_true, Bool.not_false, not_true_eq_false, not_false_eq_true]
        have ms : (short.map fun x => x) = short := List.map_id' short
        by_cases hin : W ∈ short.map fun x => x
        · rw [if_pos hin]
          rw [ms] at hin
          refine ⟨none, rfl, fun _ => ?_, (fun n v e => nomatch e)⟩
          obtain ⟨j, hj, e, _⟩ := R.s1 W hin
          have al := cyc_moves (M := mendT ls) (w := crs ls w j) (p := i - j) (by omega) (by
            show itr (mendT ls) (i - j) (itr (mendT ls) j w) = _
            rw [← itr_add, show j + (i - j) = i by omega]
            exact hW.trans e) (fun k hk => by
            show mendT ls (itr (mendT ls) k (itr (mendT ls) j w)) ≠ itr (mendT ls) k (itr (mendT ls) j w)
            rw [← itr_add]
            exact R.mv (j + k) (by omega))
          intro n
          by_cases q : n < j
          · exact R.mv n (by omega)
          · have := al (n - j)
            rw [show itr (mendT ls) (n - j) (crs ls w j) = crs ls w n from by
              show itr (mendT ls) (n - j) (itr (mendT ls) j w) = _
              rw [← itr_add, show j + (n - j) = n by omega]] at this
            exact this
        · rw [if_neg hin]
          rw [put_kd _ _ hin]
          rw [ms] at hin
          have kl : (kdT (fun x : Tx => x) (fun _ => D.bl true) short).length < 16777216 := by unfold kdT; rw [List.length_map]; omega
          refine ⟨kl, ?_⟩
          have e1 : kdT (fun x : Tx => x) (fun _ => D.bl true) short ++ [(Sum.inr W, D.bl true)] = kdT (fun x : Tx => x) (fun _ => D.bl true) (short ++ [W]) := by unfold kdT; rw [List.map_append]; rfl
          rw [e1, ← next]
          refine ⟨tops', short ++ [W], _, _, _, rfl, rfl, ?_⟩
          · refine ⟨mv', fun j hj z => ?_, tn', ?_, fun p hp => ?_, fun j hj j5 hm => ?_, fun x hx => ?_, fun j hj j4 => ?_⟩
            · by_cases q : j = i
              · subst q
                obtain ⟨m, hm, z⟩ := z
                rcases z with ⟨z1, z2⟩ | ⟨z1, z2, z3⟩
                · rw [show itr (mendT ls) j w = W from hW] at z2
                  have := R.s2 m hm z1
                  rw [show crs ls w m = W from z2] at this
                  exact hin this
                · have z4 := z2 j (by omega) (Nat.le_refl _)
                  rw [show itr (mendT ls) j w = W from hW] at z4
                  omega
              · exact R.ns j (by omega) z
            · refine List.nodup_append.mpr ⟨R.sn, by simp, fun a ha b hb e => ?_⟩
              rw [List.mem_singleton] at hb
              rw [e, hb] at ha
              exact hin ha
            · rw [← hT] at hp
              obtain ⟨hp, hle⟩ := List.mem_filter.mp hp
              rw [decide_eq_true_iff] at hle
              obtain ⟨j, hj, j5, e2, e1, hm⟩ := R.t1 p hp
              omega
            · by_cases q : j = i
              · subst q; rw [hW] at j5; omega
              · have le := hm i (by omega) (Nat.lt_succ_self i)
                rw [hW] at le; omega
            · rcases List.mem_append.mp hx with hx | hx
              · obtain ⟨j, hj, e⟩ := R.s1 x hx
                exact ⟨j, by omega, e⟩
              · rw [List.mem_singleton.mp hx]
                exact ⟨i, Nat.lt_succ_self i, hW.symm, h4'⟩
            · by_cases q : j = i
              · subst q; rw [hW]; exact List.mem_append_right _ (List.mem_singleton.mpr rfl)
              · exact List.mem_append_left _ (R.s2 j (by omega) j4)
end MWL
set_option Elab.async false
set_option linter.all false
set_option maxRecDepth 100000
set_option maxHeartbeats 1000000
set_option autoImplicit false
/-! Plain: courses, rests, by their functions. -/
namespace MWL
open MW
theorem RestIs.is_some {ls : List Ent} {w : Tx} {r : Option (Nat × Tx)} (R : RestIs ls w r) {n : Nat} (h : mendT ls (crs ls w n) = crs ls w n) (hm : ∀ j, j < n → mendT ls (crs ls w j) ≠ crs ls w j) : r = some (n, crs ls w n) := by
  cases r with
  | none => exact absurd h (R.no rfl n)
  | some p =>
    obtain ⟨m, v⟩ := p
    obtain ⟨h1, h2, h3⟩ := R.yes m v rfl
    subst h1
    rcases Nat.lt_trichotomy m n with q | q | q
    · exact absurd h2 (hm m q)
    · subst q; rfl
    · exact absurd h (h3 n q)
theorem RestIs.is_none {ls : List Ent} {w : Tx} {r : Option (Nat × Tx)} (R : RestIs ls w r) (h : ∀ n, mendT ls (crs ls w n) ≠ crs ls w n) : r = none := by
  cases r with
  | none => rfl
  | some p =>
    obtain ⟨m, v⟩ := p
    obtain ⟨h1, h2, h3⟩ := R.yes m v rfl
    subst h1
    exact absurd h2 (h m)
theorem rest_ok {F wf k : Nat} {st : Store} {ls : List Ent} {w : Tx} (hF : ∀ ls w, VL ls → isLet w 12 = true → ∃ j, j < F ∧ stopsAt ls w j) (hwf : F < wf) (h : VL ls) (hw : isLet w 12 = true) :
    Ev (callF GD wf (k + 1 + 1 + 1 + 1 + 1) 62 [dL ls, .str w] st) fun x s => s = st ∧ ∃ r, x = .sh (dR r) ∧ RestIs ls w r := by
  rw [Ev_callD (d := d62) rfl rfl]
  unfold d62 b62
  simp only [need_list_ok h, need_word_ok hw, wE_c, wE_v, wE_vo, wE_bin, wE_neg, wE_not, wE_cmp, wE_chain, wE_and, wE_or, wE_ite, wE_call, wE_b1, wE_b2, wE_isi, wE_m0, wE_m1, wE_idx, wE_sl, wE_ss, ss_lst, mul_str, isn_bl, notn_bl, wE_tup, wE_lst, wE_cel, wE_comp, wEs_nil, wEs_cons, wEo_no, wEo_so, wC_no, wC_so, wI_e, wI_rng, wI_enum, wI_zip, wI_map, wSs_nil, wSs_cons, wS_set, wS_seto, wS_unp, wS_par, wS_app, wS_setc, wS_drop, wS_ret, wS_reto, wS_retN, wS_pass, wS_brk, wS_cont, wS_fail, wS_ite, wS_for, wR_nil, wR_cons, seqQ_nx, seqQ_ret, seqQ_brk, seqQ_cont, outQ_nx, outQ_ret, outQ_brk, outQ_cont, d_sh, d_fr, d_vw, vw_sh, vw_fr, vw_vw, add_int, add_str, add_tup, add_lst, sub_int, mul_int, fdiv_int, mod_int, eq_str, ne_str, eq_int, ne_int, eq_bl, ne_bl, eq_sn, lt_int, le_int, gt_int, ge_int, isn_any, notn_any, in_sign, nin_sign, len_str, len_tup, len_lst, len_scr, all_map, any_map, list_tup, list_lst, list_str, tuple_lst, tuple_tup, int_int, abs_int, min_int, own_sh, own_fr, bool_sh, int_sh, ends_str, starts_str, lower_str, upper_str, sl_lst, sl_tup, sl_str, ix_lst, ix_tup, ix_scr, ix_str, ix_cell, at_zero, at_succ, set_zero, set_succ, startE_zero, startE_cons, Op_some, Op_none, bT_nm, bT_tup, bT_nil, bT_cons, pS_nil, pS_fr, pS_sh, wipe_nil, wipe_cons, it_lst, it_tup, it_str, rng_one, rng_two, zip_tup, zip_lst, fr_fr, sh_sh, lst_lst, cel_cel, in_in, List.replicate_succ, List.replicate_zero, decide_eq_true_iff, true_and, and_true, ite_true, ite_false, if_true, if_false, Bool.false_eq_true, Bool.not_eq_true', List.length_cons, List.length_nil, isi_str, isi_tup, isi_lst, isi_int, isi_non, isi_bl, eq_tup, ne_tup, eq_lst, ne_lst, lt_tup, in_lst, nin_lst, nin_tup, at_0, at_1, at_2, at_3, Bool.true_eq_false, wE_rev, wS_seti, set_lst, eq_non_str, ne_non_str, ne_str_non, eq_non, ne_non, wE_dic0, wE_dic1, wE_dicL, wE_compI, wE_lrng, wE_rep, rep_str, wE_lix, dic_dic, key_str, key_int, in_dicS, nin_dicS, ix_dicS, set_dicS, min_lst, max_lst, max_int, sl_E, ix_E0, ix_E1, ix_E2, bT_E, isN_E, isN_dO, isN_str, isN_tup, isN_lst, isN_int, isN_non, eq_dO, ne_dO, eq_self, decide_true, decide_false, Bool.not_true, Bool.not_false, not_true_eq_false, not_false_eq_true]
  refine (rest_of_ok hF hwf h hw).mono ?_
  rintro x s ⟨rfl, r, rfl, R⟩
  simp only [wE_c, wE_v, wE_vo, wE_bin, wE_neg, wE_not, wE_cmp, wE_chain, wE_and, wE_or, wE_ite, wE_call, wE_b1, wE_b2, wE_isi, wE_m0, wE_m1, wE_idx, wE_sl, wE_ss, ss_lst, mul_str, isn_bl, notn_bl, wE_tup, wE_lst, wE_cel, wE_comp, wEs_nil, wEs_cons, wEo_no, wEo_so, wC_no, wC_so, wI_e, wI_rng, wI_enum, wI_zip, wI_map, wSs_nil, wSs_cons, wS_set, wS_seto, wS_unp, wS_par, wS_app, wS_setc, wS_drop, wS_ret, wS_reto, wS_retN, wS_pass, wS_brk, wS_cont, wS_fail, wS_ite, wS_for, wR_nil, wR_cons, seqQ_nx, seqQ_ret, seqQ_brk, seqQ_cont, outQ_nx, outQ_ret, outQ_brk, outQ_cont, d_sh, d_fr, d_vw, vw_sh, vw_fr, vw_vw, add_int, add_str, add_tup, add_lst, sub_int, mul_int, fdiv_int, mod_int, eq_str, ne_str, eq_int, ne_int, eq_bl, ne_bl, eq_sn, lt_int, le_int, gt_int, ge_int, isn_any, notn_any, in_sign, nin_sign, len_str, len_tup, len_lst, len_scr, all_map, any_map, list_tup, list_lst, list_str, tuple_lst, tuple_tup, int_int, abs_int, min_int, own_sh, own_fr, bool_sh, int_sh, ends_str, starts_str, lower_str, upper_str, sl_lst, sl_tup, sl_str, ix_lst, ix_tup, ix_scr, ix_str, ix_cell, at_zero, at_succ, set_zero, set_succ, startE_zero, startE_cons, Op_some, Op_none, bT_nm, bT_tup, bT_nil, bT_cons, pS_nil, pS_fr, pS_sh, wipe_nil, wipe_cons, it_lst, it_tup, it_str, rng_one, rng_two, zip_tup, zip_lst, fr_fr, sh_sh, lst_lst, cel_cel, in_in, List.replicate_succ, List.replicate_zero, decide_eq_true_iff, true_and, and_true, ite_true, ite_false, if_true, if_false, Bool.false_eq_true, Bool.not_eq_true', List.length_cons, List.length_nil, isi_str, isi_tup, isi_lst, isi_int, isi_non, isi_bl, eq_tup, ne_tup, eq_lst, ne_lst, lt_tup, in_lst, nin_lst, nin_tup, at_0, at_1, at_2, at_3, Bool.true_eq_false, wE_rev, wS_seti, set_lst, eq_non_str, ne_non_str, ne_str_non, eq_non, ne_non, wE_dic0, wE_dic1, wE_dicL, wE_compI, wE_lrng, wE_rep, rep_str, wE_lix, dic_dic, key_str, key_int, in_dicS, nin_dicS, ix_dicS, set_dicS, min_lst, max_lst, max_int, sl_E, ix_E0, ix_E1, ix_E2, bT_E, isN_E, isN_dO, isN_str, isN_tup, isN_lst, isN_int, isN_non, eq_dO, ne_dO, eq_self, decide_true, decide_false, Bool.not_true, Bool.not_false, not_true_eq_false, not_false_eq_true]
  exact ⟨r, rfl, R⟩
theorem between_ok {wf k : Nat} {st : Store} {v lo hi : Int} {Q : Rs → Store → Prop} : Ev (callF GD wf (k + 1) 52 [.int v, .int lo, .int hi] st) Q ↔ Q (.sh (.bl (decide (lo ≤ v) && decide (v ≤ hi)))) st := by
  rw [Ev_callD (d := d52) rfl rfl]
  unfold d52 b52
  simp only [wE_c, wE_v, wE_vo, wE_bin, wE_neg, wE_not, wE_cmp, wE_chain, wE_and, wE_or, wE_ite, wE_call, wE_b1, wE_b2, wE_isi, wE_m0, wE_m1, wE_idx, wE_sl, wE_ss, ss_lst, mul_str, isn_bl, notn_bl, wE_tup, wE_lst, wE_cel, wE_comp, wEs_nil, wEs_cons, wEo_no, wEo_so, wC_no, wC_so, wI_e, wI_rng, wI_enum, wI_zip, wI_map, wSs_nil, wSs_cons, wS_set, wS_seto, wS_unp, wS_par, wS_app, wS_setc, wS_drop, wS_ret, wS_reto, wS_retN, wS_pass, wS_brk, wS_cont, wS_fail, wS_ite, wS_for, wR_nil, wR_cons, seqQ_nx, seqQ_ret, seqQ_brk, seqQ_cont, outQ_nx, outQ_ret, outQ_brk, outQ_cont, d_sh, d_fr, d_vw, vw_sh, vw_fr, vw_vw, add_int, add_str, add_tup, add_lst, sub_int, mul_int, fdiv_int, mod_int, eq_str, ne_str, eq_int, ne_int, eq_bl, ne_bl, eq_sn, lt_int, le_int, gt_int, ge_int, isn_any, notn_any, in_sign, nin_sign, len_str, len_tup, len_lst, len_scr, all_map, any_map, list_tup, list_lst, list_str, tuple_lst, tuple_tup, int_int, abs_int, min_int, own_sh, own_fr, bool_sh, int_sh, ends_str, starts_str, lower_str, upper_str, sl_lst, sl_tup, sl_str, ix_lst, ix_tup, ix_scr, ix_str, ix_cell, at_zero, at_succ, set_zero, set_succ, startE_zero, startE_cons, Op_some, Op_none, bT_nm, bT_tup, bT_nil, bT_cons, pS_nil, pS_fr, pS_sh, wipe_nil, wipe_cons, it_lst, it_tup, it_str, rng_one, rng_two, zip_tup, zip_lst, fr_fr, sh_sh, lst_lst, cel_cel, in_in, List.replicate_succ, List.replicate_zero, decide_eq_true_iff, true_and, and_true, ite_true, ite_false, if_true, if_false, Bool.false_eq_true, Bool.not_eq_true', List.length_cons, List.length_nil, isi_str, isi_tup, isi_lst, isi_int, isi_non, isi_bl, eq_tup, ne_tup, eq_lst, ne_lst, lt_tup, in_lst, nin_lst, nin_tup, at_0, at_1, at_2, at_3, Bool.true_eq_false, wE_rev, wS_seti, set_lst, eq_non_str, ne_non_str, ne_str_non, eq_non, ne_non, wE_dic0, wE_dic1, wE_dicL, wE_compI, wE_lrng, wE_rep, rep_str, wE_lix, dic_dic, key_str, key_int, in_dicS, nin_dicS, ix_dicS, set_dicS, min_lst, max_lst, max_int, sl_E, ix_E0, ix_E1, ix_E2, bT_E, isN_E, isN_dO, isN_str, isN_tup, isN_lst, isN_int, isN_non, eq_dO, ne_dO, eq_self, decide_true, decide_false, Bool.not_true, Bool.not_false, not_true_eq_false, not_false_eq_true]
  by_cases h : lo ≤ v <;> simp [h]
theorem at_last {xs : List D} {x : D} {R : D → Prop} : Op (L2.atI (xs ++ [x]) (-1)) R ↔ R x := by
  unfold L2.atI L2.ixN
  rw [if_neg (by decide), List.length_append]
  have h : ((xs.length + [x].length : Nat) : Int) + -1 = (xs.length : Int) := by simp; omega
  simp only [List.length_singleton]
  rw [if_pos (by omega), show (-1 + ((xs.length + 1 : Nat) : Int)).toNat = xs.length by omega]
  simp only [Option.bind_some, List.getElem?_append_right (Nat.le_refl _), Nat.sub_self, List.getElem?_cons_zero, Op_some]
/-- a word and what it becomes by up to n passes -/
def crsL (ls : List Ent) (w : Tx) (n : Nat) : List Tx := (List.range (n + 1)).map (crs ls w)
theorem crsL_zero (ls : List Ent) (w : Tx) : crsL ls w 0 = [w] := rfl
theorem crsL_succ (ls : List Ent) (w : Tx) (n : Nat) : crsL ls w (n + 1) = crsL ls w n ++ [mendT ls (crs ls w n)] := by
  unfold crsL
  rw [List.range_succ, List.map_append]; rfl
theorem crsL_last (ls : List Ent) (w : Tx) (n : Nat) : ∃ p, crsL ls w n = p ++ [crs ls w n] := by
  refine ⟨(List.range n).map (crs ls w), ?_⟩
  unfold crsL
  rw [List.range_succ, List.map_append]; rfl
theorem crsL_len (ls : List Ent) (w : Tx) (n : Nat) : (crsL ls w n).length = n + 1 := by unfold crsL; rw [List.length_map, List.length_range]
theorem crsL_small {ls : List Ent} (h : VL ls) {w : Tx} (hw : ∀ c ∈ w, c ∈ abcde) (n : Nat) : ∀ z ∈ crsL ls w n, ∀ c ∈ z, c < 128 := by
  intro z hz c hc
  obtain ⟨i, _, rfl⟩ := List.mem_map.mp hz
  exact small_abcde (crs_abc h hw i c hc)
def Icrs (ls : List Ent) (w : Tx) (n : Int) (st : Store) (i : Nat)  (env : En) (s : Store) : Prop := ∃  (z4 : Option D), env = [some (dL ls), some (.str w), some (.int n), some (.lst ((crsL ls w i).map .str)), z4] ∧  s = st
def Igrown (c : Nat) (i : Nat)   (env : En) (s : Store) : Prop := ∃ (es : List Ent) (z2 z3 z4 z5 : Option D), env = [some (.cell c), some (.lst (es.map dE)), z2, z3, z4, z5] ∧  es.length ≤ i ∧ VS es ∧ (∀ e ∈ es, e.k = endT) ∧ Src c s
end MWL
set_option Elab.async false
set_option linter.all false
set_option maxRecDepth 100000
set_option maxHeartbeats 1000000
set_option autoImplicit false
/-! Plain: letters in front; small things for laws. -/
namespace MWL
open MW
theorem mend_front {ls : List Ent} (h : VL ls) {f w : Tx} (hw : 5 ≤ w.length) : mendT ls (f ++ w) = f ++ mendT ls w := by
  rw [(mach h).long _ (by rw [List.length_append]; omega), (mach h).app _ _ (by omega), ← (mach h).long w hw]
theorem crs_front {ls : List Ent} (h : VL ls) {f w : Tx} : ∀ n, (∀ j, j < n → 5 ≤ (crs ls w j).length) → crs ls (f ++ w) n = f ++ crs ls w n
  | 0, _ => rfl
  | n + 1, hn => by
    show mendT ls (crs ls (f ++ w) n) = f ++ mendT ls (crs ls w n)
    rw [crs_front h n fun j hj => hn j (by omega), mend_front h (hn n (by omega))]
theorem pl_rest {n : Int} {v : Tx} (h : Asc v) : (D.tup [.int n, .str v]).pl = true := pl_of (by
  rw [plD, plL, plL, plL, plD, plD, small_pl h]; rfl)
theorem eqv_rest {n m : Int} {v u : Tx} : PySem.PyData.eqv (D.tup [.int n, .str v]).py (D.tup [.int m, .str u]).py = (decide (n = m) && decide (v = u)) := by
  rw [eqv_tup, eqvAll_cons, eqvAll_cons, eqvAll_nil, eqv_int, eqv_str]; simp
theorem ve_w {o n : Tx} (h1 : isLet n 4 = true) (h2 : isLet o 4 = true) (h3 : o ≠ n) : VE ⟨wordT, o, n⟩ := ⟨.inl rfl, h1, h2, h3⟩
theorem ve_e {o n : Tx} (h1 : isLet n 4 = true) (h2 : isLet o 3 = true) (h3 : o ≠ n) : VE ⟨endT, o, n⟩ := ⟨.inr rfl, h1, h2, h3⟩
theorem all_nil {P : Ent → Prop} : ∀ e ∈ ([] : List Ent), P e := fun e h => nomatch h
theorem all_cons {P : Ent → Prop} {e : Ent} {l : List Ent} (h : P e) (t : ∀ e ∈ l, P e) : ∀ x ∈ e :: l, P x := fun x hx => by
  rcases List.mem_cons.mp hx with rfl | hx
  · exact h
  · exact t x hx
theorem ite_dup {P D X B : Prop} [Decidable P] [Decidable D] (h : B) (n : ¬ (P ∧ D)) : if P then (if D then X else B) else B := by
  split
  · rename_i p
    split
    · rename_i d; exact absurd ⟨p, d⟩ n
    · exact h
  · exact h
theorem minI_ex {ns : List Int} (h : ns ≠ []) : ∃ m, minI ns = some m := by
  cases ns with
  | nil => exact absurd rfl h
  | cons a l => exact ⟨_, rfl⟩
theorem get_strs {xs : List Tx} {i : Nat} {x : Tx} (h : xs[i]? = some x) : (xs.map D.str)[i]? = some (.str x) := by rw [List.getElem?_map, h]; rfl
theorem crsL_get {ls : List Ent} {w : Tx} {n i : Nat} (h : i ≤ n) : (crsL ls w n)[i]? = some (crs ls w i) := by
  unfold crsL
  rw [List.getElem?_map, List.getElem?_range (by omega)]; rfl
end MWL
set_option Elab.async false
set_option linter.all false
set_option maxRecDepth 100000
set_option maxHeartbeats 1000000
set_option autoImplicit false
/-! Plain: passes.py: a course. -/
namespace MWL
open MW
theorem get_kd {τ : Type} (f : τ → Tx) (g : τ → D) : ∀ (l : List τ) (p : τ), p ∈ l → (l.map f).Nodup → getKD (kdT f g l) (.inr (f p)) = some (g p)
  | [], p, h, _ => nomatch h
  | q :: l, p, h, nd => by
    unfold kdT
    rw [List.map_cons, getKD]
    rw [List.map_cons, List.nodup_cons] at nd
    rcases List.mem_cons.mp h with rfl | h
    · exact if_pos rfl
    · have n : ¬ ((Sum.inr (f q) : DKey) = .inr (f p)) := fun z => nd.1 (by injection z with z; rw [z]; exact List.mem_map_of_mem h)
      rw [if_neg n]
      exact get_kd f g l p h nd.2
theorem rng_down {i j : Int} {P : List D → Prop} : Op (rngOf [.int i, .int j, .int (-1)]) P ↔ (bnd i = true ∧ bnd j = true) ∧ P (rngC i (-1) (i - j).toNat) := by
  simp only [rngOf, Op_guard, Bool.and_eq_true, if_true, Op_some]
theorem rngC_length (i : Int) (n : Nat) : (rngC i (-1) n).length = n := by unfold rngC; simp
theorem rngC_at {lo : Int} {n i : Nat} {x : D} (h : (rngC lo (-1) n)[i]? = some x) : x = .int (lo - (i : Nat)) ∧ i < n := by
  have hl := (List.getElem?_eq_some_iff.mp h).1
  rw [rngC_length] at hl
  unfold rngC at h
  rw [List.getElem?_map, List.getElem?_range hl] at h
  cases h
  exact ⟨congrArg D.int (show lo + ((i : Nat) : Int) * (-1) = lo - (i : Nat) by omega), hl⟩
def coL (ls : List Ent) (w : Tx) (i : Nat) : List (Tx × Nat) := (List.range (i + 1)).map fun m => (crs ls w m, m)
abbrev coK (ls : List Ent) (w : Tx) (i : Nat) : D := .dic (kdT (fun p : Tx × Nat => p.1) (fun p => .int (p.2 : Nat)) (coL ls w i))
theorem coL_map (ls : List Ent) (w : Tx) (i : Nat) : (coL ls w i).map (fun p => p.1) = crsL ls w i := by unfold coL crsL; rw [List.map_map]; rfl
theorem coL_len (ls : List Ent) (w : Tx) (i : Nat) : (coL ls w i).length = i + 1 := by unfold coL; rw [List.length_map, List.length_range]
theorem coL_succ (ls : List Ent) (w : Tx) (i : Nat) : coL ls w (i + 1) = coL ls w i ++ [(crs ls w (i + 1), i + 1)] := by unfold coL; rw [List.range_succ, List.map_append]; rfl
theorem crsL_at (ls : List Ent) (w : Tx) {n i : Nat} (h : i ≤ n) : (crsL ls w n)[i]? = some (crs ls w i) := by
  unfold crsL
  rw [List.getElem?_map, List.getElem?_range (by omega)]; rfl
theorem crsL_mem {ls : List Ent} {w : Tx} {n : Nat} {x : Tx} : x ∈ crsL ls w n ↔ ∃ i, i ≤ n ∧ x = crs ls w i := by
  unfold crsL
  rw [List.mem_map]
  constructor
  · rintro ⟨i, hi, rfl⟩
    exact ⟨i, by rw [List.mem_range] at hi; omega, rfl⟩
  · rintro ⟨i, hi, rfl⟩
    exact ⟨i, by rw [List.mem_range]; omega, rfl⟩
theorem crsL_nodup {ls : List Ent} {w : Tx} {n : Nat} (h : ∀ i j, i < j → j ≤ n → crs ls w i ≠ crs ls w j) : (crsL ls w n).Nodup := by
  unfold crsL
  rw [List.nodup_iff_pairwise_ne, List.pairwise_map]
  refine List.Pairwise.imp_of_mem ?_ (List.pairwise_lt_range)
  intro a b ha hb hab
  rw [List.mem_range] at hb
  exact h a b hab (by omega)
abbrev CoI (ls : List Ent) (w : Tx) (n b more : Nat) : Prop := CoIs (mendT ls) w n b more
structure Cin (ls : List Ent) (w : Tx) (i : Nat) : Prop where
  nd : ∀ a b, a < b → b ≤ i → crs ls w a ≠ crs ls w b
  ns : ∀ j, j ≤ i → ¬ stopsAt ls w j
def dCo (ls : List Ent) (w : Tx) (n b more : Nat) : D := .tup [.lst ((crsL ls w n).map .str), .int (b : Nat), .int (more : Nat)]
def Ico (ls : List Ent) (w : Tx) (st : Store) (i : Nat)  (env : En) (s : Store) : Prop := ∃  (z1 z4 z5 z6 : Option D), env = [some (dL ls), z1, some (.lst ((crsL ls w i).map .str)), some (coK ls w i), z4, z5, z6] ∧  s = st ∧ Cin ls w i
/-- the look back has passed t places -/
def Iback (ls : List Ent) (w : Tx) (st : Store) (j : Nat) (t : Nat)   (env : En) (s : Store) : Prop := ∃ (L : Nat) (z5 z6 : Option D), env = [some (dL ls), some (.str (crs ls w j)), some (.lst ((crsL ls w j).map .str)), some (coK ls w j), some (.int (L : Nat)), z5, z6] ∧  s = st ∧ (∀ m, j - t ≤ m → m ≤ j → L ≤ (crs ls w m).length) ∧ (∃ m, j - t ≤ m ∧ m ≤ j ∧ L = (crs ls w m).length) ∧ (∀ p, j - t ≤ p → p < j → 5 ≤ (crs ls w p).length ∧ ¬ ((∀ m, p ≤ m → m ≤ j → (crs ls w p).length ≤ (crs ls w m).length) ∧ last3 (crs ls w j) = last3 (crs ls w p)))
theorem at_crs {ls : List Ent} {w : Tx} {n p : Nat} {i : Int} {R : D → Prop} (hi : i = (p : Nat)) (hp : p ≤ n) : Op (L2.atI ((crsL ls w n).map D.str) i) R ↔ R (.str (crs ls w p)) := by
  subst hi
  rw [at_nat (by omega), List.getElem?_map, Int.toNat_natCast, crsL_at ls w hp, Option.map_some, Op_some]
theorem course_of_ok {B wf k : Nat} {st : Store} {ls : List Ent} {w : Tx} (hB : ∃ j, j ≤ B ∧ stopsAt ls w j) (hB2 : B ≤ 16000000) (hwf : B + 1 < wf) (h : VL ls) (hw : isLet w 12 = true) :
    Ev (callF GD wf (k + 1 + 1 + 1) 150 [dL ls, .str w] st) fun x s => s = st ∧ ∃ n b more, x = .sh (dCo ls w n b more) ∧ CoI ls w n b more ∧ n ≤ B ∧ ∀ m, m ≤ n → (crs ls w m).length ≤ 390 := by
  obtain ⟨w1, w12, wc⟩ := isLet_len hw
  have wne : w ≠ [] := fun z => by rw [z] at w1; simp at w1
  obtain ⟨jB, hjB, hsB⟩ := hB
  rw [Ev_callD (d := d150) rfl rfl]
  unfold d150 b150
  simp only [wE_c, wE_v, wE_vo, wE_bin, wE_neg, wE_not, wE_cmp, wE_chain, wE_and, wE_or, wE_ite, wE_call, wE_b1, wE_b2, wE_isi, wE_m0, wE_m1, wE_idx, wE_sl, wE_ss, ss_lst, mul_str, isn_bl, notn_bl, wE_tup, wE_lst, wE_cel, wE_comp, wEs_nil, wEs_cons, wEo_no, wEo_so, wC_no, wC_so, wI_e, wI_rng, wI_enum, wI_zip, wI_map, wSs_nil, wSs_cons, wS_set, wS_seto, wS_unp, wS_par, wS_app, wS_setc, wS_drop, wS_ret, wS_reto, wS_retN, wS_pass, wS_brk, wS_cont, wS_fail, wS_ite, wS_for, wR_nil, wR_cons, seqQ_nx, seqQ_ret, seqQ_brk, seqQ_cont, outQ_nx, outQ_ret, outQ_brk, outQ_cont, d_sh, d_fr, d_vw, vw_sh, vw_fr, vw_vw, add_int, add_str, add_tup, add_lst, sub_int, mul_int, fdiv_int, mod_int, eq_str, ne_str, eq_int, ne_int, eq_bl, ne_bl, eq_sn, lt_int, le_int, gt_int, ge_int, isn_any, notn_any, in_sign, nin_sign, len_str, len_tup, len_lst, len_scr, all_map, any_map, list_tup, list_lst, list_str, tuple_lst, tuple_tup, int_int, abs_int, min_int, own_sh, own_fr, bool_sh, int_sh, ends_str, starts_str, lower_str, upper_str, sl_lst, sl_tup, sl_str, ix_lst, ix_tup, ix_scr, ix_str, ix_cell, at_zero, at_succ, set_zero, set_succ, startE_zero, startE_cons, Op_some, Op_none, bT_nm, bT_tup, bT_nil, bT_cons, pS_nil, pS_fr, pS_sh, wipe_nil, wipe_cons, it_lst, it_tup, it_str, rng_one, rng_two, zip_tup, zip_lst, fr_fr, sh_sh, lst_lst, cel_cel, in_in, List.replicate_succ, List.replicate_zero, decide_eq_true_iff, true_and, and_true, ite_true, ite_false, if_true, if_false, Bool.false_eq_true, Bool.not_eq_true', List.length_cons, List.length_nil, isi_str, isi_tup, isi_lst, isi_int, isi_non, isi_bl, eq_tup, ne_tup, eq_lst, ne_lst, lt_tup, in_lst, nin_lst, nin_tup, at_0, at_1, at_2, at_3, Bool.true_eq_false, wE_rev, wS_seti, set_lst, eq_non_str, ne_non_str, ne_str_non, eq_non, ne_non, wE_dic0, wE_dic1, wE_dicL, wE_compI, wE_lrng, wE_rep, rep_str, wE_lix, dic_dic, key_str, key_int, in_dicS, nin_dicS, ix_dicS, set_dicS, min_lst, max_lst, max_int, sl_E, ix_E0, ix_E1, ix_E2, bT_E, isN_E, isN_dO, isN_str, isN_tup, isN_lst, isN_int, isN_non, eq_dO, ne_dO, eq_self, decide_true, decide_false, Bool.not_true, Bool.not_false, not_true_eq_false, not_false_eq_true]
  refine whl_inv (Ico ls w st) ⟨_, _, _, _, rfl, rfl, ?_⟩ ?_ ?_
  · exact ⟨fun a b h1 h2 => by omega, fun j hj ⟨i, hi, _⟩ => by omega⟩
  · rintro i env s ⟨_, _, _, _, rfl, rfl, C⟩
    by_cases q : jB ≤ i
    · exact absurd hsB (C.ns jB q)
    · show i < wf; omega
  · rintro i env s ⟨_, _, _, _, rfl, rfl, C⟩
    have hiB : i < B := by
      by_cases q : jB ≤ i
      · exact absurd hsB (C.ns jB q)
      · omega
    have len := len_bound (mach h) wc (by omega) (fun v => (mendT_len h (w := v)).1) i fun j hj => C.ns j (by omega)
    have len : (crs ls w i).length ≤ 387 := len
    have lenA : ∀ m, m ≤ i → (crs ls w m).length ≤ 390 := fun m hm => Nat.le_trans (len_bound (mach h) wc (by omega) (fun v => (mendT_len h (w := v)).1) m fun j hj => C.ns j (by omega)) (by decide)
    have len1 : (crs ls w (i + 1)).length ≤ 390 := by
      have := (mendT_len h (w := crs ls w i)).1
      show (mendT ls (crs ls w i)).length ≤ 390
      omega
    obtain ⟨p, hp⟩ := crsL_last ls w i
    have e1 : (crsL ls w i).map D.str = p.map D.str ++ [D.str (crs ls w i)] := by rw [hp, List.map_append]; rfl
    have next : crs ls w (i + 1) = mendT ls (crs ls w i) := rfl
    have nd := crsL_nodup C.nd
    have cl := crsL_len ls w i
    simp only [wE_c, wE_v, wE_vo, wE_bin, wE_neg, wE_not, wE_cmp, wE_chain, wE_and, wE_or, wE_ite, wE_call, wE_b1, wE_b2, wE_isi, wE_m0, wE_m1, wE_idx, wE_sl, wE_ss, ss_lst, mul_str, isn_bl, notn_bl, wE_tup, wE_lst, wE_cel, wE_comp, wEs_nil, wEs_cons, wEo_no, wEo_so, wC_no, wC_so, wI_e, wI_rng, wI_enum, wI_zip, wI_map, wSs_nil, wSs_cons, wS_set, wS_seto, wS_unp, wS_par, wS_app, wS_setc, wS_drop, wS_ret, wS_reto, wS_retN, wS_pass, wS_brk, wS_cont, wS_fail, wS_ite, wS_for, wR_nil, wR_cons, seqQ_nx, seqQ_ret, seqQ_brk, seqQ_cont, outQ_nx, outQ_ret, outQ_brk, outQ_cont, d_sh, d_fr, d_vw, vw_sh, vw_fr, vw_vw, add_int, add_str, add_tup, add_lst, sub_int, mul_int, fdiv_int, mod_int, eq_str, ne_str, eq_int, ne_int, eq_bl, ne_bl, eq_sn, lt_int, le_int, gt_int, ge_int, isn_any, notn_any, in_sign, nin_sign, len_str, len_tup, len_lst, len_scr, all_map, any_map, list_tup, list_lst, list_str, tuple_lst, tuple_tup, int_int, abs_int, min_int, own_sh, own_fr, bool_sh, int_sh, ends_str, starts_str, lower_str, upper_str, sl_lst, sl_tup, sl_str, ix_lst, ix_tup, ix_scr, ix_str, ix_cell, at_zero, at_succ, set_zero, set_succ, startE_zero, startE_cons, Op_some, Op_none, bT_nm, bT_tup, bT_nil, bT_cons, pS_nil, pS_fr, pS_sh, wipe_nil, wipe_cons, it_lst, it_tup, it_str, rng_one, rng_two, zip_tup, zip_lst, fr_fr, sh_sh, lst_lst, cel_cel, in_in, List.replicate_succ, List.replicate_zero, decide_eq_true_iff, true_and, and_true, ite_true, ite_false, if_true, if_false, Bool.false_eq_true, Bool.not_eq_true', List.length_cons, List.length_nil, isi_str, isi_tup, isi_lst, isi_int, isi_non, isi_bl, eq_tup, ne_tup, eq_lst, ne_lst, lt_tup, in_lst, nin_lst, nin_tup, at_0, at_1, at_2, at_3, Bool.true_eq_false, wE_rev, wS_seti, set_lst, eq_non_str, ne_non_str, ne_str_non, eq_non, ne_non, wE_dic0, wE_dic1, wE_dicL, wE_compI, wE_lrng, wE_rep, rep_str, wE_lix, dic_dic, key_str, key_int, in_dicS, nin_dicS, ix_dicS, set_dicS, min_lst, max_lst, max_int, sl_E, ix_E0, ix_E1, ix_E2, bT_E, isN_E, isN_dO, isN_str, isN_tup, isN_lst, isN_int, isN_non, eq_dO, ne_dO, eq_self, decide_true, decide_false, Bool.not_true, Bool.not_false, not_true_eq_false, not_false_eq_true]
    rw [e1]
    simp only [at_last, wE_c, wE_v, wE_vo, wE_bin, wE_neg, wE_not, wE_cmp, wE_chain, wE_and, wE_or, wE_ite, wE_call, wE_b1, wE_b2, wE_isi, wE_m0, wE_m1, wE_idx, wE_sl, wE_ss, ss_lst, mul_str, isn_bl, notn_bl, wE_tup, wE_lst, wE_cel, wE_comp, wEs_nil, wEs_cons, wEo_no, wEo_so, wC_no, wC_so, wI_e, wI_rng, wI_enum, wI_zip, wI_map, wSs_nil, wSs_cons, wS_set, wS_seto, wS_unp, wS_par, wS_app, wS_setc, wS_drop, wS_ret, wS_reto, wS_retN, wS_pass, wS_brk, wS_cont, wS_fail, wS_ite, wS_for, wR_nil, wR_cons, seqQ_nx, seqQ_ret, seqQ_brk, seqQ_cont, outQ_nx, outQ_ret, outQ_brk, outQ_cont, d_sh, d_fr, d_vw, vw_sh, vw_fr, vw_vw, add_int, add_str, add_tup, add_lst, sub_int, mul_int, fdiv_int, mod_int, eq_str, ne_str, eq_int, ne_int, eq_bl, ne_bl, eq_sn, lt_int, le_int, gt_int, ge_int, isn_any, notn_any, in_sign, nin_sign, len_str, len_tup, len_lst, len_scr, all_map, any_map, list_tup, list_lst, list_str, tuple_lst, tuple_tup, int_int, abs_int, min_int, own_sh, own_fr, bool_sh, int_sh, ends_str, starts_str, lower_str, upper_str, sl_lst, sl_tup, sl_str, ix_lst, ix_tup, ix_scr, ix_str, ix_cell, at_zero, at_succ, set_zero, set_succ, startE_zero, startE_cons, Op_some, Op_none, bT_nm, bT_tup, bT_nil, bT_cons, pS_nil, pS_fr, pS_sh, wipe_nil, wipe_cons, it_lst, it_tup, it_str, rng_one, rng_two, zip_tup, zip_lst, fr_fr, sh_sh, lst_lst, cel_cel, in_in, List.replicate_succ, List.replicate_zero, decide_eq_true_iff, true_and, and_true, ite_true, ite_false, if_true, if_false, Bool.false_eq_true, Bool.not_eq_true', List.length_cons, List.length_nil, isi_str, isi_tup, isi_lst, isi_int, isi_non, isi_bl, eq_tup, ne_tup, eq_lst, ne_lst, lt_tup, in_lst, nin_lst, nin_tup, at_0, at_1, at_2, at_3, Bool.true_eq_false, wE_rev, wS_seti, set_lst, eq_non_str, ne_non_str, ne_str_non, eq_non, ne_non, wE_dic0, wE_dic1, wE_dicL, wE_compI, wE_lrng, wE_rep, rep_str, wE_lix, dic_dic, key_str, key_int, in_dicS, nin_dicS, ix_dicS, set_dicS, min_lst, max_lst, max_int, sl_E, ix_E0, ix_E1, ix_E2, bT_E, isN_E, isN_dO, isN_str, isN_tup, isN_lst, isN_int, isN_non, eq_dO, ne_dO, eq_self, decide_true, decide_false, Bool.not_true, Bool.not_false, not_true_eq_false, not_false_eq_true]
    rw [← e1]
    refine mended_ok h.tl h.n (by omega) ?_
    rw [← next]
    simp only [has_kd, coL_map, wE_c, wE_v, wE_vo, wE_bin, wE_neg, wE_not, wE_cmp, wE_chain, wE_and, wE_or, wE_ite, wE_call, wE_b1, wE_b2, wE_isi, wE_m0, wE_m1, wE_idx, wE_sl, wE_ss, ss_lst, mul_str, isn_bl, notn_bl, wE_tup, wE_lst, wE_cel, wE_comp, wEs_nil, wEs_cons, wEo_no, wEo_so, wC_no, wC_so, wI_e, wI_rng, wI_enum, wI_zip, wI_map, wSs_nil, wSs_cons, wS_set, wS_seto, wS_unp, wS_par, wS_app, wS_setc, wS_drop, wS_ret, wS_reto, wS_retN, wS_pass, wS_brk, wS_cont, wS_fail, wS_ite, wS_for, wR_nil, wR_cons, seqQ_nx, seqQ_ret, seqQ_brk, seqQ_cont, outQ_nx, outQ_ret, outQ_brk, outQ_cont, d_sh, d_fr, d_vw, vw_sh, vw_fr, vw_vw, add_int, add_str, add_tup, add_lst, sub_int, mul_int, fdiv_int, mod_int, eq_str, ne_str, eq_int, ne_int, eq_bl, ne_bl, eq_sn, lt_int, le_int, gt_int, ge_int, isn_any, notn_any, in_sign, nin_sign, len_str, len_tup, len_lst, len_scr, all_map, any_map, list_tup, list_lst, list_str, tuple_lst, tuple_tup, int_int, abs_int, min_int, own_sh, own_fr, bool_sh, int_sh, ends_str, starts_str, lower_str, upper_str, sl_lst, sl_tup, sl_str, ix_lst, ix_tup, ix_scr, ix_str, ix_cell, at_zero, at_succ, set_zero, set_succ, startE_zero, startE_cons, Op_some, Op_none, bT_nm, bT_tup, bT_nil, bT_cons, pS_nil, pS_fr, pS_sh, wipe_nil, wipe_cons, it_lst, it_tup, it_str, rng_one, rng_two, zip_tup, zip_lst, fr_fr, sh_sh, lst_lst, cel_cel, in_in, List.replicate_succ, List.replicate_zero, decide_eq_true_iff, true_and, and_true, ite_true, ite_false, if_true, if_false, Bool.false_eq_true, Bool.not_eq_true', List.length_cons, List.length_nil, isi_str, isi_tup, isi_lst, isi_int, isi_non, isi_bl, eq_tup, ne_tup, eq_lst, ne_lst, lt_tup, in_lst, nin_lst, nin_tup, at_0, at_1, at_2, at_3, Bool.true_eq_false, wE_rev, wS_seti, set_lst, eq_non_str, ne_non_str, ne_str_non, eq_non, ne_non, wE_dic0, wE_dic1, wE_dicL, wE_compI, wE_lrng, wE_rep, rep_str, wE_lix, dic_dic, key_str, key_int, in_dicS, nin_dicS, ix_dicS, set_dicS, min_lst, max_lst, max_int, sl_E, ix_E0, ix_E1, ix_E2, bT_E, isN_E, isN_dO, isN_str, isN_tup, isN_lst, isN_int, isN_non, eq_dO, ne_dO, eq_self, decide_true, decide_false, Bool.not_true, Bool.not_false, not_true_eq_false, not_false_eq_true]
    by_cases hin : crs ls w (i + 1) ∈ crsL ls w i
    · rw [if_pos hin]
      obtain ⟨b, hb, eb⟩ := crsL_mem.mp hin
      have gk := get_kd (fun p : Tx × Nat => p.1) (fun p => D.int (p.2 : Nat)) (coL ls w i) (crs ls w b, b) (by unfold coL; exact List.mem_map.mpr ⟨b, by rw [List.mem_range]; omega, rfl⟩) (by rw [coL_map]; exact nd)
      rw [eb, gk]
      simp only [wE_c, wE_v, wE_vo, wE_bin, wE_neg, wE_not, wE_cmp, wE_chain, wE_and, wE_or, wE_ite, wE_call, wE_b1, wE_b2, wE_isi, wE_m0, wE_m1, wE_idx, wE_sl, wE_ss, ss_lst, mul_str, isn_bl, notn_bl, wE_tup, wE_lst, wE_cel, wE_comp, wEs_nil, wEs_cons, wEo_no, wEo_so, wC_no, wC_so, wI_e, wI_rng, wI_enum, wI_zip, wI_map, wSs_nil, wSs_cons, wS_set, wS_seto, wS_unp, wS_par, wS_app, wS_setc, wS_drop, wS_ret, wS_reto, wS_retN, wS_pass, wS_brk, wS_cont, wS_fail, wS_ite, wS_for, wR_nil, wR_cons, seqQ_nx, seqQ_ret, seqQ_brk, seqQ_cont, outQ_nx, outQ_ret, outQ_brk, outQ_cont, d_sh, d_fr, d_vw, vw_sh, vw_fr, vw_vw, add_int, add_str, add_tup, add_lst, sub_int, mul_int, fdiv_int, mod_int, eq_str, ne_str, eq_int, ne_int, eq_bl, ne_bl, eq_sn, lt_int, le_int, gt_int, ge_int, isn_any, notn_any, in_sign, nin_sign, len_str, len_tup, len_lst, len_scr, all_map, any_map, list_tup, list_lst, list_str, tuple_lst, tuple_tup, int_int, abs_int, min_int, own_sh, own_fr, bool_sh, int_sh, ends_str, starts_str, lower_str, upper_str, sl_lst, sl_tup, sl_str, ix_lst, ix_tup, ix_scr, ix_str, ix_cell, at_zero, at_succ, set_zero, set_succ, startE_zero, startE_cons, Op_some, Op_none, bT_nm, bT_tup, bT_nil, bT_cons, pS_nil, pS_fr, pS_sh, wipe_nil, wipe_cons, it_lst, it_tup, it_str, rng_one, rng_two, zip_tup, zip_lst, fr_fr, sh_sh, lst_lst, cel_cel, in_in, List.replicate_succ, List.replicate_zero, decide_eq_true_iff, true_and, and_true, ite_true, ite_false, if_true, if_false, Bool.false_eq_true, Bool.not_eq_true', List.length_cons, List.length_nil, isi_str, isi_tup, isi_lst, isi_int, isi_non, isi_bl, eq_tup, ne_tup, eq_lst, ne_lst, lt_tup, in_lst, nin_lst, nin_tup, at_0, at_1, at_2, at_3, Bool.true_eq_false, wE_rev, wS_seti, set_lst, eq_non_str, ne_non_str, ne_str_non, eq_non, ne_non, wE_dic0, wE_dic1, wE_dicL, wE_compI, wE_lrng, wE_rep, rep_str, wE_lix, dic_dic, key_str, key_int, in_dicS, nin_dicS, ix_dicS, set_dicS, min_lst, max_lst, max_int, sl_E, ix_E0, ix_E1, ix_E2, bT_E, isN_E, isN_dO, isN_str, isN_tup, isN_lst, isN_int, isN_non, eq_dO, ne_dO, eq_self, decide_true, decide_false, Bool.not_true, Bool.not_false, not_true_eq_false, not_false_eq_true]
      exact ⟨i, b, 0, rfl, ⟨hb, C.nd, .inl ⟨rfl, eb⟩⟩, by omega, lenA⟩
    · rw [if_neg hin]
      simp only [List.length_map, cl, wE_c, wE_v, wE_vo, wE_bin, wE_neg, wE_not, wE_cmp, wE_chain, wE_and, wE_or, wE_ite, wE_call, wE_b1, wE_b2, wE_isi, wE_m0, wE_m1, wE_idx, wE_sl, wE_ss, ss_lst, mul_str, isn_bl, notn_bl, wE_tup, wE_lst, wE_cel, wE_comp, wEs_nil, wEs_cons, wEo_no, wEo_so, wC_no, wC_so, wI_e, wI_rng, wI_enum, wI_zip, wI_map, wSs_nil, wSs_cons, wS_set, wS_seto, wS_unp, wS_par, wS_app, wS_setc, wS_drop, wS_ret, wS_reto, wS_retN, wS_pass, wS_brk, wS_cont, wS_fail, wS_ite, wS_for, wR_nil, wR_cons, seqQ_nx, seqQ_ret, seqQ_brk, seqQ_cont, outQ_nx, outQ_ret, outQ_brk, outQ_cont, d_sh, d_fr, d_vw, vw_sh, vw_fr, vw_vw, add_int, add_str, add_tup, add_lst, sub_int, mul_int, fdiv_int, mod_int, eq_str, ne_str, eq_int, ne_int, eq_bl, ne_bl, eq_sn, lt_int, le_int, gt_int, ge_int, isn_any, notn_any, in_sign, nin_sign, len_str, len_tup, len_lst, len_scr, all_map, any_map, list_tup, list_lst, list_str, tuple_lst, tuple_tup, int_int, abs_int, min_int, own_sh, own_fr, bool_sh, int_sh, ends_str, starts_str, lower_str, upper_str, sl_lst, sl_tup, sl_str, ix_lst, ix_tup, ix_scr, ix_str, ix_cell, at_zero, at_succ, set_zero, set_succ, startE_zero, startE_cons, Op_some, Op_none, bT_nm, bT_tup, bT_nil, bT_cons, pS_nil, pS_fr, pS_sh, wipe_nil, wipe_cons, it_lst, it_tup, it_str, rng_one, rng_two, zip_tup, zip_lst, fr_fr, sh_sh, lst_lst, cel_cel, in_in, List.replicate_succ, List.replicate_zero, decide_eq_true_iff, true_and, and_true, ite_true, ite_false, if_true, if_false, Bool.false_eq_true, Bool.not_eq_true', List.length_cons, List.length_nil, isi_str, isi_tup, isi_lst, isi_int, isi_non, isi_bl, eq_tup, ne_tup, eq_lst, ne_lst, lt_tup, in_lst, nin_lst, nin_tup, at_0, at_1, at_2, at_3, Bool.true_eq_false, wE_rev, wS_seti, set_lst, eq_non_str, ne_non_str, ne_str_non, eq_non, ne_non, wE_dic0, wE_dic1, wE_dicL, wE_compI, wE_lrng, wE_rep, rep_str, wE_lix, dic_dic, key_str, key_int, in_dicS, nin_dicS, ix_dicS, set_dicS, min_lst, max_lst, max_int, sl_E, ix_E0, ix_E1, ix_E2, bT_E, isN_E, isN_dO, isN_str, isN_tup, isN_lst, isN_int, isN_non, eq_dO, ne_dO, eq_self, decide_true, decide_false, Bool.not_true, Bool.not_false, not_true_eq_false, not_false_eq_true]
      refine ⟨by omega, ?_⟩
      rw [put_kd _ _ (by rw [coL_map]; exact hin)]
      have e2 : (crsL ls w i).map D.str ++ [D.str (crs ls w (i + 1))] = (crsL ls w (i + 1)).map D.str := by rw [crsL_succ, List.map_append, ← next]; rfl
      have l2 : ((crsL ls w (i + 1)).map D.str).length = i + 2 := by rw [List.length_map, crsL_len]
      have kl : (kdT (fun p : Tx × Nat => p.1) (fun p => D.int (p.2 : Nat)) (coL ls w i)).length < 16777216 := by unfold kdT; rw [List.length_map, coL_len]; omega
      rw [e2, l2]
      have e3 : kdT (fun p : Tx × Nat => p.1) (fun p => D.int (p.2 : Nat)) (coL ls w i) ++ [(Sum.inr (crs ls w (i + 1)), D.int (((i + 2 : Nat) : Int) - 1))] = kdT (fun p : Tx × Nat => p.1) (fun p => D.int (p.2 : Nat)) (coL ls w (i + 1)) := by
        rw [coL_succ]; unfold kdT; rw [List.map_append, List.map_singleton, show (((i + 2 : Nat) : Int) - 1) = ((i + 1 : Nat) : Int) by omega]
      rw [e3]
      simp only [rng_down, wE_c, wE_v, wE_vo, wE_bin, wE_neg, wE_not, wE_cmp, wE_chain, wE_and, wE_or, wE_ite, wE_call, wE_b1, wE_b2, wE_isi, wE_m0, wE_m1, wE_idx, wE_sl, wE_ss, ss_lst, mul_str, isn_bl, notn_bl, wE_tup, wE_lst, wE_cel, wE_comp, wEs_nil, wEs_cons, wEo_no, wEo_so, wC_no, wC_so, wI_e, wI_rng, wI_enum, wI_zip, wI_map, wSs_nil, wSs_cons, wS_set, wS_seto, wS_unp, wS_par, wS_app, wS_setc, wS_drop, wS_ret, wS_reto, wS_retN, wS_pass, wS_brk, wS_cont, wS_fail, wS_ite, wS_for, wR_nil, wR_cons, seqQ_nx, seqQ_ret, seqQ_brk, seqQ_cont, outQ_nx, outQ_ret, outQ_brk, outQ_cont, d_sh, d_fr, d_vw, vw_sh, vw_fr, vw_vw, add_int, add_str, add_tup, add_lst, sub_int, mul_int, fdiv_int, mod_int, eq_str, ne_str, eq_int, ne_int, eq_bl, ne_bl, eq_sn, lt_int, le_int, gt_int, ge_int, isn_any, notn_any, in_sign, nin_sign, len_str, len_tup, len_lst, len_scr, all_map, any_map, list_tup, list_lst, list_str, tuple_lst, tuple_tup, int_int, abs_int, min_int, own_sh, own_fr, bool_sh, int_sh, ends_str, starts_str, lower_str, upper_str, sl_lst, sl_tup, sl_str, ix_lst, ix_tup, ix_scr, ix_str, ix_cell, at_zero, at_succ, set_zero, set_succ, startE_zero, startE_cons, Op_some, Op_none, bT_nm, bT_tup, bT_nil, bT_cons, pS_nil, pS_fr, pS_sh, wipe_nil, wipe_cons, it_lst, it_tup, it_str, rng_one, rng_two, zip_tup, zip_lst, fr_fr, sh_sh, lst_lst, cel_cel, in_in, List.replicate_succ, List.replicate_zero, decide_eq_true_iff, true_and, and_true, ite_true, ite_false, if_true, if_false, Bool.false_eq_true, Bool.not_eq_true', List.length_cons, List.length_nil, isi_str, isi_tup, isi_lst, isi_int, isi_non, isi_bl, eq_tup, ne_tup, eq_lst, ne_lst, lt_tup, in_lst, nin_lst, nin_tup, at_0, at_1, at_2, at_3, Bool.true_eq_false, wE_rev, wS_seti, set_lst, eq_non_str, ne_non_str, ne_str_non, eq_non, ne_non, wE_dic0, wE_dic1, wE_dicL, wE_compI, wE_lrng, wE_rep, rep_str, wE_lix, dic_dic, key_str, key_int, in_dicS, nin_dicS, ix_dicS, set_dicS, min_lst, max_lst, max_int, sl_E, ix_E0, ix_E1, ix_E2, bT_E, isN_E, isN_dO, isN_str, isN_tup, isN_lst, isN_int, isN_non, eq_dO, ne_dO, eq_self, decide_true, decide_false, Bool.not_true, Bool.not_false, not_true_eq_false, not_false_eq_true]
      refine ⟨kl, by omega, ⟨bnd_small (show -1000000000 ≤ (((i + 2 : Nat) : Int) - 2 : Int) by omega) (show (((i + 2 : Nat) : Int) - 2 : Int) ≤ 1000000000 by omega), by decide⟩, ?_⟩
      have key : ∀ t, (∀ p, i + 1 - t ≤ p → p < i + 1 → 5 ≤ (crs ls w p).length ∧ ¬ ((∀ m, p ≤ m → m ≤ i + 1 → (crs ls w p).length ≤ (crs ls w m).length) ∧ last3 (crs ls w (i + 1)) = last3 (crs ls w p))) → (i + 1 ≤ t ∨ (crs ls w (i - t)).length ≤ 4) → Cin ls w (i + 1) := by
        intro t h1 h2
        refine ⟨fun a b hab hb e => ?_, fun j hj hs => ?_⟩
        · by_cases q : b = i + 1
          · subst q
            exact hin (crsL_mem.mpr ⟨a, by omega, e.symm⟩)
          · exact C.nd a b hab (by omega) e
        · by_cases q : j = i + 1
          · subst q
            obtain ⟨a, ha, z⟩ := hs
            rcases z with ⟨_, z2⟩ | ⟨z1, z2, z3⟩
            · exact hin (crsL_mem.mpr ⟨a, by omega, z2.symm⟩)
            · by_cases r : i + 1 - t ≤ a
              · exact (h1 a r ha).2 ⟨z2, z3⟩
              · rcases h2 with h2 | h2
                · omega
                · have := z2 (i - t) (by omega) (by omega)
                  have h2 : (itr (mendT ls) (i - t) w).length ≤ 4 := h2
                  omega
          · exact C.ns j (by omega) hs
      refine for_inv (fun t env s' => Iback ls w s (i + 1) t env s') _ 0 _ _ ⟨_, _, _, rfl, rfl, fun m a b => ?_, ⟨i + 1, by omega, Nat.le_refl _, rfl⟩, fun p a b => by omega⟩ ?_ ?_
      · rw [show m = i + 1 by omega]; exact Nat.le_refl _
      · rintro t x env s' hx ⟨L, _, _, rfl, rfl, hL, hL2, hp⟩
        obtain ⟨rfl, ht⟩ := rngC_at hx
        rw [Nat.zero_add] at hL hL2 hp
        have ht' : t ≤ i := by omega
        have np : (((i + 2 : Nat) : Int) - 2 - (t : Nat)) = ((i - t : Nat) : Int) := by omega
        rw [np]
        have pl := crs_len h w
        have lp : (crs ls w (i - t)).length ≤ 387 := len_bound (mach h) wc (by omega) (fun v => (mendT_len h (w := v)).1) (i - t) fun j hj => C.ns j (by omega)
        simp only [wE_c, wE_v, wE_vo, wE_bin, wE_neg, wE_not, wE_cmp, wE_chain, wE_or, wE_ite, wE_call, wE_b1, wE_b2, wE_isi, wE_m0, wE_m1, wE_idx, wE_sl, wE_ss, ss_lst, mul_str, isn_bl, notn_bl, wE_tup, wE_lst, wE_cel, wE_comp, wEs_nil, wEs_cons, wEo_no, wEo_so, wC_no, wC_so, wI_e, wI_rng, wI_enum, wI_zip, wI_map, wSs_nil, wSs_cons, wS_set, wS_seto, wS_unp, wS_par, wS_app, wS_setc, wS_drop, wS_ret, wS_reto, wS_retN, wS_pass, wS_brk, wS_cont, wS_fail, wS_ite, wS_for, wR_nil, wR_cons, seqQ_nx, seqQ_ret, seqQ_brk, seqQ_cont, outQ_nx, outQ_ret, outQ_brk, outQ_cont, d_sh, d_fr, d_vw, vw_sh, vw_fr, vw_vw, add_int, add_str, add_tup, add_lst, sub_int, mul_int, fdiv_int, mod_int, eq_str, ne_str, eq_int, ne_int, eq_bl, ne_bl, eq_sn, lt_int, le_int, gt_int, ge_int, isn_any, notn_any, in_sign, nin_sign, len_str, len_tup, len_lst, len_scr, all_map, any_map, list_tup, list_lst, list_str, tuple_lst, tuple_tup, int_int, abs_int, min_int, own_sh, own_fr, bool_sh, int_sh, ends_str, starts_str, lower_str, upper_str, sl_lst, sl_tup, sl_str, ix_lst, ix_tup, ix_scr, ix_str, ix_cell, at_zero, at_succ, set_zero, set_succ, startE_zero, startE_cons, Op_some, Op_none, bT_nm, bT_tup, bT_nil, bT_cons, pS_nil, pS_fr, pS_sh, wipe_nil, wipe_cons, it_lst, it_tup, it_str, rng_one, rng_two, zip_tup, zip_lst, fr_fr, sh_sh, lst_lst, cel_cel, in_in, List.replicate_succ, List.replicate_zero, decide_eq_true_iff, true_and, and_true, ite_true, ite_false, if_true, if_false, Bool.false_eq_true, Bool.not_eq_true', List.length_cons, List.length_nil, isi_str, isi_tup, isi_lst, isi_int, isi_non, isi_bl, eq_tup, ne_tup, eq_lst, ne_lst, lt_tup, in_lst, nin_lst, nin_tup, at_0, at_1, at_2, at_3, Bool.true_eq_false, wE_rev, wS_seti, set_lst, eq_non_str, ne_non_str, ne_str_non, eq_non, ne_non, wE_dic0, wE_dic1, wE_dicL, wE_compI, wE_lrng, wE_rep, rep_str, wE_lix, dic_dic, key_str, key_int, in_dicS, nin_dicS, ix_dicS, set_dicS, min_lst, max_lst, max_int, sl_E, ix_E0, ix_E1, ix_E2, bT_E, isN_E, isN_dO, isN_str, isN_tup, isN_lst, isN_int, isN_non, eq_dO, ne_dO, eq_self, decide_true, decide_false, Bool.not_true, Bool.not_false, not_true_eq_false, not_false_eq_true]
        rw [at_crs (p := i - t) rfl (by omega)]
        simp only [wE_c, wE_v, wE_vo, wE_bin, wE_neg, wE_not, wE_cmp, wE_chain, wE_or, wE_ite, wE_call, wE_b1, wE_b2, wE_isi, wE_m0, wE_m1, wE_idx, wE_sl, wE_ss, ss_lst, mul_str, isn_bl, notn_bl, wE_tup, wE_lst, wE_cel, wE_comp, wEs_nil, wEs_cons, wEo_no, wEo_so, wC_no, wC_so, wI_e, wI_rng, wI_enum, wI_zip, wI_map, wSs_nil, wSs_cons, wS_set, wS_seto, wS_unp, wS_par, wS_app, wS_setc, wS_drop, wS_ret, wS_reto, wS_retN, wS_pass, wS_brk, wS_cont, wS_fail, wS_ite, wS_for, wR_nil, wR_cons, seqQ_nx, seqQ_ret, seqQ_brk, seqQ_cont, outQ_nx, outQ_ret, outQ_brk, outQ_cont, d_sh, d_fr, d_vw, vw_sh, vw_fr, vw_vw, add_int, add_str, add_tup, add_lst, sub_int, mul_int, fdiv_int, mod_int, eq_str, ne_str, eq_int, ne_int, eq_bl, ne_bl, eq_sn, lt_int, le_int, gt_int, ge_int, isn_any, notn_any, in_sign, nin_sign, len_str, len_tup, len_lst, len_scr, all_map, any_map, list_tup, list_lst, list_str, tuple_lst, tuple_tup, int_int, abs_int, min_int, own_sh, own_fr, bool_sh, int_sh, ends_str, starts_str, lower_str, upper_str, sl_lst, sl_tup, sl_str, ix_lst, ix_tup, ix_scr, ix_str, ix_cell, at_zero, at_succ, set_zero, set_succ, startE_zero, startE_cons, Op_some, Op_none, bT_nm, bT_tup, bT_nil, bT_cons, pS_nil, pS_fr, pS_sh, wipe_nil, wipe_cons, it_lst, it_tup, it_str, rng_one, rng_two, zip_tup, zip_lst, fr_fr, sh_sh, lst_lst, cel_cel, in_in, List.replicate_succ, List.replicate_zero, decide_eq_true_iff, true_and, and_true, ite_true, ite_false, if_true, if_false, Bool.false_eq_true, Bool.not_eq_true', List.length_cons, List.length_nil, isi_str, isi_tup, isi_lst, isi_int, isi_non, isi_bl, eq_tup, ne_tup, eq_lst, ne_lst, lt_tup, in_lst, nin_lst, nin_tup, at_0, at_1, at_2, at_3, Bool.true_eq_false, wE_rev, wS_seti, set_lst, eq_non_str, ne_non_str, ne_str_non, eq_non, ne_non, wE_dic0, wE_dic1, wE_dicL, wE_compI, wE_lrng, wE_rep, rep_str, wE_lix, dic_dic, key_str, key_int, in_dicS, nin_dicS, ix_dicS, set_dicS, min_lst, max_lst, max_int, sl_E, ix_E0, ix_E1, ix_E2, bT_E, isN_E, isN_dO, isN_str, isN_tup, isN_lst, isN_int, isN_non, eq_dO, ne_dO, eq_self, decide_true, decide_false, Bool.not_true, Bool.not_false, not_true_eq_false, not_false_eq_true]
        refine ⟨by omega, ?_⟩
        by_cases h4 : ((crs ls w (i - t)).length : Int) ≤ 4
        · rw [if_pos h4]
          exact ⟨_, _, _, _, rfl, rfl, key t hp (.inr (by omega))⟩
        · rw [if_neg h4]
          have h5 : 5 ≤ (crs ls w (i - t)).length := by omega
          have go : ¬ ((∀ m, i - t ≤ m → m ≤ i + 1 → (crs ls w (i - t)).length ≤ (crs ls w m).length) ∧ last3 (crs ls w (i + 1)) = last3 (crs ls w (i - t))) → ∀ z, Iback ls w s' (i + 1) (0 + t + 1) [some (dL ls), some (.str (crs ls w (i + 1))), some (.lst ((crsL ls w (i + 1)).map .str)), some (coK ls w (i + 1)), some (.int (if ((crs ls w (i - t)).length : Int) < (L : Nat) then ((crs ls w (i - t)).length : Int) else (L : Nat))), some (.int ((i - t : Nat) : Int)), z] s' := by
            intro hn z
            rw [show (if ((crs ls w (i - t)).length : Int) < (L : Nat) then ((crs ls w (i - t)).length : Int) else (L : Nat)) = ((min (crs ls w (i - t)).length L : Nat) : Int) by split <;> omega]
            refine ⟨min (crs ls w (i - t)).length L, _, _, rfl, rfl, fun m a b => ?_, ?_, fun p a b => ?_⟩
            · by_cases q : m = i - t
              · subst q; exact Nat.min_le_left _ _
              · exact Nat.le_trans (Nat.min_le_right _ _) (hL m (by omega) b)
            · rcases Nat.le_total (crs ls w (i - t)).length L with q | q
              · exact ⟨i - t, by omega, by omega, Nat.min_eq_left q⟩
              · obtain ⟨m, a, b, e⟩ := hL2
                exact ⟨m, by omega, b, (Nat.min_eq_right q).trans e⟩
            · by_cases q : p = i - t
              · subst q; exact ⟨h5, hn⟩
              · exact hp p (by omega) b
          simp only [wE_c, wE_v, wE_vo, wE_bin, wE_neg, wE_not, wE_cmp, wE_chain, wE_and, wE_or, wE_ite, wE_call, wE_b1, wE_b2, wE_isi, wE_m0, wE_m1, wE_idx, wE_sl, wE_ss, ss_lst, mul_str, isn_bl, notn_bl, wE_tup, wE_lst, wE_cel, wE_comp, wEs_nil, wEs_cons, wEo_no, wEo_so, wC_no, wC_so, wI_e, wI_rng, wI_enum, wI_zip, wI_map, wSs_nil, wSs_cons, wS_set, wS_seto, wS_unp, wS_par, wS_app, wS_setc, wS_drop, wS_ret, wS_reto, wS_retN, wS_pass, wS_brk, wS_cont, wS_fail, wS_ite, wS_for, wR_nil, wR_cons, seqQ_nx, seqQ_ret, seqQ_brk, seqQ_cont, outQ_nx, outQ_ret, outQ_brk, outQ_cont, d_sh, d_fr, d_vw, vw_sh, vw_fr, vw_vw, add_int, add_str, add_tup, add_lst, sub_int, mul_int, fdiv_int, mod_int, eq_str, ne_str, eq_int, ne_int, eq_bl, ne_bl, eq_sn, lt_int, le_int, gt_int, ge_int, isn_any, notn_any, in_sign, nin_sign, len_str, len_tup, len_lst, len_scr, all_map, any_map, list_tup, list_lst, list_str, tuple_lst, tuple_tup, int_int, abs_int, min_int, own_sh, own_fr, bool_sh, int_sh, ends_str, starts_str, lower_str, upper_str, sl_lst, sl_tup, sl_str, ix_lst, ix_tup, ix_scr, ix_str, ix_cell, at_zero, at_succ, set_zero, set_succ, startE_zero, startE_cons, Op_some, Op_none, bT_nm, bT_tup, bT_nil, bT_cons, pS_nil, pS_fr, pS_sh, wipe_nil, wipe_cons, it_lst, it_tup, it_str, rng_one, rng_two, zip_tup, zip_lst, fr_fr, sh_sh, lst_lst, cel_cel, in_in, List.replicate_succ, List.replicate_zero, decide_eq_true_iff, true_and, and_true, ite_true, ite_false, if_true, if_false, Bool.false_eq_true, Bool.not_eq_true', List.length_cons, List.length_nil, isi_str, isi_tup, isi_lst, isi_int, isi_non, isi_bl, eq_tup, ne_tup, eq_lst, ne_lst, lt_tup, in_lst, nin_lst, nin_tup, at_0, at_1, at_2, at_3, Bool.true_eq_false, wE_rev, wS_seti, set_lst, eq_non_str, ne_non_str, ne_str_non, eq_non, ne_non, wE_dic0, wE_dic1, wE_dicL, wE_compI, wE_lrng, wE_rep, rep_str, wE_lix, dic_dic, key_str, key_int, in_dicS, nin_dicS, ix_dicS, set_dicS, min_lst, max_lst, max_int, sl_E, ix_E0, ix_E1, ix_E2, bT_E, isN_E, isN_dO, isN_str, isN_tup, isN_lst, isN_int, isN_non, eq_dO, ne_dO, eq_self, decide_true, decide_false, Bool.not_true, Bool.not_false, not_true_eq_false, not_false_eq_true]
          by_cases hle : ((crs ls w (i - t)).length : Int) ≤ (L : Nat)
          · rw [if_pos hle]
            rw [at_crs (p := i - t) rfl (by omega)]
            have q5 : 5 ≤ (crs ls w (i + 1)).length := by
              have := hL (i + 1) (by omega) (Nat.le_refl _)
              omega
            simp only [cut_last3 (show 3 ≤ (crs ls w (i - t)).length by omega), cut_last3 (show 3 ≤ (crs ls w (i + 1)).length by omega), wE_c, wE_v, wE_vo, wE_bin, wE_neg, wE_not, wE_cmp, wE_chain, wE_and, wE_or, wE_ite, wE_call, wE_b1, wE_b2, wE_isi, wE_m0, wE_m1, wE_idx, wE_sl, wE_ss, ss_lst, mul_str, isn_bl, notn_bl, wE_tup, wE_lst, wE_cel, wE_comp, wEs_nil, wEs_cons, wEo_no, wEo_so, wC_no, wC_so, wI_e, wI_rng, wI_enum, wI_zip, wI_map, wSs_nil, wSs_cons, wS_set, wS_seto, wS_unp, wS_par, wS_app, wS_setc, wS_drop, wS_ret, wS_reto, wS_retN, wS_pass, wS_brk, wS_cont, wS_fail, wS_ite, wS_for, wR_nil, wR_cons, seqQ_nx, seqQ_ret, seqQ_brk, seqQ_cont, outQ_nx, outQ_ret, outQ_brk, outQ_cont, d_sh, d_fr, d_vw, vw_sh, vw_fr, vw_vw, add_int, add_str, add_tup, add_lst, sub_int, mul_int, fdiv_int, mod_int, eq_str, ne_str, eq_int, ne_int, eq_bl, ne_bl, eq_sn, lt_int, le_int, gt_int, ge_int, isn_any, notn_any, in_sign, nin_sign, len_str, len_tup, len_lst, len_scr, all_map, any_map, list_tup, list_lst, list_str, tuple_lst, tuple_tup, int_int, abs_int, min_int, own_sh, own_fr, bool_sh, int_sh, ends_str, starts_str, lower_str, upper_str, sl_lst, sl_tup, sl_str, ix_lst, ix_tup, ix_scr, ix_str, ix_cell, at_zero, at_succ, set_zero, set_succ, startE_zero, startE_cons, Op_some, Op_none, bT_nm, bT_tup, bT_nil, bT_cons, pS_nil, pS_fr, pS_sh, wipe_nil, wipe_cons, it_lst, it_tup, it_str, rng_one, rng_two, zip_tup, zip_lst, fr_fr, sh_sh, lst_lst, cel_cel, in_in, List.replicate_succ, List.replicate_zero, decide_eq_true_iff, true_and, and_true, ite_true, ite_false, if_true, if_false, Bool.false_eq_true, Bool.not_eq_true', List.length_cons, List.length_nil, isi_str, isi_tup, isi_lst, isi_int, isi_non, isi_bl, eq_tup, ne_tup, eq_lst, ne_lst, lt_tup, in_lst, nin_lst, nin_tup, at_0, at_1, at_2, at_3, Bool.true_eq_false, wE_rev, wS_seti, set_lst, eq_non_str, ne_non_str, ne_str_non, eq_non, ne_non, wE_dic0, wE_dic1, wE_dicL, wE_compI, wE_lrng, wE_rep, rep_str, wE_lix, dic_dic, key_str, key_int, in_dicS, nin_dicS, ix_dicS, set_dicS, min_lst, max_lst, max_int, sl_E, ix_E0, ix_E1, ix_E2, bT_E, isN_E, isN_dO, isN_str, isN_tup, isN_lst, isN_int, isN_non, eq_dO, ne_dO, eq_self, decide_true, decide_false, Bool.not_true, Bool.not_false, not_true_eq_false, not_false_eq_true]
            refine ⟨by omega, ?_⟩
            have mn : ∀ m, i - t ≤ m → m ≤ i + 1 → (crs ls w (i - t)).length ≤ (crs ls w m).length := fun m a b => by
              by_cases q : m = i - t
              · rw [q]; exact Nat.le_refl _
              · have := hL m (by omega) b
                omega
            by_cases he : List.drop ((crs ls w (i - t)).length - 3) (crs ls w (i - t)) = List.drop ((crs ls w (i + 1)).length - 3) (crs ls w (i + 1))
            · rw [if_pos he]
              have gt := mn (i + 1) (by omega) (Nat.le_refl _)
              refine ⟨by omega, by omega, i + 1, i - t, (crs ls w (i + 1)).length - (crs ls w (i - t)).length, ?_, ⟨by omega, ?_, ?_⟩, by omega, fun m hm => by
                by_cases q : m = i + 1
                · rw [q]; exact len1
                · exact lenA m (by omega)⟩
              · rw [show (((crs ls w (i + 1)).length : Int) - ((crs ls w (i - t)).length : Int)) = (((crs ls w (i + 1)).length - (crs ls w (i - t)).length : Nat) : Int) by omega]; rfl
              · intro a b hab hb e
                by_cases q : b = i + 1
                · subst q
                  exact hin (crsL_mem.mpr ⟨a, by omega, e.symm⟩)
                · exact C.nd a b hab (by omega) e
              · refine .inr ⟨?_, by omega, h5, mn, he.symm, ?_⟩
                · refine Nat.pos_of_ne_zero fun z => ?_
                  have ei : itr (mendT ls) (t + 1) (crs ls w (i - t)) = crs ls w (i + 1) := by
                    show itr (mendT ls) (t + 1) (itr (mendT ls) (i - t) w) = _
                    rw [← itr_add, show i - t + (t + 1) = i + 1 by omega]
                  obtain ⟨f, g, tt, ew, tl, f2, ep, _⟩ := again (mach h) (w := crs ls w (i - t)) (p := t + 1) (by omega) h5 (fun k hk => by
                    show _ ≤ (itr (mendT ls) k (itr (mendT ls) (i - t) w)).length
                    rw [← itr_add]; exact mn _ (by omega) (by omega)) (by rw [ei]; exact he.symm)
                  rw [ei] at ep
                  have l1 := congrArg List.length ep
                  have l2 := congrArg List.length ew
                  simp only [List.length_append] at l1 l2
                  have : g = [] := List.length_eq_zero_iff.mp (by omega)
                  subst this
                  rw [List.append_nil, ← ew] at ep
                  exact hin (crsL_mem.mpr ⟨i - t, by omega, ep⟩)
                · show (crs ls w (i + 1)).length = (crs ls w (i - t)).length + _
                  omega
            · rw [if_neg he]
              exact ⟨by omega, go (fun z => he z.2.symm) _⟩
          · rw [if_neg hle]
            exact go (fun z => by
              obtain ⟨m, a, b, e⟩ := hL2
              have := z.1 m (by omega) b
              omega) _
      · rintro env s' ⟨L, _, _, rfl, rfl, hL, hL2, hp⟩
        rw [rngC_length] at hp
        simp only [wE_c, wE_v, wE_vo, wE_bin, wE_neg, wE_not, wE_cmp, wE_chain, wE_and, wE_or, wE_ite, wE_call, wE_b1, wE_b2, wE_isi, wE_m0, wE_m1, wE_idx, wE_sl, wE_ss, ss_lst, mul_str, isn_bl, notn_bl, wE_tup, wE_lst, wE_cel, wE_comp, wEs_nil, wEs_cons, wEo_no, wEo_so, wC_no, wC_so, wI_e, wI_rng, wI_enum, wI_zip, wI_map, wSs_nil, wSs_cons, wS_set, wS_seto, wS_unp, wS_par, wS_app, wS_setc, wS_drop, wS_ret, wS_reto, wS_retN, wS_pass, wS_brk, wS_cont, wS_fail, wS_ite, wS_for, wR_nil, wR_cons, seqQ_nx, seqQ_ret, seqQ_brk, seqQ_cont, outQ_nx, outQ_ret, outQ_brk, outQ_cont, d_sh, d_fr, d_vw, vw_sh, vw_fr, vw_vw, add_int, add_str, add_tup, add_lst, sub_int, mul_int, fdiv_int, mod_int, eq_str, ne_str, eq_int, ne_int, eq_bl, ne_bl, eq_sn, lt_int, le_int, gt_int, ge_int, isn_any, notn_any, in_sign, nin_sign, len_str, len_tup, len_lst, len_scr, all_map, any_map, list_tup, list_lst, list_str, tuple_lst, tuple_tup, int_int, abs_int, min_int, own_sh, own_fr, bool_sh, int_sh, ends_str, starts_str, lower_str, upper_str, sl_lst, sl_tup, sl_str, ix_lst, ix_tup, ix_scr, ix_str, ix_cell, at_zero, at_succ, set_zero, set_succ, startE_zero, startE_cons, Op_some, Op_none, bT_nm, bT_tup, bT_nil, bT_cons, pS_nil, pS_fr, pS_sh, wipe_nil, wipe_cons, it_lst, it_tup, it_str, rng_one, rng_two, zip_tup, zip_lst, fr_fr, sh_sh, lst_lst, cel_cel, in_in, List.replicate_succ, List.replicate_zero, decide_eq_true_iff, true_and, and_true, ite_true, ite_false, if_true, if_false, Bool.false_eq_true, Bool.not_eq_true', List.length_cons, List.length_nil, isi_str, isi_tup, isi_lst, isi_int, isi_non, isi_bl, eq_tup, ne_tup, eq_lst, ne_lst, lt_tup, in_lst, nin_lst, nin_tup, at_0, at_1, at_2, at_3, Bool.true_eq_false, wE_rev, wS_seti, set_lst, eq_non_str, ne_non_str, ne_str_non, eq_non, ne_non, wE_dic0, wE_dic1, wE_dicL, wE_compI, wE_lrng, wE_rep, rep_str, wE_lix, dic_dic, key_str, key_int, in_dicS, nin_dicS, ix_dicS, set_dicS, min_lst, max_lst, max_int, sl_E, ix_E0, ix_E1, ix_E2, bT_E, isN_E, isN_dO, isN_str, isN_tup, isN_lst, isN_int, isN_non, eq_dO, ne_dO, eq_self, decide_true, decide_false, Bool.not_true, Bool.not_false, not_true_eq_false, not_false_eq_true]
        exact ⟨_, _, _, _, rfl, rfl, key _ (by intro p a b; exact hp p (by omega) b) (.inl (by omega))⟩
end MWL
set_option Elab.async false
set_option linter.all false
set_option maxRecDepth 100000
set_option maxHeartbeats 1000000
set_option autoImplicit false
/-! Plain: passes.py: lengths, passes until a length, words that come again. -/
namespace MWL
open MW
theorem need_both_ok {wf k : Nat} {st : Store} {ls : List Ent} {w : Tx} {Q : Rs → Store → Prop} (h : VL ls) (hw : isLet w 12 = true) :
    Ev (callF GD wf (k + 1 + 1 + 1 + 1 + 1) 151 [dL ls, .str w] st) Q ↔ Q (.sh .non) st := by
  rw [Ev_callD (d := d151) rfl rfl]
  unfold d151 b151
  simp only [need_list_ok h, need_word_ok hw, wE_c, wE_v, wE_vo, wE_bin, wE_neg, wE_not, wE_cmp, wE_chain, wE_and, wE_or, wE_ite, wE_call, wE_b1, wE_b2, wE_isi, wE_m0, wE_m1, wE_idx, wE_sl, wE_ss, ss_lst, mul_str, isn_bl, notn_bl, wE_tup, wE_lst, wE_cel, wE_comp, wEs_nil, wEs_cons, wEo_no, wEo_so, wC_no, wC_so, wI_e, wI_rng, wI_enum, wI_zip, wI_map, wSs_nil, wSs_cons, wS_set, wS_seto, wS_unp, wS_par, wS_app, wS_setc, wS_drop, wS_ret, wS_reto, wS_retN, wS_pass, wS_brk, wS_cont, wS_fail, wS_ite, wS_for, wR_nil, wR_cons, seqQ_nx, seqQ_ret, seqQ_brk, seqQ_cont, outQ_nx, outQ_ret, outQ_brk, outQ_cont, d_sh, d_fr, d_vw, vw_sh, vw_fr, vw_vw, add_int, add_str, add_tup, add_lst, sub_int, mul_int, fdiv_int, mod_int, eq_str, ne_str, eq_int, ne_int, eq_bl, ne_bl, eq_sn, lt_int, le_int, gt_int, ge_int, isn_any, notn_any, in_sign, nin_sign, len_str, len_tup, len_lst, len_scr, all_map, any_map, list_tup, list_lst, list_str, tuple_lst, tuple_tup, int_int, abs_int, min_int, own_sh, own_fr, bool_sh, int_sh, ends_str, starts_str, lower_str, upper_str, sl_lst, sl_tup, sl_str, ix_lst, ix_tup, ix_scr, ix_str, ix_cell, at_zero, at_succ, set_zero, set_succ, startE_zero, startE_cons, Op_some, Op_none, bT_nm, bT_tup, bT_nil, bT_cons, pS_nil, pS_fr, pS_sh, wipe_nil, wipe_cons, it_lst, it_tup, it_str, rng_one, rng_two, zip_tup, zip_lst, fr_fr, sh_sh, lst_lst, cel_cel, in_in, List.replicate_succ, List.replicate_zero, decide_eq_true_iff, true_and, and_true, ite_true, ite_false, if_true, if_false, Bool.false_eq_true, Bool.not_eq_true', List.length_cons, List.length_nil, isi_str, isi_tup, isi_lst, isi_int, isi_non, isi_bl, eq_tup, ne_tup, eq_lst, ne_lst, lt_tup, in_lst, nin_lst, nin_tup, at_0, at_1, at_2, at_3, Bool.true_eq_false, wE_rev, wS_seti, set_lst, eq_non_str, ne_non_str, ne_str_non, eq_non, ne_non, wE_dic0, wE_dic1, wE_dicL, wE_compI, wE_lrng, wE_rep, rep_str, wE_lix, dic_dic, key_str, key_int, in_dicS, nin_dicS, ix_dicS, set_dicS, min_lst, max_lst, max_int, sl_E, ix_E0, ix_E1, ix_E2, bT_E, isN_E, isN_dO, isN_str, isN_tup, isN_lst, isN_int, isN_non, eq_dO, ne_dO, eq_self, decide_true, decide_false, Bool.not_true, Bool.not_false, not_true_eq_false, not_false_eq_true]
theorem emodN (a b : Nat) : ((a : Int) % (b : Int)) = ((a % b : Nat) : Int) := rfl
theorem edivN (a b : Nat) : ((a : Int) / (b : Int)) = ((a / b : Nat) : Int) := rfl
theorem length_after_ok {B wf k : Nat} {st : Store} {ls : List Ent} {w : Tx} {t : Int} {Q : Rs → Store → Prop} (hB : ∃ j, j ≤ B ∧ stopsAt ls w j) (hB2 : B ≤ 16000000) (hwf : B + 1 < wf) (h : VL ls) (hw : isLet w 12 = true)
    (h0 : 0 ≤ t) (h18 : t ≤ 1000000000000000000) (hq : Q (.sh (.int ((crs ls w t.toNat).length : Nat))) st) :
    Ev (callF GD wf (k + 1 + 1 + 1 + 1 + 1 + 1) 152 [dL ls, .str w, .int t] st) Q := by
  obtain ⟨T, rfl⟩ : ∃ T : Nat, t = (T : Nat) := ⟨t.toNat, by omega⟩
  rw [Int.toNat_natCast] at hq
  rw [Ev_callD (d := d152) rfl rfl]
  unfold d152 b152
  simp only [need_both_ok h hw, between_ok, h0, h18, decide_true, Bool.and_self, Bool.not_true, wE_c, wE_v, wE_vo, wE_bin, wE_neg, wE_not, wE_cmp, wE_chain, wE_and, wE_or, wE_ite, wE_call, wE_b1, wE_b2, wE_isi, wE_m0, wE_m1, wE_idx, wE_sl, wE_ss, ss_lst, mul_str, isn_bl, notn_bl, wE_tup, wE_lst, wE_cel, wE_comp, wEs_nil, wEs_cons, wEo_no, wEo_so, wC_no, wC_so, wI_e, wI_rng, wI_enum, wI_zip, wI_map, wSs_nil, wSs_cons, wS_set, wS_seto, wS_unp, wS_par, wS_app, wS_setc, wS_drop, wS_ret, wS_reto, wS_retN, wS_pass, wS_brk, wS_cont, wS_fail, wS_ite, wS_for, wR_nil, wR_cons, seqQ_nx, seqQ_ret, seqQ_brk, seqQ_cont, outQ_nx, outQ_ret, outQ_brk, outQ_cont, d_sh, d_fr, d_vw, vw_sh, vw_fr, vw_vw, add_int, add_str, add_tup, add_lst, sub_int, mul_int, fdiv_int, mod_int, eq_str, ne_str, eq_int, ne_int, eq_bl, ne_bl, eq_sn, lt_int, le_int, gt_int, ge_int, isn_any, notn_any, in_sign, nin_sign, len_str, len_tup, len_lst, len_scr, all_map, any_map, list_tup, list_lst, list_str, tuple_lst, tuple_tup, int_int, abs_int, min_int, own_sh, own_fr, bool_sh, int_sh, ends_str, starts_str, lower_str, upper_str, sl_lst, sl_tup, sl_str, ix_lst, ix_tup, ix_scr, ix_str, ix_cell, at_zero, at_succ, set_zero, set_succ, startE_zero, startE_cons, Op_some, Op_none, bT_nm, bT_tup, bT_nil, bT_cons, pS_nil, pS_fr, pS_sh, wipe_nil, wipe_cons, it_lst, it_tup, it_str, rng_one, rng_two, zip_tup, zip_lst, fr_fr, sh_sh, lst_lst, cel_cel, in_in, List.replicate_succ, List.replicate_zero, decide_eq_true_iff, true_and, and_true, ite_true, ite_false, if_true, if_false, Bool.false_eq_true, Bool.not_eq_true', List.length_cons, List.length_nil, isi_str, isi_tup, isi_lst, isi_int, isi_non, isi_bl, eq_tup, ne_tup, eq_lst, ne_lst, lt_tup, in_lst, nin_lst, nin_tup, at_0, at_1, at_2, at_3, Bool.true_eq_false, wE_rev, wS_seti, set_lst, eq_non_str, ne_non_str, ne_str_non, eq_non, ne_non, wE_dic0, wE_dic1, wE_dicL, wE_compI, wE_lrng, wE_rep, rep_str, wE_lix, dic_dic, key_str, key_int, in_dicS, nin_dicS, ix_dicS, set_dicS, min_lst, max_lst, max_int, sl_E, ix_E0, ix_E1, ix_E2, bT_E, isN_E, isN_dO, isN_str, isN_tup, isN_lst, isN_int, isN_non, eq_dO, ne_dO, eq_self, decide_true, decide_false, Bool.not_true, Bool.not_false, not_true_eq_false, not_false_eq_true]
  refine (course_of_ok hB hB2 hwf h hw).mono ?_
  rintro x s ⟨rfl, n, b, more, rfl, C, hn, hl⟩
  have hbn := C.le
  simp only [dCo, List.length_map, crsL_len, wE_c, wE_v, wE_vo, wE_bin, wE_neg, wE_not, wE_cmp, wE_chain, wE_and, wE_or, wE_ite, wE_call, wE_b1, wE_b2, wE_isi, wE_m0, wE_m1, wE_idx, wE_sl, wE_ss, ss_lst, mul_str, isn_bl, notn_bl, wE_tup, wE_lst, wE_cel, wE_comp, wEs_nil, wEs_cons, wEo_no, wEo_so, wC_no, wC_so, wI_e, wI_rng, wI_enum, wI_zip, wI_map, wSs_nil, wSs_cons, wS_set, wS_seto, wS_unp, wS_par, wS_app, wS_setc, wS_drop, wS_ret, wS_reto, wS_retN, wS_pass, wS_brk, wS_cont, wS_fail, wS_ite, wS_for, wR_nil, wR_cons, seqQ_nx, seqQ_ret, seqQ_brk, seqQ_cont, outQ_nx, outQ_ret, outQ_brk, outQ_cont, d_sh, d_fr, d_vw, vw_sh, vw_fr, vw_vw, add_int, add_str, add_tup, add_lst, sub_int, mul_int, fdiv_int, mod_int, eq_str, ne_str, eq_int, ne_int, eq_bl, ne_bl, eq_sn, lt_int, le_int, gt_int, ge_int, isn_any, notn_any, in_sign, nin_sign, len_str, len_tup, len_lst, len_scr, all_map, any_map, list_tup, list_lst, list_str, tuple_lst, tuple_tup, int_int, abs_int, min_int, own_sh, own_fr, bool_sh, int_sh, ends_str, starts_str, lower_str, upper_str, sl_lst, sl_tup, sl_str, ix_lst, ix_tup, ix_scr, ix_str, ix_cell, at_zero, at_succ, set_zero, set_succ, startE_zero, startE_cons, Op_some, Op_none, bT_nm, bT_tup, bT_nil, bT_cons, pS_nil, pS_fr, pS_sh, wipe_nil, wipe_cons, it_lst, it_tup, it_str, rng_one, rng_two, zip_tup, zip_lst, fr_fr, sh_sh, lst_lst, cel_cel, in_in, List.replicate_succ, List.replicate_zero, decide_eq_true_iff, true_and, and_true, ite_true, ite_false, if_true, if_false, Bool.false_eq_true, Bool.not_eq_true', List.length_cons, List.length_nil, isi_str, isi_tup, isi_lst, isi_int, isi_non, isi_bl, eq_tup, ne_tup, eq_lst, ne_lst, lt_tup, in_lst, nin_lst, nin_tup, at_0, at_1, at_2, at_3, Bool.true_eq_false, wE_rev, wS_seti, set_lst, eq_non_str, ne_non_str, ne_str_non, eq_non, ne_non, wE_dic0, wE_dic1, wE_dicL, wE_compI, wE_lrng, wE_rep, rep_str, wE_lix, dic_dic, key_str, key_int, in_dicS, nin_dicS, ix_dicS, set_dicS, min_lst, max_lst, max_int, sl_E, ix_E0, ix_E1, ix_E2, bT_E, isN_E, isN_dO, isN_str, isN_tup, isN_lst, isN_int, isN_non, eq_dO, ne_dO, eq_self, decide_true, decide_false, Bool.not_true, Bool.not_false, not_true_eq_false, not_false_eq_true]
  by_cases ht : (T : Int) < ((n + 1 : Nat) : Int)
  · rw [if_pos ht, at_crs (p := T) rfl (by omega)]
    simp only [wE_c, wE_v, wE_vo, wE_bin, wE_neg, wE_not, wE_cmp, wE_chain, wE_and, wE_or, wE_ite, wE_call, wE_b1, wE_b2, wE_isi, wE_m0, wE_m1, wE_idx, wE_sl, wE_ss, ss_lst, mul_str, isn_bl, notn_bl, wE_tup, wE_lst, wE_cel, wE_comp, wEs_nil, wEs_cons, wEo_no, wEo_so, wC_no, wC_so, wI_e, wI_rng, wI_enum, wI_zip, wI_map, wSs_nil, wSs_cons, wS_set, wS_seto, wS_unp, wS_par, wS_app, wS_setc, wS_drop, wS_ret, wS_reto, wS_retN, wS_pass, wS_brk, wS_cont, wS_fail, wS_ite, wS_for, wR_nil, wR_cons, seqQ_nx, seqQ_ret, seqQ_brk, seqQ_cont, outQ_nx, outQ_ret, outQ_brk, outQ_cont, d_sh, d_fr, d_vw, vw_sh, vw_fr, vw_vw, add_int, add_str, add_tup, add_lst, sub_int, mul_int, fdiv_int, mod_int, eq_str, ne_str, eq_int, ne_int, eq_bl, ne_bl, eq_sn, lt_int, le_int, gt_int, ge_int, isn_any, notn_any, in_sign, nin_sign, len_str, len_tup, len_lst, len_scr, all_map, any_map, list_tup, list_lst, list_str, tuple_lst, tuple_tup, int_int, abs_int, min_int, own_sh, own_fr, bool_sh, int_sh, ends_str, starts_str, lower_str, upper_str, sl_lst, sl_tup, sl_str, ix_lst, ix_tup, ix_scr, ix_str, ix_cell, at_zero, at_succ, set_zero, set_succ, startE_zero, startE_cons, Op_some, Op_none, bT_nm, bT_tup, bT_nil, bT_cons, pS_nil, pS_fr, pS_sh, wipe_nil, wipe_cons, it_lst, it_tup, it_str, rng_one, rng_two, zip_tup, zip_lst, fr_fr, sh_sh, lst_lst, cel_cel, in_in, List.replicate_succ, List.replicate_zero, decide_eq_true_iff, true_and, and_true, ite_true, ite_false, if_true, if_false, Bool.false_eq_true, Bool.not_eq_true', List.length_cons, List.length_nil, isi_str, isi_tup, isi_lst, isi_int, isi_non, isi_bl, eq_tup, ne_tup, eq_lst, ne_lst, lt_tup, in_lst, nin_lst, nin_tup, at_0, at_1, at_2, at_3, Bool.true_eq_false, wE_rev, wS_seti, set_lst, eq_non_str, ne_non_str, ne_str_non, eq_non, ne_non, wE_dic0, wE_dic1, wE_dicL, wE_compI, wE_lrng, wE_rep, rep_str, wE_lix, dic_dic, key_str, key_int, in_dicS, nin_dicS, ix_dicS, set_dicS, min_lst, max_lst, max_int, sl_E, ix_E0, ix_E1, ix_E2, bT_E, isN_E, isN_dO, isN_str, isN_tup, isN_lst, isN_int, isN_non, eq_dO, ne_dO, eq_self, decide_true, decide_false, Bool.not_true, Bool.not_false, not_true_eq_false, not_false_eq_true]
    exact ⟨by have := hl T (by omega); omega, hq⟩
  · rw [if_neg ht]
    by_cases hm : more = 0
    · subst hm
      have mp : (T - b) % (n + 1 - b) < n + 1 - b := Nat.mod_lt _ (by omega)
      have e := C.cyc_at (t := T) (by omega)
      rw [if_pos (show ((0 : Nat) : Int) = 0 from rfl)]
      refine ⟨by omega, ?_⟩
      rw [at_crs (p := b + (T - b) % (n + 1 - b)) (by
        rw [show ((T : Int) - (b : Nat)) = ((T - b : Nat) : Int) by omega, show (((n + 1 : Nat) : Int) - (b : Nat)) = ((n + 1 - b : Nat) : Int) by omega, emodN]; omega) (by omega)]
      simp only [wE_c, wE_v, wE_vo, wE_bin, wE_neg, wE_not, wE_cmp, wE_chain, wE_and, wE_or, wE_ite, wE_call, wE_b1, wE_b2, wE_isi, wE_m0, wE_m1, wE_idx, wE_sl, wE_ss, ss_lst, mul_str, isn_bl, notn_bl, wE_tup, wE_lst, wE_cel, wE_comp, wEs_nil, wEs_cons, wEo_no, wEo_so, wC_no, wC_so, wI_e, wI_rng, wI_enum, wI_zip, wI_map, wSs_nil, wSs_cons, wS_set, wS_seto, wS_unp, wS_par, wS_app, wS_setc, wS_drop, wS_ret, wS_reto, wS_retN, wS_pass, wS_brk, wS_cont, wS_fail, wS_ite, wS_for, wR_nil, wR_cons, seqQ_nx, seqQ_ret, seqQ_brk, seqQ_cont, outQ_nx, outQ_ret, outQ_brk, outQ_cont, d_sh, d_fr, d_vw, vw_sh, vw_fr, vw_vw, add_int, add_str, add_tup, add_lst, sub_int, mul_int, fdiv_int, mod_int, eq_str, ne_str, eq_int, ne_int, eq_bl, ne_bl, eq_sn, lt_int, le_int, gt_int, ge_int, isn_any, notn_any, in_sign, nin_sign, len_str, len_tup, len_lst, len_scr, all_map, any_map, list_tup, list_lst, list_str, tuple_lst, tuple_tup, int_int, abs_int, min_int, own_sh, own_fr, bool_sh, int_sh, ends_str, starts_str, lower_str, upper_str, sl_lst, sl_tup, sl_str, ix_lst, ix_tup, ix_scr, ix_str, ix_cell, at_zero, at_succ, set_zero, set_succ, startE_zero, startE_cons, Op_some, Op_none, bT_nm, bT_tup, bT_nil, bT_cons, pS_nil, pS_fr, pS_sh, wipe_nil, wipe_cons, it_lst, it_tup, it_str, rng_one, rng_two, zip_tup, zip_lst, fr_fr, sh_sh, lst_lst, cel_cel, in_in, List.replicate_succ, List.replicate_zero, decide_eq_true_iff, true_and, and_true, ite_true, ite_false, if_true, if_false, Bool.false_eq_true, Bool.not_eq_true', List.length_cons, List.length_nil, isi_str, isi_tup, isi_lst, isi_int, isi_non, isi_bl, eq_tup, ne_tup, eq_lst, ne_lst, lt_tup, in_lst, nin_lst, nin_tup, at_0, at_1, at_2, at_3, Bool.true_eq_false, wE_rev, wS_seti, set_lst, eq_non_str, ne_non_str, ne_str_non, eq_non, ne_non, wE_dic0, wE_dic1, wE_dicL, wE_compI, wE_lrng, wE_rep, rep_str, wE_lix, dic_dic, key_str, key_int, in_dicS, nin_dicS, ix_dicS, set_dicS, min_lst, max_lst, max_int, sl_E, ix_E0, ix_E1, ix_E2, bT_E, isN_E, isN_dO, isN_str, isN_tup, isN_lst, isN_int, isN_non, eq_dO, ne_dO, eq_self, decide_true, decide_false, Bool.not_true, Bool.not_false, not_true_eq_false, not_false_eq_true]
      refine ⟨by have := hl (b + (T - b) % (n + 1 - b)) (by omega); omega, ?_⟩
      rw [show crs ls w T = crs ls w (b + (T - b) % (n + 1 - b)) from e] at hq
      exact hq
    · have hb : b < n := by
        rcases C.fin with z | z
        · exact absurd z.1 hm
        · exact z.2.1
      have mp : (T - b) % (n - b) < n - b := Nat.mod_lt _ (by omega)
      have e := C.grow_at (mach h) (by omega) (t := T) (by omega)
      have m390 : more ≤ 390 := by
        have := hl n (Nat.le_refl _)
        rcases C.fin with z | z
        · exact absurd z.1 hm
        · have := z.2.2.2.2.2
          show more ≤ 390
          have q : (crs ls w n).length = (crs ls w b).length + more := this
          omega
      rw [if_neg (by omega)]
      rw [show ((T : Int) - (b : Nat)) = ((T - b : Nat) : Int) by omega, show (((n + 1 : Nat) : Int) - 1 - (b : Nat)) = ((n - b : Nat) : Int) by omega, emodN, edivN]
      refine ⟨⟨by omega, by omega⟩, by omega, ?_⟩
      rw [at_crs (p := b + (T - b) % (n - b)) (by omega) (by omega)]
      simp only [wE_c, wE_v, wE_vo, wE_bin, wE_neg, wE_not, wE_cmp, wE_chain, wE_and, wE_or, wE_ite, wE_call, wE_b1, wE_b2, wE_isi, wE_m0, wE_m1, wE_idx, wE_sl, wE_ss, ss_lst, mul_str, isn_bl, notn_bl, wE_tup, wE_lst, wE_cel, wE_comp, wEs_nil, wEs_cons, wEo_no, wEo_so, wC_no, wC_so, wI_e, wI_rng, wI_enum, wI_zip, wI_map, wSs_nil, wSs_cons, wS_set, wS_seto, wS_unp, wS_par, wS_app, wS_setc, wS_drop, wS_ret, wS_reto, wS_retN, wS_pass, wS_brk, wS_cont, wS_fail, wS_ite, wS_for, wR_nil, wR_cons, seqQ_nx, seqQ_ret, seqQ_brk, seqQ_cont, outQ_nx, outQ_ret, outQ_brk, outQ_cont, d_sh, d_fr, d_vw, vw_sh, vw_fr, vw_vw, add_int, add_str, add_tup, add_lst, sub_int, mul_int, fdiv_int, mod_int, eq_str, ne_str, eq_int, ne_int, eq_bl, ne_bl, eq_sn, lt_int, le_int, gt_int, ge_int, isn_any, notn_any, in_sign, nin_sign, len_str, len_tup, len_lst, len_scr, all_map, any_map, list_tup, list_lst, list_str, tuple_lst, tuple_tup, int_int, abs_int, min_int, own_sh, own_fr, bool_sh, int_sh, ends_str, starts_str, lower_str, upper_str, sl_lst, sl_tup, sl_str, ix_lst, ix_tup, ix_scr, ix_str, ix_cell, at_zero, at_succ, set_zero, set_succ, startE_zero, startE_cons, Op_some, Op_none, bT_nm, bT_tup, bT_nil, bT_cons, pS_nil, pS_fr, pS_sh, wipe_nil, wipe_cons, it_lst, it_tup, it_str, rng_one, rng_two, zip_tup, zip_lst, fr_fr, sh_sh, lst_lst, cel_cel, in_in, List.replicate_succ, List.replicate_zero, decide_eq_true_iff, true_and, and_true, ite_true, ite_false, if_true, if_false, Bool.false_eq_true, Bool.not_eq_true', List.length_cons, List.length_nil, isi_str, isi_tup, isi_lst, isi_int, isi_non, isi_bl, eq_tup, ne_tup, eq_lst, ne_lst, lt_tup, in_lst, nin_lst, nin_tup, at_0, at_1, at_2, at_3, Bool.true_eq_false, wE_rev, wS_seti, set_lst, eq_non_str, ne_non_str, ne_str_non, eq_non, ne_non, wE_dic0, wE_dic1, wE_dicL, wE_compI, wE_lrng, wE_rep, rep_str, wE_lix, dic_dic, key_str, key_int, in_dicS, nin_dicS, ix_dicS, set_dicS, min_lst, max_lst, max_int, sl_E, ix_E0, ix_E1, ix_E2, bT_E, isN_E, isN_dO, isN_str, isN_tup, isN_lst, isN_int, isN_non, eq_dO, ne_dO, eq_self, decide_true, decide_false, Bool.not_true, Bool.not_false, not_true_eq_false, not_false_eq_true]
      refine ⟨by have := hl (b + (T - b) % (n - b)) (by omega); omega, .inr ⟨by omega, by omega⟩, ?_⟩
      rw [show ((((crs ls w (b + (T - b) % (n - b))).length : Nat) : Int) + (((T - b) / (n - b) : Nat) : Int) * (more : Int)) = (((crs ls w T).length : Nat) : Int) by
        rw [show (crs ls w T).length = (crs ls w (b + (T - b) % (n - b))).length + (T - b) / (n - b) * more from e]
        simp only [Int.natCast_add, Int.natCast_mul]]
      exact hq
/-- the first pass behind which a word has at least so many letters -/
structure PuIs (ls : List Ent) (w : Tx) (s : Int) (r : Option Nat) : Prop where
  no : r = none → ∀ t, ((crs ls w t).length : Int) < s
  yes : ∀ t, r = some t → s ≤ ((crs ls w t).length : Int) ∧ ∀ j, j < t → ((crs ls w j).length : Int) < s
def dPu : Option Nat → D
  | none => .non
  | some t => .int (t : Nat)
def Ipu (ls : List Ent) (w : Tx) (S : Int) (n b more : Nat) (st : Store) (i : Nat) (xs : List Tx)  (env : En) (s : Store) : Prop := ∃  (z1 z3 z7 z8 z9 z10 z11 : Option D), env = [some (dL ls), z1, some (.int S), z3, some (.lst ((crsL ls w n).map .str)), some (.int (b : Nat)), some (.int (more : Nat)), z7, z8, z9, z10, z11] ∧  s = st ∧ i ≤ n + 1 ∧ xs = (crsL ls w n).drop i ∧ ∀ j, j < i → ((crs ls w j).length : Int) < S
/-- rounds until a length -/
def rnd (S : Int) (l more : Nat) : Nat := ((S - (l : Nat) + (more : Nat) - 1) / (more : Nat)).toNat
def puAt (ls : List Ent) (w : Tx) (S : Int) (n b more p : Nat) : Int := (p : Nat) + ((rnd S (crs ls w p).length more : Nat) : Int) * ((n - b : Nat) : Int)
def Ipl (ls : List Ent) (w : Tx) (S : Int) (n b more : Nat) (st : Store) (i : Nat)  (env : En) (s : Store) : Prop := ∃  (z0 z1 z3 z7 z8 z11 : Option D), env = [z0, z1, some (.int S), z3, some (.lst ((crsL ls w n).map .str)), some (.int (b : Nat)), some (.int (more : Nat)), z7, z8, some (.int ((n - b : Nat) : Int)), some (.lst (((List.range i).map fun k => puAt ls w S n b more (b + k)).map fun x => .int x)), z11] ∧  s = st
theorem rnd_ok {S : Int} {l more : Nat} (hm : 0 < more) (hl : (l : Int) < S) : ((S - (l : Nat) + (more : Nat) - 1) / (more : Nat)) = (rnd S l more : Nat) ∧ 0 < rnd S l more ∧ S ≤ (l : Int) + ((rnd S l more * more : Nat) : Int) ∧ ∀ k, S ≤ (l : Int) + ((k * more : Nat) : Int) → rnd S l more ≤ k := by
  obtain ⟨d, hd⟩ : ∃ d : Nat, S = (l : Int) + (d : Nat) ∧ 0 < d := ⟨(S - l).toNat, by omega, by omega⟩
  obtain ⟨rfl, d0⟩ := hd
  have e : (((l : Int) + (d : Nat) - (l : Nat) + (more : Nat) - 1) / (more : Nat)) = ((d + more - 1) / more : Nat) := by
    rw [show (l : Int) + (d : Nat) - (l : Nat) + (more : Nat) - 1 = ((d + more - 1 : Nat) : Int) by omega, edivN]
  have er : rnd ((l : Int) + (d : Nat)) l more = (d + more - 1) / more := by unfold rnd; rw [e, Int.toNat_natCast]
  rw [er]
  have h1 := Nat.div_add_mod (d + more - 1) more
  have h2 := Nat.mod_lt (d + more - 1) hm
  have h3 : more * ((d + more - 1) / more) = (d + more - 1) / more * more := Nat.mul_comm _ _
  refine ⟨e, Nat.div_pos (by omega) hm, by omega, fun k hk => ?_⟩
  have hk : d ≤ k * more := by omega
  have : (d + more - 1) / more < k + 1 := by
    rw [Nat.div_lt_iff_lt_mul hm, Nat.succ_mul]
    omega
  omega
theorem passes_until_ok {B wf k : Nat} {st : Store} {ls : List Ent} {w : Tx} {S : Int} (hB : ∃ j, j ≤ B ∧ stopsAt ls w j) (hB2 : B ≤ 16000000) (hwf : B + 1 < wf) (h : VL ls) (hw : isLet w 12 = true)
    (h0 : 1 ≤ S) (h18 : S ≤ 1000000000000000000) :
    Ev (callF GD wf (k + 1 + 1 + 1 + 1 + 1 + 1) 155 [dL ls, .str w, .int S] st) fun x s => s = st ∧ ∃ r, x = .sh (dPu r) ∧ PuIs ls w S r := by
  rw [Ev_callD (d := d155) rfl rfl]
  unfold d155 b155
  simp only [need_both_ok h hw, between_ok, h0, h18, decide_true, Bool.and_self, Bool.not_true, wE_c, wE_v, wE_vo, wE_bin, wE_neg, wE_not, wE_cmp, wE_chain, wE_and, wE_or, wE_ite, wE_call, wE_b1, wE_b2, wE_isi, wE_m0, wE_m1, wE_idx, wE_sl, wE_ss, ss_lst, mul_str, isn_bl, notn_bl, wE_tup, wE_lst, wE_cel, wE_comp, wEs_nil, wEs_cons, wEo_no, wEo_so, wC_no, wC_so, wI_e, wI_rng, wI_enum, wI_zip, wI_map, wSs_nil, wSs_cons, wS_set, wS_seto, wS_unp, wS_par, wS_app, wS_setc, wS_drop, wS_ret, wS_reto, wS_retN, wS_pass, wS_brk, wS_cont, wS_fail, wS_ite, wS_for, wR_nil, wR_cons, seqQ_nx, seqQ_ret, seqQ_brk, seqQ_cont, outQ_nx, outQ_ret, outQ_brk, outQ_cont, d_sh, d_fr, d_vw, vw_sh, vw_fr, vw_vw, add_int, add_str, add_tup, add_lst, sub_int, mul_int, fdiv_int, mod_int, eq_str, ne_str, eq_int, ne_int, eq_bl, ne_bl, eq_sn, lt_int, le_int, gt_int, ge_int, isn_any, notn_any, in_sign, nin_sign, len_str, len_tup, len_lst, len_scr, all_map, any_map, list_tup, list_lst, list_str, tuple_lst, tuple_tup, int_int, abs_int, min_int, own_sh, own_fr, bool_sh, int_sh, ends_str, starts_str, lower_str, upper_str, sl_lst, sl_tup, sl_str, ix_lst, ix_tup, ix_scr, ix_str, ix_cell, at_zero, at_succ, set_zero, set_succ, startE_zero, startE_cons, Op_some, Op_none, bT_nm, bT_tup, bT_nil, bT_cons, pS_nil, pS_fr, pS_sh, wipe_nil, wipe_cons, it_lst, it_tup, it_str, rng_one, rng_two, zip_tup, zip_lst, fr_fr, sh_sh, lst_lst, cel_cel, in_in, List.replicate_succ, List.replicate_zero, decide_eq_true_iff, true_and, and_true, ite_true, ite_false, if_true, if_false, Bool.false_eq_true, Bool.not_eq_true', List.length_cons, List.length_nil, isi_str, isi_tup, isi_lst, isi_int, isi_non, isi_bl, eq_tup, ne_tup, eq_lst, ne_lst, lt_tup, in_lst, nin_lst, nin_tup, at_0, at_1, at_2, at_3, Bool.true_eq_false, wE_rev, wS_seti, set_lst, eq_non_str, ne_non_str, ne_str_non, eq_non, ne_non, wE_dic0, wE_dic1, wE_dicL, wE_compI, wE_lrng, wE_rep, rep_str, wE_lix, dic_dic, key_str, key_int, in_dicS, nin_dicS, ix_dicS, set_dicS, min_lst, max_lst, max_int, sl_E, ix_E0, ix_E1, ix_E2, bT_E, isN_E, isN_dO, isN_str, isN_tup, isN_lst, isN_int, isN_non, eq_dO, ne_dO, eq_self, decide_true, decide_false, Bool.not_true, Bool.not_false, not_true_eq_false, not_false_eq_true]
  refine (course_of_ok hB hB2 hwf h hw).mono ?_
  rintro x s ⟨rfl, n, b, more, rfl, C, hn, hl⟩
  have hbn := C.le
  simp only [dCo, wE_c, wE_v, wE_vo, wE_bin, wE_neg, wE_not, wE_cmp, wE_chain, wE_and, wE_or, wE_ite, wE_call, wE_b1, wE_b2, wE_isi, wE_m0, wE_m1, wE_idx, wE_sl, wE_ss, ss_lst, mul_str, isn_bl, notn_bl, wE_tup, wE_lst, wE_cel, wE_comp, wEs_nil, wEs_cons, wEo_no, wEo_so, wC_no, wC_so, wI_e, wI_rng, wI_enum, wI_zip, wI_map, wSs_nil, wSs_cons, wS_set, wS_seto, wS_unp, wS_par, wS_app, wS_setc, wS_drop, wS_ret, wS_reto, wS_retN, wS_pass, wS_brk, wS_cont, wS_fail, wS_ite, wS_for, wR_nil, wR_cons, seqQ_nx, seqQ_ret, seqQ_brk, seqQ_cont, outQ_nx, outQ_ret, outQ_brk, outQ_cont, d_sh, d_fr, d_vw, vw_sh, vw_fr, vw_vw, add_int, add_str, add_tup, add_lst, sub_int, mul_int, fdiv_int, mod_int, eq_str, ne_str, eq_int, ne_int, eq_bl, ne_bl, eq_sn, lt_int, le_int, gt_int, ge_int, isn_any, notn_any, in_sign, nin_sign, len_str, len_tup, len_lst, len_scr, all_map, any_map, list_tup, list_lst, list_str, tuple_lst, tuple_tup, int_int, abs_int, min_int, own_sh, own_fr, bool_sh, int_sh, ends_str, starts_str, lower_str, upper_str, sl_lst, sl_tup, sl_str, ix_lst, ix_tup, ix_scr, ix_str, ix_cell, at_zero, at_succ, set_zero, set_succ, startE_zero, startE_cons, Op_some, Op_none, bT_nm, bT_tup, bT_nil, bT_cons, pS_nil, pS_fr, pS_sh, wipe_nil, wipe_cons, it_lst, it_tup, it_str, rng_one, rng_two, zip_tup, zip_lst, fr_fr, sh_sh, lst_lst, cel_cel, in_in, List.replicate_succ, List.replicate_zero, decide_eq_true_iff, true_and, and_true, ite_true, ite_false, if_true, if_false, Bool.false_eq_true, Bool.not_eq_true', List.length_cons, List.length_nil, isi_str, isi_tup, isi_lst, isi_int, isi_non, isi_bl, eq_tup, ne_tup, eq_lst, ne_lst, lt_tup, in_lst, nin_lst, nin_tup, at_0, at_1, at_2, at_3, Bool.true_eq_false, wE_rev, wS_seti, set_lst, eq_non_str, ne_non_str, ne_str_non, eq_non, ne_non, wE_dic0, wE_dic1, wE_dicL, wE_compI, wE_lrng, wE_rep, rep_str, wE_lix, dic_dic, key_str, key_int, in_dicS, nin_dicS, ix_dicS, set_dicS, min_lst, max_lst, max_int, sl_E, ix_E0, ix_E1, ix_E2, bT_E, isN_E, isN_dO, isN_str, isN_tup, isN_lst, isN_int, isN_non, eq_dO, ne_dO, eq_self, decide_true, decide_false, Bool.not_true, Bool.not_false, not_true_eq_false, not_false_eq_true]
  refine for_enum (f := D.str) (fun i xs env s' => Ipu ls w S n b more s i xs env s') _ 0 _ _ ⟨_, _, _, _, _, _, _, rfl, rfl, by omega, rfl, fun j hj => absurd hj (Nat.not_lt_zero j)⟩ ?_ ?_
  · rintro i x xs env s' ⟨_, _, _, _, _, _, _, rfl, rfl, hi, hx, hj⟩
    have hin : i ≤ n := by
      by_cases q : i = n + 1
      · rw [q, List.drop_of_length_le (by rw [crsL_len]; exact Nat.le_refl _)] at hx
        cases hx
      · omega
    have hxe : x = crs ls w i ∧ xs = (crsL ls w n).drop (i + 1) := by
      have hg := crsL_at ls w hin
      obtain ⟨h1, h2⟩ := List.getElem?_eq_some_iff.mp hg
      rw [List.drop_eq_getElem_cons h1, h2] at hx
      exact List.cons.inj hx
    obtain ⟨rfl, hxs⟩ := hxe
    simp only [wE_c, wE_v, wE_vo, wE_bin, wE_neg, wE_not, wE_cmp, wE_chain, wE_and, wE_or, wE_ite, wE_call, wE_b1, wE_b2, wE_isi, wE_m0, wE_m1, wE_idx, wE_sl, wE_ss, ss_lst, mul_str, isn_bl, notn_bl, wE_tup, wE_lst, wE_cel, wE_comp, wEs_nil, wEs_cons, wEo_no, wEo_so, wC_no, wC_so, wI_e, wI_rng, wI_enum, wI_zip, wI_map, wSs_nil, wSs_cons, wS_set, wS_seto, wS_unp, wS_par, wS_app, wS_setc, wS_drop, wS_ret, wS_reto, wS_retN, wS_pass, wS_brk, wS_cont, wS_fail, wS_ite, wS_for, wR_nil, wR_cons, seqQ_nx, seqQ_ret, seqQ_brk, seqQ_cont, outQ_nx, outQ_ret, outQ_brk, outQ_cont, d_sh, d_fr, d_vw, vw_sh, vw_fr, vw_vw, add_int, add_str, add_tup, add_lst, sub_int, mul_int, fdiv_int, mod_int, eq_str, ne_str, eq_int, ne_int, eq_bl, ne_bl, eq_sn, lt_int, le_int, gt_int, ge_int, isn_any, notn_any, in_sign, nin_sign, len_str, len_tup, len_lst, len_scr, all_map, any_map, list_tup, list_lst, list_str, tuple_lst, tuple_tup, int_int, abs_int, min_int, own_sh, own_fr, bool_sh, int_sh, ends_str, starts_str, lower_str, upper_str, sl_lst, sl_tup, sl_str, ix_lst, ix_tup, ix_scr, ix_str, ix_cell, at_zero, at_succ, set_zero, set_succ, startE_zero, startE_cons, Op_some, Op_none, bT_nm, bT_tup, bT_nil, bT_cons, pS_nil, pS_fr, pS_sh, wipe_nil, wipe_cons, it_lst, it_tup, it_str, rng_one, rng_two, zip_tup, zip_lst, fr_fr, sh_sh, lst_lst, cel_cel, in_in, List.replicate_succ, List.replicate_zero, decide_eq_true_iff, true_and, and_true, ite_true, ite_false, if_true, if_false, Bool.false_eq_true, Bool.not_eq_true', List.length_cons, List.length_nil, isi_str, isi_tup, isi_lst, isi_int, isi_non, isi_bl, eq_tup, ne_tup, eq_lst, ne_lst, lt_tup, in_lst, nin_lst, nin_tup, at_0, at_1, at_2, at_3, Bool.true_eq_false, wE_rev, wS_seti, set_lst, eq_non_str, ne_non_str, ne_str_non, eq_non, ne_non, wE_dic0, wE_dic1, wE_dicL, wE_compI, wE_lrng, wE_rep, rep_str, wE_lix, dic_dic, key_str, key_int, in_dicS, nin_dicS, ix_dicS, set_dicS, min_lst, max_lst, max_int, sl_E, ix_E0, ix_E1, ix_E2, bT_E, isN_E, isN_dO, isN_str, isN_tup, isN_lst, isN_int, isN_non, eq_dO, ne_dO, eq_self, decide_true, decide_false, Bool.not_true, Bool.not_false, not_true_eq_false, not_false_eq_true]
    refine ⟨by have := hl i hin; omega, ?_⟩
    by_cases hc : S ≤ ((crs ls w i).length : Int)
    · rw [if_pos hc]
      exact ⟨some i, rfl, ⟨(fun z => nomatch z), fun t e => by cases e; exact ⟨hc, hj⟩⟩⟩
    · rw [if_neg hc]
      refine ⟨_, _, _, _, _, _, _, rfl, rfl, by omega, hxs, fun j q => ?_⟩
      by_cases e : j = i
      · subst e; omega
      · exact hj j (by omega)
  · rintro i env s' ⟨_, _, _, _, _, _, _, rfl, rfl, hi, hx, hj⟩
    have hin : n + 1 ≤ i := by
      have := congrArg List.length hx
      rw [List.length_drop, crsL_len, List.length_nil] at this
      omega
    have hlt : ∀ j, j ≤ n → ((crs ls w j).length : Int) < S := fun j q => hj j (by omega)
    simp only [wE_c, wE_v, wE_vo, wE_bin, wE_neg, wE_not, wE_cmp, wE_chain, wE_and, wE_or, wE_ite, wE_call, wE_b1, wE_b2, wE_isi, wE_m0, wE_m1, wE_idx, wE_sl, wE_ss, ss_lst, mul_str, isn_bl, notn_bl, wE_tup, wE_lst, wE_cel, wEs_nil, wEs_cons, wEo_no, wEo_so, wC_no, wC_so, wI_e, wI_rng, wI_enum, wI_zip, wI_map, wSs_nil, wSs_cons, wS_set, wS_seto, wS_unp, wS_par, wS_app, wS_setc, wS_drop, wS_ret, wS_reto, wS_retN, wS_pass, wS_brk, wS_cont, wS_fail, wS_ite, wS_for, wR_nil, wR_cons, seqQ_nx, seqQ_ret, seqQ_brk, seqQ_cont, outQ_nx, outQ_ret, outQ_brk, outQ_cont, d_sh, d_fr, d_vw, vw_sh, vw_fr, vw_vw, add_int, add_str, add_tup, add_lst, sub_int, mul_int, fdiv_int, mod_int, eq_str, ne_str, eq_int, ne_int, eq_bl, ne_bl, eq_sn, lt_int, le_int, gt_int, ge_int, isn_any, notn_any, in_sign, nin_sign, len_str, len_tup, len_lst, len_scr, all_map, any_map, list_tup, list_lst, list_str, tuple_lst, tuple_tup, int_int, abs_int, min_int, own_sh, own_fr, bool_sh, int_sh, ends_str, starts_str, lower_str, upper_str, sl_lst, sl_tup, sl_str, ix_lst, ix_tup, ix_scr, ix_str, ix_cell, at_zero, at_succ, set_zero, set_succ, startE_zero, startE_cons, Op_some, Op_none, bT_nm, bT_tup, bT_nil, bT_cons, pS_nil, pS_fr, pS_sh, wipe_nil, wipe_cons, it_lst, it_tup, it_str, rng_one, rng_two, zip_tup, zip_lst, fr_fr, sh_sh, lst_lst, cel_cel, in_in, List.replicate_succ, List.replicate_zero, decide_eq_true_iff, true_and, and_true, ite_true, ite_false, if_true, if_false, Bool.false_eq_true, Bool.not_eq_true', List.length_cons, List.length_nil, isi_str, isi_tup, isi_lst, isi_int, isi_non, isi_bl, eq_tup, ne_tup, eq_lst, ne_lst, lt_tup, in_lst, nin_lst, nin_tup, at_0, at_1, at_2, at_3, Bool.true_eq_false, wE_rev, wS_seti, set_lst, eq_non_str, ne_non_str, ne_str_non, eq_non, ne_non, wE_dic0, wE_dic1, wE_dicL, wE_compI, wE_lrng, wE_rep, rep_str, wE_lix, dic_dic, key_str, key_int, in_dicS, nin_dicS, ix_dicS, set_dicS, min_lst, max_lst, max_int, sl_E, ix_E0, ix_E1, ix_E2, bT_E, isN_E, isN_dO, isN_str, isN_tup, isN_lst, isN_int, isN_non, eq_dO, ne_dO, eq_self, decide_true, decide_false, Bool.not_true, Bool.not_false, not_true_eq_false, not_false_eq_true]
    by_cases hm : more = 0
    · subst hm
      rw [if_pos (show ((0 : Nat) : Int) = 0 from rfl)]
      refine ⟨none, rfl, fun _ t => ?_, fun t e => nomatch e⟩
      by_cases q : t ≤ n
      · exact hlt t q
      · have e := C.cyc_at (t := t) (by omega)
        have mp : (t - b) % (n + 1 - b) < n + 1 - b := Nat.mod_lt _ (by omega)
        rw [show crs ls w t = crs ls w (b + (t - b) % (n + 1 - b)) from e]
        exact hlt _ (by omega)
    · have hb : b < n := by
        rcases C.fin with z | z
        · exact absurd z.1 hm
        · exact z.2.1
      have m390 : more ≤ 390 := by
        have := hl n (Nat.le_refl _)
        rcases C.fin with z | z
        · exact absurd z.1 hm
        · have := z.2.2.2.2.2
          show more ≤ 390
          have q : (crs ls w n).length = (crs ls w b).length + more := this
          omega
      rw [if_neg (by omega)]
      simp only [List.length_map, crsL_len, wE_c, wE_v, wE_vo, wE_bin, wE_neg, wE_not, wE_cmp, wE_chain, wE_and, wE_or, wE_ite, wE_call, wE_b1, wE_b2, wE_isi, wE_m0, wE_m1, wE_idx, wE_sl, wE_ss, ss_lst, mul_str, isn_bl, notn_bl, wE_tup, wE_lst, wE_cel, wE_comp, wEs_nil, wEs_cons, wEo_no, wEo_so, wC_no, wC_so, wI_e, wI_rng, wI_enum, wI_zip, wI_map, wSs_nil, wSs_cons, wS_set, wS_seto, wS_unp, wS_par, wS_app, wS_setc, wS_drop, wS_ret, wS_reto, wS_retN, wS_pass, wS_brk, wS_cont, wS_fail, wS_ite, wS_for, wR_nil, wR_cons, seqQ_nx, seqQ_ret, seqQ_brk, seqQ_cont, outQ_nx, outQ_ret, outQ_brk, outQ_cont, d_sh, d_fr, d_vw, vw_sh, vw_fr, vw_vw, add_int, add_str, add_tup, add_lst, sub_int, mul_int, fdiv_int, mod_int, eq_str, ne_str, eq_int, ne_int, eq_bl, ne_bl, eq_sn, lt_int, le_int, gt_int, ge_int, isn_any, notn_any, in_sign, nin_sign, len_str, len_tup, len_lst, len_scr, all_map, any_map, list_tup, list_lst, list_str, tuple_lst, tuple_tup, int_int, abs_int, min_int, own_sh, own_fr, bool_sh, int_sh, ends_str, starts_str, lower_str, upper_str, sl_lst, sl_tup, sl_str, ix_lst, ix_tup, ix_scr, ix_str, ix_cell, at_zero, at_succ, set_zero, set_succ, startE_zero, startE_cons, Op_some, Op_none, bT_nm, bT_tup, bT_nil, bT_cons, pS_nil, pS_fr, pS_sh, wipe_nil, wipe_cons, it_lst, it_tup, it_str, rng_one, rng_two, zip_tup, zip_lst, fr_fr, sh_sh, lst_lst, cel_cel, in_in, List.replicate_succ, List.replicate_zero, decide_eq_true_iff, true_and, and_true, ite_true, ite_false, if_true, if_false, Bool.false_eq_true, Bool.not_eq_true', List.length_cons, List.length_nil, isi_str, isi_tup, isi_lst, isi_int, isi_non, isi_bl, eq_tup, ne_tup, eq_lst, ne_lst, lt_tup, in_lst, nin_lst, nin_tup, at_0, at_1, at_2, at_3, Bool.true_eq_false, wE_rev, wS_seti, set_lst, eq_non_str, ne_non_str, ne_str_non, eq_non, ne_non, wE_dic0, wE_dic1, wE_dicL, wE_compI, wE_lrng, wE_rep, rep_str, wE_lix, dic_dic, key_str, key_int, in_dicS, nin_dicS, ix_dicS, set_dicS, min_lst, max_lst, max_int, sl_E, ix_E0, ix_E1, ix_E2, bT_E, isN_E, isN_dO, isN_str, isN_tup, isN_lst, isN_int, isN_non, eq_dO, ne_dO, eq_self, decide_true, decide_false, Bool.not_true, Bool.not_false, not_true_eq_false, not_false_eq_true]
      rw [show (((n + 1 : Nat) : Int) - 1 - (b : Nat)) = ((n - b : Nat) : Int) by omega]
      refine ⟨⟨bnd_small (show -1000000000 ≤ ((b : Int) : Int) by omega) (show ((b : Int) : Int) ≤ 1000000000 by omega), bnd_small (show -1000000000 ≤ (((b : Int) + ((n - b : Nat) : Int)) : Int) by omega) (show (((b : Int) + ((n - b : Nat) : Int)) : Int) ≤ 1000000000 by omega)⟩, ?_⟩
      rw [show ((b : Int) + ((n - b : Nat) : Int) - (b : Nat)).toNat = n - b by omega]
      refine for_inv (fun i env s'' => Ipl ls w S n b more s' i env s'') _ 0 _ _ ⟨_, _, _, _, _, _, rfl, rfl⟩ ?_ ?_
      · rintro i x env s'' hx ⟨_, _, _, _, _, _, rfl, rfl⟩
        obtain ⟨rfl, hi⟩ := range_at hx
        rw [Nat.zero_add]
        obtain ⟨r1, r2, r3, r4⟩ := rnd_ok (S := S) (l := (crs ls w (b + i)).length) (more := more) (by omega) (hlt _ (by omega))
        simp only [wE_c, wE_v, wE_vo, wE_bin, wE_neg, wE_not, wE_cmp, wE_chain, wE_and, wE_or, wE_ite, wE_call, wE_b1, wE_b2, wE_isi, wE_m0, wE_m1, wE_idx, wE_sl, wE_ss, ss_lst, mul_str, isn_bl, notn_bl, wE_tup, wE_lst, wE_cel, wE_comp, wEs_nil, wEs_cons, wEo_no, wEo_so, wC_no, wC_so, wI_e, wI_rng, wI_enum, wI_zip, wI_map, wSs_nil, wSs_cons, wS_set, wS_seto, wS_unp, wS_par, wS_app, wS_setc, wS_drop, wS_ret, wS_reto, wS_retN, wS_pass, wS_brk, wS_cont, wS_fail, wS_ite, wS_for, wR_nil, wR_cons, seqQ_nx, seqQ_ret, seqQ_brk, seqQ_cont, outQ_nx, outQ_ret, outQ_brk, outQ_cont, d_sh, d_fr, d_vw, vw_sh, vw_fr, vw_vw, add_int, add_str, add_tup, add_lst, sub_int, mul_int, fdiv_int, mod_int, eq_str, ne_str, eq_int, ne_int, eq_bl, ne_bl, eq_sn, lt_int, le_int, gt_int, ge_int, isn_any, notn_any, in_sign, nin_sign, len_str, len_tup, len_lst, len_scr, all_map, any_map, list_tup, list_lst, list_str, tuple_lst, tuple_tup, int_int, abs_int, min_int, own_sh, own_fr, bool_sh, int_sh, ends_str, starts_str, lower_str, upper_str, sl_lst, sl_tup, sl_str, ix_lst, ix_tup, ix_scr, ix_str, ix_cell, at_zero, at_succ, set_zero, set_succ, startE_zero, startE_cons, Op_some, Op_none, bT_nm, bT_tup, bT_nil, bT_cons, pS_nil, pS_fr, pS_sh, wipe_nil, wipe_cons, it_lst, it_tup, it_str, rng_one, rng_two, zip_tup, zip_lst, fr_fr, sh_sh, lst_lst, cel_cel, in_in, List.replicate_succ, List.replicate_zero, decide_eq_true_iff, true_and, and_true, ite_true, ite_false, if_true, if_false, Bool.false_eq_true, Bool.not_eq_true', List.length_cons, List.length_nil, isi_str, isi_tup, isi_lst, isi_int, isi_non, isi_bl, eq_tup, ne_tup, eq_lst, ne_lst, lt_tup, in_lst, nin_lst, nin_tup, at_0, at_1, at_2, at_3, Bool.true_eq_false, wE_rev, wS_seti, set_lst, eq_non_str, ne_non_str, ne_str_non, eq_non, ne_non, wE_dic0, wE_dic1, wE_dicL, wE_compI, wE_lrng, wE_rep, rep_str, wE_lix, dic_dic, key_str, key_int, in_dicS, nin_dicS, ix_dicS, set_dicS, min_lst, max_lst, max_int, sl_E, ix_E0, ix_E1, ix_E2, bT_E, isN_E, isN_dO, isN_str, isN_tup, isN_lst, isN_int, isN_non, eq_dO, ne_dO, eq_self, decide_true, decide_false, Bool.not_true, Bool.not_false, not_true_eq_false, not_false_eq_true]
        rw [at_crs (p := b + i) (by omega) (by omega)]
        simp only [wE_c, wE_v, wE_vo, wE_bin, wE_neg, wE_not, wE_cmp, wE_chain, wE_and, wE_or, wE_ite, wE_call, wE_b1, wE_b2, wE_isi, wE_m0, wE_m1, wE_idx, wE_sl, wE_ss, ss_lst, mul_str, isn_bl, notn_bl, wE_tup, wE_lst, wE_cel, wE_comp, wEs_nil, wEs_cons, wEo_no, wEo_so, wC_no, wC_so, wI_e, wI_rng, wI_enum, wI_zip, wI_map, wSs_nil, wSs_cons, wS_set, wS_seto, wS_unp, wS_par, wS_app, wS_setc, wS_drop, wS_ret, wS_reto, wS_retN, wS_pass, wS_brk, wS_cont, wS_fail, wS_ite, wS_for, wR_nil, wR_cons, seqQ_nx, seqQ_ret, seqQ_brk, seqQ_cont, outQ_nx, outQ_ret, outQ_brk, outQ_cont, d_sh, d_fr, d_vw, vw_sh, vw_fr, vw_vw, add_int, add_str, add_tup, add_lst, sub_int, mul_int, fdiv_int, mod_int, eq_str, ne_str, eq_int, ne_int, eq_bl, ne_bl, eq_sn, lt_int, le_int, gt_int, ge_int, isn_any, notn_any, in_sign, nin_sign, len_str, len_tup, len_lst, len_scr, all_map, any_map, list_tup, list_lst, list_str, tuple_lst, tuple_tup, int_int, abs_int, min_int, own_sh, own_fr, bool_sh, int_sh, ends_str, starts_str, lower_str, upper_str, sl_lst, sl_tup, sl_str, ix_lst, ix_tup, ix_scr, ix_str, ix_cell, at_zero, at_succ, set_zero, set_succ, startE_zero, startE_cons, Op_some, Op_none, bT_nm, bT_tup, bT_nil, bT_cons, pS_nil, pS_fr, pS_sh, wipe_nil, wipe_cons, it_lst, it_tup, it_str, rng_one, rng_two, zip_tup, zip_lst, fr_fr, sh_sh, lst_lst, cel_cel, in_in, List.replicate_succ, List.replicate_zero, decide_eq_true_iff, true_and, and_true, ite_true, ite_false, if_true, if_false, Bool.false_eq_true, Bool.not_eq_true', List.length_cons, List.length_nil, isi_str, isi_tup, isi_lst, isi_int, isi_non, isi_bl, eq_tup, ne_tup, eq_lst, ne_lst, lt_tup, in_lst, nin_lst, nin_tup, at_0, at_1, at_2, at_3, Bool.true_eq_false, wE_rev, wS_seti, set_lst, eq_non_str, ne_non_str, ne_str_non, eq_non, ne_non, wE_dic0, wE_dic1, wE_dicL, wE_compI, wE_lrng, wE_rep, rep_str, wE_lix, dic_dic, key_str, key_int, in_dicS, nin_dicS, ix_dicS, set_dicS, min_lst, max_lst, max_int, sl_E, ix_E0, ix_E1, ix_E2, bT_E, isN_E, isN_dO, isN_str, isN_tup, isN_lst, isN_int, isN_non, eq_dO, ne_dO, eq_self, decide_true, decide_false, Bool.not_true, Bool.not_false, not_true_eq_false, not_false_eq_true]
        refine ⟨by have := hl (b + i) (by omega); omega, ⟨by omega, by omega⟩, .inr ⟨by omega, by omega⟩, ?_⟩
        simp only [List.length_map, List.length_range, wE_c, wE_v, wE_vo, wE_bin, wE_neg, wE_not, wE_cmp, wE_chain, wE_and, wE_or, wE_ite, wE_call, wE_b1, wE_b2, wE_isi, wE_m0, wE_m1, wE_idx, wE_sl, wE_ss, ss_lst, mul_str, isn_bl, notn_bl, wE_tup, wE_lst, wE_cel, wE_comp, wEs_nil, wEs_cons, wEo_no, wEo_so, wC_no, wC_so, wI_e, wI_rng, wI_enum, wI_zip, wI_map, wSs_nil, wSs_cons, wS_set, wS_seto, wS_unp, wS_par, wS_app, wS_setc, wS_drop, wS_ret, wS_reto, wS_retN, wS_pass, wS_brk, wS_cont, wS_fail, wS_ite, wS_for, wR_nil, wR_cons, seqQ_nx, seqQ_ret, seqQ_brk, seqQ_cont, outQ_nx, outQ_ret, outQ_brk, outQ_cont, d_sh, d_fr, d_vw, vw_sh, vw_fr, vw_vw, add_int, add_str, add_tup, add_lst, sub_int, mul_int, fdiv_int, mod_int, eq_str, ne_str, eq_int, ne_int, eq_bl, ne_bl, eq_sn, lt_int, le_int, gt_int, ge_int, isn_any, notn_any, in_sign, nin_sign, len_str, len_tup, len_lst, len_scr, all_map, any_map, list_tup, list_lst, list_str, tuple_lst, tuple_tup, int_int, abs_int, min_int, own_sh, own_fr, bool_sh, int_sh, ends_str, starts_str, lower_str, upper_str, sl_lst, sl_tup, sl_str, ix_lst, ix_tup, ix_scr, ix_str, ix_cell, at_zero, at_succ, set_zero, set_succ, startE_zero, startE_cons, Op_some, Op_none, bT_nm, bT_tup, bT_nil, bT_cons, pS_nil, pS_fr, pS_sh, wipe_nil, wipe_cons, it_lst, it_tup, it_str, rng_one, rng_two, zip_tup, zip_lst, fr_fr, sh_sh, lst_lst, cel_cel, in_in, List.replicate_succ, List.replicate_zero, decide_eq_true_iff, true_and, and_true, ite_true, ite_false, if_true, if_false, Bool.false_eq_true, Bool.not_eq_true', List.length_cons, List.length_nil, isi_str, isi_tup, isi_lst, isi_int, isi_non, isi_bl, eq_tup, ne_tup, eq_lst, ne_lst, lt_tup, in_lst, nin_lst, nin_tup, at_0, at_1, at_2, at_3, Bool.true_eq_false, wE_rev, wS_seti, set_lst, eq_non_str, ne_non_str, ne_str_non, eq_non, ne_non, wE_dic0, wE_dic1, wE_dicL, wE_compI, wE_lrng, wE_rep, rep_str, wE_lix, dic_dic, key_str, key_int, in_dicS, nin_dicS, ix_dicS, set_dicS, min_lst, max_lst, max_int, sl_E, ix_E0, ix_E1, ix_E2, bT_E, isN_E, isN_dO, isN_str, isN_tup, isN_lst, isN_int, isN_non, eq_dO, ne_dO, eq_self, decide_true, decide_false, Bool.not_true, Bool.not_false, not_true_eq_false, not_false_eq_true]
        refine ⟨by omega, ?_⟩
        rw [r1, show ((b : Int) + (i : Nat)) = ((b + i : Nat) : Int) by omega]
        rw [show ((List.range i).map fun k => puAt ls w S n b more (b + k)).map (fun x => D.int x) ++ [D.int (((b + i : Nat) : Int) + ((rnd S (crs ls w (b + i)).length more : Nat) : Int) * ((n - b : Nat) : Int))] = ((List.range (i + 1)).map fun k => puAt ls w S n b more (b + k)).map (fun x => D.int x) by
          rw [List.range_succ, List.map_append, List.map_append]; rfl]
        exact ⟨_, _, _, _, _, _, rfl, rfl⟩
      · rintro env s'' ⟨_, _, _, _, _, _, rfl, rfl⟩
        rw [Nat.zero_add, rngI_length]
        obtain ⟨m, hmin⟩ := minI_ex (ns := ((List.range (n - b)).map fun k => puAt ls w S n b more (b + k)).map fun x => x) (by
          intro z
          have := congrArg List.length z
          rw [List.length_map, List.length_map, List.length_range, List.length_nil] at this
          omega)
        obtain ⟨_, m2, m3⟩ := minI_ok hmin
        simp only [min_lst (f := fun x : Int => x), wE_c, wE_v, wE_vo, wE_bin, wE_neg, wE_not, wE_cmp, wE_chain, wE_and, wE_or, wE_ite, wE_call, wE_b1, wE_b2, wE_isi, wE_m0, wE_m1, wE_idx, wE_sl, wE_ss, ss_lst, mul_str, isn_bl, notn_bl, wE_tup, wE_lst, wE_cel, wE_comp, wEs_nil, wEs_cons, wEo_no, wEo_so, wC_no, wC_so, wI_e, wI_rng, wI_enum, wI_zip, wI_map, wSs_nil, wSs_cons, wS_set, wS_seto, wS_unp, wS_par, wS_app, wS_setc, wS_drop, wS_ret, wS_reto, wS_retN, wS_pass, wS_brk, wS_cont, wS_fail, wS_ite, wS_for, wR_nil, wR_cons, seqQ_nx, seqQ_ret, seqQ_brk, seqQ_cont, outQ_nx, outQ_ret, outQ_brk, outQ_cont, d_sh, d_fr, d_vw, vw_sh, vw_fr, vw_vw, add_int, add_str, add_tup, add_lst, sub_int, mul_int, fdiv_int, mod_int, eq_str, ne_str, eq_int, ne_int, eq_bl, ne_bl, eq_sn, lt_int, le_int, gt_int, ge_int, isn_any, notn_any, in_sign, nin_sign, len_str, len_tup, len_lst, len_scr, all_map, any_map, list_tup, list_lst, list_str, tuple_lst, tuple_tup, int_int, abs_int, min_int, own_sh, own_fr, bool_sh, int_sh, ends_str, starts_str, lower_str, upper_str, sl_lst, sl_tup, sl_str, ix_lst, ix_tup, ix_scr, ix_str, ix_cell, at_zero, at_succ, set_zero, set_succ, startE_zero, startE_cons, Op_some, Op_none, bT_nm, bT_tup, bT_nil, bT_cons, pS_nil, pS_fr, pS_sh, wipe_nil, wipe_cons, it_lst, it_tup, it_str, rng_one, rng_two, zip_tup, zip_lst, fr_fr, sh_sh, lst_lst, cel_cel, in_in, List.replicate_succ, List.replicate_zero, decide_eq_true_iff, true_and, and_true, ite_true, ite_false, if_true, if_false, Bool.false_eq_true, Bool.not_eq_true', List.length_cons, List.length_nil, isi_str, isi_tup, isi_lst, isi_int, isi_non, isi_bl, eq_tup, ne_tup, eq_lst, ne_lst, lt_tup, in_lst, nin_lst, nin_tup, at_0, at_1, at_2, at_3, Bool.true_eq_false, wE_rev, wS_seti, set_lst, eq_non_str, ne_non_str, ne_str_non, eq_non, ne_non, wE_dic0, wE_dic1, wE_dicL, wE_compI, wE_lrng, wE_rep, rep_str, wE_lix, dic_dic, key_str, key_int, in_dicS, nin_dicS, ix_dicS, set_dicS, min_lst, max_lst, max_int, sl_E, ix_E0, ix_E1, ix_E2, bT_E, isN_E, isN_dO, isN_str, isN_tup, isN_lst, isN_int, isN_non, eq_dO, ne_dO, eq_self, decide_true, decide_false, Bool.not_true, Bool.not_false, not_true_eq_false, not_false_eq_true]
        rw [hmin]
        simp only [wE_c, wE_v, wE_vo, wE_bin, wE_neg, wE_not, wE_cmp, wE_chain, wE_and, wE_or, wE_ite, wE_call, wE_b1, wE_b2, wE_isi, wE_m0, wE_m1, wE_idx, wE_sl, wE_ss, ss_lst, mul_str, isn_bl, notn_bl, wE_tup, wE_lst, wE_cel, wE_comp, wEs_nil, wEs_cons, wEo_no, wEo_so, wC_no, wC_so, wI_e, wI_rng, wI_enum, wI_zip, wI_map, wSs_nil, wSs_cons, wS_set, wS_seto, wS_unp, wS_par, wS_app, wS_setc, wS_drop, wS_ret, wS_reto, wS_retN, wS_pass, wS_brk, wS_cont, wS_fail, wS_ite, wS_for, wR_nil, wR_cons, seqQ_nx, seqQ_ret, seqQ_brk, seqQ_cont, outQ_nx, outQ_ret, outQ_brk, outQ_cont, d_sh, d_fr, d_vw, vw_sh, vw_fr, vw_vw, add_int, add_str, add_tup, add_lst, sub_int, mul_int, fdiv_int, mod_int, eq_str, ne_str, eq_int, ne_int, eq_bl, ne_bl, eq_sn, lt_int, le_int, gt_int, ge_int, isn_any, notn_any, in_sign, nin_sign, len_str, len_tup, len_lst, len_scr, all_map, any_map, list_tup, list_lst, list_str, tuple_lst, tuple_tup, int_int, abs_int, min_int, own_sh, own_fr, bool_sh, int_sh, ends_str, starts_str, lower_str, upper_str, sl_lst, sl_tup, sl_str, ix_lst, ix_tup, ix_scr, ix_str, ix_cell, at_zero, at_succ, set_zero, set_succ, startE_zero, startE_cons, Op_some, Op_none, bT_nm, bT_tup, bT_nil, bT_cons, pS_nil, pS_fr, pS_sh, wipe_nil, wipe_cons, it_lst, it_tup, it_str, rng_one, rng_two, zip_tup, zip_lst, fr_fr, sh_sh, lst_lst, cel_cel, in_in, List.replicate_succ, List.replicate_zero, decide_eq_true_iff, true_and, and_true, ite_true, ite_false, if_true, if_false, Bool.false_eq_true, Bool.not_eq_true', List.length_cons, List.length_nil, isi_str, isi_tup, isi_lst, isi_int, isi_non, isi_bl, eq_tup, ne_tup, eq_lst, ne_lst, lt_tup, in_lst, nin_lst, nin_tup, at_0, at_1, at_2, at_3, Bool.true_eq_false, wE_rev, wS_seti, set_lst, eq_non_str, ne_non_str, ne_str_non, eq_non, ne_non, wE_dic0, wE_dic1, wE_dicL, wE_compI, wE_lrng, wE_rep, rep_str, wE_lix, dic_dic, key_str, key_int, in_dicS, nin_dicS, ix_dicS, set_dicS, min_lst, max_lst, max_int, sl_E, ix_E0, ix_E1, ix_E2, bT_E, isN_E, isN_dO, isN_str, isN_tup, isN_lst, isN_int, isN_non, eq_dO, ne_dO, eq_self, decide_true, decide_false, Bool.not_true, Bool.not_false, not_true_eq_false, not_false_eq_true]
        rw [List.map_id'] at m2 m3
        obtain ⟨k, hk, rfl⟩ := List.mem_map.mp m2
        rw [List.mem_range] at hk
        obtain ⟨r1, r2, r3, r4⟩ := rnd_ok (S := S) (l := (crs ls w (b + k)).length) (more := more) (by omega) (hlt _ (by omega))
        have eq1 : puAt ls w S n b more (b + k) = ((b + k + (n - b) * rnd S (crs ls w (b + k)).length more : Nat) : Int) := by
          unfold puAt
          rw [Int.natCast_add (b + k), Int.natCast_mul, Int.mul_comm]
        refine ⟨some (b + k + (n - b) * rnd S (crs ls w (b + k)).length more), by rw [eq1]; rfl, ⟨(fun z => nomatch z), fun t e => ?_⟩⟩
        cases e
        have gm := C.grow_mul (mach h) (by omega) k
        refine ⟨?_, fun j hj => ?_⟩
        · have := gm (rnd S (crs ls w (b + k)).length more)
          rw [show (crs ls w (b + k + (n - b) * rnd S (crs ls w (b + k)).length more)).length = (crs ls w (b + k)).length + rnd S (crs ls w (b + k)).length more * more from this]
          rw [Int.natCast_add]
          exact r3
        · refine Int.lt_of_not_ge fun z => ?_
          have hjn : b ≤ j := by
            by_cases q : b ≤ j
            · exact q
            · have := hlt j (by omega); omega
          have mp : (j - b) % (n - b) < n - b := Nat.mod_lt _ (by omega)
          have e := C.grow_at (mach h) (by omega) hjn
          obtain ⟨q1, q2, q3, q4⟩ := rnd_ok (S := S) (l := (crs ls w (b + (j - b) % (n - b))).length) (more := more) (by omega) (hlt _ (by omega))
          have q5 := q4 ((j - b) / (n - b)) (by
            rw [show (crs ls w j).length = (crs ls w (b + (j - b) % (n - b))).length + (j - b) / (n - b) * more from e, Int.natCast_add] at z
            exact z)
          have q6 := m3 (puAt ls w S n b more (b + (j - b) % (n - b))) (List.mem_map.mpr ⟨(j - b) % (n - b), List.mem_range.mpr mp, rfl⟩)
          rw [eq1] at q6
          unfold puAt at q6
          rw [← Int.natCast_mul, ← Int.natCast_add, Int.ofNat_le] at q6
          have q7 : rnd S (crs ls w (b + (j - b) % (n - b))).length more * (n - b) ≤ (j - b) / (n - b) * (n - b) := Nat.mul_le_mul_right _ q5
          have q8 := Nat.mod_add_div (j - b) (n - b)
          rw [Nat.mul_comm (n - b) ((j - b) / (n - b))] at q8
          omega
theorem comes_again_ok {B wf k : Nat} {st : Store} {ls : List Ent} {w : Tx} (hB : ∃ j, j ≤ B ∧ stopsAt ls w j) (hB2 : B ≤ 16000000) (hwf : B + 1 < wf) (h : VL ls) (hw : isLet w 12 = true) :
    Ev (callF GD wf (k + 1 + 1 + 1 + 1 + 1 + 1) 156 [dL ls, .str w] st) fun x s => s = st ∧ ∃ n b more, CoI ls w n b more ∧ n ≤ B ∧ x = .sh (if more = 0 then .tup [.int (b : Nat), .int ((n + 1 - b : Nat) : Int)] else .non) := by
  rw [Ev_callD (d := d156) rfl rfl]
  unfold d156 b156
  simp only [need_both_ok h hw, wE_c, wE_v, wE_vo, wE_bin, wE_neg, wE_not, wE_cmp, wE_chain, wE_and, wE_or, wE_ite, wE_call, wE_b1, wE_b2, wE_isi, wE_m0, wE_m1, wE_idx, wE_sl, wE_ss, ss_lst, mul_str, isn_bl, notn_bl, wE_tup, wE_lst, wE_cel, wE_comp, wEs_nil, wEs_cons, wEo_no, wEo_so, wC_no, wC_so, wI_e, wI_rng, wI_enum, wI_zip, wI_map, wSs_nil, wSs_cons, wS_set, wS_seto, wS_unp, wS_par, wS_app, wS_setc, wS_drop, wS_ret, wS_reto, wS_retN, wS_pass, wS_brk, wS_cont, wS_fail, wS_ite, wS_for, wR_nil, wR_cons, seqQ_nx, seqQ_ret, seqQ_brk, seqQ_cont, outQ_nx, outQ_ret, outQ_brk, outQ_cont, d_sh, d_fr, d_vw, vw_sh, vw_fr, vw_vw, add_int, add_str, add_tup, add_lst, sub_int, mul_int, fdiv_int, mod_int, eq_str, ne_str, eq_int, ne_int, eq_bl, ne_bl, eq_sn, lt_int, le_int, gt_int, ge_int, isn_any, notn_any, in_sign, nin_sign, len_str, len_tup, len_lst, len_scr, all_map, any_map, list_tup, list_lst, list_str, tuple_lst, tuple_tup, int_int, abs_int, min_int, own_sh, own_fr, bool_sh, int_sh, ends_str, starts_str, lower_str, upper_str, sl_lst, sl_tup, sl_str, ix_lst, ix_tup, ix_scr, ix_str, ix_cell, at_zero, at_succ, set_zero, set_succ, startE_zero, startE_cons, Op_some, Op_none, bT_nm, bT_tup, bT_nil, bT_cons, pS_nil, pS_fr, pS_sh, wipe_nil, wipe_cons, it_lst, it_tup, it_str, rng_one, rng_two, zip_tup, zip_lst, fr_fr, sh_sh, lst_lst, cel_cel, in_in, List.replicate_succ, List.replicate_zero, decide_eq_true_iff, true_and, and_true, ite_true, ite_false, if_true, if_false, Bool.false_eq_true, Bool.not_eq_true', List.length_cons, List.length_nil, isi_str, isi_tup, isi_lst, isi_int, isi_non, isi_bl, eq_tup, ne_tup, eq_lst, ne_lst, lt_tup, in_lst, nin_lst, nin_tup, at_0, at_1, at_2, at_3, Bool.true_eq_false, wE_rev, wS_seti, set_lst, eq_non_str, ne_non_str, ne_str_non, eq_non, ne_non, wE_dic0, wE_dic1, wE_dicL, wE_compI, wE_lrng, wE_rep, rep_str, wE_lix, dic_dic, key_str, key_int, in_dicS, nin_dicS, ix_dicS, set_dicS, min_lst, max_lst, max_int, sl_E, ix_E0, ix_E1, ix_E2, bT_E, isN_E, isN_dO, isN_str, isN_tup, isN_lst, isN_int, isN_non, eq_dO, ne_dO, eq_self, decide_true, decide_false, Bool.not_true, Bool.not_false, not_true_eq_false, not_false_eq_true]
  refine (course_of_ok hB hB2 hwf h hw).mono ?_
  rintro x s ⟨rfl, n, b, more, rfl, C, hn, hl⟩
  have hbn := C.le
  simp only [dCo, List.length_map, crsL_len, wE_c, wE_v, wE_vo, wE_bin, wE_neg, wE_not, wE_cmp, wE_chain, wE_and, wE_or, wE_ite, wE_call, wE_b1, wE_b2, wE_isi, wE_m0, wE_m1, wE_idx, wE_sl, wE_ss, ss_lst, mul_str, isn_bl, notn_bl, wE_tup, wE_lst, wE_cel, wE_comp, wEs_nil, wEs_cons, wEo_no, wEo_so, wC_no, wC_so, wI_e, wI_rng, wI_enum, wI_zip, wI_map, wSs_nil, wSs_cons, wS_set, wS_seto, wS_unp, wS_par, wS_app, wS_setc, wS_drop, wS_ret, wS_reto, wS_retN, wS_pass, wS_brk, wS_cont, wS_fail, wS_ite, wS_for, wR_nil, wR_cons, seqQ_nx, seqQ_ret, seqQ_brk, seqQ_cont, outQ_nx, outQ_ret, outQ_brk, outQ_cont, d_sh, d_fr, d_vw, vw_sh, vw_fr, vw_vw, add_int, add_str, add_tup, add_lst, sub_int, mul_int, fdiv_int, mod_int, eq_str, ne_str, eq_int, ne_int, eq_bl, ne_bl, eq_sn, lt_int, le_int, gt_int, ge_int, isn_any, notn_any, in_sign, nin_sign, len_str, len_tup, len_lst, len_scr, all_map, any_map, list_tup, list_lst, list_str, tuple_lst, tuple_tup, int_int, abs_int, min_int, own_sh, own_fr, bool_sh, int_sh, ends_str, starts_str, lower_str, upper_str, sl_lst, sl_tup, sl_str, ix_lst, ix_tup, ix_scr, ix_str, ix_cell, at_zero, at_succ, set_zero, set_succ, startE_zero, startE_cons, Op_some, Op_none, bT_nm, bT_tup, bT_nil, bT_cons, pS_nil, pS_fr, pS_sh, wipe_nil, wipe_cons, it_lst, it_tup, it_str, rng_one, rng_two, zip_tup, zip_lst, fr_fr, sh_sh, lst_lst, cel_cel, in_in, List.replicate_succ, List.replicate_zero, decide_eq_true_iff, true_and, and_true, ite_true, ite_false, if_true, if_false, Bool.false_eq_true, Bool.not_eq_true', List.length_cons, List.length_nil, isi_str, isi_tup, isi_lst, isi_int, isi_non, isi_bl, eq_tup, ne_tup, eq_lst, ne_lst, lt_tup, in_lst, nin_lst, nin_tup, at_0, at_1, at_2, at_3, Bool.true_eq_false, wE_rev, wS_seti, set_lst, eq_non_str, ne_non_str, ne_str_non, eq_non, ne_non, wE_dic0, wE_dic1, wE_dicL, wE_compI, wE_lrng, wE_rep, rep_str, wE_lix, dic_dic, key_str, key_int, in_dicS, nin_dicS, ix_dicS, set_dicS, min_lst, max_lst, max_int, sl_E, ix_E0, ix_E1, ix_E2, bT_E, isN_E, isN_dO, isN_str, isN_tup, isN_lst, isN_int, isN_non, eq_dO, ne_dO, eq_self, decide_true, decide_false, Bool.not_true, Bool.not_false, not_true_eq_false, not_false_eq_true]
  by_cases hm : more = 0
  · subst hm
    rw [if_pos (show ((0 : Nat) : Int) = 0 from rfl)]
    refine ⟨n, b, 0, C, hn, ?_⟩
    rw [if_pos rfl, show (((n + 1 : Nat) : Int) - (b : Nat)) = ((n + 1 - b : Nat) : Int) by omega]
  · rw [if_neg (by omega)]
    exact ⟨n, b, more, C, hn, by rw [if_neg hm]⟩
end MWL
set_option Elab.async false
set_option linter.all false
set_option maxRecDepth 100000
set_option maxHeartbeats 1000000
set_option autoImplicit false
/-! Plain: law k40. -/
namespace MWL
open MW
/-- entries for ends whose new ones are longer by so many letters -/
def Far (far : Nat) (ls : List Ent) : Prop := ∀ e ∈ ls, e.n.length = e.o.length + far
theorem step_far {ls : List Ent} {far : Nat} (hk : Far far ls) (he : ∀ e ∈ ls, e.k = endT) (w : Tx) : mendT ls w = w ∨ (mendT ls w).length = w.length + far := by
  cases e1 : act ls w with
  | none => exact .inl (mendT_none e1)
  | some e =>
    right
    have h1 := suf_le e1
    have h2 := hk e (act_suf e1).1
    rw [mendT_some e1, List.length_append, List.length_take, Nat.min_eq_left (by omega)]
    omega
section
variable {ls : List Ent} {far : Nat} {w : Tx} (hk : Far far ls) (he : ∀ e ∈ ls, e.k = endT)
include hk he
theorem far_step (i : Nat) : (crs ls w i).length ≤ (crs ls w (i + 1)).length ∧ (crs ls w (i + 1)).length ≤ (crs ls w i).length + far := by
  have e : crs ls w (i + 1) = mendT ls (crs ls w i) := rfl
  rw [e]
  rcases step_far hk he (crs ls w i) with h | h
  · rw [h]; omega
  · rw [h]; omega
theorem far_stops (hv : VL ls) (hw : ∀ c ∈ w, c ∈ abcde) : ∃ j, j ≤ 1000 ∧ stopsAt ls w j := mono_stops (mach hv) hw fun i => (far_step hk he i).1
theorem far_le : ∀ i, w.length ≤ (crs ls w i).length ∧ (crs ls w i).length ≤ w.length + far * i
  | 0 => ⟨Nat.le_refl _, Nat.le_refl _⟩
  | i + 1 => by
    have h1 := far_le i
    have h2 := far_step hk he (w := w) i
    rw [Nat.mul_succ]
    omega
theorem far_len {n : Nat} (hn : ∀ j, j < n → mendT ls (crs ls w j) ≠ crs ls w j) : (crs ls w n).length = w.length + far * n := by
  induction n with
  | zero => rfl
  | succ n ih =>
    have h := ih fun j hj => hn j (by omega)
    have e : crs ls w (n + 1) = mendT ls (crs ls w n) := rfl
    rw [e, Nat.mul_succ]
    rcases step_far hk he (crs ls w n) with q | q
    · exact absurd q (hn n (Nat.lt_succ_self n))
    · omega
end
theorem crs_fix {ls : List Ent} {w : Tx} {n : Nat} (h : mendT ls (crs ls w n) = crs ls w n) : ∀ t, n ≤ t → crs ls w t = crs ls w n := by
  intro t ht
  obtain ⟨d, rfl⟩ : ∃ d, t = n + d := ⟨t - n, by omega⟩
  induction d with
  | zero => rfl
  | succ d ih =>
    have e : crs ls w (n + (d + 1)) = mendT ls (crs ls w (n + d)) := rfl
    rw [e, ih (by omega), h]
/-- a rest comes no later than a look back finds -/
theorem rest_le {ls : List Ent} {w : Tx} {n j : Nat} (hv : VL ls) (hs : stopsAt ls w j) (hf : mendT ls (crs ls w n) = crs ls w n) (hm : ∀ i, i < n → mendT ls (crs ls w i) ≠ crs ls w i) : n ≤ j := by
  refine Nat.le_of_not_lt fun hj => ?_
  obtain ⟨i, hi, z⟩ := hs
  have hc : ∀ k, k < j - i → mendT ls (itr (mendT ls) k (crs ls w i)) ≠ itr (mendT ls) k (crs ls w i) := fun k hk => by
    show mendT ls (itr (mendT ls) k (itr (mendT ls) i w)) ≠ itr (mendT ls) k (itr (mendT ls) i w)
    rw [← itr_add]
    exact hm (i + k) (by omega)
  have ej : itr (mendT ls) (j - i) (crs ls w i) = crs ls w j := by
    show itr (mendT ls) (j - i) (itr (mendT ls) i w) = _
    rw [← itr_add, show i + (j - i) = j by omega]
  have en : itr (mendT ls) (n - i) (crs ls w i) = crs ls w n := by
    show itr (mendT ls) (n - i) (itr (mendT ls) i w) = _
    rw [← itr_add, show i + (n - i) = n by omega]
  have never : ∀ m, mendT ls (itr (mendT ls) m (crs ls w i)) ≠ itr (mendT ls) m (crs ls w i) := by
    rcases z with ⟨z1, z2⟩ | ⟨z1, z2, z3⟩
    · exact cyc_moves (by omega) (by rw [ej]; exact z2.symm) hc
    · exact again_moves (mach hv) (by omega) z1 (fun k hk => by
        show (crs ls w i).length ≤ (itr (mendT ls) k (itr (mendT ls) i w)).length
        rw [← itr_add]; exact z2 _ (by omega) (by omega)) (by rw [ej]; exact z3) hc
  have := never (n - i)
  rw [en] at this
  exact this hf
theorem PuIs.is {ls : List Ent} {w : Tx} {S : Int} {r : Option Nat} (R : PuIs ls w S r) {t : Nat} (h : S ≤ ((crs ls w t).length : Int)) (hm : ∀ j, j < t → ((crs ls w j).length : Int) < S) : r = some t := by
  cases r with
  | none => have := R.no rfl t; omega
  | some u =>
    obtain ⟨h1, h2⟩ := R.yes u rfl
    rcases Nat.lt_trichotomy u t with q | q | q
    · have := hm u q; omega
    · rw [q]
    · have := h2 t q; omega
theorem PuIs.is_none {ls : List Ent} {w : Tx} {S : Int} {r : Option Nat} (R : PuIs ls w S r) (h : ∀ t, ((crs ls w t).length : Int) < S) : r = none := by
  cases r with
  | none => rfl
  | some u => have := (R.yes u rfl).1; have := h u; omega
def lsO : List Ent := [⟨endT, [97], [98, 98]⟩, ⟨endT, [99], [100, 100]⟩]
def lsT : List Ent := [⟨endT, [97], [99, 97]⟩, ⟨endT, [99, 97], [98, 99, 97]⟩]
def lsU : List Ent := [⟨endT, [97], [98, 98]⟩, ⟨endT, [98], [99, 97]⟩]
theorem lsO_ok : VP lsO := ⟨by decide, all_cons (ve_e (by decide) (by decide) (by decide)) (all_cons (ve_e (by decide) (by decide) (by decide)) all_nil), by decide +kernel⟩
theorem lsT_ok : VP lsT := ⟨by decide, all_cons (ve_e (by decide) (by decide) (by decide)) (all_cons (ve_e (by decide) (by decide) (by decide)) all_nil), by decide +kernel⟩
theorem lsU_ok : VP lsU := ⟨by decide, all_cons (ve_e (by decide) (by decide) (by decide)) (all_cons (ve_e (by decide) (by decide) (by decide)) all_nil), by decide +kernel⟩
theorem dL_O : D.tup [D.tup [D.str [101, 110, 100], D.str [97], D.str [98, 98]], D.tup [D.str [101, 110, 100], D.str [99], D.str [100, 100]]] = dL lsO := rfl
theorem dL_T : D.tup [D.tup [D.str [101, 110, 100], D.str [97], D.str [99, 97]], D.tup [D.str [101, 110, 100], D.str [99, 97], D.str [98, 99, 97]]] = dL lsT := rfl
theorem dL_U : D.tup [D.tup [D.str [101, 110, 100], D.str [97], D.str [98, 98]], D.tup [D.str [101, 110, 100], D.str [98], D.str [99, 97]]] = dL lsU := rfl
theorem farO : Far 1 lsO := by unfold Far; decide
theorem farT : Far 1 lsT := by unfold Far; decide
theorem farU : Far 1 lsU := by unfold Far; decide
theorem endO : ∀ e ∈ lsO, e.k = endT := by decide
theorem endT' : ∀ e ∈ lsT, e.k = endT := by decide
theorem endU : ∀ e ∈ lsU, e.k = endT := by decide
theorem u_never : ∀ n, mendT lsU (crs lsU [97] n) ≠ crs lsU [97] n := by
  have al := again_moves (mach lsU_ok.vl) (w := crs lsU [97] 4) (p := 2) (by decide) (by decide +kernel) (by decide +kernel) (by decide +kernel) (by decide +kernel)
  intro n
  by_cases q : n < 4
  · exact (show ∀ m < 4, mendT lsU (crs lsU [97] m) ≠ crs lsU [97] m by decide +kernel) n q
  · have := al (n - 4)
    rw [show itr (mendT lsU) (n - 4) (crs lsU [97] 4) = crs lsU [97] n from by
      show itr (mendT lsU) (n - 4) (itr (mendT lsU) 4 [97]) = _
      rw [← itr_add, show 4 + (n - 4) = n by omega]] at this
    exact this
def Itop (ns : List Int)  (env : En) (s : Store) : Prop := ∃  (z1 z2 z3 z4 z5 z6 z7 z8 z9 z10 z11 z12 z13 z14 z15 : Option D), env = [some (.scr ns), z1, z2, z3, z4, z5, z6, z7, z8, z9, z10, z11, z12, z13, z14, z15] ∧  True
def Iturn (ns : List Int) (c : Nat)  (env : En) (s : Store) : Prop := ∃  (z1 z2 z3 z5 z6 z7 z8 z9 z10 z11 z12 z13 z14 z15 : Option D), env = [some (.scr ns), z1, z2, z3, some (.cell c), z5, z6, z7, z8, z9, z10, z11, z12, z13, z14, z15] ∧  Src c s
def Isome (ns : List Int) (c : Nat) (far : Nat) (i : Nat)   (env : En) (s : Store) : Prop := ∃ (es : List Ent) (z1 z2 z3 z5 z6 z7 z10 z11 z12 z13 z14 z15 : Option D), env = [some (.scr ns), z1, z2, z3, some (.cell c), z5, z6, z7, some (.int (far : Nat)), some (.lst (es.map dE)), z10, z11, z12, z13, z14, z15] ∧  es.length ≤ i ∧ VS es ∧ (∀ e ∈ es, e.k = endT) ∧ Far far es ∧ Src c s
theorem law_true : ∀ ns : List Int, ns.length ≤ 63 → ∃ wf st', callF GD wf 12 170 [.scr ns] [] = some (.sh (.bl true), st') := by
  intro ns hns
  obtain ⟨F, hF⟩ := fuel_all
  refine ⟨F + 2000, ?_⟩
  have this : Ev (callF GD (F + 2000) 12 170 [.scr ns] []) fun r s => r = .sh (.bl true) := by
    rw [Ev_callD (d := d170) rfl rfl]
    unfold d170 b170
    simp only [bnd_small (show -1000000000 ≤ (1 + (if 8 < (ns.length : Int) then 8 else (ns.length : Int)) : Int) by omega) (show (1 + (if 8 < (ns.length : Int) then 8 else (ns.length : Int)) : Int) ≤ 1000000000 by omega), wE_c, wE_v, wE_vo, wE_bin, wE_neg, wE_not, wE_cmp, wE_chain, wE_and, wE_or, wE_ite, wE_call, wE_b1, wE_b2, wE_isi, wE_m0, wE_m1, wE_idx, wE_sl, wE_ss, ss_lst, mul_str, isn_bl, notn_bl, wE_tup, wE_lst, wE_cel, wE_comp, wEs_nil, wEs_cons, wEo_no, wEo_so, wC_no, wC_so, wI_e, wI_rng, wI_enum, wI_zip, wI_map, wSs_nil, wSs_cons, wS_set, wS_seto, wS_unp, wS_par, wS_app, wS_setc, wS_drop, wS_ret, wS_reto, wS_retN, wS_pass, wS_brk, wS_cont, wS_fail, wS_ite, wS_for, wR_nil, wR_cons, seqQ_nx, seqQ_ret, seqQ_brk, seqQ_cont, outQ_nx, outQ_ret, outQ_brk, outQ_cont, d_sh, d_fr, d_vw, vw_sh, vw_fr, vw_vw, add_int, add_str, add_tup, add_lst, sub_int, mul_int, fdiv_int, mod_int, eq_str, ne_str, eq_int, ne_int, eq_bl, ne_bl, eq_sn, lt_int, le_int, gt_int, ge_int, isn_any, notn_any, in_sign, nin_sign, len_str, len_tup, len_lst, len_scr, all_map, any_map, list_tup, list_lst, list_str, tuple_lst, tuple_tup, int_int, abs_int, min_int, own_sh, own_fr, bool_sh, int_sh, ends_str, starts_str, lower_str, upper_str, sl_lst, sl_tup, sl_str, ix_lst, ix_tup, ix_scr, ix_str, ix_cell, at_zero, at_succ, set_zero, set_succ, startE_zero, startE_cons, Op_some, Op_none, bT_nm, bT_tup, bT_nil, bT_cons, pS_nil, pS_fr, pS_sh, wipe_nil, wipe_cons, it_lst, it_tup, it_str, rng_one, rng_two, zip_tup, zip_lst, fr_fr, sh_sh, lst_lst, cel_cel, in_in, List.replicate_succ, List.replicate_zero, decide_eq_true_iff, true_and, and_true, ite_true, ite_false, if_true, if_false, Bool.false_eq_true, Bool.not_eq_true', List.length_cons, List.length_nil, isi_str, isi_tup, isi_lst, isi_int, isi_non, isi_bl, eq_tup, ne_tup, eq_lst, ne_lst, lt_tup, in_lst, nin_lst, nin_tup, at_0, at_1, at_2, at_3, Bool.true_eq_false, wE_rev, wS_seti, set_lst, eq_non_str, ne_non_str, ne_str_non, eq_non, ne_non, wE_dic0, wE_dic1, wE_dicL, wE_compI, wE_lrng, wE_rep, rep_str, wE_lix, dic_dic, key_str, key_int, in_dicS, nin_dicS, ix_dicS, set_dicS, min_lst, max_lst, max_int, sl_E, ix_E0, ix_E1, ix_E2, bT_E, isN_E, isN_dO, isN_str, isN_tup, isN_lst, isN_int, isN_non, eq_dO, ne_dO, eq_self, decide_true, decide_false, Bool.not_true, Bool.not_false, not_true_eq_false, not_false_eq_true]
    refine for_inv (fun i env s => Itop ns env s) _ 0 _ _ ⟨_, _, _, _, _, _, _, _, _, _, _, _, _, _, _, rfl, trivial⟩ ?_ ?_
    · rintro i x env s hx ⟨_, _, _, _, _, _, _, _, _, _, _, _, _, _, _, rfl, _⟩
      obtain ⟨rfl, hi⟩ := range_at hx
      simp only [wE_c, wE_v, wE_vo, wE_bin, wE_neg, wE_not, wE_cmp, wE_chain, wE_and, wE_or, wE_ite, wE_call, wE_b1, wE_b2, wE_isi, wE_m0, wE_m1, wE_idx, wE_sl, wE_ss, ss_lst, mul_str, isn_bl, notn_bl, wE_tup, wE_lst, wE_cel, wE_comp, wEs_nil, wEs_cons, wEo_no, wEo_so, wC_no, wC_so, wI_e, wI_rng, wI_enum, wI_zip, wI_map, wSs_nil, wSs_cons, wS_set, wS_seto, wS_unp, wS_par, wS_app, wS_setc, wS_drop, wS_ret, wS_reto, wS_retN, wS_pass, wS_brk, wS_cont, wS_fail, wS_ite, wS_for, wR_nil, wR_cons, seqQ_nx, seqQ_ret, seqQ_brk, seqQ_cont, outQ_nx, outQ_ret, outQ_brk, outQ_cont, d_sh, d_fr, d_vw, vw_sh, vw_fr, vw_vw, add_int, add_str, add_tup, add_lst, sub_int, mul_int, fdiv_int, mod_int, eq_str, ne_str, eq_int, ne_int, eq_bl, ne_bl, eq_sn, lt_int, le_int, gt_int, ge_int, isn_any, notn_any, in_sign, nin_sign, len_str, len_tup, len_lst, len_scr, all_map, any_map, list_tup, list_lst, list_str, tuple_lst, tuple_tup, int_int, abs_int, min_int, own_sh, own_fr, bool_sh, int_sh, ends_str, starts_str, lower_str, upper_str, sl_lst, sl_tup, sl_str, ix_lst, ix_tup, ix_scr, ix_str, ix_cell, at_zero, at_succ, set_zero, set_succ, startE_zero, startE_cons, Op_some, Op_none, bT_nm, bT_tup, bT_nil, bT_cons, pS_nil, pS_fr, pS_sh, wipe_nil, wipe_cons, it_lst, it_tup, it_str, rng_one, rng_two, zip_tup, zip_lst, fr_fr, sh_sh, lst_lst, cel_cel, in_in, List.replicate_succ, List.replicate_zero, decide_eq_true_iff, true_and, and_true, ite_true, ite_false, if_true, if_false, Bool.false_eq_true, Bool.not_eq_true', List.length_cons, List.length_nil, isi_str, isi_tup, isi_lst, isi_int, isi_non, isi_bl, eq_tup, ne_tup, eq_lst, ne_lst, lt_tup, in_lst, nin_lst, nin_tup, at_0, at_1, at_2, at_3, Bool.true_eq_false, wE_rev, wS_seti, set_lst, eq_non_str, ne_non_str, ne_str_non, eq_non, ne_non, wE_dic0, wE_dic1, wE_dicL, wE_compI, wE_lrng, wE_rep, rep_str, wE_lix, dic_dic, key_str, key_int, in_dicS, nin_dicS, ix_dicS, set_dicS, min_lst, max_lst, max_int, sl_E, ix_E0, ix_E1, ix_E2, bT_E, isN_E, isN_dO, isN_str, isN_tup, isN_lst, isN_int, isN_non, eq_dO, ne_dO, eq_self, decide_true, decide_false, Bool.not_true, Bool.not_false, not_true_eq_false, not_false_eq_true]
      refine (source_ok (by omega) (by split at hi <;> omega)).mono ?_
      rintro r s ⟨c, rfl, hs⟩
      simp only [bnd_small (show -1000000000 ≤ (4 : Int) by omega) (show (4 : Int) ≤ 1000000000 by omega), wE_c, wE_v, wE_vo, wE_bin, wE_neg, wE_not, wE_cmp, wE_chain, wE_and, wE_or, wE_ite, wE_call, wE_b1, wE_b2, wE_isi, wE_m0, wE_m1, wE_idx, wE_sl, wE_ss, ss_lst, mul_str, isn_bl, notn_bl, wE_tup, wE_lst, wE_cel, wE_comp, wEs_nil, wEs_cons, wEo_no, wEo_so, wC_no, wC_so, wI_e, wI_rng, wI_enum, wI_zip, wI_map, wSs_nil, wSs_cons, wS_set, wS_seto, wS_unp, wS_par, wS_app, wS_setc, wS_drop, wS_ret, wS_reto, wS_retN, wS_pass, wS_brk, wS_cont, wS_fail, wS_ite, wS_for, wR_nil, wR_cons, seqQ_nx, seqQ_ret, seqQ_brk, seqQ_cont, outQ_nx, outQ_ret, outQ_brk, outQ_cont, d_sh, d_fr, d_vw, vw_sh, vw_fr, vw_vw, add_int, add_str, add_tup, add_lst, sub_int, mul_int, fdiv_int, mod_int, eq_str, ne_str, eq_int, ne_int, eq_bl, ne_bl, eq_sn, lt_int, le_int, gt_int, ge_int, isn_any, notn_any, in_sign, nin_sign, len_str, len_tup, len_lst, len_scr, all_map, any_map, list_tup, list_lst, list_str, tuple_lst, tuple_tup, int_int, abs_int, min_int, own_sh, own_fr, bool_sh, int_sh, ends_str, starts_str, lower_str, upper_str, sl_lst, sl_tup, sl_str, ix_lst, ix_tup, ix_scr, ix_str, ix_cell, at_zero, at_succ, set_zero, set_succ, startE_zero, startE_cons, Op_some, Op_none, bT_nm, bT_tup, bT_nil, bT_cons, pS_nil, pS_fr, pS_sh, wipe_nil, wipe_cons, it_lst, it_tup, it_str, rng_one, rng_two, zip_tup, zip_lst, fr_fr, sh_sh, lst_lst, cel_cel, in_in, List.replicate_succ, List.replicate_zero, decide_eq_true_iff, true_and, and_true, ite_true, ite_false, if_true, if_false, Bool.false_eq_true, Bool.not_eq_true', List.length_cons, List.length_nil, isi_str, isi_tup, isi_lst, isi_int, isi_non, isi_bl, eq_tup, ne_tup, eq_lst, ne_lst, lt_tup, in_lst, nin_lst, nin_tup, at_0, at_1, at_2, at_3, Bool.true_eq_false, wE_rev, wS_seti, set_lst, eq_non_str, ne_non_str, ne_str_non, eq_non, ne_non, wE_dic0, wE_dic1, wE_dicL, wE_compI, wE_lrng, wE_rep, rep_str, wE_lix, dic_dic, key_str, key_int, in_dicS, nin_dicS, ix_dicS, set_dicS, min_lst, max_lst, max_int, sl_E, ix_E0, ix_E1, ix_E2, bT_E, isN_E, isN_dO, isN_str, isN_tup, isN_lst, isN_int, isN_non, eq_dO, ne_dO, eq_self, decide_true, decide_false, Bool.not_true, Bool.not_false, not_true_eq_false, not_false_eq_true]
      refine for_inv (fun i env s => Iturn ns c env s) _ 0 _ _ ⟨_, _, _, _, _, _, _, _, _, _, _, _, _, _, rfl, hs⟩ ?_ ?_
      · rintro i x env s _ ⟨_, _, _, _, _, _, _, _, _, _, _, _, _, _, rfl, hs⟩
        simp only [wE_c, wE_v, wE_vo, wE_bin, wE_neg, wE_not, wE_cmp, wE_chain, wE_and, wE_or, wE_ite, wE_call, wE_b1, wE_b2, wE_isi, wE_m0, wE_m1, wE_idx, wE_sl, wE_ss, ss_lst, mul_str, isn_bl, notn_bl, wE_tup, wE_lst, wE_cel, wE_comp, wEs_nil, wEs_cons, wEo_no, wEo_so, wC_no, wC_so, wI_e, wI_rng, wI_enum, wI_zip, wI_map, wSs_nil, wSs_cons, wS_set, wS_seto, wS_unp, wS_par, wS_app, wS_setc, wS_drop, wS_ret, wS_reto, wS_retN, wS_pass, wS_brk, wS_cont, wS_fail, wS_ite, wS_for, wR_nil, wR_cons, seqQ_nx, seqQ_ret, seqQ_brk, seqQ_cont, outQ_nx, outQ_ret, outQ_brk, outQ_cont, d_sh, d_fr, d_vw, vw_sh, vw_fr, vw_vw, add_int, add_str, add_tup, add_lst, sub_int, mul_int, fdiv_int, mod_int, eq_str, ne_str, eq_int, ne_int, eq_bl, ne_bl, eq_sn, lt_int, le_int, gt_int, ge_int, isn_any, notn_any, in_sign, nin_sign, len_str, len_tup, len_lst, len_scr, all_map, any_map, list_tup, list_lst, list_str, tuple_lst, tuple_tup, int_int, abs_int, min_int, own_sh, own_fr, bool_sh, int_sh, ends_str, starts_str, lower_str, upper_str, sl_lst, sl_tup, sl_str, ix_lst, ix_tup, ix_scr, ix_str, ix_cell, at_zero, at_succ, set_zero, set_succ, startE_zero, startE_cons, Op_some, Op_none, bT_nm, bT_tup, bT_nil, bT_cons, pS_nil, pS_fr, pS_sh, wipe_nil, wipe_cons, it_lst, it_tup, it_str, rng_one, rng_two, zip_tup, zip_lst, fr_fr, sh_sh, lst_lst, cel_cel, in_in, List.replicate_succ, List.replicate_zero, decide_eq_true_iff, true_and, and_true, ite_true, ite_false, if_true, if_false, Bool.false_eq_true, Bool.not_eq_true', List.length_cons, List.length_nil, isi_str, isi_tup, isi_lst, isi_int, isi_non, isi_bl, eq_tup, ne_tup, eq_lst, ne_lst, lt_tup, in_lst, nin_lst, nin_tup, at_0, at_1, at_2, at_3, Bool.true_eq_false, wE_rev, wS_seti, set_lst, eq_non_str, ne_non_str, ne_str_non, eq_non, ne_non, wE_dic0, wE_dic1, wE_dicL, wE_compI, wE_lrng, wE_rep, rep_str, wE_lix, dic_dic, key_str, key_int, in_dicS, nin_dicS, ix_dicS, set_dicS, min_lst, max_lst, max_int, sl_E, ix_E0, ix_E1, ix_E2, bT_E, isN_E, isN_dO, isN_str, isN_tup, isN_lst, isN_int, isN_non, eq_dO, ne_dO, eq_self, decide_true, decide_false, Bool.not_true, Bool.not_false, not_true_eq_false, not_false_eq_true]
        refine (draw_ok hs (by decide) (by decide)).mono ?_
        rintro r s ⟨hs, v, rfl, v0, v1⟩
        obtain ⟨far, rfl⟩ : ∃ far : Nat, v = (far : Nat) := ⟨v.toNat, by omega⟩
        have far2 : far ≤ 2 := by omega
        simp only [wE_c, wE_v, wE_vo, wE_bin, wE_neg, wE_not, wE_cmp, wE_chain, wE_and, wE_or, wE_ite, wE_call, wE_b1, wE_b2, wE_isi, wE_m0, wE_m1, wE_idx, wE_sl, wE_ss, ss_lst, mul_str, isn_bl, notn_bl, wE_tup, wE_lst, wE_cel, wE_comp, wEs_nil, wEs_cons, wEo_no, wEo_so, wC_no, wC_so, wI_e, wI_rng, wI_enum, wI_zip, wI_map, wSs_nil, wSs_cons, wS_set, wS_seto, wS_unp, wS_par, wS_app, wS_setc, wS_drop, wS_ret, wS_reto, wS_retN, wS_pass, wS_brk, wS_cont, wS_fail, wS_ite, wS_for, wR_nil, wR_cons, seqQ_nx, seqQ_ret, seqQ_brk, seqQ_cont, outQ_nx, outQ_ret, outQ_brk, outQ_cont, d_sh, d_fr, d_vw, vw_sh, vw_fr, vw_vw, add_int, add_str, add_tup, add_lst, sub_int, mul_int, fdiv_int, mod_int, eq_str, ne_str, eq_int, ne_int, eq_bl, ne_bl, eq_sn, lt_int, le_int, gt_int, ge_int, isn_any, notn_any, in_sign, nin_sign, len_str, len_tup, len_lst, len_scr, all_map, any_map, list_tup, list_lst, list_str, tuple_lst, tuple_tup, int_int, abs_int, min_int, own_sh, own_fr, bool_sh, int_sh, ends_str, starts_str, lower_str, upper_str, sl_lst, sl_tup, sl_str, ix_lst, ix_tup, ix_scr, ix_str, ix_cell, at_zero, at_succ, set_zero, set_succ, startE_zero, startE_cons, Op_some, Op_none, bT_nm, bT_tup, bT_nil, bT_cons, pS_nil, pS_fr, pS_sh, wipe_nil, wipe_cons, it_lst, it_tup, it_str, rng_one, rng_two, zip_tup, zip_lst, fr_fr, sh_sh, lst_lst, cel_cel, in_in, List.replicate_succ, List.replicate_zero, decide_eq_true_iff, true_and, and_true, ite_true, ite_false, if_true, if_false, Bool.false_eq_true, Bool.not_eq_true', List.length_cons, List.length_nil, isi_str, isi_tup, isi_lst, isi_int, isi_non, isi_bl, eq_tup, ne_tup, eq_lst, ne_lst, lt_tup, in_lst, nin_lst, nin_tup, at_0, at_1, at_2, at_3, Bool.true_eq_false, wE_rev, wS_seti, set_lst, eq_non_str, ne_non_str, ne_str_non, eq_non, ne_non, wE_dic0, wE_dic1, wE_dicL, wE_compI, wE_lrng, wE_rep, rep_str, wE_lix, dic_dic, key_str, key_int, in_dicS, nin_dicS, ix_dicS, set_dicS, min_lst, max_lst, max_int, sl_E, ix_E0, ix_E1, ix_E2, bT_E, isN_E, isN_dO, isN_str, isN_tup, isN_lst, isN_int, isN_non, eq_dO, ne_dO, eq_self, decide_true, decide_false, Bool.not_true, Bool.not_false, not_true_eq_false, not_false_eq_true]
        refine (draw_ok hs (by decide) (by decide)).mono ?_
        rintro r s ⟨hs, u, rfl, u0, u1⟩
        simp only [bnd_small (show -1000000000 ≤ (1 + u : Int) by omega) (show (1 + u : Int) ≤ 1000000000 by omega), wE_c, wE_v, wE_vo, wE_bin, wE_neg, wE_not, wE_cmp, wE_chain, wE_and, wE_or, wE_ite, wE_call, wE_b1, wE_b2, wE_isi, wE_m0, wE_m1, wE_idx, wE_sl, wE_ss, ss_lst, mul_str, isn_bl, notn_bl, wE_tup, wE_lst, wE_cel, wE_comp, wEs_nil, wEs_cons, wEo_no, wEo_so, wC_no, wC_so, wI_e, wI_rng, wI_enum, wI_zip, wI_map, wSs_nil, wSs_cons, wS_set, wS_seto, wS_unp, wS_par, wS_app, wS_setc, wS_drop, wS_ret, wS_reto, wS_retN, wS_pass, wS_brk, wS_cont, wS_fail, wS_ite, wS_for, wR_nil, wR_cons, seqQ_nx, seqQ_ret, seqQ_brk, seqQ_cont, outQ_nx, outQ_ret, outQ_brk, outQ_cont, d_sh, d_fr, d_vw, vw_sh, vw_fr, vw_vw, add_int, add_str, add_tup, add_lst, sub_int, mul_int, fdiv_int, mod_int, eq_str, ne_str, eq_int, ne_int, eq_bl, ne_bl, eq_sn, lt_int, le_int, gt_int, ge_int, isn_any, notn_any, in_sign, nin_sign, len_str, len_tup, len_lst, len_scr, all_map, any_map, list_tup, list_lst, list_str, tuple_lst, tuple_tup, int_int, abs_int, min_int, own_sh, own_fr, bool_sh, int_sh, ends_str, starts_str, lower_str, upper_str, sl_lst, sl_tup, sl_str, ix_lst, ix_tup, ix_scr, ix_str, ix_cell, at_zero, at_succ, set_zero, set_succ, startE_zero, startE_cons, Op_some, Op_none, bT_nm, bT_tup, bT_nil, bT_cons, pS_nil, pS_fr, pS_sh, wipe_nil, wipe_cons, it_lst, it_tup, it_str, rng_one, rng_two, zip_tup, zip_lst, fr_fr, sh_sh, lst_lst, cel_cel, in_in, List.replicate_succ, List.replicate_zero, decide_eq_true_iff, true_and, and_true, ite_true, ite_false, if_true, if_false, Bool.false_eq_true, Bool.not_eq_true', List.length_cons, List.length_nil, isi_str, isi_tup, isi_lst, isi_int, isi_non, isi_bl, eq_tup, ne_tup, eq_lst, ne_lst, lt_tup, in_lst, nin_lst, nin_tup, at_0, at_1, at_2, at_3, Bool.true_eq_false, wE_rev, wS_seti, set_lst, eq_non_str, ne_non_str, ne_str_non, eq_non, ne_non, wE_dic0, wE_dic1, wE_dicL, wE_compI, wE_lrng, wE_rep, rep_str, wE_lix, dic_dic, key_str, key_int, in_dicS, nin_dicS, ix_dicS, set_dicS, min_lst, max_lst, max_int, sl_E, ix_E0, ix_E1, ix_E2, bT_E, isN_E, isN_dO, isN_str, isN_tup, isN_lst, isN_int, isN_non, eq_dO, ne_dO, eq_self, decide_true, decide_false, Bool.not_true, Bool.not_false, not_true_eq_false, not_false_eq_true]
        refine for_inv (fun i env s => Isome ns c far i env s) _ 0 _ _ ⟨[], _, _, _, _, _, _, _, _, _, _, _, _, rfl, Nat.le_refl _, ⟨by decide, (fun e h => nomatch h), .nil⟩, (fun e h => nomatch h), (fun e h => nomatch h), hs⟩ ?_ ?_
        · rintro i x env s hx ⟨es, _, _, _, _, _, _, _, _, _, _, _, _, rfl, hl, hv, hk, hf, hs⟩
          have hi := (range_at hx).2
          simp only [wE_c, wE_v, wE_vo, wE_bin, wE_neg, wE_not, wE_cmp, wE_chain, wE_and, wE_or, wE_ite, wE_call, wE_b1, wE_b2, wE_isi, wE_m0, wE_m1, wE_idx, wE_sl, wE_ss, ss_lst, mul_str, isn_bl, notn_bl, wE_tup, wE_lst, wE_cel, wE_comp, wEs_nil, wEs_cons, wEo_no, wEo_so, wC_no, wC_so, wI_e, wI_rng, wI_enum, wI_zip, wI_map, wSs_nil, wSs_cons, wS_set, wS_seto, wS_unp, wS_par, wS_app, wS_setc, wS_drop, wS_ret, wS_reto, wS_retN, wS_pass, wS_brk, wS_cont, wS_fail, wS_ite, wS_for, wR_nil, wR_cons, seqQ_nx, seqQ_ret, seqQ_brk, seqQ_cont, outQ_nx, outQ_ret, outQ_brk, outQ_cont, d_sh, d_fr, d_vw, vw_sh, vw_fr, vw_vw, add_int, add_str, add_tup, add_lst, sub_int, mul_int, fdiv_int, mod_int, eq_str, ne_str, eq_int, ne_int, eq_bl, ne_bl, eq_sn, lt_int, le_int, gt_int, ge_int, isn_any, notn_any, in_sign, nin_sign, len_str, len_tup, len_lst, len_scr, all_map, any_map, list_tup, list_lst, list_str, tuple_lst, tuple_tup, int_int, abs_int, min_int, own_sh, own_fr, bool_sh, int_sh, ends_str, starts_str, lower_str, upper_str, sl_lst, sl_tup, sl_str, ix_lst, ix_tup, ix_scr, ix_str, ix_cell, at_zero, at_succ, set_zero, set_succ, startE_zero, startE_cons, Op_some, Op_none, bT_nm, bT_tup, bT_nil, bT_cons, pS_nil, pS_fr, pS_sh, wipe_nil, wipe_cons, it_lst, it_tup, it_str, rng_one, rng_two, zip_tup, zip_lst, fr_fr, sh_sh, lst_lst, cel_cel, in_in, List.replicate_succ, List.replicate_zero, decide_eq_true_iff, true_and, and_true, ite_true, ite_false, if_true, if_false, Bool.false_eq_true, Bool.not_eq_true', List.length_cons, List.length_nil, isi_str, isi_tup, isi_lst, isi_int, isi_non, isi_bl, eq_tup, ne_tup, eq_lst, ne_lst, lt_tup, in_lst, nin_lst, nin_tup, at_0, at_1, at_2, at_3, Bool.true_eq_false, wE_rev, wS_seti, set_lst, eq_non_str, ne_non_str, ne_str_non, eq_non, ne_non, wE_dic0, wE_dic1, wE_dicL, wE_compI, wE_lrng, wE_rep, rep_str, wE_lix, dic_dic, key_str, key_int, in_dicS, nin_dicS, ix_dicS, set_dicS, min_lst, max_lst, max_int, sl_E, ix_E0, ix_E1, ix_E2, bT_E, isN_E, isN_dO, isN_str, isN_tup, isN_lst, isN_int, isN_non, eq_dO, ne_dO, eq_self, decide_true, decide_false, Bool.not_true, Bool.not_false, not_true_eq_false, not_false_eq_true]
          refine (letters_ok hs (by decide) (by decide) (by decide)).mono ?_
          rintro r s ⟨hs, o, rfl, o1, o2, o3⟩
          simp only [wE_c, wE_v, wE_vo, wE_bin, wE_neg, wE_not, wE_cmp, wE_chain, wE_and, wE_or, wE_ite, wE_call, wE_b1, wE_b2, wE_isi, wE_m0, wE_m1, wE_idx, wE_sl, wE_ss, ss_lst, mul_str, isn_bl, notn_bl, wE_tup, wE_lst, wE_cel, wE_comp, wEs_nil, wEs_cons, wEo_no, wEo_so, wC_no, wC_so, wI_e, wI_rng, wI_enum, wI_zip, wI_map, wSs_nil, wSs_cons, wS_set, wS_seto, wS_unp, wS_par, wS_app, wS_setc, wS_drop, wS_ret, wS_reto, wS_retN, wS_pass, wS_brk, wS_cont, wS_fail, wS_ite, wS_for, wR_nil, wR_cons, seqQ_nx, seqQ_ret, seqQ_brk, seqQ_cont, outQ_nx, outQ_ret, outQ_brk, outQ_cont, d_sh, d_fr, d_vw, vw_sh, vw_fr, vw_vw, add_int, add_str, add_tup, add_lst, sub_int, mul_int, fdiv_int, mod_int, eq_str, ne_str, eq_int, ne_int, eq_bl, ne_bl, eq_sn, lt_int, le_int, gt_int, ge_int, isn_any, notn_any, in_sign, nin_sign, len_str, len_tup, len_lst, len_scr, all_map, any_map, list_tup, list_lst, list_str, tuple_lst, tuple_tup, int_int, abs_int, min_int, own_sh, own_fr, bool_sh, int_sh, ends_str, starts_str, lower_str, upper_str, sl_lst, sl_tup, sl_str, ix_lst, ix_tup, ix_scr, ix_str, ix_cell, at_zero, at_succ, set_zero, set_succ, startE_zero, startE_cons, Op_some, Op_none, bT_nm, bT_tup, bT_nil, bT_cons, pS_nil, pS_fr, pS_sh, wipe_nil, wipe_cons, it_lst, it_tup, it_str, rng_one, rng_two, zip_tup, zip_lst, fr_fr, sh_sh, lst_lst, cel_cel, in_in, List.replicate_succ, List.replicate_zero, decide_eq_true_iff, true_and, and_true, ite_true, ite_false, if_true, if_false, Bool.false_eq_true, Bool.not_eq_true', List.length_cons, List.length_nil, isi_str, isi_tup, isi_lst, isi_int, isi_non, isi_bl, eq_tup, ne_tup, eq_lst, ne_lst, lt_tup, in_lst, nin_lst, nin_tup, at_0, at_1, at_2, at_3, Bool.true_eq_false, wE_rev, wS_seti, set_lst, eq_non_str, ne_non_str, ne_str_non, eq_non, ne_non, wE_dic0, wE_dic1, wE_dicL, wE_compI, wE_lrng, wE_rep, rep_str, wE_lix, dic_dic, key_str, key_int, in_dicS, nin_dicS, ix_dicS, set_dicS, min_lst, max_lst, max_int, sl_E, ix_E0, ix_E1, ix_E2, bT_E, isN_E, isN_dO, isN_str, isN_tup, isN_lst, isN_int, isN_non, eq_dO, ne_dO, eq_self, decide_true, decide_false, Bool.not_true, Bool.not_false, not_true_eq_false, not_false_eq_true]
          refine ⟨by omega, by omega, ?_⟩
          refine (letters_ok hs (by omega) (by omega) (by omega)).mono ?_
          rintro r s ⟨hs, n, rfl, n1, n2, n3⟩
          simp only [wE_c, wE_v, wE_vo, wE_bin, wE_neg, wE_not, wE_cmp, wE_chain, wE_and, wE_or, wE_ite, wE_call, wE_b1, wE_b2, wE_isi, wE_m0, wE_m1, wE_idx, wE_sl, wE_ss, ss_lst, mul_str, isn_bl, notn_bl, wE_tup, wE_lst, wE_cel, wE_comp, wEs_nil, wEs_cons, wEo_no, wEo_so, wC_no, wC_so, wI_e, wI_rng, wI_enum, wI_zip, wI_map, wSs_nil, wSs_cons, wS_set, wS_seto, wS_unp, wS_par, wS_app, wS_setc, wS_drop, wS_ret, wS_reto, wS_retN, wS_pass, wS_brk, wS_cont, wS_fail, wS_ite, wS_for, wR_nil, wR_cons, seqQ_nx, seqQ_ret, seqQ_brk, seqQ_cont, outQ_nx, outQ_ret, outQ_brk, outQ_cont, d_sh, d_fr, d_vw, vw_sh, vw_fr, vw_vw, add_int, add_str, add_tup, add_lst, sub_int, mul_int, fdiv_int, mod_int, eq_str, ne_str, eq_int, ne_int, eq_bl, ne_bl, eq_sn, lt_int, le_int, gt_int, ge_int, isn_any, notn_any, in_sign, nin_sign, len_str, len_tup, len_lst, len_scr, all_map, any_map, list_tup, list_lst, list_str, tuple_lst, tuple_tup, int_int, abs_int, min_int, own_sh, own_fr, bool_sh, int_sh, ends_str, starts_str, lower_str, upper_str, sl_lst, sl_tup, sl_str, ix_lst, ix_tup, ix_scr, ix_str, ix_cell, at_zero, at_succ, set_zero, set_succ, startE_zero, startE_cons, Op_some, Op_none, bT_nm, bT_tup, bT_nil, bT_cons, pS_nil, pS_fr, pS_sh, wipe_nil, wipe_cons, it_lst, it_tup, it_str, rng_one, rng_two, zip_tup, zip_lst, fr_fr, sh_sh, lst_lst, cel_cel, in_in, List.replicate_succ, List.replicate_zero, decide_eq_true_iff, true_and, and_true, ite_true, ite_false, if_true, if_false, Bool.false_eq_true, Bool.not_eq_true', List.length_cons, List.length_nil, isi_str, isi_tup, isi_lst, isi_int, isi_non, isi_bl, eq_tup, ne_tup, eq_lst, ne_lst, lt_tup, in_lst, nin_lst, nin_tup, at_0, at_1, at_2, at_3, Bool.true_eq_false, wE_rev, wS_seti, set_lst, eq_non_str, ne_non_str, ne_str_non, eq_non, ne_non, wE_dic0, wE_dic1, wE_dicL, wE_compI, wE_lrng, wE_rep, rep_str, wE_lix, dic_dic, key_str, key_int, in_dicS, nin_dicS, ix_dicS, set_dicS, min_lst, max_lst, max_int, sl_E, ix_E0, ix_E1, ix_E2, bT_E, isN_E, isN_dO, isN_str, isN_tup, isN_lst, isN_int, isN_non, eq_dO, ne_dO, eq_self, decide_true, decide_false, Bool.not_true, Bool.not_false, not_true_eq_false, not_false_eq_true]
          rw [comp_map (fun e => D.str e.o) es (by intro e he; simp only [wE_c, wE_v, wE_vo, wE_bin, wE_neg, wE_not, wE_cmp, wE_chain, wE_and, wE_or, wE_ite, wE_call, wE_b1, wE_b2, wE_isi, wE_m0, wE_m1, wE_idx, wE_sl, wE_ss, ss_lst, mul_str, isn_bl, notn_bl, wE_tup, wE_lst, wE_cel, wE_comp, wEs_nil, wEs_cons, wEo_no, wEo_so, wC_no, wC_so, wI_e, wI_rng, wI_enum, wI_zip, wI_map, wSs_nil, wSs_cons, wS_set, wS_seto, wS_unp, wS_par, wS_app, wS_setc, wS_drop, wS_ret, wS_reto, wS_retN, wS_pass, wS_brk, wS_cont, wS_fail, wS_ite, wS_for, wR_nil, wR_cons, seqQ_nx, seqQ_ret, seqQ_brk, seqQ_cont, outQ_nx, outQ_ret, outQ_brk, outQ_cont, d_sh, d_fr, d_vw, vw_sh, vw_fr, vw_vw, add_int, add_str, add_tup, add_lst, sub_int, mul_int, fdiv_int, mod_int, eq_str, ne_str, eq_int, ne_int, eq_bl, ne_bl, eq_sn, lt_int, le_int, gt_int, ge_int, isn_any, notn_any, in_sign, nin_sign, len_str, len_tup, len_lst, len_scr, all_map, any_map, list_tup, list_lst, list_str, tuple_lst, tuple_tup, int_int, abs_int, min_int, own_sh, own_fr, bool_sh, int_sh, ends_str, starts_str, lower_str, upper_str, sl_lst, sl_tup, sl_str, ix_lst, ix_tup, ix_scr, ix_str, ix_cell, at_zero, at_succ, set_zero, set_succ, startE_zero, startE_cons, Op_some, Op_none, bT_nm, bT_tup, bT_nil, bT_cons, pS_nil, pS_fr, pS_sh, wipe_nil, wipe_cons, it_lst, it_tup, it_str, rng_one, rng_two, zip_tup, zip_lst, fr_fr, sh_sh, lst_lst, cel_cel, in_in, List.replicate_succ, List.replicate_zero, decide_eq_true_iff, true_and, and_true, ite_true, ite_false, if_true, if_false, Bool.false_eq_true, Bool.not_eq_true', List.length_cons, List.length_nil, isi_str, isi_tup, isi_lst, isi_int, isi_non, isi_bl, eq_tup, ne_tup, eq_lst, ne_lst, lt_tup, in_lst, nin_lst, nin_tup, at_0, at_1, at_2, at_3, Bool.true_eq_false, wE_rev, wS_seti, set_lst, eq_non_str, ne_non_str, ne_str_non, eq_non, ne_non, wE_dic0, wE_dic1, wE_dicL, wE_compI, wE_lrng, wE_rep, rep_str, wE_lix, dic_dic, key_str, key_int, in_dicS, nin_dicS, ix_dicS, set_dicS, min_lst, max_lst, max_int, sl_E, ix_E0, ix_E1, ix_E2, bT_E, isN_E, isN_dO, isN_str, isN_tup, isN_lst, isN_int, isN_non, eq_dO, ne_dO, eq_self, decide_true, decide_false, Bool.not_true, Bool.not_false, not_true_eq_false, not_false_eq_true])]
          have p1 := pl_tx (z := o) (fun c hc => small_abcde (o3 c hc))
          have p2 : (D.lst (es.map fun e => D.str e.o)).pl = true := by
            have := pl_txs (zs := es.map (·.o)) (fun z hz c hc => by
              obtain ⟨e, he, rfl⟩ := List.mem_map.mp hz
              exact small_abcde ((hv.ok e he).o4.2.2 c hc))
            rw [List.map_map] at this; exact this
          have an : ((es.map fun e => D.str e.o).any fun z => PySem.PyData.eqv z.py (D.str o).py) = decide (o ∈ es.map (·.o)) := by
            have := any_strs (x := o) (ys := es.map (·.o))
            rw [List.map_map] at this; exact this
          have el := hv.len
          simp only [List.length_map, p1, p2, an, wE_c, wE_v, wE_vo, wE_bin, wE_neg, wE_not, wE_cmp, wE_chain, wE_and, wE_or, wE_ite, wE_call, wE_b1, wE_b2, wE_isi, wE_m0, wE_m1, wE_idx, wE_sl, wE_ss, ss_lst, mul_str, isn_bl, notn_bl, wE_tup, wE_lst, wE_cel, wE_comp, wEs_nil, wEs_cons, wEo_no, wEo_so, wC_no, wC_so, wI_e, wI_rng, wI_enum, wI_zip, wI_map, wSs_nil, wSs_cons, wS_set, wS_seto, wS_unp, wS_par, wS_app, wS_setc, wS_drop, wS_ret, wS_reto, wS_retN, wS_pass, wS_brk, wS_cont, wS_fail, wS_ite, wS_for, wR_nil, wR_cons, seqQ_nx, seqQ_ret, seqQ_brk, seqQ_cont, outQ_nx, outQ_ret, outQ_brk, outQ_cont, d_sh, d_fr, d_vw, vw_sh, vw_fr, vw_vw, add_int, add_str, add_tup, add_lst, sub_int, mul_int, fdiv_int, mod_int, eq_str, ne_str, eq_int, ne_int, eq_bl, ne_bl, eq_sn, lt_int, le_int, gt_int, ge_int, isn_any, notn_any, in_sign, nin_sign, len_str, len_tup, len_lst, len_scr, all_map, any_map, list_tup, list_lst, list_str, tuple_lst, tuple_tup, int_int, abs_int, min_int, own_sh, own_fr, bool_sh, int_sh, ends_str, starts_str, lower_str, upper_str, sl_lst, sl_tup, sl_str, ix_lst, ix_tup, ix_scr, ix_str, ix_cell, at_zero, at_succ, set_zero, set_succ, startE_zero, startE_cons, Op_some, Op_none, bT_nm, bT_tup, bT_nil, bT_cons, pS_nil, pS_fr, pS_sh, wipe_nil, wipe_cons, it_lst, it_tup, it_str, rng_one, rng_two, zip_tup, zip_lst, fr_fr, sh_sh, lst_lst, cel_cel, in_in, List.replicate_succ, List.replicate_zero, decide_eq_true_iff, true_and, and_true, ite_true, ite_false, if_true, if_false, Bool.false_eq_true, Bool.not_eq_true', List.length_cons, List.length_nil, isi_str, isi_tup, isi_lst, isi_int, isi_non, isi_bl, eq_tup, ne_tup, eq_lst, ne_lst, lt_tup, in_lst, nin_lst, nin_tup, at_0, at_1, at_2, at_3, Bool.true_eq_false, wE_rev, wS_seti, set_lst, eq_non_str, ne_non_str, ne_str_non, eq_non, ne_non, wE_dic0, wE_dic1, wE_dicL, wE_compI, wE_lrng, wE_rep, rep_str, wE_lix, dic_dic, key_str, key_int, in_dicS, nin_dicS, ix_dicS, set_dicS, min_lst, max_lst, max_int, sl_E, ix_E0, ix_E1, ix_E2, bT_E, isN_E, isN_dO, isN_str, isN_tup, isN_lst, isN_int, isN_non, eq_dO, ne_dO, eq_self, decide_true, decide_false, Bool.not_true, Bool.not_false, not_true_eq_false, not_false_eq_true]
          have go : ∀ zs : List (Option D), ¬ o = n → o ∉ es.map (·.o) → ∃ es' : List Ent, es.map dE ++ [D.tup [.str [101, 110, 100], .str o, .str n]] = es'.map dE ∧ es'.length ≤ 0 + i + 1 ∧ VS es' ∧ (∀ e ∈ es', e.k = endT) ∧ Far far es' := by
            intro zs hne hno
            refine ⟨es ++ [⟨endT, o, n⟩], by rw [List.map_append]; rfl, by rw [List.length_append]; simp; omega, ⟨?_, ?_, ?_⟩, ?_, ?_⟩
            · rw [List.length_append]; simp; omega
            · intro e he
              rcases List.mem_append.mp he with he | he
              · exact hv.ok e he
              · rw [List.mem_singleton.mp he]
                refine ⟨.inr rfl, isLet_of (by show 1 ≤ n.length; omega) (by show (n.length : Int) ≤ 4; omega) n3, ?_, hne⟩
                show isLet o (if endT = wordT then 4 else 3) = true
                rw [if_neg (by decide)]
                exact isLet_of (by omega) (by omega) o3
            · rw [List.pairwise_append]
              refine ⟨hv.keys, List.pairwise_singleton _ _, fun a ha b hb => ?_⟩
              rw [List.mem_singleton.mp hb]
              intro z
              exact hno (List.mem_map.mpr ⟨a, ha, (Prod.mk.inj z).2⟩)
            · intro e he
              rcases List.mem_append.mp he with he | he
              · exact hk e he
              · rw [List.mem_singleton.mp he]
            · intro e he
              rcases List.mem_append.mp he with he | he
              · exact hf e he
              · rw [List.mem_singleton.mp he]
                show n.length = o.length + far
                omega
          have stay : ∀ z1 z2 z3 z5 z6 z7 z10 z11 z12 z13 z14 z15, Isome ns c far (0 + i + 1) [some (.scr ns), z1, z2, z3, some (.cell c), z5, z6, z7, some (.int (far : Nat)), some (.lst (es.map dE)), z10, z11, z12, z13, z14, z15] s := fun z1 z2 z3 z5 z6 z7 z10 z11 z12 z13 z14 z15 => ⟨es, _, _, _, _, _, _, _, _, _, _, _, _, rfl, by omega, hv, hk, hf, hs⟩
          by_cases hne : o = n
          · rw [if_neg (by simpa using hne)]
            exact stay _ _ _ _ _ _ _ _ _ _ _ _
          · rw [if_pos (by simpa using hne)]
            refine ⟨by omega, ?_⟩
            split
            · rename_i hno
              obtain ⟨es', e1, e2, e3, e4, e5⟩ := go [] hne (by simpa using hno)
              rw [e1]
              exact ⟨by omega, es', _, _, _, _, _, _, _, _, _, _, _, _, rfl, e2, e3, e4, e5, hs⟩
            · exact stay _ _ _ _ _ _ _ _ _ _ _ _
        · rintro env s ⟨es, _, _, _, _, _, _, _, _, _, _, _, _, rfl, hl, hv, hk, hf, hs⟩
          simp only [sorted_E hv.ok, wE_c, wE_v, wE_vo, wE_bin, wE_neg, wE_not, wE_cmp, wE_chain, wE_and, wE_or, wE_ite, wE_call, wE_b1, wE_b2, wE_isi, wE_m0, wE_m1, wE_idx, wE_sl, wE_ss, ss_lst, mul_str, isn_bl, notn_bl, wE_tup, wE_lst, wE_cel, wE_comp, wEs_nil, wEs_cons, wEo_no, wEo_so, wC_no, wC_so, wI_e, wI_rng, wI_enum, wI_zip, wI_map, wSs_nil, wSs_cons, wS_set, wS_seto, wS_unp, wS_par, wS_app, wS_setc, wS_drop, wS_ret, wS_reto, wS_retN, wS_pass, wS_brk, wS_cont, wS_fail, wS_ite, wS_for, wR_nil, wR_cons, seqQ_nx, seqQ_ret, seqQ_brk, seqQ_cont, outQ_nx, outQ_ret, outQ_brk, outQ_cont, d_sh, d_fr, d_vw, vw_sh, vw_fr, vw_vw, add_int, add_str, add_tup, add_lst, sub_int, mul_int, fdiv_int, mod_int, eq_str, ne_str, eq_int, ne_int, eq_bl, ne_bl, eq_sn, lt_int, le_int, gt_int, ge_int, isn_any, notn_any, in_sign, nin_sign, len_str, len_tup, len_lst, len_scr, all_map, any_map, list_tup, list_lst, list_str, tuple_lst, tuple_tup, int_int, abs_int, min_int, own_sh, own_fr, bool_sh, int_sh, ends_str, starts_str, lower_str, upper_str, sl_lst, sl_tup, sl_str, ix_lst, ix_tup, ix_scr, ix_str, ix_cell, at_zero, at_succ, set_zero, set_succ, startE_zero, startE_cons, Op_some, Op_none, bT_nm, bT_tup, bT_nil, bT_cons, pS_nil, pS_fr, pS_sh, wipe_nil, wipe_cons, it_lst, it_tup, it_str, rng_one, rng_two, zip_tup, zip_lst, fr_fr, sh_sh, lst_lst, cel_cel, in_in, List.replicate_succ, List.replicate_zero, decide_eq_true_iff, true_and, and_true, ite_true, ite_false, if_true, if_false, Bool.false_eq_true, Bool.not_eq_true', List.length_cons, List.length_nil, isi_str, isi_tup, isi_lst, isi_int, isi_non, isi_bl, eq_tup, ne_tup, eq_lst, ne_lst, lt_tup, in_lst, nin_lst, nin_tup, at_0, at_1, at_2, at_3, Bool.true_eq_false, wE_rev, wS_seti, set_lst, eq_non_str, ne_non_str, ne_str_non, eq_non, ne_non, wE_dic0, wE_dic1, wE_dicL, wE_compI, wE_lrng, wE_rep, rep_str, wE_lix, dic_dic, key_str, key_int, in_dicS, nin_dicS, ix_dicS, set_dicS, min_lst, max_lst, max_int, sl_E, ix_E0, ix_E1, ix_E2, bT_E, isN_E, isN_dO, isN_str, isN_tup, isN_lst, isN_int, isN_non, eq_dO, ne_dO, eq_self, decide_true, decide_false, Bool.not_true, Bool.not_false, not_true_eq_false, not_false_eq_true]
          have vp := hv.vp
          have hk : ∀ e ∈ es.mergeSort leE, e.k = endT := fun e he => hk e (List.mem_mergeSort.mp he)
          have hf : Far far (es.mergeSort leE) := fun e he => hf e (List.mem_mergeSort.mp he)
          rw [show D.tup ((es.mergeSort leE).map dE) = dL (es.mergeSort leE) from rfl]
          generalize es.mergeSort leE = ls at *
          refine (letters_ok hs (by decide) (by decide) (by decide)).mono ?_
          rintro r s ⟨hs, w, rfl, w1, w2, wc⟩
          have hw : isLet w 12 = true := isLet_of (by omega) (by omega) wc
          simp only [wE_c, wE_v, wE_vo, wE_bin, wE_neg, wE_not, wE_cmp, wE_chain, wE_and, wE_or, wE_ite, wE_call, wE_b1, wE_b2, wE_isi, wE_m0, wE_m1, wE_idx, wE_sl, wE_ss, ss_lst, mul_str, isn_bl, notn_bl, wE_tup, wE_lst, wE_cel, wE_comp, wEs_nil, wEs_cons, wEo_no, wEo_so, wC_no, wC_so, wI_e, wI_rng, wI_enum, wI_zip, wI_map, wSs_nil, wSs_cons, wS_set, wS_seto, wS_unp, wS_par, wS_app, wS_setc, wS_drop, wS_ret, wS_reto, wS_retN, wS_pass, wS_brk, wS_cont, wS_fail, wS_ite, wS_for, wR_nil, wR_cons, seqQ_nx, seqQ_ret, seqQ_brk, seqQ_cont, outQ_nx, outQ_ret, outQ_brk, outQ_cont, d_sh, d_fr, d_vw, vw_sh, vw_fr, vw_vw, add_int, add_str, add_tup, add_lst, sub_int, mul_int, fdiv_int, mod_int, eq_str, ne_str, eq_int, ne_int, eq_bl, ne_bl, eq_sn, lt_int, le_int, gt_int, ge_int, isn_any, notn_any, in_sign, nin_sign, len_str, len_tup, len_lst, len_scr, all_map, any_map, list_tup, list_lst, list_str, tuple_lst, tuple_tup, int_int, abs_int, min_int, own_sh, own_fr, bool_sh, int_sh, ends_str, starts_str, lower_str, upper_str, sl_lst, sl_tup, sl_str, ix_lst, ix_tup, ix_scr, ix_str, ix_cell, at_zero, at_succ, set_zero, set_succ, startE_zero, startE_cons, Op_some, Op_none, bT_nm, bT_tup, bT_nil, bT_cons, pS_nil, pS_fr, pS_sh, wipe_nil, wipe_cons, it_lst, it_tup, it_str, rng_one, rng_two, zip_tup, zip_lst, fr_fr, sh_sh, lst_lst, cel_cel, in_in, List.replicate_succ, List.replicate_zero, decide_eq_true_iff, true_and, and_true, ite_true, ite_false, if_true, if_false, Bool.false_eq_true, Bool.not_eq_true', List.length_cons, List.length_nil, isi_str, isi_tup, isi_lst, isi_int, isi_non, isi_bl, eq_tup, ne_tup, eq_lst, ne_lst, lt_tup, in_lst, nin_lst, nin_tup, at_0, at_1, at_2, at_3, Bool.true_eq_false, wE_rev, wS_seti, set_lst, eq_non_str, ne_non_str, ne_str_non, eq_non, ne_non, wE_dic0, wE_dic1, wE_dicL, wE_compI, wE_lrng, wE_rep, rep_str, wE_lix, dic_dic, key_str, key_int, in_dicS, nin_dicS, ix_dicS, set_dicS, min_lst, max_lst, max_int, sl_E, ix_E0, ix_E1, ix_E2, bT_E, isN_E, isN_dO, isN_str, isN_tup, isN_lst, isN_int, isN_non, eq_dO, ne_dO, eq_self, decide_true, decide_false, Bool.not_true, Bool.not_false, not_true_eq_false, not_false_eq_true]
          refine (draw_ok hs (by decide) (by decide)).mono ?_
          rintro r s ⟨hs, t, rfl, t0, t1⟩
          simp only [wE_c, wE_v, wE_vo, wE_bin, wE_neg, wE_not, wE_cmp, wE_chain, wE_and, wE_or, wE_ite, wE_call, wE_b1, wE_b2, wE_isi, wE_m0, wE_m1, wE_idx, wE_sl, wE_ss, ss_lst, mul_str, isn_bl, notn_bl, wE_tup, wE_lst, wE_cel, wE_comp, wEs_nil, wEs_cons, wEo_no, wEo_so, wC_no, wC_so, wI_e, wI_rng, wI_enum, wI_zip, wI_map, wSs_nil, wSs_cons, wS_set, wS_seto, wS_unp, wS_par, wS_app, wS_setc, wS_drop, wS_ret, wS_reto, wS_retN, wS_pass, wS_brk, wS_cont, wS_fail, wS_ite, wS_for, wR_nil, wR_cons, seqQ_nx, seqQ_ret, seqQ_brk, seqQ_cont, outQ_nx, outQ_ret, outQ_brk, outQ_cont, d_sh, d_fr, d_vw, vw_sh, vw_fr, vw_vw, add_int, add_str, add_tup, add_lst, sub_int, mul_int, fdiv_int, mod_int, eq_str, ne_str, eq_int, ne_int, eq_bl, ne_bl, eq_sn, lt_int, le_int, gt_int, ge_int, isn_any, notn_any, in_sign, nin_sign, len_str, len_tup, len_lst, len_scr, all_map, any_map, list_tup, list_lst, list_str, tuple_lst, tuple_tup, int_int, abs_int, min_int, own_sh, own_fr, bool_sh, int_sh, ends_str, starts_str, lower_str, upper_str, sl_lst, sl_tup, sl_str, ix_lst, ix_tup, ix_scr, ix_str, ix_cell, at_zero, at_succ, set_zero, set_succ, startE_zero, startE_cons, Op_some, Op_none, bT_nm, bT_tup, bT_nil, bT_cons, pS_nil, pS_fr, pS_sh, wipe_nil, wipe_cons, it_lst, it_tup, it_str, rng_one, rng_two, zip_tup, zip_lst, fr_fr, sh_sh, lst_lst, cel_cel, in_in, List.replicate_succ, List.replicate_zero, decide_eq_true_iff, true_and, and_true, ite_true, ite_false, if_true, if_false, Bool.false_eq_true, Bool.not_eq_true', List.length_cons, List.length_nil, isi_str, isi_tup, isi_lst, isi_int, isi_non, isi_bl, eq_tup, ne_tup, eq_lst, ne_lst, lt_tup, in_lst, nin_lst, nin_tup, at_0, at_1, at_2, at_3, Bool.true_eq_false, wE_rev, wS_seti, set_lst, eq_non_str, ne_non_str, ne_str_non, eq_non, ne_non, wE_dic0, wE_dic1, wE_dicL, wE_compI, wE_lrng, wE_rep, rep_str, wE_lix, dic_dic, key_str, key_int, in_dicS, nin_dicS, ix_dicS, set_dicS, min_lst, max_lst, max_int, sl_E, ix_E0, ix_E1, ix_E2, bT_E, isN_E, isN_dO, isN_str, isN_tup, isN_lst, isN_int, isN_non, eq_dO, ne_dO, eq_self, decide_true, decide_false, Bool.not_true, Bool.not_false, not_true_eq_false, not_false_eq_true]
          refine (rest_ok hF (by omega) vp.vl hw).mono ?_
          rintro r s' ⟨rfl, rs, rfl, R⟩
          have hB := far_stops hf hk vp.vl wc
          have fle := far_le hf hk (w := w)
          simp only [wE_c, wE_v, wE_vo, wE_bin, wE_neg, wE_not, wE_cmp, wE_chain, wE_and, wE_or, wE_ite, wE_call, wE_b1, wE_b2, wE_isi, wE_m0, wE_m1, wE_idx, wE_sl, wE_ss, ss_lst, mul_str, isn_bl, notn_bl, wE_tup, wE_lst, wE_cel, wE_comp, wEs_nil, wEs_cons, wEo_no, wEo_so, wC_no, wC_so, wI_e, wI_rng, wI_enum, wI_zip, wI_map, wSs_nil, wSs_cons, wS_set, wS_seto, wS_unp, wS_par, wS_app, wS_setc, wS_drop, wS_ret, wS_reto, wS_retN, wS_pass, wS_brk, wS_cont, wS_fail, wS_ite, wS_for, wR_nil, wR_cons, seqQ_nx, seqQ_ret, seqQ_brk, seqQ_cont, outQ_nx, outQ_ret, outQ_brk, outQ_cont, d_sh, d_fr, d_vw, vw_sh, vw_fr, vw_vw, add_int, add_str, add_tup, add_lst, sub_int, mul_int, fdiv_int, mod_int, eq_str, ne_str, eq_int, ne_int, eq_bl, ne_bl, eq_sn, lt_int, le_int, gt_int, ge_int, isn_any, notn_any, in_sign, nin_sign, len_str, len_tup, len_lst, len_scr, all_map, any_map, list_tup, list_lst, list_str, tuple_lst, tuple_tup, int_int, abs_int, min_int, own_sh, own_fr, bool_sh, int_sh, ends_str, starts_str, lower_str, upper_str, sl_lst, sl_tup, sl_str, ix_lst, ix_tup, ix_scr, ix_str, ix_cell, at_zero, at_succ, set_zero, set_succ, startE_zero, startE_cons, Op_some, Op_none, bT_nm, bT_tup, bT_nil, bT_cons, pS_nil, pS_fr, pS_sh, wipe_nil, wipe_cons, it_lst, it_tup, it_str, rng_one, rng_two, zip_tup, zip_lst, fr_fr, sh_sh, lst_lst, cel_cel, in_in, List.replicate_succ, List.replicate_zero, decide_eq_true_iff, true_and, and_true, ite_true, ite_false, if_true, if_false, Bool.false_eq_true, Bool.not_eq_true', List.length_cons, List.length_nil, isi_str, isi_tup, isi_lst, isi_int, isi_non, isi_bl, eq_tup, ne_tup, eq_lst, ne_lst, lt_tup, in_lst, nin_lst, nin_tup, at_0, at_1, at_2, at_3, Bool.true_eq_false, wE_rev, wS_seti, set_lst, eq_non_str, ne_non_str, ne_str_non, eq_non, ne_non, wE_dic0, wE_dic1, wE_dicL, wE_compI, wE_lrng, wE_rep, rep_str, wE_lix, dic_dic, key_str, key_int, in_dicS, nin_dicS, ix_dicS, set_dicS, min_lst, max_lst, max_int, sl_E, ix_E0, ix_E1, ix_E2, bT_E, isN_E, isN_dO, isN_str, isN_tup, isN_lst, isN_int, isN_non, eq_dO, ne_dO, eq_self, decide_true, decide_false, Bool.not_true, Bool.not_false, not_true_eq_false, not_false_eq_true]
          refine length_after_ok hB (by decide) (by omega) vp.vl hw (by omega) (by omega) ?_
          obtain ⟨T, hT⟩ : ∃ T : Nat, 1 + t = (T : Nat) := ⟨(1 + t).toNat, by omega⟩
          have T1 : 1 ≤ T := by omega
          have T40 : T ≤ 40 := by omega
          have ft := fle T
          rw [hT]
          have p18 : ((10 : Int) ^ (Int.toNat 18)) = 1000000000000000000 := by decide +kernel
          have mT : ((far : Int) * (T : Nat)) = ((far * T : Nat) : Int) := (Int.natCast_mul _ _).symm
          simp only [Int.toNat_natCast, wE_c, wE_v, wE_vo, wE_bin, wE_neg, wE_not, wE_cmp, wE_chain, wE_and, wE_or, wE_ite, wE_call, wE_b1, wE_b2, wE_isi, wE_m0, wE_m1, wE_idx, wE_sl, wE_ss, ss_lst, mul_str, isn_bl, notn_bl, wE_tup, wE_lst, wE_cel, wE_comp, wEs_nil, wEs_cons, wEo_no, wEo_so, wC_no, wC_so, wI_e, wI_rng, wI_enum, wI_zip, wI_map, wSs_nil, wSs_cons, wS_set, wS_seto, wS_unp, wS_par, wS_app, wS_setc, wS_drop, wS_ret, wS_reto, wS_retN, wS_pass, wS_brk, wS_cont, wS_fail, wS_ite, wS_for, wR_nil, wR_cons, seqQ_nx, seqQ_ret, seqQ_brk, seqQ_cont, outQ_nx, outQ_ret, outQ_brk, outQ_cont, d_sh, d_fr, d_vw, vw_sh, vw_fr, vw_vw, add_int, add_str, add_tup, add_lst, sub_int, mul_int, fdiv_int, mod_int, eq_str, ne_str, eq_int, ne_int, eq_bl, ne_bl, eq_sn, lt_int, le_int, gt_int, ge_int, isn_any, notn_any, in_sign, nin_sign, len_str, len_tup, len_lst, len_scr, all_map, any_map, list_tup, list_lst, list_str, tuple_lst, tuple_tup, int_int, abs_int, min_int, own_sh, own_fr, bool_sh, int_sh, ends_str, starts_str, lower_str, upper_str, sl_lst, sl_tup, sl_str, ix_lst, ix_tup, ix_scr, ix_str, ix_cell, at_zero, at_succ, set_zero, set_succ, startE_zero, startE_cons, Op_some, Op_none, bT_nm, bT_tup, bT_nil, bT_cons, pS_nil, pS_fr, pS_sh, wipe_nil, wipe_cons, it_lst, it_tup, it_str, rng_one, rng_two, zip_tup, zip_lst, fr_fr, sh_sh, lst_lst, cel_cel, in_in, List.replicate_succ, List.replicate_zero, decide_eq_true_iff, true_and, and_true, ite_true, ite_false, if_true, if_false, Bool.false_eq_true, Bool.not_eq_true', List.length_cons, List.length_nil, isi_str, isi_tup, isi_lst, isi_int, isi_non, isi_bl, eq_tup, ne_tup, eq_lst, ne_lst, lt_tup, in_lst, nin_lst, nin_tup, at_0, at_1, at_2, at_3, Bool.true_eq_false, wE_rev, wS_seti, set_lst, eq_non_str, ne_non_str, ne_str_non, eq_non, ne_non, wE_dic0, wE_dic1, wE_dicL, wE_compI, wE_lrng, wE_rep, rep_str, wE_lix, dic_dic, key_str, key_int, in_dicS, nin_dicS, ix_dicS, set_dicS, min_lst, max_lst, max_int, sl_E, ix_E0, ix_E1, ix_E2, bT_E, isN_E, isN_dO, isN_str, isN_tup, isN_lst, isN_int, isN_non, eq_dO, ne_dO, eq_self, decide_true, decide_false, Bool.not_true, Bool.not_false, not_true_eq_false, not_false_eq_true]
          refine ⟨by omega, ?_⟩
          rw [if_pos (by omega)]
          refine ⟨by omega, .inl ⟨by omega, by omega⟩, ?_⟩
          rw [mT, decide_eq_true (show (((crs ls w T).length : Nat) : Int) ≤ (w.length : Nat) + ((far * T : Nat) : Int) by omega)]
          rw [if_neg (by decide)]
          have never : ∀ n, (∀ j, j < n → mendT ls (crs ls w j) ≠ crs ls w j) → (crs ls w n).length = w.length + far * n := fun n h => far_len hf hk h
          have w1' : 1 ≤ w.length := by omega
          have zero : far = 0 → ∀ {Q : Rs → Store → Prop}, (∀ x, isNonD x = false → Q (.sh x) s') → Ev (callF GD (F + 2000) 11 156 [dL ls, .str w] s') Q := by
            intro h0 Q hq
            refine (comes_again_ok hB (by decide) (by omega) vp.vl hw).mono ?_
            rintro x s2 ⟨rfl, n, b, more, C, hn, rfl⟩
            have m0 : more = 0 := by
              refine Nat.eq_zero_of_not_pos fun hp => ?_
              rcases C.fin with z | z
              · omega
              · have h1 := fle n
                have h2 := fle b
                rw [h0] at h1 h2
                have h3 : (crs ls w n).length = (crs ls w b).length + more := z.2.2.2.2.2
                omega
            rw [if_pos m0]
            exact hq _ rfl
          have zero2 : far = 0 → ∀ {Q : Rs → Store → Prop}, Q (.sh .non) s' → Ev (callF GD (F + 2000) 11 155 [dL ls, .str w, .int ((w.length : Nat) + 1)] s') Q := by
            intro h0 Q hq
            refine (passes_until_ok hB (by decide) (by omega) vp.vl hw (by omega) (by omega)).mono ?_
            rintro x s2 ⟨rfl, r, rfl, P⟩
            have := P.is_none (fun u => by
              have h1 := fle u
              rw [h0] at h1
              omega)
            subst this
            exact hq
          cases rs with
          | none =>
            have nv := R.no rfl
            have all := fun n => never n fun j _ => nv j
            by_cases f0 : far = 0
            · subst f0
              simp only [dR, wE_c, wE_v, wE_vo, wE_bin, wE_neg, wE_not, wE_cmp, wE_chain, wE_and, wE_or, wE_ite, wE_call, wE_b1, wE_b2, wE_isi, wE_m0, wE_m1, wE_idx, wE_sl, wE_ss, ss_lst, mul_str, isn_bl, notn_bl, wE_tup, wE_lst, wE_cel, wE_comp, wEs_nil, wEs_cons, wEo_no, wEo_so, wC_no, wC_so, wI_e, wI_rng, wI_enum, wI_zip, wI_map, wSs_nil, wSs_cons, wS_set, wS_seto, wS_unp, wS_par, wS_app, wS_setc, wS_drop, wS_ret, wS_reto, wS_retN, wS_pass, wS_brk, wS_cont, wS_fail, wS_ite, wS_for, wR_nil, wR_cons, seqQ_nx, seqQ_ret, seqQ_brk, seqQ_cont, outQ_nx, outQ_ret, outQ_brk, outQ_cont, d_sh, d_fr, d_vw, vw_sh, vw_fr, vw_vw, add_int, add_str, add_tup, add_lst, sub_int, mul_int, fdiv_int, mod_int, eq_str, ne_str, eq_int, ne_int, eq_bl, ne_bl, eq_sn, lt_int, le_int, gt_int, ge_int, isn_any, notn_any, in_sign, nin_sign, len_str, len_tup, len_lst, len_scr, all_map, any_map, list_tup, list_lst, list_str, tuple_lst, tuple_tup, int_int, abs_int, min_int, own_sh, own_fr, bool_sh, int_sh, ends_str, starts_str, lower_str, upper_str, sl_lst, sl_tup, sl_str, ix_lst, ix_tup, ix_scr, ix_str, ix_cell, at_zero, at_succ, set_zero, set_succ, startE_zero, startE_cons, Op_some, Op_none, bT_nm, bT_tup, bT_nil, bT_cons, pS_nil, pS_fr, pS_sh, wipe_nil, wipe_cons, it_lst, it_tup, it_str, rng_one, rng_two, zip_tup, zip_lst, fr_fr, sh_sh, lst_lst, cel_cel, in_in, List.replicate_succ, List.replicate_zero, decide_eq_true_iff, true_and, and_true, ite_true, ite_false, if_true, if_false, Bool.false_eq_true, Bool.not_eq_true', List.length_cons, List.length_nil, isi_str, isi_tup, isi_lst, isi_int, isi_non, isi_bl, eq_tup, ne_tup, eq_lst, ne_lst, lt_tup, in_lst, nin_lst, nin_tup, at_0, at_1, at_2, at_3, Bool.true_eq_false, wE_rev, wS_seti, set_lst, eq_non_str, ne_non_str, ne_str_non, eq_non, ne_non, wE_dic0, wE_dic1, wE_dicL, wE_compI, wE_lrng, wE_rep, rep_str, wE_lix, dic_dic, key_str, key_int, in_dicS, nin_dicS, ix_dicS, set_dicS, min_lst, max_lst, max_int, sl_E, ix_E0, ix_E1, ix_E2, bT_E, isN_E, isN_dO, isN_str, isN_tup, isN_lst, isN_int, isN_non, eq_dO, ne_dO, eq_self, decide_true, decide_false, Bool.not_true, Bool.not_false, not_true_eq_false, not_false_eq_true]
              rw [if_neg (by decide), if_pos (show ((0 : Nat) : Int) = 0 from rfl)]
              refine zero rfl ?_
              intro x hx
              simp only [hx, wE_c, wE_v, wE_vo, wE_bin, wE_neg, wE_not, wE_cmp, wE_chain, wE_and, wE_or, wE_ite, wE_call, wE_b1, wE_b2, wE_isi, wE_m0, wE_m1, wE_idx, wE_sl, wE_ss, ss_lst, mul_str, isn_bl, notn_bl, wE_tup, wE_lst, wE_cel, wE_comp, wEs_nil, wEs_cons, wEo_no, wEo_so, wC_no, wC_so, wI_e, wI_rng, wI_enum, wI_zip, wI_map, wSs_nil, wSs_cons, wS_set, wS_seto, wS_unp, wS_par, wS_app, wS_setc, wS_drop, wS_ret, wS_reto, wS_retN, wS_pass, wS_brk, wS_cont, wS_fail, wS_ite, wS_for, wR_nil, wR_cons, seqQ_nx, seqQ_ret, seqQ_brk, seqQ_cont, outQ_nx, outQ_ret, outQ_brk, outQ_cont, d_sh, d_fr, d_vw, vw_sh, vw_fr, vw_vw, add_int, add_str, add_tup, add_lst, sub_int, mul_int, fdiv_int, mod_int, eq_str, ne_str, eq_int, ne_int, eq_bl, ne_bl, eq_sn, lt_int, le_int, gt_int, ge_int, isn_any, notn_any, in_sign, nin_sign, len_str, len_tup, len_lst, len_scr, all_map, any_map, list_tup, list_lst, list_str, tuple_lst, tuple_tup, int_int, abs_int, min_int, own_sh, own_fr, bool_sh, int_sh, ends_str, starts_str, lower_str, upper_str, sl_lst, sl_tup, sl_str, ix_lst, ix_tup, ix_scr, ix_str, ix_cell, at_zero, at_succ, set_zero, set_succ, startE_zero, startE_cons, Op_some, Op_none, bT_nm, bT_tup, bT_nil, bT_cons, pS_nil, pS_fr, pS_sh, wipe_nil, wipe_cons, it_lst, it_tup, it_str, rng_one, rng_two, zip_tup, zip_lst, fr_fr, sh_sh, lst_lst, cel_cel, in_in, List.replicate_succ, List.replicate_zero, decide_eq_true_iff, true_and, and_true, ite_true, ite_false, if_true, if_false, Bool.false_eq_true, Bool.not_eq_true', List.length_cons, List.length_nil, isi_str, isi_tup, isi_lst, isi_int, isi_non, isi_bl, eq_tup, ne_tup, eq_lst, ne_lst, lt_tup, in_lst, nin_lst, nin_tup, at_0, at_1, at_2, at_3, Bool.true_eq_false, wE_rev, wS_seti, set_lst, eq_non_str, ne_non_str, ne_str_non, eq_non, ne_non, wE_dic0, wE_dic1, wE_dicL, wE_compI, wE_lrng, wE_rep, rep_str, wE_lix, dic_dic, key_str, key_int, in_dicS, nin_dicS, ix_dicS, set_dicS, min_lst, max_lst, max_int, sl_E, ix_E0, ix_E1, ix_E2, bT_E, isN_E, isN_dO, isN_str, isN_tup, isN_lst, isN_int, isN_non, eq_dO, ne_dO, eq_self, decide_true, decide_false, Bool.not_true, Bool.not_false, not_true_eq_false, not_false_eq_true]
              refine ⟨by omega, ?_⟩
              refine zero2 rfl ?_
              simp only [wE_c, wE_v, wE_vo, wE_bin, wE_neg, wE_not, wE_cmp, wE_chain, wE_and, wE_or, wE_ite, wE_call, wE_b1, wE_b2, wE_isi, wE_m0, wE_m1, wE_idx, wE_sl, wE_ss, ss_lst, mul_str, isn_bl, notn_bl, wE_tup, wE_lst, wE_cel, wE_comp, wEs_nil, wEs_cons, wEo_no, wEo_so, wC_no, wC_so, wI_e, wI_rng, wI_enum, wI_zip, wI_map, wSs_nil, wSs_cons, wS_set, wS_seto, wS_unp, wS_par, wS_app, wS_setc, wS_drop, wS_ret, wS_reto, wS_retN, wS_pass, wS_brk, wS_cont, wS_fail, wS_ite, wS_for, wR_nil, wR_cons, seqQ_nx, seqQ_ret, seqQ_brk, seqQ_cont, outQ_nx, outQ_ret, outQ_brk, outQ_cont, d_sh, d_fr, d_vw, vw_sh, vw_fr, vw_vw, add_int, add_str, add_tup, add_lst, sub_int, mul_int, fdiv_int, mod_int, eq_str, ne_str, eq_int, ne_int, eq_bl, ne_bl, eq_sn, lt_int, le_int, gt_int, ge_int, isn_any, notn_any, in_sign, nin_sign, len_str, len_tup, len_lst, len_scr, all_map, any_map, list_tup, list_lst, list_str, tuple_lst, tuple_tup, int_int, abs_int, min_int, own_sh, own_fr, bool_sh, int_sh, ends_str, starts_str, lower_str, upper_str, sl_lst, sl_tup, sl_str, ix_lst, ix_tup, ix_scr, ix_str, ix_cell, at_zero, at_succ, set_zero, set_succ, startE_zero, startE_cons, Op_some, Op_none, bT_nm, bT_tup, bT_nil, bT_cons, pS_nil, pS_fr, pS_sh, wipe_nil, wipe_cons, it_lst, it_tup, it_str, rng_one, rng_two, zip_tup, zip_lst, fr_fr, sh_sh, lst_lst, cel_cel, in_in, List.replicate_succ, List.replicate_zero, decide_eq_true_iff, true_and, and_true, ite_true, ite_false, if_true, if_false, Bool.false_eq_true, Bool.not_eq_true', List.length_cons, List.length_nil, isi_str, isi_tup, isi_lst, isi_int, isi_non, isi_bl, eq_tup, ne_tup, eq_lst, ne_lst, lt_tup, in_lst, nin_lst, nin_tup, at_0, at_1, at_2, at_3, Bool.true_eq_false, wE_rev, wS_seti, set_lst, eq_non_str, ne_non_str, ne_str_non, eq_non, ne_non, wE_dic0, wE_dic1, wE_dicL, wE_compI, wE_lrng, wE_rep, rep_str, wE_lix, dic_dic, key_str, key_int, in_dicS, nin_dicS, ix_dicS, set_dicS, min_lst, max_lst, max_int, sl_E, ix_E0, ix_E1, ix_E2, bT_E, isN_E, isN_dO, isN_str, isN_tup, isN_lst, isN_int, isN_non, eq_dO, ne_dO, eq_self, decide_true, decide_false, Bool.not_true, Bool.not_false, not_true_eq_false, not_false_eq_true]
              exact ⟨_, _, _, _, _, _, _, _, _, _, _, _, _, _, rfl, hs⟩
            · have fp : 1 ≤ far := by omega
              have aT := all T
              have up : ∀ i j, i < j → (crs ls w i).length < (crs ls w j).length := fun i j h => by
                rw [all i, all j]
                have := Nat.mul_lt_mul_of_pos_left h (show 0 < far by omega)
                omega
              simp only [dR, wE_c, wE_v, wE_vo, wE_bin, wE_neg, wE_not, wE_cmp, wE_chain, wE_and, wE_or, wE_ite, wE_call, wE_b1, wE_b2, wE_isi, wE_m0, wE_m1, wE_idx, wE_sl, wE_ss, ss_lst, mul_str, isn_bl, notn_bl, wE_tup, wE_lst, wE_cel, wE_comp, wEs_nil, wEs_cons, wEo_no, wEo_so, wC_no, wC_so, wI_e, wI_rng, wI_enum, wI_zip, wI_map, wSs_nil, wSs_cons, wS_set, wS_seto, wS_unp, wS_par, wS_app, wS_setc, wS_drop, wS_ret, wS_reto, wS_retN, wS_pass, wS_brk, wS_cont, wS_fail, wS_ite, wS_for, wR_nil, wR_cons, seqQ_nx, seqQ_ret, seqQ_brk, seqQ_cont, outQ_nx, outQ_ret, outQ_brk, outQ_cont, d_sh, d_fr, d_vw, vw_sh, vw_fr, vw_vw, add_int, add_str, add_tup, add_lst, sub_int, mul_int, fdiv_int, mod_int, eq_str, ne_str, eq_int, ne_int, eq_bl, ne_bl, eq_sn, lt_int, le_int, gt_int, ge_int, isn_any, notn_any, in_sign, nin_sign, len_str, len_tup, len_lst, len_scr, all_map, any_map, list_tup, list_lst, list_str, tuple_lst, tuple_tup, int_int, abs_int, min_int, own_sh, own_fr, bool_sh, int_sh, ends_str, starts_str, lower_str, upper_str, sl_lst, sl_tup, sl_str, ix_lst, ix_tup, ix_scr, ix_str, ix_cell, at_zero, at_succ, set_zero, set_succ, startE_zero, startE_cons, Op_some, Op_none, bT_nm, bT_tup, bT_nil, bT_cons, pS_nil, pS_fr, pS_sh, wipe_nil, wipe_cons, it_lst, it_tup, it_str, rng_one, rng_two, zip_tup, zip_lst, fr_fr, sh_sh, lst_lst, cel_cel, in_in, List.replicate_succ, List.replicate_zero, decide_eq_true_iff, true_and, and_true, ite_true, ite_false, if_true, if_false, Bool.false_eq_true, Bool.not_eq_true', List.length_cons, List.length_nil, isi_str, isi_tup, isi_lst, isi_int, isi_non, isi_bl, eq_tup, ne_tup, eq_lst, ne_lst, lt_tup, in_lst, nin_lst, nin_tup, at_0, at_1, at_2, at_3, Bool.true_eq_false, wE_rev, wS_seti, set_lst, eq_non_str, ne_non_str, ne_str_non, eq_non, ne_non, wE_dic0, wE_dic1, wE_dicL, wE_compI, wE_lrng, wE_rep, rep_str, wE_lix, dic_dic, key_str, key_int, in_dicS, nin_dicS, ix_dicS, set_dicS, min_lst, max_lst, max_int, sl_E, ix_E0, ix_E1, ix_E2, bT_E, isN_E, isN_dO, isN_str, isN_tup, isN_lst, isN_int, isN_non, eq_dO, ne_dO, eq_self, decide_true, decide_false, Bool.not_true, Bool.not_false, not_true_eq_false, not_false_eq_true]
              rw [if_pos (by omega)]
              refine ⟨by omega, .inl ⟨by omega, by omega⟩, ?_⟩
              rw [if_neg (by omega)]
              refine (comes_again_ok hB (by decide) (by omega) vp.vl hw).mono ?_
              rintro x s2 ⟨rfl, n, b, more, C, hn, rfl⟩
              have m0 : more ≠ 0 := by
                rintro rfl
                have h1 := congrArg List.length C.cyc
                have h2 := up b (n + 1) (by have := C.le; omega)
                have h1 : (crs ls w (n + 1)).length = (crs ls w b).length := h1
                omega
              rw [if_neg m0]
              simp only [wE_c, wE_v, wE_vo, wE_bin, wE_neg, wE_not, wE_cmp, wE_chain, wE_and, wE_or, wE_ite, wE_call, wE_b1, wE_b2, wE_isi, wE_m0, wE_m1, wE_idx, wE_sl, wE_ss, ss_lst, mul_str, isn_bl, notn_bl, wE_tup, wE_lst, wE_cel, wE_comp, wEs_nil, wEs_cons, wEo_no, wEo_so, wC_no, wC_so, wI_e, wI_rng, wI_enum, wI_zip, wI_map, wSs_nil, wSs_cons, wS_set, wS_seto, wS_unp, wS_par, wS_app, wS_setc, wS_drop, wS_ret, wS_reto, wS_retN, wS_pass, wS_brk, wS_cont, wS_fail, wS_ite, wS_for, wR_nil, wR_cons, seqQ_nx, seqQ_ret, seqQ_brk, seqQ_cont, outQ_nx, outQ_ret, outQ_brk, outQ_cont, d_sh, d_fr, d_vw, vw_sh, vw_fr, vw_vw, add_int, add_str, add_tup, add_lst, sub_int, mul_int, fdiv_int, mod_int, eq_str, ne_str, eq_int, ne_int, eq_bl, ne_bl, eq_sn, lt_int, le_int, gt_int, ge_int, isn_any, notn_any, in_sign, nin_sign, len_str, len_tup, len_lst, len_scr, all_map, any_map, list_tup, list_lst, list_str, tuple_lst, tuple_tup, int_int, abs_int, min_int, own_sh, own_fr, bool_sh, int_sh, ends_str, starts_str, lower_str, upper_str, sl_lst, sl_tup, sl_str, ix_lst, ix_tup, ix_scr, ix_str, ix_cell, at_zero, at_succ, set_zero, set_succ, startE_zero, startE_cons, Op_some, Op_none, bT_nm, bT_tup, bT_nil, bT_cons, pS_nil, pS_fr, pS_sh, wipe_nil, wipe_cons, it_lst, it_tup, it_str, rng_one, rng_two, zip_tup, zip_lst, fr_fr, sh_sh, lst_lst, cel_cel, in_in, List.replicate_succ, List.replicate_zero, decide_eq_true_iff, true_and, and_true, ite_true, ite_false, if_true, if_false, Bool.false_eq_true, Bool.not_eq_true', List.length_cons, List.length_nil, isi_str, isi_tup, isi_lst, isi_int, isi_non, isi_bl, eq_tup, ne_tup, eq_lst, ne_lst, lt_tup, in_lst, nin_lst, nin_tup, at_0, at_1, at_2, at_3, Bool.true_eq_false, wE_rev, wS_seti, set_lst, eq_non_str, ne_non_str, ne_str_non, eq_non, ne_non, wE_dic0, wE_dic1, wE_dicL, wE_compI, wE_lrng, wE_rep, rep_str, wE_lix, dic_dic, key_str, key_int, in_dicS, nin_dicS, ix_dicS, set_dicS, min_lst, max_lst, max_int, sl_E, ix_E0, ix_E1, ix_E2, bT_E, isN_E, isN_dO, isN_str, isN_tup, isN_lst, isN_int, isN_non, eq_dO, ne_dO, eq_self, decide_true, decide_false, Bool.not_true, Bool.not_false, not_true_eq_false, not_false_eq_true]
              refine (passes_until_ok hB (by decide) (by omega) vp.vl hw (by omega) (by have := all T; have : far * T ≤ 2 * 40 := Nat.mul_le_mul far2 T40; omega)).mono ?_
              rintro x s3 ⟨rfl, r, rfl, P⟩
              have := P.is (t := T) (Int.le_refl _) fun j hj => by have := up j T hj; omega
              subst this
              simp only [dPu, wE_c, wE_v, wE_vo, wE_bin, wE_neg, wE_not, wE_cmp, wE_chain, wE_and, wE_or, wE_ite, wE_call, wE_b1, wE_b2, wE_isi, wE_m0, wE_m1, wE_idx, wE_sl, wE_ss, ss_lst, mul_str, isn_bl, notn_bl, wE_tup, wE_lst, wE_cel, wE_comp, wEs_nil, wEs_cons, wEo_no, wEo_so, wC_no, wC_so, wI_e, wI_rng, wI_enum, wI_zip, wI_map, wSs_nil, wSs_cons, wS_set, wS_seto, wS_unp, wS_par, wS_app, wS_setc, wS_drop, wS_ret, wS_reto, wS_retN, wS_pass, wS_brk, wS_cont, wS_fail, wS_ite, wS_for, wR_nil, wR_cons, seqQ_nx, seqQ_ret, seqQ_brk, seqQ_cont, outQ_nx, outQ_ret, outQ_brk, outQ_cont, d_sh, d_fr, d_vw, vw_sh, vw_fr, vw_vw, add_int, add_str, add_tup, add_lst, sub_int, mul_int, fdiv_int, mod_int, eq_str, ne_str, eq_int, ne_int, eq_bl, ne_bl, eq_sn, lt_int, le_int, gt_int, ge_int, isn_any, notn_any, in_sign, nin_sign, len_str, len_tup, len_lst, len_scr, all_map, any_map, list_tup, list_lst, list_str, tuple_lst, tuple_tup, int_int, abs_int, min_int, own_sh, own_fr, bool_sh, int_sh, ends_str, starts_str, lower_str, upper_str, sl_lst, sl_tup, sl_str, ix_lst, ix_tup, ix_scr, ix_str, ix_cell, at_zero, at_succ, set_zero, set_succ, startE_zero, startE_cons, Op_some, Op_none, bT_nm, bT_tup, bT_nil, bT_cons, pS_nil, pS_fr, pS_sh, wipe_nil, wipe_cons, it_lst, it_tup, it_str, rng_one, rng_two, zip_tup, zip_lst, fr_fr, sh_sh, lst_lst, cel_cel, in_in, List.replicate_succ, List.replicate_zero, decide_eq_true_iff, true_and, and_true, ite_true, ite_false, if_true, if_false, Bool.false_eq_true, Bool.not_eq_true', List.length_cons, List.length_nil, isi_str, isi_tup, isi_lst, isi_int, isi_non, isi_bl, eq_tup, ne_tup, eq_lst, ne_lst, lt_tup, in_lst, nin_lst, nin_tup, at_0, at_1, at_2, at_3, Bool.true_eq_false, wE_rev, wS_seti, set_lst, eq_non_str, ne_non_str, ne_str_non, eq_non, ne_non, wE_dic0, wE_dic1, wE_dicL, wE_compI, wE_lrng, wE_rep, rep_str, wE_lix, dic_dic, key_str, key_int, in_dicS, nin_dicS, ix_dicS, set_dicS, min_lst, max_lst, max_int, sl_E, ix_E0, ix_E1, ix_E2, bT_E, isN_E, isN_dO, isN_str, isN_tup, isN_lst, isN_int, isN_non, eq_dO, ne_dO, eq_self, decide_true, decide_false, Bool.not_true, Bool.not_false, not_true_eq_false, not_false_eq_true]
              have hsub : (((crs ls w T).length : Nat) : Int) - (far : Nat) = (((crs ls w (T - 1)).length : Nat) : Int) := by
                have h1 := all (T - 1)
                have h2 : far * T = far * (T - 1) + far := by
                  rw [← Nat.mul_succ, show (T - 1).succ = T by omega]
                omega
              rw [hsub]
              have lT := (fle (T - 1)).1
              refine (passes_until_ok hB (by decide) (by omega) vp.vl hw (by omega) (by have := all (T - 1); have : far * (T - 1) ≤ 2 * 40 := Nat.mul_le_mul far2 (by omega); omega)).mono ?_
              rintro x s4 ⟨rfl, r, rfl, P⟩
              have := P.is (t := T - 1) (Int.le_refl _) fun j hj => by have := up j (T - 1) hj; omega
              subst this
              simp only [dPu, pow_int, p18, wE_c, wE_v, wE_vo, wE_bin, wE_neg, wE_not, wE_cmp, wE_chain, wE_and, wE_or, wE_ite, wE_call, wE_b1, wE_b2, wE_isi, wE_m0, wE_m1, wE_idx, wE_sl, wE_ss, ss_lst, mul_str, isn_bl, notn_bl, wE_tup, wE_lst, wE_cel, wE_comp, wEs_nil, wEs_cons, wEo_no, wEo_so, wC_no, wC_so, wI_e, wI_rng, wI_enum, wI_zip, wI_map, wSs_nil, wSs_cons, wS_set, wS_seto, wS_unp, wS_par, wS_app, wS_setc, wS_drop, wS_ret, wS_reto, wS_retN, wS_pass, wS_brk, wS_cont, wS_fail, wS_ite, wS_for, wR_nil, wR_cons, seqQ_nx, seqQ_ret, seqQ_brk, seqQ_cont, outQ_nx, outQ_ret, outQ_brk, outQ_cont, d_sh, d_fr, d_vw, vw_sh, vw_fr, vw_vw, add_int, add_str, add_tup, add_lst, sub_int, mul_int, fdiv_int, mod_int, eq_str, ne_str, eq_int, ne_int, eq_bl, ne_bl, eq_sn, lt_int, le_int, gt_int, ge_int, isn_any, notn_any, in_sign, nin_sign, len_str, len_tup, len_lst, len_scr, all_map, any_map, list_tup, list_lst, list_str, tuple_lst, tuple_tup, int_int, abs_int, min_int, own_sh, own_fr, bool_sh, int_sh, ends_str, starts_str, lower_str, upper_str, sl_lst, sl_tup, sl_str, ix_lst, ix_tup, ix_scr, ix_str, ix_cell, at_zero, at_succ, set_zero, set_succ, startE_zero, startE_cons, Op_some, Op_none, bT_nm, bT_tup, bT_nil, bT_cons, pS_nil, pS_fr, pS_sh, wipe_nil, wipe_cons, it_lst, it_tup, it_str, rng_one, rng_two, zip_tup, zip_lst, fr_fr, sh_sh, lst_lst, cel_cel, in_in, List.replicate_succ, List.replicate_zero, decide_eq_true_iff, true_and, and_true, ite_true, ite_false, if_true, if_false, Bool.false_eq_true, Bool.not_eq_true', List.length_cons, List.length_nil, isi_str, isi_tup, isi_lst, isi_int, isi_non, isi_bl, eq_tup, ne_tup, eq_lst, ne_lst, lt_tup, in_lst, nin_lst, nin_tup, at_0, at_1, at_2, at_3, Bool.true_eq_false, wE_rev, wS_seti, set_lst, eq_non_str, ne_non_str, ne_str_non, eq_non, ne_non, wE_dic0, wE_dic1, wE_dicL, wE_compI, wE_lrng, wE_rep, rep_str, wE_lix, dic_dic, key_str, key_int, in_dicS, nin_dicS, ix_dicS, set_dicS, min_lst, max_lst, max_int, sl_E, ix_E0, ix_E1, ix_E2, bT_E, isN_E, isN_dO, isN_str, isN_tup, isN_lst, isN_int, isN_non, eq_dO, ne_dO, eq_self, decide_true, decide_false, Bool.not_true, Bool.not_false, not_true_eq_false, not_false_eq_true]
              rw [show ((T - 1 : Nat) : Int) = (T : Nat) - 1 by omega]
              simp only [pow_int, p18, wE_c, wE_v, wE_vo, wE_bin, wE_neg, wE_not, wE_cmp, wE_chain, wE_and, wE_or, wE_ite, wE_call, wE_b1, wE_b2, wE_isi, wE_m0, wE_m1, wE_idx, wE_sl, wE_ss, ss_lst, mul_str, isn_bl, notn_bl, wE_tup, wE_lst, wE_cel, wE_comp, wEs_nil, wEs_cons, wEo_no, wEo_so, wC_no, wC_so, wI_e, wI_rng, wI_enum, wI_zip, wI_map, wSs_nil, wSs_cons, wS_set, wS_seto, wS_unp, wS_par, wS_app, wS_setc, wS_drop, wS_ret, wS_reto, wS_retN, wS_pass, wS_brk, wS_cont, wS_fail, wS_ite, wS_for, wR_nil, wR_cons, seqQ_nx, seqQ_ret, seqQ_brk, seqQ_cont, outQ_nx, outQ_ret, outQ_brk, outQ_cont, d_sh, d_fr, d_vw, vw_sh, vw_fr, vw_vw, add_int, add_str, add_tup, add_lst, sub_int, mul_int, fdiv_int, mod_int, eq_str, ne_str, eq_int, ne_int, eq_bl, ne_bl, eq_sn, lt_int, le_int, gt_int, ge_int, isn_any, notn_any, in_sign, nin_sign, len_str, len_tup, len_lst, len_scr, all_map, any_map, list_tup, list_lst, list_str, tuple_lst, tuple_tup, int_int, abs_int, min_int, own_sh, own_fr, bool_sh, int_sh, ends_str, starts_str, lower_str, upper_str, sl_lst, sl_tup, sl_str, ix_lst, ix_tup, ix_scr, ix_str, ix_cell, at_zero, at_succ, set_zero, set_succ, startE_zero, startE_cons, Op_some, Op_none, bT_nm, bT_tup, bT_nil, bT_cons, pS_nil, pS_fr, pS_sh, wipe_nil, wipe_cons, it_lst, it_tup, it_str, rng_one, rng_two, zip_tup, zip_lst, fr_fr, sh_sh, lst_lst, cel_cel, in_in, List.replicate_succ, List.replicate_zero, decide_eq_true_iff, true_and, and_true, ite_true, ite_false, if_true, if_false, Bool.false_eq_true, Bool.not_eq_true', List.length_cons, List.length_nil, isi_str, isi_tup, isi_lst, isi_int, isi_non, isi_bl, eq_tup, ne_tup, eq_lst, ne_lst, lt_tup, in_lst, nin_lst, nin_tup, at_0, at_1, at_2, at_3, Bool.true_eq_false, wE_rev, wS_seti, set_lst, eq_non_str, ne_non_str, ne_str_non, eq_non, ne_non, wE_dic0, wE_dic1, wE_dicL, wE_compI, wE_lrng, wE_rep, rep_str, wE_lix, dic_dic, key_str, key_int, in_dicS, nin_dicS, ix_dicS, set_dicS, min_lst, max_lst, max_int, sl_E, ix_E0, ix_E1, ix_E2, bT_E, isN_E, isN_dO, isN_str, isN_tup, isN_lst, isN_int, isN_non, eq_dO, ne_dO, eq_self, decide_true, decide_false, Bool.not_true, Bool.not_false, not_true_eq_false, not_false_eq_true]
              have g18 : ((0 : Int) ≤ 18 ∧ (18 : Int) ≤ 1000000) ∧ Int.natAbs 10 < 2 ^ 64 := by decide
              refine ⟨g18, ?_⟩
              refine length_after_ok hB (by decide) (by omega) vp.vl hw (by omega) (by omega) ?_
              obtain ⟨N, hN⟩ : ∃ N : Nat, N = Int.toNat 1000000000000000000 := ⟨_, rfl⟩
              have hN2 : ((N : Nat) : Int) = 1000000000000000000 := by omega
              have aN := all N
              have eN : (((crs ls w N).length : Nat) : Int) = (w.length : Nat) + (far : Nat) * 1000000000000000000 := by
                rw [aN, Int.natCast_add, Int.natCast_mul, hN2]
              rw [← hN]
              simp only [eN, wE_c, wE_v, wE_vo, wE_bin, wE_neg, wE_not, wE_cmp, wE_chain, wE_and, wE_or, wE_ite, wE_call, wE_b1, wE_b2, wE_isi, wE_m0, wE_m1, wE_idx, wE_sl, wE_ss, ss_lst, mul_str, isn_bl, notn_bl, wE_tup, wE_lst, wE_cel, wE_comp, wEs_nil, wEs_cons, wEo_no, wEo_so, wC_no, wC_so, wI_e, wI_rng, wI_enum, wI_zip, wI_map, wSs_nil, wSs_cons, wS_set, wS_seto, wS_unp, wS_par, wS_app, wS_setc, wS_drop, wS_ret, wS_reto, wS_retN, wS_pass, wS_brk, wS_cont, wS_fail, wS_ite, wS_for, wR_nil, wR_cons, seqQ_nx, seqQ_ret, seqQ_brk, seqQ_cont, outQ_nx, outQ_ret, outQ_brk, outQ_cont, d_sh, d_fr, d_vw, vw_sh, vw_fr, vw_vw, add_int, add_str, add_tup, add_lst, sub_int, mul_int, fdiv_int, mod_int, eq_str, ne_str, eq_int, ne_int, eq_bl, ne_bl, eq_sn, lt_int, le_int, gt_int, ge_int, isn_any, notn_any, in_sign, nin_sign, len_str, len_tup, len_lst, len_scr, all_map, any_map, list_tup, list_lst, list_str, tuple_lst, tuple_tup, int_int, abs_int, min_int, own_sh, own_fr, bool_sh, int_sh, ends_str, starts_str, lower_str, upper_str, sl_lst, sl_tup, sl_str, ix_lst, ix_tup, ix_scr, ix_str, ix_cell, at_zero, at_succ, set_zero, set_succ, startE_zero, startE_cons, Op_some, Op_none, bT_nm, bT_tup, bT_nil, bT_cons, pS_nil, pS_fr, pS_sh, wipe_nil, wipe_cons, it_lst, it_tup, it_str, rng_one, rng_two, zip_tup, zip_lst, fr_fr, sh_sh, lst_lst, cel_cel, in_in, List.replicate_succ, List.replicate_zero, decide_eq_true_iff, true_and, and_true, ite_true, ite_false, if_true, if_false, Bool.false_eq_true, Bool.not_eq_true', List.length_cons, List.length_nil, isi_str, isi_tup, isi_lst, isi_int, isi_non, isi_bl, eq_tup, ne_tup, eq_lst, ne_lst, lt_tup, in_lst, nin_lst, nin_tup, at_0, at_1, at_2, at_3, Bool.true_eq_false, wE_rev, wS_seti, set_lst, eq_non_str, ne_non_str, ne_str_non, eq_non, ne_non, wE_dic0, wE_dic1, wE_dicL, wE_compI, wE_lrng, wE_rep, rep_str, wE_lix, dic_dic, key_str, key_int, in_dicS, nin_dicS, ix_dicS, set_dicS, min_lst, max_lst, max_int, sl_E, ix_E0, ix_E1, ix_E2, bT_E, isN_E, isN_dO, isN_str, isN_tup, isN_lst, isN_int, isN_non, eq_dO, ne_dO, eq_self, decide_true, decide_false, Bool.not_true, Bool.not_false, not_true_eq_false, not_false_eq_true]
              refine ⟨by omega, g18, .inl ⟨by omega, by omega⟩, ?_⟩
              rw [if_neg (by omega)]
              exact ⟨_, _, _, _, _, _, _, _, _, _, _, _, _, _, rfl, hs⟩
          | some p =>
            obtain ⟨n, v⟩ := p
            obtain ⟨rfl, fx, hm⟩ := R.yes n v rfl
            obtain ⟨jB, hj1, hj2⟩ := hB
            have n1000 : n ≤ 1000 := Nat.le_trans (rest_le vp.vl hj2 fx hm) hj1
            have hB : ∃ j, j ≤ 1000 ∧ stopsAt ls w j := ⟨jB, hj1, hj2⟩
            have an := never n hm
            have last : ∀ {Q : Rs → Store → Prop}, Q (.sh (.int ((w.length : Nat) + (far : Nat) * (n : Nat)))) s' → Ev (callF GD (F + 2000) 11 152 [dL ls, .str w, .int 1000000000000000000] s') Q := by
              intro Q hq
              refine length_after_ok hB (by decide) (by omega) vp.vl hw (by omega) (by omega) ?_
              obtain ⟨N, hN⟩ : ∃ N : Nat, N = Int.toNat 1000000000000000000 := ⟨_, rfl⟩
              have hN2 : ((N : Nat) : Int) = 1000000000000000000 := by omega
              have fN := crs_fix fx N (by omega)
              rw [← hN, fN, an, Int.natCast_add, Int.natCast_mul]
              exact hq
            have g18 : ((0 : Int) ≤ 18 ∧ (18 : Int) ≤ 1000000) ∧ Int.natAbs 10 < 2 ^ 64 := by decide
            by_cases f0 : far = 0
            · subst f0
              simp only [dR, wE_c, wE_v, wE_vo, wE_bin, wE_neg, wE_not, wE_cmp, wE_chain, wE_and, wE_or, wE_ite, wE_call, wE_b1, wE_b2, wE_isi, wE_m0, wE_m1, wE_idx, wE_sl, wE_ss, ss_lst, mul_str, isn_bl, notn_bl, wE_tup, wE_lst, wE_cel, wE_comp, wEs_nil, wEs_cons, wEo_no, wEo_so, wC_no, wC_so, wI_e, wI_rng, wI_enum, wI_zip, wI_map, wSs_nil, wSs_cons, wS_set, wS_seto, wS_unp, wS_par, wS_app, wS_setc, wS_drop, wS_ret, wS_reto, wS_retN, wS_pass, wS_brk, wS_cont, wS_fail, wS_ite, wS_for, wR_nil, wR_cons, seqQ_nx, seqQ_ret, seqQ_brk, seqQ_cont, outQ_nx, outQ_ret, outQ_brk, outQ_cont, d_sh, d_fr, d_vw, vw_sh, vw_fr, vw_vw, add_int, add_str, add_tup, add_lst, sub_int, mul_int, fdiv_int, mod_int, eq_str, ne_str, eq_int, ne_int, eq_bl, ne_bl, eq_sn, lt_int, le_int, gt_int, ge_int, isn_any, notn_any, in_sign, nin_sign, len_str, len_tup, len_lst, len_scr, all_map, any_map, list_tup, list_lst, list_str, tuple_lst, tuple_tup, int_int, abs_int, min_int, own_sh, own_fr, bool_sh, int_sh, ends_str, starts_str, lower_str, upper_str, sl_lst, sl_tup, sl_str, ix_lst, ix_tup, ix_scr, ix_str, ix_cell, at_zero, at_succ, set_zero, set_succ, startE_zero, startE_cons, Op_some, Op_none, bT_nm, bT_tup, bT_nil, bT_cons, pS_nil, pS_fr, pS_sh, wipe_nil, wipe_cons, it_lst, it_tup, it_str, rng_one, rng_two, zip_tup, zip_lst, fr_fr, sh_sh, lst_lst, cel_cel, in_in, List.replicate_succ, List.replicate_zero, decide_eq_true_iff, true_and, and_true, ite_true, ite_false, if_true, if_false, Bool.false_eq_true, Bool.not_eq_true', List.length_cons, List.length_nil, isi_str, isi_tup, isi_lst, isi_int, isi_non, isi_bl, eq_tup, ne_tup, eq_lst, ne_lst, lt_tup, in_lst, nin_lst, nin_tup, at_0, at_1, at_2, at_3, Bool.true_eq_false, wE_rev, wS_seti, set_lst, eq_non_str, ne_non_str, ne_str_non, eq_non, ne_non, wE_dic0, wE_dic1, wE_dicL, wE_compI, wE_lrng, wE_rep, rep_str, wE_lix, dic_dic, key_str, key_int, in_dicS, nin_dicS, ix_dicS, set_dicS, min_lst, max_lst, max_int, sl_E, ix_E0, ix_E1, ix_E2, bT_E, isN_E, isN_dO, isN_str, isN_tup, isN_lst, isN_int, isN_non, eq_dO, ne_dO, eq_self, decide_true, decide_false, Bool.not_true, Bool.not_false, not_true_eq_false, not_false_eq_true]
              rw [if_pos (show ((0 : Nat) : Int) = 0 from rfl)]
              refine zero rfl ?_
              intro x hx
              simp only [hx, wE_c, wE_v, wE_vo, wE_bin, wE_neg, wE_not, wE_cmp, wE_chain, wE_and, wE_or, wE_ite, wE_call, wE_b1, wE_b2, wE_isi, wE_m0, wE_m1, wE_idx, wE_sl, wE_ss, ss_lst, mul_str, isn_bl, notn_bl, wE_tup, wE_lst, wE_cel, wE_comp, wEs_nil, wEs_cons, wEo_no, wEo_so, wC_no, wC_so, wI_e, wI_rng, wI_enum, wI_zip, wI_map, wSs_nil, wSs_cons, wS_set, wS_seto, wS_unp, wS_par, wS_app, wS_setc, wS_drop, wS_ret, wS_reto, wS_retN, wS_pass, wS_brk, wS_cont, wS_fail, wS_ite, wS_for, wR_nil, wR_cons, seqQ_nx, seqQ_ret, seqQ_brk, seqQ_cont, outQ_nx, outQ_ret, outQ_brk, outQ_cont, d_sh, d_fr, d_vw, vw_sh, vw_fr, vw_vw, add_int, add_str, add_tup, add_lst, sub_int, mul_int, fdiv_int, mod_int, eq_str, ne_str, eq_int, ne_int, eq_bl, ne_bl, eq_sn, lt_int, le_int, gt_int, ge_int, isn_any, notn_any, in_sign, nin_sign, len_str, len_tup, len_lst, len_scr, all_map, any_map, list_tup, list_lst, list_str, tuple_lst, tuple_tup, int_int, abs_int, min_int, own_sh, own_fr, bool_sh, int_sh, ends_str, starts_str, lower_str, upper_str, sl_lst, sl_tup, sl_str, ix_lst, ix_tup, ix_scr, ix_str, ix_cell, at_zero, at_succ, set_zero, set_succ, startE_zero, startE_cons, Op_some, Op_none, bT_nm, bT_tup, bT_nil, bT_cons, pS_nil, pS_fr, pS_sh, wipe_nil, wipe_cons, it_lst, it_tup, it_str, rng_one, rng_two, zip_tup, zip_lst, fr_fr, sh_sh, lst_lst, cel_cel, in_in, List.replicate_succ, List.replicate_zero, decide_eq_true_iff, true_and, and_true, ite_true, ite_false, if_true, if_false, Bool.false_eq_true, Bool.not_eq_true', List.length_cons, List.length_nil, isi_str, isi_tup, isi_lst, isi_int, isi_non, isi_bl, eq_tup, ne_tup, eq_lst, ne_lst, lt_tup, in_lst, nin_lst, nin_tup, at_0, at_1, at_2, at_3, Bool.true_eq_false, wE_rev, wS_seti, set_lst, eq_non_str, ne_non_str, ne_str_non, eq_non, ne_non, wE_dic0, wE_dic1, wE_dicL, wE_compI, wE_lrng, wE_rep, rep_str, wE_lix, dic_dic, key_str, key_int, in_dicS, nin_dicS, ix_dicS, set_dicS, min_lst, max_lst, max_int, sl_E, ix_E0, ix_E1, ix_E2, bT_E, isN_E, isN_dO, isN_str, isN_tup, isN_lst, isN_int, isN_non, eq_dO, ne_dO, eq_self, decide_true, decide_false, Bool.not_true, Bool.not_false, not_true_eq_false, not_false_eq_true]
              refine ⟨by omega, ?_⟩
              refine zero2 rfl ?_
              simp only [pow_int, p18, wE_c, wE_v, wE_vo, wE_bin, wE_neg, wE_not, wE_cmp, wE_chain, wE_and, wE_or, wE_ite, wE_call, wE_b1, wE_b2, wE_isi, wE_m0, wE_m1, wE_idx, wE_sl, wE_ss, ss_lst, mul_str, isn_bl, notn_bl, wE_tup, wE_lst, wE_cel, wE_comp, wEs_nil, wEs_cons, wEo_no, wEo_so, wC_no, wC_so, wI_e, wI_rng, wI_enum, wI_zip, wI_map, wSs_nil, wSs_cons, wS_set, wS_seto, wS_unp, wS_par, wS_app, wS_setc, wS_drop, wS_ret, wS_reto, wS_retN, wS_pass, wS_brk, wS_cont, wS_fail, wS_ite, wS_for, wR_nil, wR_cons, seqQ_nx, seqQ_ret, seqQ_brk, seqQ_cont, outQ_nx, outQ_ret, outQ_brk, outQ_cont, d_sh, d_fr, d_vw, vw_sh, vw_fr, vw_vw, add_int, add_str, add_tup, add_lst, sub_int, mul_int, fdiv_int, mod_int, eq_str, ne_str, eq_int, ne_int, eq_bl, ne_bl, eq_sn, lt_int, le_int, gt_int, ge_int, isn_any, notn_any, in_sign, nin_sign, len_str, len_tup, len_lst, len_scr, all_map, any_map, list_tup, list_lst, list_str, tuple_lst, tuple_tup, int_int, abs_int, min_int, own_sh, own_fr, bool_sh, int_sh, ends_str, starts_str, lower_str, upper_str, sl_lst, sl_tup, sl_str, ix_lst, ix_tup, ix_scr, ix_str, ix_cell, at_zero, at_succ, set_zero, set_succ, startE_zero, startE_cons, Op_some, Op_none, bT_nm, bT_tup, bT_nil, bT_cons, pS_nil, pS_fr, pS_sh, wipe_nil, wipe_cons, it_lst, it_tup, it_str, rng_one, rng_two, zip_tup, zip_lst, fr_fr, sh_sh, lst_lst, cel_cel, in_in, List.replicate_succ, List.replicate_zero, decide_eq_true_iff, true_and, and_true, ite_true, ite_false, if_true, if_false, Bool.false_eq_true, Bool.not_eq_true', List.length_cons, List.length_nil, isi_str, isi_tup, isi_lst, isi_int, isi_non, isi_bl, eq_tup, ne_tup, eq_lst, ne_lst, lt_tup, in_lst, nin_lst, nin_tup, at_0, at_1, at_2, at_3, Bool.true_eq_false, wE_rev, wS_seti, set_lst, eq_non_str, ne_non_str, ne_str_non, eq_non, ne_non, wE_dic0, wE_dic1, wE_dicL, wE_compI, wE_lrng, wE_rep, rep_str, wE_lix, dic_dic, key_str, key_int, in_dicS, nin_dicS, ix_dicS, set_dicS, min_lst, max_lst, max_int, sl_E, ix_E0, ix_E1, ix_E2, bT_E, isN_E, isN_dO, isN_str, isN_tup, isN_lst, isN_int, isN_non, eq_dO, ne_dO, eq_self, decide_true, decide_false, Bool.not_true, Bool.not_false, not_true_eq_false, not_false_eq_true]
              refine ⟨g18, last ?_⟩
              simp only [wE_c, wE_v, wE_vo, wE_bin, wE_neg, wE_not, wE_cmp, wE_chain, wE_and, wE_or, wE_ite, wE_call, wE_b1, wE_b2, wE_isi, wE_m0, wE_m1, wE_idx, wE_sl, wE_ss, ss_lst, mul_str, isn_bl, notn_bl, wE_tup, wE_lst, wE_cel, wE_comp, wEs_nil, wEs_cons, wEo_no, wEo_so, wC_no, wC_so, wI_e, wI_rng, wI_enum, wI_zip, wI_map, wSs_nil, wSs_cons, wS_set, wS_seto, wS_unp, wS_par, wS_app, wS_setc, wS_drop, wS_ret, wS_reto, wS_retN, wS_pass, wS_brk, wS_cont, wS_fail, wS_ite, wS_for, wR_nil, wR_cons, seqQ_nx, seqQ_ret, seqQ_brk, seqQ_cont, outQ_nx, outQ_ret, outQ_brk, outQ_cont, d_sh, d_fr, d_vw, vw_sh, vw_fr, vw_vw, add_int, add_str, add_tup, add_lst, sub_int, mul_int, fdiv_int, mod_int, eq_str, ne_str, eq_int, ne_int, eq_bl, ne_bl, eq_sn, lt_int, le_int, gt_int, ge_int, isn_any, notn_any, in_sign, nin_sign, len_str, len_tup, len_lst, len_scr, all_map, any_map, list_tup, list_lst, list_str, tuple_lst, tuple_tup, int_int, abs_int, min_int, own_sh, own_fr, bool_sh, int_sh, ends_str, starts_str, lower_str, upper_str, sl_lst, sl_tup, sl_str, ix_lst, ix_tup, ix_scr, ix_str, ix_cell, at_zero, at_succ, set_zero, set_succ, startE_zero, startE_cons, Op_some, Op_none, bT_nm, bT_tup, bT_nil, bT_cons, pS_nil, pS_fr, pS_sh, wipe_nil, wipe_cons, it_lst, it_tup, it_str, rng_one, rng_two, zip_tup, zip_lst, fr_fr, sh_sh, lst_lst, cel_cel, in_in, List.replicate_succ, List.replicate_zero, decide_eq_true_iff, true_and, and_true, ite_true, ite_false, if_true, if_false, Bool.false_eq_true, Bool.not_eq_true', List.length_cons, List.length_nil, isi_str, isi_tup, isi_lst, isi_int, isi_non, isi_bl, eq_tup, ne_tup, eq_lst, ne_lst, lt_tup, in_lst, nin_lst, nin_tup, at_0, at_1, at_2, at_3, Bool.true_eq_false, wE_rev, wS_seti, set_lst, eq_non_str, ne_non_str, ne_str_non, eq_non, ne_non, wE_dic0, wE_dic1, wE_dicL, wE_compI, wE_lrng, wE_rep, rep_str, wE_lix, dic_dic, key_str, key_int, in_dicS, nin_dicS, ix_dicS, set_dicS, min_lst, max_lst, max_int, sl_E, ix_E0, ix_E1, ix_E2, bT_E, isN_E, isN_dO, isN_str, isN_tup, isN_lst, isN_int, isN_non, eq_dO, ne_dO, eq_self, decide_true, decide_false, Bool.not_true, Bool.not_false, not_true_eq_false, not_false_eq_true]
              exact ⟨by omega, .inl ⟨by omega, by omega⟩, _, _, _, _, _, _, _, _, _, _, _, _, _, _, rfl, hs⟩
            · simp only [dR, pow_int, p18, wE_c, wE_v, wE_vo, wE_bin, wE_neg, wE_not, wE_cmp, wE_chain, wE_and, wE_or, wE_ite, wE_call, wE_b1, wE_b2, wE_isi, wE_m0, wE_m1, wE_idx, wE_sl, wE_ss, ss_lst, mul_str, isn_bl, notn_bl, wE_tup, wE_lst, wE_cel, wE_comp, wEs_nil, wEs_cons, wEo_no, wEo_so, wC_no, wC_so, wI_e, wI_rng, wI_enum, wI_zip, wI_map, wSs_nil, wSs_cons, wS_set, wS_seto, wS_unp, wS_par, wS_app, wS_setc, wS_drop, wS_ret, wS_reto, wS_retN, wS_pass, wS_brk, wS_cont, wS_fail, wS_ite, wS_for, wR_nil, wR_cons, seqQ_nx, seqQ_ret, seqQ_brk, seqQ_cont, outQ_nx, outQ_ret, outQ_brk, outQ_cont, d_sh, d_fr, d_vw, vw_sh, vw_fr, vw_vw, add_int, add_str, add_tup, add_lst, sub_int, mul_int, fdiv_int, mod_int, eq_str, ne_str, eq_int, ne_int, eq_bl, ne_bl, eq_sn, lt_int, le_int, gt_int, ge_int, isn_any, notn_any, in_sign, nin_sign, len_str, len_tup, len_lst, len_scr, all_map, any_map, list_tup, list_lst, list_str, tuple_lst, tuple_tup, int_int, abs_int, min_int, own_sh, own_fr, bool_sh, int_sh, ends_str, starts_str, lower_str, upper_str, sl_lst, sl_tup, sl_str, ix_lst, ix_tup, ix_scr, ix_str, ix_cell, at_zero, at_succ, set_zero, set_succ, startE_zero, startE_cons, Op_some, Op_none, bT_nm, bT_tup, bT_nil, bT_cons, pS_nil, pS_fr, pS_sh, wipe_nil, wipe_cons, it_lst, it_tup, it_str, rng_one, rng_two, zip_tup, zip_lst, fr_fr, sh_sh, lst_lst, cel_cel, in_in, List.replicate_succ, List.replicate_zero, decide_eq_true_iff, true_and, and_true, ite_true, ite_false, if_true, if_false, Bool.false_eq_true, Bool.not_eq_true', List.length_cons, List.length_nil, isi_str, isi_tup, isi_lst, isi_int, isi_non, isi_bl, eq_tup, ne_tup, eq_lst, ne_lst, lt_tup, in_lst, nin_lst, nin_tup, at_0, at_1, at_2, at_3, Bool.true_eq_false, wE_rev, wS_seti, set_lst, eq_non_str, ne_non_str, ne_str_non, eq_non, ne_non, wE_dic0, wE_dic1, wE_dicL, wE_compI, wE_lrng, wE_rep, rep_str, wE_lix, dic_dic, key_str, key_int, in_dicS, nin_dicS, ix_dicS, set_dicS, min_lst, max_lst, max_int, sl_E, ix_E0, ix_E1, ix_E2, bT_E, isN_E, isN_dO, isN_str, isN_tup, isN_lst, isN_int, isN_non, eq_dO, ne_dO, eq_self, decide_true, decide_false, Bool.not_true, Bool.not_false, not_true_eq_false, not_false_eq_true]
              rw [if_neg (by omega)]
              refine ⟨g18, last ?_⟩
              simp only [wE_c, wE_v, wE_vo, wE_bin, wE_neg, wE_not, wE_cmp, wE_chain, wE_and, wE_or, wE_ite, wE_call, wE_b1, wE_b2, wE_isi, wE_m0, wE_m1, wE_idx, wE_sl, wE_ss, ss_lst, mul_str, isn_bl, notn_bl, wE_tup, wE_lst, wE_cel, wE_comp, wEs_nil, wEs_cons, wEo_no, wEo_so, wC_no, wC_so, wI_e, wI_rng, wI_enum, wI_zip, wI_map, wSs_nil, wSs_cons, wS_set, wS_seto, wS_unp, wS_par, wS_app, wS_setc, wS_drop, wS_ret, wS_reto, wS_retN, wS_pass, wS_brk, wS_cont, wS_fail, wS_ite, wS_for, wR_nil, wR_cons, seqQ_nx, seqQ_ret, seqQ_brk, seqQ_cont, outQ_nx, outQ_ret, outQ_brk, outQ_cont, d_sh, d_fr, d_vw, vw_sh, vw_fr, vw_vw, add_int, add_str, add_tup, add_lst, sub_int, mul_int, fdiv_int, mod_int, eq_str, ne_str, eq_int, ne_int, eq_bl, ne_bl, eq_sn, lt_int, le_int, gt_int, ge_int, isn_any, notn_any, in_sign, nin_sign, len_str, len_tup, len_lst, len_scr, all_map, any_map, list_tup, list_lst, list_str, tuple_lst, tuple_tup, int_int, abs_int, min_int, own_sh, own_fr, bool_sh, int_sh, ends_str, starts_str, lower_str, upper_str, sl_lst, sl_tup, sl_str, ix_lst, ix_tup, ix_scr, ix_str, ix_cell, at_zero, at_succ, set_zero, set_succ, startE_zero, startE_cons, Op_some, Op_none, bT_nm, bT_tup, bT_nil, bT_cons, pS_nil, pS_fr, pS_sh, wipe_nil, wipe_cons, it_lst, it_tup, it_str, rng_one, rng_two, zip_tup, zip_lst, fr_fr, sh_sh, lst_lst, cel_cel, in_in, List.replicate_succ, List.replicate_zero, decide_eq_true_iff, true_and, and_true, ite_true, ite_false, if_true, if_false, Bool.false_eq_true, Bool.not_eq_true', List.length_cons, List.length_nil, isi_str, isi_tup, isi_lst, isi_int, isi_non, isi_bl, eq_tup, ne_tup, eq_lst, ne_lst, lt_tup, in_lst, nin_lst, nin_tup, at_0, at_1, at_2, at_3, Bool.true_eq_false, wE_rev, wS_seti, set_lst, eq_non_str, ne_non_str, ne_str_non, eq_non, ne_non, wE_dic0, wE_dic1, wE_dicL, wE_compI, wE_lrng, wE_rep, rep_str, wE_lix, dic_dic, key_str, key_int, in_dicS, nin_dicS, ix_dicS, set_dicS, min_lst, max_lst, max_int, sl_E, ix_E0, ix_E1, ix_E2, bT_E, isN_E, isN_dO, isN_str, isN_tup, isN_lst, isN_int, isN_non, eq_dO, ne_dO, eq_self, decide_true, decide_false, Bool.not_true, Bool.not_false, not_true_eq_false, not_false_eq_true]
              exact ⟨by omega, .inl ⟨by omega, by omega⟩, _, _, _, _, _, _, _, _, _, _, _, _, _, _, rfl, hs⟩
      · rintro env s ⟨_, _, _, _, _, _, _, _, _, _, _, _, _, _, rfl, hs⟩
        simp only [wE_c, wE_v, wE_vo, wE_bin, wE_neg, wE_not, wE_cmp, wE_chain, wE_and, wE_or, wE_ite, wE_call, wE_b1, wE_b2, wE_isi, wE_m0, wE_m1, wE_idx, wE_sl, wE_ss, ss_lst, mul_str, isn_bl, notn_bl, wE_tup, wE_lst, wE_cel, wE_comp, wEs_nil, wEs_cons, wEo_no, wEo_so, wC_no, wC_so, wI_e, wI_rng, wI_enum, wI_zip, wI_map, wSs_nil, wSs_cons, wS_set, wS_seto, wS_unp, wS_par, wS_app, wS_setc, wS_drop, wS_ret, wS_reto, wS_retN, wS_pass, wS_brk, wS_cont, wS_fail, wS_ite, wS_for, wR_nil, wR_cons, seqQ_nx, seqQ_ret, seqQ_brk, seqQ_cont, outQ_nx, outQ_ret, outQ_brk, outQ_cont, d_sh, d_fr, d_vw, vw_sh, vw_fr, vw_vw, add_int, add_str, add_tup, add_lst, sub_int, mul_int, fdiv_int, mod_int, eq_str, ne_str, eq_int, ne_int, eq_bl, ne_bl, eq_sn, lt_int, le_int, gt_int, ge_int, isn_any, notn_any, in_sign, nin_sign, len_str, len_tup, len_lst, len_scr, all_map, any_map, list_tup, list_lst, list_str, tuple_lst, tuple_tup, int_int, abs_int, min_int, own_sh, own_fr, bool_sh, int_sh, ends_str, starts_str, lower_str, upper_str, sl_lst, sl_tup, sl_str, ix_lst, ix_tup, ix_scr, ix_str, ix_cell, at_zero, at_succ, set_zero, set_succ, startE_zero, startE_cons, Op_some, Op_none, bT_nm, bT_tup, bT_nil, bT_cons, pS_nil, pS_fr, pS_sh, wipe_nil, wipe_cons, it_lst, it_tup, it_str, rng_one, rng_two, zip_tup, zip_lst, fr_fr, sh_sh, lst_lst, cel_cel, in_in, List.replicate_succ, List.replicate_zero, decide_eq_true_iff, true_and, and_true, ite_true, ite_false, if_true, if_false, Bool.false_eq_true, Bool.not_eq_true', List.length_cons, List.length_nil, isi_str, isi_tup, isi_lst, isi_int, isi_non, isi_bl, eq_tup, ne_tup, eq_lst, ne_lst, lt_tup, in_lst, nin_lst, nin_tup, at_0, at_1, at_2, at_3, Bool.true_eq_false, wE_rev, wS_seti, set_lst, eq_non_str, ne_non_str, ne_str_non, eq_non, ne_non, wE_dic0, wE_dic1, wE_dicL, wE_compI, wE_lrng, wE_rep, rep_str, wE_lix, dic_dic, key_str, key_int, in_dicS, nin_dicS, ix_dicS, set_dicS, min_lst, max_lst, max_int, sl_E, ix_E0, ix_E1, ix_E2, bT_E, isN_E, isN_dO, isN_str, isN_tup, isN_lst, isN_int, isN_non, eq_dO, ne_dO, eq_self, decide_true, decide_false, Bool.not_true, Bool.not_false, not_true_eq_false, not_false_eq_true]
        exact ⟨_, _, _, _, _, _, _, _, _, _, _, _, _, _, _, rfl, trivial⟩
    · rintro env s ⟨_, _, _, _, _, _, _, _, _, _, _, _, _, _, _, rfl, _⟩
      simp only [dL_O, dL_T, dL_U, wE_c, wE_v, wE_vo, wE_bin, wE_neg, wE_not, wE_cmp, wE_chain, wE_and, wE_or, wE_ite, wE_call, wE_b1, wE_b2, wE_isi, wE_m0, wE_m1, wE_idx, wE_sl, wE_ss, ss_lst, mul_str, isn_bl, notn_bl, wE_tup, wE_lst, wE_cel, wE_comp, wEs_nil, wEs_cons, wEo_no, wEo_so, wC_no, wC_so, wI_e, wI_rng, wI_enum, wI_zip, wI_map, wSs_nil, wSs_cons, wS_set, wS_seto, wS_unp, wS_par, wS_app, wS_setc, wS_drop, wS_ret, wS_reto, wS_retN, wS_pass, wS_brk, wS_cont, wS_fail, wS_ite, wS_for, wR_nil, wR_cons, seqQ_nx, seqQ_ret, seqQ_brk, seqQ_cont, outQ_nx, outQ_ret, outQ_brk, outQ_cont, d_sh, d_fr, d_vw, vw_sh, vw_fr, vw_vw, add_int, add_str, add_tup, add_lst, sub_int, mul_int, fdiv_int, mod_int, eq_str, ne_str, eq_int, ne_int, eq_bl, ne_bl, eq_sn, lt_int, le_int, gt_int, ge_int, isn_any, notn_any, in_sign, nin_sign, len_str, len_tup, len_lst, len_scr, all_map, any_map, list_tup, list_lst, list_str, tuple_lst, tuple_tup, int_int, abs_int, min_int, own_sh, own_fr, bool_sh, int_sh, ends_str, starts_str, lower_str, upper_str, sl_lst, sl_tup, sl_str, ix_lst, ix_tup, ix_scr, ix_str, ix_cell, at_zero, at_succ, set_zero, set_succ, startE_zero, startE_cons, Op_some, Op_none, bT_nm, bT_tup, bT_nil, bT_cons, pS_nil, pS_fr, pS_sh, wipe_nil, wipe_cons, it_lst, it_tup, it_str, rng_one, rng_two, zip_tup, zip_lst, fr_fr, sh_sh, lst_lst, cel_cel, in_in, List.replicate_succ, List.replicate_zero, decide_eq_true_iff, true_and, and_true, ite_true, ite_false, if_true, if_false, Bool.false_eq_true, Bool.not_eq_true', List.length_cons, List.length_nil, isi_str, isi_tup, isi_lst, isi_int, isi_non, isi_bl, eq_tup, ne_tup, eq_lst, ne_lst, lt_tup, in_lst, nin_lst, nin_tup, at_0, at_1, at_2, at_3, Bool.true_eq_false, wE_rev, wS_seti, set_lst, eq_non_str, ne_non_str, ne_str_non, eq_non, ne_non, wE_dic0, wE_dic1, wE_dicL, wE_compI, wE_lrng, wE_rep, rep_str, wE_lix, dic_dic, key_str, key_int, in_dicS, nin_dicS, ix_dicS, set_dicS, min_lst, max_lst, max_int, sl_E, ix_E0, ix_E1, ix_E2, bT_E, isN_E, isN_dO, isN_str, isN_tup, isN_lst, isN_int, isN_non, eq_dO, ne_dO, eq_self, decide_true, decide_false, Bool.not_true, Bool.not_false, not_true_eq_false, not_false_eq_true]
      have hO : ∀ w : Tx, (∀ c ∈ w, c ∈ abcde) → ∃ j, j ≤ 1000 ∧ stopsAt lsO w j := fun w h => far_stops farO endO lsO_ok.vl h
      have hT : ∀ w : Tx, (∀ c ∈ w, c ∈ abcde) → ∃ j, j ≤ 1000 ∧ stopsAt lsT w j := fun w h => far_stops farT endT' lsT_ok.vl h
      have hU : ∀ w : Tx, (∀ c ∈ w, c ∈ abcde) → ∃ j, j ≤ 1000 ∧ stopsAt lsU w j := fun w h => far_stops farU endU lsU_ok.vl h
      have e0 : [D.int 0, D.int 1, D.int 2, D.int 9] = [0, 1, 2, 9].map D.int := rfl
      rw [e0]
      rw [comp_map (f := D.int) (fun t => .int ((crs lsO [101, 101, 97] t.toNat).length : Nat)) [0, 1, 2, 9] (by
        intro t ht
        have t0 : 0 ≤ t ∧ t ≤ 9 := by
          simp only [List.mem_cons, List.not_mem_nil, or_false] at ht
          rcases ht with rfl | rfl | rfl | rfl <;> decide
        simp only [wE_c, wE_v, wE_vo, wE_bin, wE_neg, wE_not, wE_cmp, wE_chain, wE_and, wE_or, wE_ite, wE_call, wE_b1, wE_b2, wE_isi, wE_m0, wE_m1, wE_idx, wE_sl, wE_ss, ss_lst, mul_str, isn_bl, notn_bl, wE_tup, wE_lst, wE_cel, wE_comp, wEs_nil, wEs_cons, wEo_no, wEo_so, wC_no, wC_so, wI_e, wI_rng, wI_enum, wI_zip, wI_map, wSs_nil, wSs_cons, wS_set, wS_seto, wS_unp, wS_par, wS_app, wS_setc, wS_drop, wS_ret, wS_reto, wS_retN, wS_pass, wS_brk, wS_cont, wS_fail, wS_ite, wS_for, wR_nil, wR_cons, seqQ_nx, seqQ_ret, seqQ_brk, seqQ_cont, outQ_nx, outQ_ret, outQ_brk, outQ_cont, d_sh, d_fr, d_vw, vw_sh, vw_fr, vw_vw, add_int, add_str, add_tup, add_lst, sub_int, mul_int, fdiv_int, mod_int, eq_str, ne_str, eq_int, ne_int, eq_bl, ne_bl, eq_sn, lt_int, le_int, gt_int, ge_int, isn_any, notn_any, in_sign, nin_sign, len_str, len_tup, len_lst, len_scr, all_map, any_map, list_tup, list_lst, list_str, tuple_lst, tuple_tup, int_int, abs_int, min_int, own_sh, own_fr, bool_sh, int_sh, ends_str, starts_str, lower_str, upper_str, sl_lst, sl_tup, sl_str, ix_lst, ix_tup, ix_scr, ix_str, ix_cell, at_zero, at_succ, set_zero, set_succ, startE_zero, startE_cons, Op_some, Op_none, bT_nm, bT_tup, bT_nil, bT_cons, pS_nil, pS_fr, pS_sh, wipe_nil, wipe_cons, it_lst, it_tup, it_str, rng_one, rng_two, zip_tup, zip_lst, fr_fr, sh_sh, lst_lst, cel_cel, in_in, List.replicate_succ, List.replicate_zero, decide_eq_true_iff, true_and, and_true, ite_true, ite_false, if_true, if_false, Bool.false_eq_true, Bool.not_eq_true', List.length_cons, List.length_nil, isi_str, isi_tup, isi_lst, isi_int, isi_non, isi_bl, eq_tup, ne_tup, eq_lst, ne_lst, lt_tup, in_lst, nin_lst, nin_tup, at_0, at_1, at_2, at_3, Bool.true_eq_false, wE_rev, wS_seti, set_lst, eq_non_str, ne_non_str, ne_str_non, eq_non, ne_non, wE_dic0, wE_dic1, wE_dicL, wE_compI, wE_lrng, wE_rep, rep_str, wE_lix, dic_dic, key_str, key_int, in_dicS, nin_dicS, ix_dicS, set_dicS, min_lst, max_lst, max_int, sl_E, ix_E0, ix_E1, ix_E2, bT_E, isN_E, isN_dO, isN_str, isN_tup, isN_lst, isN_int, isN_non, eq_dO, ne_dO, eq_self, decide_true, decide_false, Bool.not_true, Bool.not_false, not_true_eq_false, not_false_eq_true]
        refine length_after_ok (hO _ (by decide)) (by decide) (by omega) lsO_ok.vl (by decide) t0.1 (by omega) ?_
        simp only [wE_c, wE_v, wE_vo, wE_bin, wE_neg, wE_not, wE_cmp, wE_chain, wE_and, wE_or, wE_ite, wE_call, wE_b1, wE_b2, wE_isi, wE_m0, wE_m1, wE_idx, wE_sl, wE_ss, ss_lst, mul_str, isn_bl, notn_bl, wE_tup, wE_lst, wE_cel, wE_comp, wEs_nil, wEs_cons, wEo_no, wEo_so, wC_no, wC_so, wI_e, wI_rng, wI_enum, wI_zip, wI_map, wSs_nil, wSs_cons, wS_set, wS_seto, wS_unp, wS_par, wS_app, wS_setc, wS_drop, wS_ret, wS_reto, wS_retN, wS_pass, wS_brk, wS_cont, wS_fail, wS_ite, wS_for, wR_nil, wR_cons, seqQ_nx, seqQ_ret, seqQ_brk, seqQ_cont, outQ_nx, outQ_ret, outQ_brk, outQ_cont, d_sh, d_fr, d_vw, vw_sh, vw_fr, vw_vw, add_int, add_str, add_tup, add_lst, sub_int, mul_int, fdiv_int, mod_int, eq_str, ne_str, eq_int, ne_int, eq_bl, ne_bl, eq_sn, lt_int, le_int, gt_int, ge_int, isn_any, notn_any, in_sign, nin_sign, len_str, len_tup, len_lst, len_scr, all_map, any_map, list_tup, list_lst, list_str, tuple_lst, tuple_tup, int_int, abs_int, min_int, own_sh, own_fr, bool_sh, int_sh, ends_str, starts_str, lower_str, upper_str, sl_lst, sl_tup, sl_str, ix_lst, ix_tup, ix_scr, ix_str, ix_cell, at_zero, at_succ, set_zero, set_succ, startE_zero, startE_cons, Op_some, Op_none, bT_nm, bT_tup, bT_nil, bT_cons, pS_nil, pS_fr, pS_sh, wipe_nil, wipe_cons, it_lst, it_tup, it_str, rng_one, rng_two, zip_tup, zip_lst, fr_fr, sh_sh, lst_lst, cel_cel, in_in, List.replicate_succ, List.replicate_zero, decide_eq_true_iff, true_and, and_true, ite_true, ite_false, if_true, if_false, Bool.false_eq_true, Bool.not_eq_true', List.length_cons, List.length_nil, isi_str, isi_tup, isi_lst, isi_int, isi_non, isi_bl, eq_tup, ne_tup, eq_lst, ne_lst, lt_tup, in_lst, nin_lst, nin_tup, at_0, at_1, at_2, at_3, Bool.true_eq_false, wE_rev, wS_seti, set_lst, eq_non_str, ne_non_str, ne_str_non, eq_non, ne_non, wE_dic0, wE_dic1, wE_dicL, wE_compI, wE_lrng, wE_rep, rep_str, wE_lix, dic_dic, key_str, key_int, in_dicS, nin_dicS, ix_dicS, set_dicS, min_lst, max_lst, max_int, sl_E, ix_E0, ix_E1, ix_E2, bT_E, isN_E, isN_dO, isN_str, isN_tup, isN_lst, isN_int, isN_non, eq_dO, ne_dO, eq_self, decide_true, decide_false, Bool.not_true, Bool.not_false, not_true_eq_false, not_false_eq_true])]
      have e1 : ([0, 1, 2, 9] : List Int).map (fun t => D.int ((crs lsO [101, 101, 97] t.toNat).length : Nat)) = [D.int 3, D.int 4, D.int 4, D.int 4] := by
        have a0 : (crs lsO [101, 101, 97] 0).length = 3 := by decide +kernel
        have a1 : (crs lsO [101, 101, 97] 1).length = 4 := by decide +kernel
        have a2 : (crs lsO [101, 101, 97] 2).length = 4 := by decide +kernel
        have a9 : (crs lsO [101, 101, 97] 9).length = 4 := by decide +kernel
        simp only [List.map_cons, List.map_nil, show (0 : Int).toNat = 0 from rfl, show (1 : Int).toNat = 1 from rfl, show (2 : Int).toNat = 2 from rfl, show (9 : Int).toNat = 9 from rfl, a0, a1, a2, a9]
        rfl
      rw [e1]
      have p4 : (D.lst [D.int 3, D.int 4, D.int 4, D.int 4]).pl = true := by decide +kernel
      have q4 : (D.lst [D.int 3, D.int 4, D.int 4, D.int 4]).py.eqv (D.lst [D.int 3, D.int 4, D.int 4, D.int 4]).py = true := by decide +kernel
      refine ⟨by decide, ⟨p4, p4⟩, ?_⟩
      rw [q4, if_neg (by decide)]
      refine (comes_again_ok (hO _ (by decide)) (by decide) (by omega) lsO_ok.vl (by decide)).mono ?_
      rintro x s2 ⟨rfl, n, b, more, C, hn, rfl⟩
      have fx : mendT lsO (crs lsO [101, 99] 1) = crs lsO [101, 99] 1 := by decide +kernel
      have fx2 : crs lsO [101, 99] 2 = crs lsO [101, 99] 1 := fx
      have m0 : more = 0 := by
        refine Nat.eq_zero_of_not_pos fun hp => ?_
        exact C.grow_ne (mach lsO_ok.vl) hp (i := 1) (j := 2) (by decide) fx2.symm
      subst m0
      have n1 : n = 1 := by
        have h1 : n ≤ 1 := Nat.le_of_not_lt fun z => C.nd 1 2 (by decide) z fx2.symm
        have h0 : n ≠ 0 := by
          rintro rfl
          have := C.le
          have h2 := C.cyc
          have b0 : b = 0 := by omega
          subst b0
          exact absurd h2 (by decide +kernel)
        omega
      subst n1
      have b1 : b = 1 := by
        have := C.le
        have h2 := C.cyc
        have : b ≠ 0 := by
          rintro rfl
          exact absurd h2 (by decide +kernel)
        omega
      subst b1
      rw [if_pos rfl]
      have p2 : (D.tup [D.int ((1 : Nat) : Int), D.int ((1 + 1 - 1 : Nat) : Int)]).pl = true := by decide +kernel
      have p2' : (D.tup [D.int 1, D.int 1]).pl = true := by decide +kernel
      have q2 : (D.tup [D.int ((1 : Nat) : Int), D.int ((1 + 1 - 1 : Nat) : Int)]).py.eqv (D.tup [D.int 1, D.int 1]).py = true := by decide +kernel
      simp only [p2, p2', q2, pow_int, wE_c, wE_v, wE_vo, wE_bin, wE_neg, wE_not, wE_cmp, wE_chain, wE_and, wE_or, wE_ite, wE_call, wE_b1, wE_b2, wE_isi, wE_m0, wE_m1, wE_idx, wE_sl, wE_ss, ss_lst, mul_str, isn_bl, notn_bl, wE_tup, wE_lst, wE_cel, wE_comp, wEs_nil, wEs_cons, wEo_no, wEo_so, wC_no, wC_so, wI_e, wI_rng, wI_enum, wI_zip, wI_map, wSs_nil, wSs_cons, wS_set, wS_seto, wS_unp, wS_par, wS_app, wS_setc, wS_drop, wS_ret, wS_reto, wS_retN, wS_pass, wS_brk, wS_cont, wS_fail, wS_ite, wS_for, wR_nil, wR_cons, seqQ_nx, seqQ_ret, seqQ_brk, seqQ_cont, outQ_nx, outQ_ret, outQ_brk, outQ_cont, d_sh, d_fr, d_vw, vw_sh, vw_fr, vw_vw, add_int, add_str, add_tup, add_lst, sub_int, mul_int, fdiv_int, mod_int, eq_str, ne_str, eq_int, ne_int, eq_bl, ne_bl, eq_sn, lt_int, le_int, gt_int, ge_int, isn_any, notn_any, in_sign, nin_sign, len_str, len_tup, len_lst, len_scr, all_map, any_map, list_tup, list_lst, list_str, tuple_lst, tuple_tup, int_int, abs_int, min_int, own_sh, own_fr, bool_sh, int_sh, ends_str, starts_str, lower_str, upper_str, sl_lst, sl_tup, sl_str, ix_lst, ix_tup, ix_scr, ix_str, ix_cell, at_zero, at_succ, set_zero, set_succ, startE_zero, startE_cons, Op_some, Op_none, bT_nm, bT_tup, bT_nil, bT_cons, pS_nil, pS_fr, pS_sh, wipe_nil, wipe_cons, it_lst, it_tup, it_str, rng_one, rng_two, zip_tup, zip_lst, fr_fr, sh_sh, lst_lst, cel_cel, in_in, List.replicate_succ, List.replicate_zero, decide_eq_true_iff, true_and, and_true, ite_true, ite_false, if_true, if_false, Bool.false_eq_true, Bool.not_eq_true', List.length_cons, List.length_nil, isi_str, isi_tup, isi_lst, isi_int, isi_non, isi_bl, eq_tup, ne_tup, eq_lst, ne_lst, lt_tup, in_lst, nin_lst, nin_tup, at_0, at_1, at_2, at_3, Bool.true_eq_false, wE_rev, wS_seti, set_lst, eq_non_str, ne_non_str, ne_str_non, eq_non, ne_non, wE_dic0, wE_dic1, wE_dicL, wE_compI, wE_lrng, wE_rep, rep_str, wE_lix, dic_dic, key_str, key_int, in_dicS, nin_dicS, ix_dicS, set_dicS, min_lst, max_lst, max_int, sl_E, ix_E0, ix_E1, ix_E2, bT_E, isN_E, isN_dO, isN_str, isN_tup, isN_lst, isN_int, isN_non, eq_dO, ne_dO, eq_self, decide_true, decide_false, Bool.not_true, Bool.not_false, not_true_eq_false, not_false_eq_true]
      have p6 : ((10 : Int) ^ (Int.toNat 6)) = 1000000 := by decide +kernel
      refine ⟨⟨by decide, by decide⟩, ?_⟩
      rw [p6]
      refine (passes_until_ok (hU _ (by decide)) (by decide) (by omega) lsU_ok.vl (by decide) (by decide) (by decide)).mono ?_
      rintro x s2 ⟨rfl, r, rfl, P⟩
      have al : ∀ t, (crs lsU [97] t).length = 1 + t := fun t => by
        have := far_len farU endU (w := [97]) (n := t) fun j _ => u_never j
        rw [this, Nat.one_mul]; rfl
      have := P.is (t := 999999) (by rw [al]; decide) fun j hj => by rw [al]; omega
      subst this
      simp only [dPu, wE_c, wE_v, wE_vo, wE_bin, wE_neg, wE_not, wE_cmp, wE_chain, wE_and, wE_or, wE_ite, wE_call, wE_b1, wE_b2, wE_isi, wE_m0, wE_m1, wE_idx, wE_sl, wE_ss, ss_lst, mul_str, isn_bl, notn_bl, wE_tup, wE_lst, wE_cel, wE_comp, wEs_nil, wEs_cons, wEo_no, wEo_so, wC_no, wC_so, wI_e, wI_rng, wI_enum, wI_zip, wI_map, wSs_nil, wSs_cons, wS_set, wS_seto, wS_unp, wS_par, wS_app, wS_setc, wS_drop, wS_ret, wS_reto, wS_retN, wS_pass, wS_brk, wS_cont, wS_fail, wS_ite, wS_for, wR_nil, wR_cons, seqQ_nx, seqQ_ret, seqQ_brk, seqQ_cont, outQ_nx, outQ_ret, outQ_brk, outQ_cont, d_sh, d_fr, d_vw, vw_sh, vw_fr, vw_vw, add_int, add_str, add_tup, add_lst, sub_int, mul_int, fdiv_int, mod_int, eq_str, ne_str, eq_int, ne_int, eq_bl, ne_bl, eq_sn, lt_int, le_int, gt_int, ge_int, isn_any, notn_any, in_sign, nin_sign, len_str, len_tup, len_lst, len_scr, all_map, any_map, list_tup, list_lst, list_str, tuple_lst, tuple_tup, int_int, abs_int, min_int, own_sh, own_fr, bool_sh, int_sh, ends_str, starts_str, lower_str, upper_str, sl_lst, sl_tup, sl_str, ix_lst, ix_tup, ix_scr, ix_str, ix_cell, at_zero, at_succ, set_zero, set_succ, startE_zero, startE_cons, Op_some, Op_none, bT_nm, bT_tup, bT_nil, bT_cons, pS_nil, pS_fr, pS_sh, wipe_nil, wipe_cons, it_lst, it_tup, it_str, rng_one, rng_two, zip_tup, zip_lst, fr_fr, sh_sh, lst_lst, cel_cel, in_in, List.replicate_succ, List.replicate_zero, decide_eq_true_iff, true_and, and_true, ite_true, ite_false, if_true, if_false, Bool.false_eq_true, Bool.not_eq_true', List.length_cons, List.length_nil, isi_str, isi_tup, isi_lst, isi_int, isi_non, isi_bl, eq_tup, ne_tup, eq_lst, ne_lst, lt_tup, in_lst, nin_lst, nin_tup, at_0, at_1, at_2, at_3, Bool.true_eq_false, wE_rev, wS_seti, set_lst, eq_non_str, ne_non_str, ne_str_non, eq_non, ne_non, wE_dic0, wE_dic1, wE_dicL, wE_compI, wE_lrng, wE_rep, rep_str, wE_lix, dic_dic, key_str, key_int, in_dicS, nin_dicS, ix_dicS, set_dicS, min_lst, max_lst, max_int, sl_E, ix_E0, ix_E1, ix_E2, bT_E, isN_E, isN_dO, isN_str, isN_tup, isN_lst, isN_int, isN_non, eq_dO, ne_dO, eq_self, decide_true, decide_false, Bool.not_true, Bool.not_false, not_true_eq_false, not_false_eq_true]
      rw [if_neg (by decide)]
      refine (passes_until_ok (hT _ (by decide)) (by decide) (by omega) lsT_ok.vl (by decide) (by decide) (by decide)).mono ?_
      rintro x s2 ⟨rfl, r, rfl, P⟩
      have := P.is (t := 8) (by decide +kernel) (by decide +kernel)
      subst this
      simp only [dPu, wE_c, wE_v, wE_vo, wE_bin, wE_neg, wE_not, wE_cmp, wE_chain, wE_and, wE_or, wE_ite, wE_call, wE_b1, wE_b2, wE_isi, wE_m0, wE_m1, wE_idx, wE_sl, wE_ss, ss_lst, mul_str, isn_bl, notn_bl, wE_tup, wE_lst, wE_cel, wE_comp, wEs_nil, wEs_cons, wEo_no, wEo_so, wC_no, wC_so, wI_e, wI_rng, wI_enum, wI_zip, wI_map, wSs_nil, wSs_cons, wS_set, wS_seto, wS_unp, wS_par, wS_app, wS_setc, wS_drop, wS_ret, wS_reto, wS_retN, wS_pass, wS_brk, wS_cont, wS_fail, wS_ite, wS_for, wR_nil, wR_cons, seqQ_nx, seqQ_ret, seqQ_brk, seqQ_cont, outQ_nx, outQ_ret, outQ_brk, outQ_cont, d_sh, d_fr, d_vw, vw_sh, vw_fr, vw_vw, add_int, add_str, add_tup, add_lst, sub_int, mul_int, fdiv_int, mod_int, eq_str, ne_str, eq_int, ne_int, eq_bl, ne_bl, eq_sn, lt_int, le_int, gt_int, ge_int, isn_any, notn_any, in_sign, nin_sign, len_str, len_tup, len_lst, len_scr, all_map, any_map, list_tup, list_lst, list_str, tuple_lst, tuple_tup, int_int, abs_int, min_int, own_sh, own_fr, bool_sh, int_sh, ends_str, starts_str, lower_str, upper_str, sl_lst, sl_tup, sl_str, ix_lst, ix_tup, ix_scr, ix_str, ix_cell, at_zero, at_succ, set_zero, set_succ, startE_zero, startE_cons, Op_some, Op_none, bT_nm, bT_tup, bT_nil, bT_cons, pS_nil, pS_fr, pS_sh, wipe_nil, wipe_cons, it_lst, it_tup, it_str, rng_one, rng_two, zip_tup, zip_lst, fr_fr, sh_sh, lst_lst, cel_cel, in_in, List.replicate_succ, List.replicate_zero, decide_eq_true_iff, true_and, and_true, ite_true, ite_false, if_true, if_false, Bool.false_eq_true, Bool.not_eq_true', List.length_cons, List.length_nil, isi_str, isi_tup, isi_lst, isi_int, isi_non, isi_bl, eq_tup, ne_tup, eq_lst, ne_lst, lt_tup, in_lst, nin_lst, nin_tup, at_0, at_1, at_2, at_3, Bool.true_eq_false, wE_rev, wS_seti, set_lst, eq_non_str, ne_non_str, ne_str_non, eq_non, ne_non, wE_dic0, wE_dic1, wE_dicL, wE_compI, wE_lrng, wE_rep, rep_str, wE_lix, dic_dic, key_str, key_int, in_dicS, nin_dicS, ix_dicS, set_dicS, min_lst, max_lst, max_int, sl_E, ix_E0, ix_E1, ix_E2, bT_E, isN_E, isN_dO, isN_str, isN_tup, isN_lst, isN_int, isN_non, eq_dO, ne_dO, eq_self, decide_true, decide_false, Bool.not_true, Bool.not_false, not_true_eq_false, not_false_eq_true]
      rw [if_pos (by decide)]
      refine (passes_until_ok (hO _ (by decide)) (by decide) (by omega) lsO_ok.vl (by decide) (by decide) (by decide)).mono ?_
      rintro x s2 ⟨rfl, r, rfl, P⟩
      have fy : mendT lsO (crs lsO [101, 101, 97] 1) = crs lsO [101, 101, 97] 1 := by decide +kernel
      have := P.is_none fun t => by
        by_cases q : t < 1
        · rw [show t = 0 by omega]; decide +kernel
        · rw [crs_fix fy t (by omega)]; decide +kernel
      subst this
      simp only [dPu, wE_c, wE_v, wE_vo, wE_bin, wE_neg, wE_not, wE_cmp, wE_chain, wE_and, wE_or, wE_ite, wE_call, wE_b1, wE_b2, wE_isi, wE_m0, wE_m1, wE_idx, wE_sl, wE_ss, ss_lst, mul_str, isn_bl, notn_bl, wE_tup, wE_lst, wE_cel, wE_comp, wEs_nil, wEs_cons, wEo_no, wEo_so, wC_no, wC_so, wI_e, wI_rng, wI_enum, wI_zip, wI_map, wSs_nil, wSs_cons, wS_set, wS_seto, wS_unp, wS_par, wS_app, wS_setc, wS_drop, wS_ret, wS_reto, wS_retN, wS_pass, wS_brk, wS_cont, wS_fail, wS_ite, wS_for, wR_nil, wR_cons, seqQ_nx, seqQ_ret, seqQ_brk, seqQ_cont, outQ_nx, outQ_ret, outQ_brk, outQ_cont, d_sh, d_fr, d_vw, vw_sh, vw_fr, vw_vw, add_int, add_str, add_tup, add_lst, sub_int, mul_int, fdiv_int, mod_int, eq_str, ne_str, eq_int, ne_int, eq_bl, ne_bl, eq_sn, lt_int, le_int, gt_int, ge_int, isn_any, notn_any, in_sign, nin_sign, len_str, len_tup, len_lst, len_scr, all_map, any_map, list_tup, list_lst, list_str, tuple_lst, tuple_tup, int_int, abs_int, min_int, own_sh, own_fr, bool_sh, int_sh, ends_str, starts_str, lower_str, upper_str, sl_lst, sl_tup, sl_str, ix_lst, ix_tup, ix_scr, ix_str, ix_cell, at_zero, at_succ, set_zero, set_succ, startE_zero, startE_cons, Op_some, Op_none, bT_nm, bT_tup, bT_nil, bT_cons, pS_nil, pS_fr, pS_sh, wipe_nil, wipe_cons, it_lst, it_tup, it_str, rng_one, rng_two, zip_tup, zip_lst, fr_fr, sh_sh, lst_lst, cel_cel, in_in, List.replicate_succ, List.replicate_zero, decide_eq_true_iff, true_and, and_true, ite_true, ite_false, if_true, if_false, Bool.false_eq_true, Bool.not_eq_true', List.length_cons, List.length_nil, isi_str, isi_tup, isi_lst, isi_int, isi_non, isi_bl, eq_tup, ne_tup, eq_lst, ne_lst, lt_tup, in_lst, nin_lst, nin_tup, at_0, at_1, at_2, at_3, Bool.true_eq_false, wE_rev, wS_seti, set_lst, eq_non_str, ne_non_str, ne_str_non, eq_non, ne_non, wE_dic0, wE_dic1, wE_dicL, wE_compI, wE_lrng, wE_rep, rep_str, wE_lix, dic_dic, key_str, key_int, in_dicS, nin_dicS, ix_dicS, set_dicS, min_lst, max_lst, max_int, sl_E, ix_E0, ix_E1, ix_E2, bT_E, isN_E, isN_dO, isN_str, isN_tup, isN_lst, isN_int, isN_non, eq_dO, ne_dO, eq_self, decide_true, decide_false, Bool.not_true, Bool.not_false, not_true_eq_false, not_false_eq_true]
      refine (passes_until_ok (hT _ (by decide)) (by decide) (by omega) lsT_ok.vl (by decide) (by decide) (by decide)).mono ?_
      rintro x s2 ⟨rfl, r, rfl, P⟩
      have := P.is (t := 0) (by decide +kernel) (fun j hj => absurd hj (Nat.not_lt_zero j))
      subst this
      simp only [dPu, wE_c, wE_v, wE_vo, wE_bin, wE_neg, wE_not, wE_cmp, wE_chain, wE_and, wE_or, wE_ite, wE_call, wE_b1, wE_b2, wE_isi, wE_m0, wE_m1, wE_idx, wE_sl, wE_ss, ss_lst, mul_str, isn_bl, notn_bl, wE_tup, wE_lst, wE_cel, wE_comp, wEs_nil, wEs_cons, wEo_no, wEo_so, wC_no, wC_so, wI_e, wI_rng, wI_enum, wI_zip, wI_map, wSs_nil, wSs_cons, wS_set, wS_seto, wS_unp, wS_par, wS_app, wS_setc, wS_drop, wS_ret, wS_reto, wS_retN, wS_pass, wS_brk, wS_cont, wS_fail, wS_ite, wS_for, wR_nil, wR_cons, seqQ_nx, seqQ_ret, seqQ_brk, seqQ_cont, outQ_nx, outQ_ret, outQ_brk, outQ_cont, d_sh, d_fr, d_vw, vw_sh, vw_fr, vw_vw, add_int, add_str, add_tup, add_lst, sub_int, mul_int, fdiv_int, mod_int, eq_str, ne_str, eq_int, ne_int, eq_bl, ne_bl, eq_sn, lt_int, le_int, gt_int, ge_int, isn_any, notn_any, in_sign, nin_sign, len_str, len_tup, len_lst, len_scr, all_map, any_map, list_tup, list_lst, list_str, tuple_lst, tuple_tup, int_int, abs_int, min_int, own_sh, own_fr, bool_sh, int_sh, ends_str, starts_str, lower_str, upper_str, sl_lst, sl_tup, sl_str, ix_lst, ix_tup, ix_scr, ix_str, ix_cell, at_zero, at_succ, set_zero, set_succ, startE_zero, startE_cons, Op_some, Op_none, bT_nm, bT_tup, bT_nil, bT_cons, pS_nil, pS_fr, pS_sh, wipe_nil, wipe_cons, it_lst, it_tup, it_str, rng_one, rng_two, zip_tup, zip_lst, fr_fr, sh_sh, lst_lst, cel_cel, in_in, List.replicate_succ, List.replicate_zero, decide_eq_true_iff, true_and, and_true, ite_true, ite_false, if_true, if_false, Bool.false_eq_true, Bool.not_eq_true', List.length_cons, List.length_nil, isi_str, isi_tup, isi_lst, isi_int, isi_non, isi_bl, eq_tup, ne_tup, eq_lst, ne_lst, lt_tup, in_lst, nin_lst, nin_tup, at_0, at_1, at_2, at_3, Bool.true_eq_false, wE_rev, wS_seti, set_lst, eq_non_str, ne_non_str, ne_str_non, eq_non, ne_non, wE_dic0, wE_dic1, wE_dicL, wE_compI, wE_lrng, wE_rep, rep_str, wE_lix, dic_dic, key_str, key_int, in_dicS, nin_dicS, ix_dicS, set_dicS, min_lst, max_lst, max_int, sl_E, ix_E0, ix_E1, ix_E2, bT_E, isN_E, isN_dO, isN_str, isN_tup, isN_lst, isN_int, isN_non, eq_dO, ne_dO, eq_self, decide_true, decide_false, Bool.not_true, Bool.not_false, not_true_eq_false, not_false_eq_true]
      rfl
  obtain ⟨r, s, e, rfl⟩ := this
  exact ⟨s, e⟩
end MWL
set_option Elab.async false
set_option linter.all false
set_option maxRecDepth 100000
set_option maxHeartbeats 0
namespace MWL
open PySem PySem.Spec PyProof.Rows L2 MW
def top (i : Nat) : Stmt := PySem.Challenge.pw_mendlists_k40_whole_courses_of_ends_alon.main.body.getD i (.Pass ⟨0, 0, 0, 0⟩)
def x52 : Dx := ⟨52, "is_between", top 12, ["value", "low", "high"], ["value", "low", "high"], [], false, d52⟩
def x0 : Dx := ⟨0, "is_letters", top 13, ["value", "most"], ["value", "most", "letter"], [], false, d0⟩
def x1 : Dx := ⟨1, "is_entry", top 14, ["value"], ["value", "kind", "old", "new"], [], false, d1⟩
def x2 : Dx := ⟨2, "is_list", top 15, ["value"], ["value", "one", "other", "entry"], [], false, d2⟩
def x15 : Dx := ⟨15, "need_list", top 16, ["lists"], ["lists"], [], false, d15⟩
def x16 : Dx := ⟨16, "need_word", top 17, ["word"], ["word"], [], false, d16⟩
def x18 : Dx := ⟨18, "acting", top 18, ["lists", "word"], ["lists", "word", "best", "index", "kind", "old", "new"], [], false, d18⟩
def x19 : Dx := ⟨19, "mended", top 19, ["lists", "word"], ["lists", "word", "index", "kind", "old", "new"], [], false, d19⟩
def x150 : Dx := ⟨150, "course_of", top 24, ["lists", "word"], ["lists", "word", "found", "known", "least", "place", "size"], [2, 3], false, d150⟩
def x151 : Dx := ⟨151, "need_both", top 25, ["lists", "word"], ["lists", "word"], [], false, d151⟩
def x152 : Dx := ⟨152, "length_after", top 26, ["lists", "word", "times"], ["lists", "word", "times", "period", "found", "begin", "more", "rounds", "rest"], [], false, d152⟩
def x155 : Dx := ⟨155, "passes_until", top 27, ["lists", "word", "size"], ["lists", "word", "size", "place", "found", "begin", "more", "times", "one", "period", "some", "rounds"], [10], false, d155⟩
def x156 : Dx := ⟨156, "comes_again", top 28, ["lists", "word"], ["lists", "word", "found", "begin", "more"], [], false, d156⟩
def x61 : Dx := ⟨61, "rest_of", top 30, ["lists", "word"], ["lists", "word", "passes", "short", "tops", "new", "top", "size"], [3, 4], false, d61⟩
def x62 : Dx := ⟨62, "rest", top 31, ["lists", "word"], ["lists", "word"], [], false, d62⟩
def x4 : Dx := ⟨4, "_law_source", top 33, ["script", "index"], ["script", "index", "cell"], [], true, d4⟩
def x5 : Dx := ⟨5, "_law_draw", top 34, ["source", "size"], ["source", "size", "drawn"], [], false, d5⟩
def x6 : Dx := ⟨6, "_law_choice", top 35, ["source", "items"], ["source", "items"], [], false, d6⟩
def x7 : Dx := ⟨7, "_law_letters", top 36, ["source", "least", "most"], ["source", "least", "most", "many", "place_so"], [], false, d7⟩
def x170 : Dx := ⟨170, "law", top 37, ["script"], ["script", "k", "one", "two", "source", "turn", "entry_so", "size", "far", "some", "old", "new", "lists", "word", "times", "done"], [9], false, d170⟩
def ml : Ml := ⟨[x52, x0, x1, x2, x15, x16, x18, x19, x150, x151, x152, x155, x156, x61, x62, x4, x5, x6, x7, x170], ["len", "all", "tuple", "sorted", "int", "abs", "min", "isinstance", "bool", "str", "range", "enumerate", "zip", "dict"], [("MOST_WORD", 12), ("MOST_OLD", 4), ("MOST_END", 3), ("MOST_NEW", 4), ("MOST_ENTRIES", 6), ("MOST_TIMES", 1000000000000000000), ("LOOKED", 3), ("SHORT", 4)], [("LETTERS", "abcde")]⟩
theorem ok52 : GD x52.id = some x52.df ∧ DxOk ml.md x52 ∧ BdOk x52 := ⟨rfl, ⟨⟨60, by kernel_rfl⟩, ⟨rfl, rfl, rfl, by decide +kernel, rfl, by decide +kernel, by decide +kernel⟩, rfl, rfl, by decide⟩, fun _ _ _ _ _ _ us hl => match us, hl with | [_, _, _], _ => rfl⟩
theorem ok0 : GD x0.id = some x0.df ∧ DxOk ml.md x0 ∧ BdOk x0 := ⟨rfl, ⟨⟨60, by kernel_rfl⟩, ⟨rfl, rfl, rfl, by decide +kernel, rfl, by decide +kernel, by decide +kernel⟩, rfl, rfl, by decide⟩, fun _ _ _ _ _ _ us hl => match us, hl with | [_, _], _ => rfl⟩
theorem ok1 : GD x1.id = some x1.df ∧ DxOk ml.md x1 ∧ BdOk x1 := ⟨rfl, ⟨⟨60, by kernel_rfl⟩, ⟨rfl, rfl, rfl, by decide +kernel, rfl, by decide +kernel, by decide +kernel⟩, rfl, rfl, by decide⟩, fun _ _ _ _ _ _ us hl => match us, hl with | [_], _ => rfl⟩
theorem ok2 : GD x2.id = some x2.df ∧ DxOk ml.md x2 ∧ BdOk x2 := ⟨rfl, ⟨⟨60, by kernel_rfl⟩, ⟨rfl, rfl, rfl, by decide +kernel, rfl, by decide +kernel, by decide +kernel⟩, rfl, rfl, by decide⟩, fun _ _ _ _ _ _ us hl => match us, hl with | [_], _ => rfl⟩
theorem ok15 : GD x15.id = some x15.df ∧ DxOk ml.md x15 ∧ BdOk x15 := ⟨rfl, ⟨⟨60, by kernel_rfl⟩, ⟨rfl, rfl, rfl, by decide +kernel, rfl, by decide +kernel, by decide +kernel⟩, rfl, rfl, by decide⟩, fun _ _ _ _ _ _ us hl => match us, hl with | [_], _ => rfl⟩
theorem ok16 : GD x16.id = some x16.df ∧ DxOk ml.md x16 ∧ BdOk x16 := ⟨rfl, ⟨⟨60, by kernel_rfl⟩, ⟨rfl, rfl, rfl, by decide +kernel, rfl, by decide +kernel, by decide +kernel⟩, rfl, rfl, by decide⟩, fun _ _ _ _ _ _ us hl => match us, hl with | [_], _ => rfl⟩
theorem ok18 : GD x18.id = some x18.df ∧ DxOk ml.md x18 ∧ BdOk x18 := ⟨rfl, ⟨⟨60, by kernel_rfl⟩, ⟨rfl, rfl, rfl, by decide +kernel, rfl, by decide +kernel, by decide +kernel⟩, rfl, rfl, by decide⟩, fun _ _ _ _ _ _ us hl => match us, hl with | [_, _], _ => rfl⟩
theorem ok19 : GD x19.id = some x19.df ∧ DxOk ml.md x19 ∧ BdOk x19 := ⟨rfl, ⟨⟨60, by kernel_rfl⟩, ⟨rfl, rfl, rfl, by decide +kernel, rfl, by decide +kernel, by decide +kernel⟩, rfl, rfl, by decide⟩, fun _ _ _ _ _ _ us hl => match us, hl with | [_, _], _ => rfl⟩
theorem ok150 : GD x150.id = some x150.df ∧ DxOk ml.md x150 ∧ BdOk x150 := ⟨rfl, ⟨⟨60, by kernel_rfl⟩, ⟨rfl, rfl, rfl, by decide +kernel, rfl, by decide +kernel, by decide +kernel⟩, rfl, rfl, by decide⟩, fun _ _ _ _ _ _ us hl => match us, hl with | [_, _], _ => rfl⟩
theorem ok151 : GD x151.id = some x151.df ∧ DxOk ml.md x151 ∧ BdOk x151 := ⟨rfl, ⟨⟨60, by kernel_rfl⟩, ⟨rfl, rfl, rfl, by decide +kernel, rfl, by decide +kernel, by decide +kernel⟩, rfl, rfl, by decide⟩, fun _ _ _ _ _ _ us hl => match us, hl with | [_, _], _ => rfl⟩
theorem ok152 : GD x152.id = some x152.df ∧ DxOk ml.md x152 ∧ BdOk x152 := ⟨rfl, ⟨⟨60, by kernel_rfl⟩, ⟨rfl, rfl, rfl, by decide +kernel, rfl, by decide +kernel, by decide +kernel⟩, rfl, rfl, by decide⟩, fun _ _ _ _ _ _ us hl => match us, hl with | [_, _, _], _ => rfl⟩
theorem ok155 : GD x155.id = some x155.df ∧ DxOk ml.md x155 ∧ BdOk x155 := ⟨rfl, ⟨⟨60, by kernel_rfl⟩, ⟨rfl, rfl, rfl, by decide +kernel, rfl, by decide +kernel, by decide +kernel⟩, rfl, rfl, by decide⟩, fun _ _ _ _ _ _ us hl => match us, hl with | [_, _, _], _ => rfl⟩
theorem ok156 : GD x156.id = some x156.df ∧ DxOk ml.md x156 ∧ BdOk x156 := ⟨rfl, ⟨⟨60, by kernel_rfl⟩, ⟨rfl, rfl, rfl, by decide +kernel, rfl, by decide +kernel, by decide +kernel⟩, rfl, rfl, by decide⟩, fun _ _ _ _ _ _ us hl => match us, hl with | [_, _], _ => rfl⟩
theorem ok61 : GD x61.id = some x61.df ∧ DxOk ml.md x61 ∧ BdOk x61 := ⟨rfl, ⟨⟨60, by kernel_rfl⟩, ⟨rfl, rfl, rfl, by decide +kernel, rfl, by decide +kernel, by decide +kernel⟩, rfl, rfl, by decide⟩, fun _ _ _ _ _ _ us hl => match us, hl with | [_, _], _ => rfl⟩
theorem ok62 : GD x62.id = some x62.df ∧ DxOk ml.md x62 ∧ BdOk x62 := ⟨rfl, ⟨⟨60, by kernel_rfl⟩, ⟨rfl, rfl, rfl, by decide +kernel, rfl, by decide +kernel, by decide +kernel⟩, rfl, rfl, by decide⟩, fun _ _ _ _ _ _ us hl => match us, hl with | [_, _], _ => rfl⟩
theorem ok4 : GD x4.id = some x4.df ∧ DxOk ml.md x4 ∧ BdOk x4 := ⟨rfl, ⟨⟨60, by kernel_rfl⟩, ⟨rfl, rfl, rfl, by decide +kernel, rfl, by decide +kernel, by decide +kernel⟩, rfl, rfl, by decide⟩, fun _ _ _ _ _ _ us hl => match us, hl with | [_, _], _ => rfl⟩
theorem ok5 : GD x5.id = some x5.df ∧ DxOk ml.md x5 ∧ BdOk x5 := ⟨rfl, ⟨⟨60, by kernel_rfl⟩, ⟨rfl, rfl, rfl, by decide +kernel, rfl, by decide +kernel, by decide +kernel⟩, rfl, rfl, by decide⟩, fun _ _ _ _ _ _ us hl => match us, hl with | [_, _], _ => rfl⟩
theorem ok6 : GD x6.id = some x6.df ∧ DxOk ml.md x6 ∧ BdOk x6 := ⟨rfl, ⟨⟨60, by kernel_rfl⟩, ⟨rfl, rfl, rfl, by decide +kernel, rfl, by decide +kernel, by decide +kernel⟩, rfl, rfl, by decide⟩, fun _ _ _ _ _ _ us hl => match us, hl with | [_, _], _ => rfl⟩
theorem ok7 : GD x7.id = some x7.df ∧ DxOk ml.md x7 ∧ BdOk x7 := ⟨rfl, ⟨⟨60, by kernel_rfl⟩, ⟨rfl, rfl, rfl, by decide +kernel, rfl, by decide +kernel, by decide +kernel⟩, rfl, rfl, by decide⟩, fun _ _ _ _ _ _ us hl => match us, hl with | [_, _, _], _ => rfl⟩
theorem ok170 : GD x170.id = some x170.df ∧ DxOk ml.md x170 ∧ BdOk x170 := ⟨rfl, ⟨⟨60, by kernel_rfl⟩, ⟨rfl, rfl, rfl, by decide +kernel, rfl, by decide +kernel, by decide +kernel⟩, rfl, rfl, by decide⟩, fun _ _ _ _ _ _ us hl => match us, hl with | [_], _ => rfl⟩
theorem mlOk : MlOk GD ml := ⟨List.forall_mem_cons.mpr ⟨ok52, List.forall_mem_cons.mpr ⟨ok0, List.forall_mem_cons.mpr ⟨ok1, List.forall_mem_cons.mpr ⟨ok2, List.forall_mem_cons.mpr ⟨ok15, List.forall_mem_cons.mpr ⟨ok16, List.forall_mem_cons.mpr ⟨ok18, List.forall_mem_cons.mpr ⟨ok19, List.forall_mem_cons.mpr ⟨ok150, List.forall_mem_cons.mpr ⟨ok151, List.forall_mem_cons.mpr ⟨ok152, List.forall_mem_cons.mpr ⟨ok155, List.forall_mem_cons.mpr ⟨ok156, List.forall_mem_cons.mpr ⟨ok61, List.forall_mem_cons.mpr ⟨ok62, List.forall_mem_cons.mpr ⟨ok4, List.forall_mem_cons.mpr ⟨ok5, List.forall_mem_cons.mpr ⟨ok6, List.forall_mem_cons.mpr ⟨ok7, List.forall_mem_cons.mpr ⟨ok170, List.forall_mem_nil _⟩⟩⟩⟩⟩⟩⟩⟩⟩⟩⟩⟩⟩⟩⟩⟩⟩⟩⟩⟩⟩
theorem law_mem : x170 ∈ ml.ds := List.mem_of_getElem? (i := 19) rfl
abbrev fa : List He.Fa := [.glo "is_between", .glo "is_letters", .glo "is_entry", .glo "is_list", .glo "need_list", .glo "need_word", .glo "acting", .glo "mended", .glo "course_of", .glo "need_both", .glo "length_after", .glo "passes_until", .glo "comes_again", .glo "rest_of", .glo "rest", .glo "_law_source", .glo "_law_draw", .glo "_law_choice", .glo "_law_letters", .glo "law", .free "len", .free "all", .free "tuple", .free "sorted", .free "int", .free "abs", .free "min", .free "isinstance", .free "bool", .free "str", .free "range", .free "enumerate", .free "zip", .free "dict", .int "MOST_WORD" 12, .int "MOST_OLD" 4, .int "MOST_END" 3, .int "MOST_NEW" 4, .int "MOST_ENTRIES" 6, .int "MOST_TIMES" 1000000000000000000, .int "LOOKED" 3, .int "SHORT" 4, .str "LETTERS" "abcde"]
abbrev hk : PySem.W.Hook := He.hookD 4 ml.fa ml.fn
abbrev R : PySem.W.OpenRow := PySem.W.OpenLaw.row PySem.Challenge.rw_mendlists_k40_whole_courses_of_ends_alon
def ob (s : PySem.W.SharedT) : He.AlD := He.obsDG 4 ml.fa ml.fn (HandSHeadRun.getT s)
theorem ob_eq (s : PySem.W.SharedT) : ob s = hk.obs s.abs := He.obsDG_eq (HandSHeadRun.getT_eq s)
def loose : List PySem.Str := (["MendError", "InvalidList", "InvalidWord", "InvalidNumber", "LETTERS", "MOST_WORD", "MOST_OLD", "MOST_END", "MOST_NEW", "MOST_ENTRIES", "is_between", "is_letters", "is_entry", "is_list", "need_list", "need_word", "acting", "mended", "MOST_TIMES", "LOOKED", "SHORT", "course_of", "need_both", "length_after", "passes_until", "comes_again", "rest_of", "rest", "_law_source", "_law_draw"] : List PySem.Str) ++ (["_law_choice", "_law_letters"] : List PySem.Str)
theorem run (w : World) : HandSHeadRun.RunEq R (PySem.W.view R.prog [37]) hk ob 4000 loose w := by
  intro os
  kernel_rfl
end MWL
open PySem PySem.W PySem.Calls PyProof.Rows
theorem PySem.Challenge.cw_mendlists_k40_whole_courses_of_ends_alon_holds : PySem.Challenge.rw_mendlists_k40_whole_courses_of_ends_alon.Holds := by
  w_on; o_law
  refine HandSHeadRun.head_any (r := PySem.W.OpenLaw.row PySem.Challenge.rw_mendlists_k40_whole_courses_of_ends_alon) (q := PySem.W.view (PySem.W.OpenLaw.row PySem.Challenge.rw_mendlists_k40_whole_courses_of_ends_alon).prog [37]) (H := MWL.hk) (ob := MWL.ob) (M := 4000) (loose := MWL.loose) (d := HandSHeadRun.topDef (PySem.W.OpenLaw.row PySem.Challenge.rw_mendlists_k40_whole_courses_of_ends_alon).prog 37) (kwd := []) MWL.ob_eq
    (by kernel_rfl) (fun s => by kernel_rfl) MWL.run (by kernel_rfl) (by kernel_rfl) (by kernel_rfl) (by rfl) (by first | assumption | decide +kernel) (by decide +kernel) ⟨rfl, rfl, rfl, rfl, rfl, by decide +kernel⟩ ?hw ?hc
  case hw => w_witness2
  case hc =>
    refine L2.walk_ofE (l := PySem.Challenge.rw_mendlists_k40_whole_courses_of_ends_alon) (n := 63) (k := 12) (x := "script") (CX := L2.CX0) rfl (by decide) (by kernel_rfl) ⟨rfl, by decide, by decide⟩ ?F (fun _ _ _ _ z => z)
    intro w mg fa h Y G hmg0
    obtain ⟨K, KX, c⟩ := Y
    have hmg : mg ("law" : PySem.Str) = some (.ref fa) := by
      have e : (HandSHeadRun.topDef (PySem.W.OpenLaw.row PySem.Challenge.rw_mendlists_k40_whole_courses_of_ends_alon).prog 37).name = ("law" : PySem.Str) := by kernel_rfl
      rw [← e]
      exact hmg0
    obtain ⟨fd, sp, h1, h2, h3⟩ := MW.law_facts (P := (PySem.Challenge.rw_mendlists_k40_whole_courses_of_ends_alon).prog) (w := w) (k := 12) (d := MWL.x170) KX G c MWL.mlOk MWL.law_mem rfl hmg MWL.law_true
    exact ⟨K, fd, sp, KX, h1, h2, h3⟩
